/-
  Walks: what functions of the program compute. Printed by wip/gen/mk2.py.
  Conditions: none.
-/
import Derived.Test.YtdbflnlalkfeeaaGreatDoorNA
set_option maxRecDepth 10000
namespace Go.W
open Go Go.Eng Go.Proofs Go.L41 Go.Br
attribute [local irreducible] AWP RWP TD finQ
abbrev ckN (b : Nat) (svL svS svP : Value) (n : Ns) (U S : List ByteArray) (W : List Int) : List E :=
  [.row b 118 [.sl 8 (n.Bufs.map Bf.cells),.sl 20 (n.Body.map St.cells),.lit svL,.lit svS,.lit svP],.vec svL 9 1 (U.map fun s => [cS s]),.vec svS 9 1 (S.map fun s => [cS s]),.vec svP 3 1 (W.map fun i => [cI i])]
abbrev vP (b : Nat) : V := .c (.lit (.pointer (some ⟨b,0,none⟩)))
theorem wM : aggT Tryz.prog 25 = some 2:= by kernel_rfl
theorem zJd : aggT Tryz.prog 54 = some 20:= by kernel_rfl
theorem wH : elemT Tryz.prog 236 = some (40,5,40):= by kernel_rfl
theorem zCa : fieldT Tryz.prog 25 1 = some (1,23):= by kernel_rfl
theorem zAc : fieldT Tryz.prog 54 0 = some (0,3):= by kernel_rfl
theorem wQ : fieldT Tryz.prog 54 1 = some (1,9):= by kernel_rfl
theorem zIh : fieldT Tryz.prog 54 2 = some (2,3):= by kernel_rfl
theorem zMx : fieldT Tryz.prog 54 3 = some (3,3):= by kernel_rfl
theorem zMw : fieldT Tryz.prog 54 4 = some (4,3):= by kernel_rfl
theorem zBz : fieldT Tryz.prog 54 5 = some (5,44):= by kernel_rfl
theorem zAv : fieldT Tryz.prog 54 6 = some (6,52):= by kernel_rfl
theorem zMc : fieldT Tryz.prog 118 0 = some (0,25):= by kernel_rfl
theorem fd118_1 : fieldT Tryz.prog 118 1 = some (2,72):= by kernel_rfl
theorem zHb : fieldT Tryz.prog 118 2 = some (3,72):= by kernel_rfl
theorem zEz : fieldT Tryz.prog 118 3 = some (4,33):= by kernel_rfl
theorem ok29 : callOk Tryz.prog 29 = true:= by kernel_rfl
theorem ok70 : callOk Tryz.prog 70 = true:= by kernel_rfl
theorem ok71 : callOk Tryz.prog 71 = true:= by kernel_rfl
theorem ok124 : callOk Tryz.prog 124 = true:= by kernel_rfl
theorem ok150 : callOk Tryz.prog 150 = true:= by kernel_rfl
theorem ok161 : callOk Tryz.prog 161 = true:= by kernel_rfl
theorem ok162 : callOk Tryz.prog 162 = true:= by kernel_rfl
theorem ok163 : callOk Tryz.prog 163 = true:= by kernel_rfl
theorem ok165 : callOk Tryz.prog 165 = true:= by kernel_rfl
theorem ok191 : callOk Tryz.prog 191 = true:= by kernel_rfl
theorem ok192 : callOk Tryz.prog 192 = true:= by kernel_rfl
theorem ok193 : callOk Tryz.prog 193 = true:= by kernel_rfl
theorem ok194 : callOk Tryz.prog 194 = true:= by kernel_rfl
theorem ok223 : callOk Tryz.prog 223 = true:= by kernel_rfl
theorem ok224 : callOk Tryz.prog 224 = true:= by kernel_rfl
theorem ok225 : callOk Tryz.prog 225 = true:= by kernel_rfl
theorem ok265 : callOk Tryz.prog 265 = true:= by kernel_rfl
theorem ok266 : callOk Tryz.prog 266 = true:= by kernel_rfl
theorem ok267 : callOk Tryz.prog 267 = true:= by kernel_rfl
theorem zMs : oneT Tryz.prog 116 = true:= by kernel_rfl
theorem pl118 : placesT Tryz.prog 118 = some [(0,2),(2,1),(3,1),(4,1)]:= by kernel_rfl
theorem sz40 : (Tryz.prog.info? 40).map (·.size) = some 5:= by kernel_rfl
theorem sz54 : (Tryz.prog.info? 54).map (·.size) = some 20:= by kernel_rfl
theorem zr54 : zeroT Tryz.prog 54 = some [(Value.int IntKind.i64 0),(Value.string (ByteArray.mk #[])),(Value.int IntKind.i64 0),(Value.int IntKind.i64 0),(Value.int IntKind.i64 0),(Value.slice none 0 0),(Value.int IntKind.i64 0),(Value.string (ByteArray.mk #[])),(Value.int IntKind.i64 0),(Value.int IntKind.i64 0),(Value.int IntKind.i64 0),(Value.int IntKind.i64 0),(Value.int IntKind.i64 0),(Value.int IntKind.i64 0),(Value.int IntKind.i64 0),(Value.int IntKind.i64 0),(Value.slice none 0 0),(Value.slice none 0 0),(Value.slice none 0 0),(Value.slice none 0 0)]:= by kernel_rfl
theorem zr118 : zeroT Tryz.prog 118 = some [(Value.slice none 0 0),(Value.slice none 0 0),(Value.slice none 0 0),(Value.slice none 0 0),(Value.slice none 0 0)]:= by kernel_rfl
theorem zFq (l : List Mono) (c : C) (p : Mono → Bool) (μ : List E) (hl : l.length ≤ 4294967296) (hc : ∀ x,x ∈ l → FnCon cfg c [vMono x] μ fun r μ' => r = vB (p x) ∧ μ' = μ) :
    Con cfg 294 [vMonos l,.c c] μ fun r μ' => r = vI (idxOf p l) ∧ μ' = μ:= by
 refine zV Tryz.func294 rfl Tryz.ntmps294 Tryz.results294 rfl ?_
 intro z hz
 refine sReg rfl<|rMv rfl<|zB<|zK<|sReg rfl<|rMv rfl<|zA rfl (zR rfl el47 rfl)<|rMv rfl<|zB<|zS<|zY ⟨[(8,.c _),(0,.c _),(1,.c _),(7,.c _)],_⟩ (Weak.regs ⟨zE,zE,zE,zE,trivial⟩)<|zBr 1 rfl (Nat) (fun k => [(8,vI k)]) (fun k => μ) (fun k => k ≤ l.length ∧ ((l.take k).any p = false)) (fun k => l.length - k) ⟨0,⟨by omega,rfl⟩,Weak.regs ⟨zE,zE,zE,zE,trivial⟩⟩ ?_
 rintro k ⟨hk,hp⟩
 refine sReg rfl<|zA rfl (qM rfl rfl rfl)<|zB<|zK<|zH rfl (fun c1 => ?_) (fun c1 => ?_)
 ·try simp only [sx] at c1
  obtain ⟨x,hx⟩ := qX l k (by omega)
  refine zJ<|zK<|zS<|sReg rfl<|rMv rfl<|rMv rfl<|zB<|sReg rfl<|rMv rfl<|rMv rfl<|rMv rfl<|zA rfl (zO rfl el47 rfl rfl (by omega) (getm (by assumption)))<|zA rfl (zG rfl zEc rfl qC rfl)<|qA rfl rfl (kT rfl rfl (hc _ (qE hx)) ⟨zE,rfl,trivial⟩) ?_
  rintro _ _ ⟨rfl,rfl⟩
  refine zB<|zH rfl (fun c2 => ?_) (fun c2 => ?_)
  ·try simp only [sx] at c2
   refine sReg rfl<|rMv rfl<|rMv rfl<|zB<|zI<|zQ rfl ?_
   exact ⟨by rw [zNu hx c2 hp],rfl⟩
  ·try simp only [sx] at c2
   refine zJ<|zU rfl<|zA rfl (qB rfl rfl rfl ⟨by omega,by omega⟩)<|rMv rfl<|zB ?_
   refine ⟨k + 1,⟨by omega,zOl hx hp c2⟩,(by omega),Weak.regs ⟨zE,zE,zE,zE,trivial⟩⟩
 ·try simp only [sx] at c1
  refine qN<|sReg rfl<|rMv rfl<|zB<|zI<|zQ rfl ?_
  exact ⟨by rw [zHs (by rw [yO (by omega)] at hp; exact hp)],rfl⟩
theorem zDh (l : List Mono) (c : C) (p : Mono → Bool) (μ : List E) (hl : l.length ≤ 4294967296) (hc : ∀ x,x ∈ l → FnCon cfg c [vMono x] μ fun r μ' => r = vB (p x) ∧ μ' = μ) :
    Con cfg 265 [vMonos l,.c c] μ fun r μ' => r = vB (l.any p) ∧ μ' = μ:= by
 refine zV Tryz.func265 rfl Tryz.ntmps265 Tryz.results265 rfl ?_
 intro z hz
 refine sReg rfl<|rMv rfl<|zB<|sReg rfl<|rMv rfl<|rMv rfl<|qA rfl rfl (wT rfl ok294 (zFq l c p μ hl hc) ⟨zE,rfl,zE,rfl,trivial⟩) ?_
 rintro _ _ ⟨rfl,rfl⟩
 refine zA rfl (kZ rfl rfl rfl)<|rMv rfl<|zB<|zI<|zQ rfl ?_
 exact ⟨by rw [zKi],rfl⟩
theorem zIa (l : List Lf) (c : C) (p : Lf → Bool) (μ : List E) (hl : l.length ≤ 4294967296) (hc : ∀ x,x ∈ l → FnCon cfg c [vLin x] μ fun r μ' => r = vB (p x) ∧ μ' = μ) :
    Con cfg 267 [vLins l,.c c] μ fun r μ' => r = vI (idxOf p l) ∧ μ' = μ:= by
 refine zV Tryz.func267 rfl Tryz.ntmps267 Tryz.results267 rfl ?_
 intro z hz
 refine sReg rfl<|rMv rfl<|zB<|zK<|sReg rfl<|rMv rfl<|zA rfl (zR rfl wE rfl)<|rMv rfl<|zB<|zS<|zY ⟨[(8,.c _),(0,.c _),(1,.c _),(7,.c _)],_⟩ (Weak.regs ⟨zE,zE,zE,zE,trivial⟩)<|zBr 1 rfl (Nat) (fun k => [(8,vI k)]) (fun k => μ) (fun k => k ≤ l.length ∧ ((l.take k).any p = false)) (fun k => l.length - k) ⟨0,⟨by omega,rfl⟩,Weak.regs ⟨zE,zE,zE,zE,trivial⟩⟩ ?_
 rintro k ⟨hk,hp⟩
 refine sReg rfl<|zA rfl (qM rfl rfl rfl)<|zB<|zK<|zH rfl (fun c1 => ?_) (fun c1 => ?_)
 ·try simp only [sx] at c1
  obtain ⟨x,hx⟩ := qX l k (by omega)
  refine zJ<|zK<|zS<|sReg rfl<|rMv rfl<|rMv rfl<|zB<|sReg rfl<|rMv rfl<|rMv rfl<|rMv rfl<|zA rfl (zO rfl wE rfl rfl (by omega) (getm (by assumption)))<|zA rfl (zG rfl kG rfl qC rfl)<|qA rfl rfl (kT rfl rfl (hc _ (qE hx)) ⟨zE,rfl,trivial⟩) ?_
  rintro _ _ ⟨rfl,rfl⟩
  refine zB<|zH rfl (fun c2 => ?_) (fun c2 => ?_)
  ·try simp only [sx] at c2
   refine sReg rfl<|rMv rfl<|rMv rfl<|zB<|zI<|zQ rfl ?_
   exact ⟨by rw [zNu hx c2 hp],rfl⟩
  ·try simp only [sx] at c2
   refine zJ<|zU rfl<|zA rfl (qB rfl rfl rfl ⟨by omega,by omega⟩)<|rMv rfl<|zB ?_
   refine ⟨k + 1,⟨by omega,zOl hx hp c2⟩,(by omega),Weak.regs ⟨zE,zE,zE,zE,trivial⟩⟩
 ·try simp only [sx] at c1
  refine qN<|sReg rfl<|rMv rfl<|zB<|zI<|zQ rfl ?_
  exact ⟨by rw [zHs (by rw [yO (by omega)] at hp; exact hp)],rfl⟩
theorem zEj (l : List Lf) (c : C) (p : Lf → Bool) (μ : List E) (hl : l.length ≤ 4294967296) (hc : ∀ x,x ∈ l → FnCon cfg c [vLin x] μ fun r μ' => r = vB (p x) ∧ μ' = μ) :
    Con cfg 224 [vLins l,.c c] μ fun r μ' => r = vB (l.any p) ∧ μ' = μ:= by
 refine zV Tryz.func224 rfl Tryz.ntmps224 Tryz.results224 rfl ?_
 intro z hz
 refine sReg rfl<|rMv rfl<|zB<|sReg rfl<|rMv rfl<|rMv rfl<|qA rfl rfl (wT rfl ok267 (zIa l c p μ hl hc) ⟨zE,rfl,zE,rfl,trivial⟩) ?_
 rintro _ _ ⟨rfl,rfl⟩
 refine zA rfl (kZ rfl rfl rfl)<|rMv rfl<|zB<|zI<|zQ rfl ?_
 exact ⟨by rw [zKi],rfl⟩
theorem inScope_1 (b : Nat) (svL svS svP : Value) (n : Ns) (U S : List ByteArray) (W : List Int) (m : Mono) (hS : S.length ≤ 1000000) :
    Con cfg 266 [vMono m,.c (.iptr [.lit (.pointer (some ⟨b,0,none⟩))])] (ckN b svL svS svP n U S W) fun r μ' => r = vB (!hasB S m.Name) ∧ μ' = ckN b svL svS svP n U S W:= by
 refine zV Tryz.func266 rfl Tryz.ntmps266 Tryz.results266 rfl ?_
 intro z hz
 refine sReg rfl<|qA rfl rfl (qL rfl rfl) ?_
 rintro _ _ ⟨b1,rfl,rfl⟩
 refine rMv rfl<|zB<|zK<|yC 6 mixed (by kernel_rfl) rfl rfl<|zM rfl rfl (zD rfl zMs rfl qC rfl)<|zM rfl rfl (qW rfl rfl)<|zM rfl rfl (zC rfl zHb rfl)<|zM rfl rfl (zD rfl zLo rfl (zF 1 rfl) rfl)<|zM rfl rfl (zC rfl wG rfl)<|zM rfl rfl (zD rfl one9 rfl (zF 0 rfl) rfl)<|kA<|zA rfl (zKq 3 rfl ok156 rfl (zBa S m.Name hS) rfl ⟨.inl ⟨rfl,rfl⟩,.inr ⟨zE,rfl⟩,trivial⟩)<|zA rfl (qT rfl rfl)<|rMv rfl<|zB<|zY _ (Weak.mem [false,true,true,true,true] rfl)<|zI<|zQ rfl ?_
 exact ⟨rfl,rfl⟩
theorem zMi (b : Nat) (svL svS svP : Value) (n : Ns) (U S : List ByteArray) (W : List Int) (l : Lf) (hS : S.length ≤ 1000000) (hl : l.L.length ≤ 4294967296) :
    Con cfg 223 [vP b,vLin l] (ckN b svL svS svP n U S W) fun r μ' => r = vB (inSc S l) ∧ μ' = ckN b svL svS svP n U S W:= by
 refine zV Tryz.func223 rfl Tryz.ntmps223 Tryz.results223 rfl ?_
 intro z hz
 refine sReg rfl<|qA rfl rfl (qL rfl rfl) ?_
 rintro _ _ ⟨b1,rfl,rfl⟩
 refine yK _ (yQ 0 rfl 2 _ PLe.ptr)<|qA rfl rfl (qL rfl rfl) ?_
 rintro _ _ ⟨b2,rfl,rfl⟩
 refine rMv rfl<|zB<|sReg rfl<|zA rfl (zC rfl kO rfl)<|zA rfl (zD rfl wZ rfl (zF 0 rfl) rfl)<|zA rfl (zAj rfl rfl rfl rfl rfl)<|zA rfl (kD [1,1,1,1] rfl ok265 (zDh l.L _ (fun m => !hasB S m.Name) (ckN b svL svS svP n U S W) hl (fun m _ => FnCon.of_con (first := []) (cap := [.iptr [.lit (.pointer (some ⟨b,0,none⟩))]]) ok266 (inScope_1 b svL svS svP n U S W m hS))) ⟨zE,rfl,zE,rfl,trivial⟩ rfl)<|zA rfl (qT rfl rfl)<|rMv rfl<|zB<|zY _ (Weak.mem [false,true,true,true,true] rfl)<|zI<|zQ rfl ?_
 exact ⟨by rw [zGj]; rfl,rfl⟩
theorem node_1 (b : Nat) (svL svS svP : Value) (n : Ns) (U S : List ByteArray) (W : List Int) (l : Lf) (hS : S.length ≤ 1000000) (hl : l.L.length ≤ 4294967296) :
    Con cfg 225 [vLin l,.c (.iptr [.lit (.pointer (some ⟨b,0,none⟩))])] (ckN b svL svS svP n U S W) fun r μ' => r = vB (!inSc S l) ∧ μ' = ckN b svL svS svP n U S W:= by
 refine zV Tryz.func225 rfl Tryz.ntmps225 Tryz.results225 rfl ?_
 intro z hz
 refine sReg rfl<|qA rfl rfl (qL rfl rfl) ?_
 rintro _ _ ⟨b1,rfl,rfl⟩
 refine rMv rfl<|zB<|sReg rfl<|zA rfl (zD rfl zMs rfl qC rfl)<|zA rfl (zG rfl kG rfl (zF 0 rfl) rfl)<|zA rfl (kD [1,1,1,1] rfl ok223 (zMi b svL svS svP n U S W l hS hl) ⟨zE,rfl,zE,rfl,trivial⟩ rfl)<|zA rfl (qT rfl rfl)<|rMv rfl<|zB<|zY _ (Weak.mem [false,true,true,true,true] rfl)<|zI<|zQ rfl ?_
 exact ⟨rfl,rfl⟩
theorem ck_node (b : Nat) (svL svS svP : Value) (n : Ns) (U S : List ByteArray) (W : List Int) (e : Ex) (hn : n.Ok) (hS : S.length ≤ 1000000) (he : e.wt ≤ 1073741824) :
    Con cfg 193 [vP b,vE e] (ckN b svL svS svP n U S W) fun r μ' => r = vI (nodeN n.Bufs S e) ∧ μ' = ckN b svL svS svP n U S W:= by
 refine zV Tryz.func193 rfl Tryz.ntmps193 Tryz.results193 rfl ?_
 intro z hz
 obtain ⟨hL,hI,hA⟩ := e.parts he
 have hwt := Ex.wt_eq e
 refine sReg rfl<|qA rfl rfl (qL rfl rfl) ?_
 rintro _ _ ⟨b1,rfl,rfl⟩
 refine yK _ (yQ 0 rfl 2 _ PLe.ptr)<|qA rfl rfl (qL rfl rfl) ?_
 rintro _ _ ⟨b2,rfl,rfl⟩
 refine rMv rfl<|zB<|sReg rfl<|zA rfl (zD rfl zMs rfl qC rfl)<|zA rfl (zC rfl zCq rfl)<|zA rfl (zG rfl kG rfl (zF 0 rfl) rfl)<|zA rfl (kD [1,1,1,1] rfl ok223 (zMi b svL svS svP n U S W e.Lin hS (by omega)) ⟨zE,rfl,zE,rfl,trivial⟩ rfl)<|rMv rfl<|zB<|zK<|sReg rfl<|zA rfl (zC rfl kE rfl)<|zA rfl (zD rfl kM rfl (zF 0 rfl) rfl)<|zA rfl (zR rfl el44 rfl)<|rMv rfl<|zB<|zS<|zY ⟨[(20,.c _),(5,.c _),(2,.c _),(3,.c _),(18,.c _),(19,.c _)],[_,_,_,_,_]⟩ (Weak.mk [true,true,true,true,true] ⟨zE,zE,zE,zE,zE,zE,trivial⟩ rfl)<|qI 2 0 rfl rfl (Nat) (fun k => [(20,vI k),(5,vB (inSc S e.Lin && (e.Idx.take k).all (ixSc S)))]) (fun k => []) (fun k => k ≤ e.Idx.length) (fun k => e.Idx.length - k) ⟨0,(by omega),Weak.mk [true,true,true,true,true] ⟨zE,VLe.of_eq (congrArg vB (by simp)),zE,zE,zE,zE,trivial⟩ rfl⟩ ?_
 rintro k hk
 refine sReg rfl<|zA rfl (qM rfl rfl rfl)<|zB<|zK<|zH rfl (fun c1 => ?_) (fun c1 => ?_)
 ·try simp only [sx] at c1
  obtain ⟨x,hx⟩ := qX e.Idx k (by omega)
  refine zJ<|zK<|zS<|sReg rfl<|zA rfl (zO rfl el44 rfl rfl (by omega) (getm (by assumption)))<|zA rfl (zG rfl zCv rfl qC rfl)<|qA rfl rfl (qO [none,some 2,none,some 2] rfl zJe rfl) ?_
  rintro _ _ ⟨b3,rfl,rfl⟩
  refine zX rfl rfl (zT rfl sz114 rfl rfl rfl (qH 0 rfl rfl))<|zB<|zU rfl<|rMv rfl<|rMv rfl<|rLz [] rfl gv1 trivial (fun g5_1 => zD rfl zMs rfl qC rfl) rfl<|rLz [] rfl gv1 trivial (fun g5_1 => zC rfl zAd rfl) rfl<|rLz [(27,_)] rfl gv1 ⟨rfl,rfl,trivial⟩ (fun g5_1 => zG rfl kG rfl (zF 0 rfl) rfl) rfl<|rLz [(26,_),(28,_)] rfl gv1 ⟨rfl,rfl,rfl,rfl,trivial⟩ (fun g5_1 => kD [2,2,2,2] rfl ok223 (zMi b svL svS svP n U S W x.Lin hS (by have := Ex.idx_wt (qE hx); omega)) ⟨zE,rfl,zE,rfl,trivial⟩ rfl) rfl<|zA rfl (qK rfl rfl rfl (fun h => h) rfl)<|rMv rfl<|rLz [] rfl gv1 trivial (fun g5_7 => zC rfl kH rfl) rfl<|rLz [(32,_)] rfl gv1 ⟨rfl,rfl,trivial⟩ (fun g5_7 => zD rfl wJ rfl (zF 0 rfl) rfl) rfl<|rLz [] rfl gv1 trivial (fun g5_7 => zAj rfl rfl rfl rfl rfl) rfl<|rLz [(33,_),(34,_)] rfl gv1 ⟨rfl,rfl,rfl,rfl,trivial⟩ (fun g5_7 => kD [2,2,2,2] rfl ok224 (zEj x.At _ (fun l => !inSc S l) (ckN b svL svS svP n U S W) (by have := Ex.idx_wt (qE hx); omega) (fun l hl => FnCon.of_con (first := []) (cap := [.iptr [.lit (.pointer (some ⟨b,0,none⟩))]]) ok225 (node_1 b svL svS svP n U S W l hS (by have := Ex.idx_wt (qE hx); have := zAh hl; omega)))) ⟨zE,rfl,zE,rfl,trivial⟩ rfl) rfl<|rLz [(35,_)] rfl gv1 ⟨rfl,rfl,trivial⟩ (fun g5_7 => qT rfl rfl) rfl<|zA rfl (qK rfl rfl rfl (fun h => h) rfl)<|rMv rfl<|zB<|zU rfl<|zA rfl (qB rfl rfl rfl ⟨by omega,by omega⟩)<|rMv rfl<|zB ?_
  refine ⟨k + 1,(by omega),(by omega),Weak.mk [false,true,true,true,true,true] ⟨zE,VLe.of_eq (congrArg vB (by rw [zGj]; exact scAll_next hx)),zE,zE,zE,zE,trivial⟩ rfl⟩
 ·try simp only [sx] at c1
  rw [yO (l := e.Idx) (k := k) (by omega)]
  refine qN<|zK<|sReg rfl<|rMv rfl<|zA rfl (qT rfl rfl)<|zB<|zH rfl (fun c2 => ?_) (fun c2 => ?_)
  ·have h9 : nodeSc S e = false := (Bool.not_eq_true' _).mp c2
   refine sReg rfl<|rMv rfl<|zB<|zY _ (Weak.mem [false,true,true,true,true] rfl)<|zI<|zQ rfl ?_
   exact ⟨by rw [nodeN_9 h9],rfl⟩
  ·have h9 : nodeSc S e = true := (Bool.not_eq_false' _).mp c2
   refine zJ<|zK<|sReg rfl<|zA rfl (zC rfl kN rfl)<|zA rfl (zD rfl one3 rfl (zF 0 rfl) rfl)<|zA rfl (qR rfl rfl rfl)<|zB<|zH rfl (fun c3 => ?_) (fun c3 => ?_)
   ·try simp only [sx] at c3
    refine sReg rfl<|rMv rfl<|zB<|zY _ (Weak.mem [false,true,true,true,true] rfl)<|zI<|zQ rfl ?_
    exact ⟨by rw [nodeN_o h9 c3],rfl⟩
   ·try simp only [sx] at c3
    refine zJ<|zK<|yZ 12 1 [⟨0,.q []⟩,⟨1,.q []⟩,⟨2,.q []⟩,⟨3,.q [2]⟩,⟨4,.q []⟩,⟨5,.q [1]⟩,⟨6,.q []⟩,⟨7,.q []⟩,⟨8,.q []⟩,⟨9,.q []⟩,⟨10,.e 0 []⟩,⟨11,.e 0 []⟩] mixed (by kernel_rfl) (by kernel_rfl) rfl rfl rfl<|zW rfl<|zW rfl<|zW rfl<|zW rfl<|zW rfl<|zW rfl<|zW rfl<|zW rfl<|zW rfl<|zW rfl<|zW rfl<|zW rfl<|zAl<|qD rfl (by decide) rfl rfl (zD rfl zMs rfl qC rfl)<|qD rfl (by decide) rfl rfl (qW rfl rfl)<|qD rfl (by decide) rfl rfl (zC rfl zMc rfl)<|qD rfl (by decide) rfl rfl (zG rfl wM rfl (zF 0 rfl) rfl)<|qD rfl (by decide) rfl rfl (zC rfl zCs rfl)<|qD rfl (by decide) rfl rfl (zD rfl one9 rfl (zF 0 rfl) rfl)<|qD rfl (by decide) rfl rfl (zP rfl ok29 (wN n e.Name hn) ⟨zE,rfl,zE,rfl,trivial⟩)<|qD rfl (by decide) rfl rfl (qP rfl rfl)<|qD rfl (by decide) rfl rfl (yF rfl rfl rfl)<|qD rfl (by decide) rfl rfl (qU rfl rfl rfl)<|zIp rfl rfl (by decide) rfl rfl (qO [none,none,none,none,none,none,some 1,none] rfl zr42 rfl) ?_
    rintro _ _ ⟨b4,rfl,rfl⟩
    refine ⟨_,rfl,?_⟩
    refine zFy rfl rfl (by decide) rfl rfl (zT rfl sz42 rfl rfl rfl (qH 0 rfl rfl)) ?_
    rintro _ _ ⟨rfl,rfl⟩
    refine ⟨_,rfl,?_⟩
    refine zAk rfl<|rMv rfl<|zB<|zK<|sReg rfl<|rMv rfl<|zA rfl (qT rfl rfl)<|zB<|zH rfl (fun c4 => ?_) (fun c4 => ?_)
    ·try simp only [sx] at c4
     refine sReg rfl<|rMv rfl<|zB<|zY _ (Weak.mem [false,false,true,true,true,true] rfl)<|zI<|zQ rfl ?_
     exact ⟨by rw [nodeN_n h9 (by omega) c4],rfl⟩
    ·try simp only [sx] at c4
     refine zJ<|zK<|sReg rfl<|zA rfl (zC rfl zHa rfl)<|zA rfl (zD rfl zDp rfl (zF 0 rfl) rfl)<|zA rfl (zR rfl el33 rfl)<|zA rfl (zC rfl kE rfl)<|zA rfl (zD rfl kM rfl (zF 1 rfl) rfl)<|zA rfl (zR rfl el44 rfl)<|zA rfl (qR rfl rfl rfl)<|zB<|zH rfl (fun c5 => ?_) (fun c5 => ?_)
     ·try simp only [sx] at c5
      refine sReg rfl<|rMv rfl<|zB<|zY _ (Weak.mem [false,false,true,true,true,true] rfl)<|zI<|zQ rfl ?_
      exact ⟨by rw [nodeN_r h9 (by omega) c4 (by omega)],rfl⟩
     ·try simp only [sx] at c5
      refine zJ<|zK<|sReg rfl<|zA rfl (zC rfl kE rfl)<|zA rfl (zD rfl kM rfl (zF 1 rfl) rfl)<|zA rfl (zR rfl el44 rfl)<|rMv rfl<|zB<|zS<|zY ⟨[(66,.c _),(2,.c _),(64,.c _),(65,.c _)],[_,_,_,_]⟩ (Weak.mk [false,false,true,true,true,true] ⟨zE,zE,zE,zE,trivial⟩ rfl)<|qI 1 0 rfl rfl (Nat) (fun j => [(66,vI j)]) (fun j => []) (fun j => j ≤ e.Idx.length ∧ (gathL n.Bufs e.Idx = gathL n.Bufs (e.Idx.drop j))) (fun j => e.Idx.length - j) ⟨0,⟨by omega,rfl⟩,Weak.mk [true,true,true,true] ⟨zE,zE,zE,zE,trivial⟩ rfl⟩ ?_
      rintro j ⟨hk,hq⟩
      refine sReg rfl<|zA rfl (qM rfl rfl rfl)<|zB<|zK<|zH rfl (fun c6 => ?_) (fun c6 => ?_)
      ·try simp only [sx] at c6
       obtain ⟨y,hy⟩ := qX e.Idx j (by omega)
       refine zJ<|zK<|zS<|sReg rfl<|zA rfl (zO rfl el44 rfl rfl (by omega) (getm (by assumption)))<|zA rfl (zG rfl zCv rfl qC rfl)<|qA rfl rfl (qO [none,some 2,none,some 2] rfl zJe rfl) ?_
       rintro _ _ ⟨b5,rfl,rfl⟩
       refine zX rfl rfl (zT rfl sz114 rfl rfl rfl (qH 0 rfl rfl))<|zB<|zK<|sReg rfl<|zA rfl (zC rfl zAr rfl)<|zA rfl (zD rfl one9 rfl (zF 0 rfl) rfl)<|zA rfl (yP rfl rfl rfl)<|zB<|zH rfl (fun c7 => ?_) (fun c7 => ?_)
       ·try simp only [sx] at c7
        refine qN<|zU rfl<|zA rfl (qB rfl rfl rfl ⟨by omega,by omega⟩)<|rMv rfl<|zB ?_
        refine ⟨j + 1,⟨by omega,hq.trans (zHu hy (by first | exact gathE_0 c7 | exact zNv c7 c8 (by omega) (by omega)))⟩,(by omega),Weak.mk [false,true,true,true,true] ⟨zE,zE,zE,zE,trivial⟩ rfl⟩
       ·try simp only [sx] at c7
        refine zJ<|zK<|yZ 12 1 [⟨0,.q []⟩,⟨1,.q []⟩,⟨2,.q []⟩,⟨3,.q [2]⟩,⟨4,.q []⟩,⟨5,.q [1]⟩,⟨6,.q []⟩,⟨7,.q []⟩,⟨8,.q []⟩,⟨9,.q []⟩,⟨10,.e 0 []⟩,⟨11,.e 0 []⟩] mixed (by kernel_rfl) (by kernel_rfl) rfl rfl rfl<|zW rfl<|zW rfl<|zW rfl<|zW rfl<|zW rfl<|zW rfl<|zW rfl<|zW rfl<|zW rfl<|zW rfl<|zW rfl<|zW rfl<|zAl<|qD rfl (by decide) rfl rfl (zD rfl zMs rfl qC rfl)<|qD rfl (by decide) rfl rfl (qW rfl rfl)<|qD rfl (by decide) rfl rfl (zC rfl zMc rfl)<|qD rfl (by decide) rfl rfl (zG rfl wM rfl (zF 0 rfl) rfl)<|qD rfl (by decide) rfl rfl (zC rfl zAr rfl)<|qD rfl (by decide) rfl rfl (zD rfl one9 rfl (zF 0 rfl) rfl)<|qD rfl (by decide) rfl rfl (zP rfl ok29 (wN n y.From hn) ⟨zE,rfl,zE,rfl,trivial⟩)<|qD rfl (by decide) rfl rfl (qP rfl rfl)<|qD rfl (by decide) rfl rfl (yF rfl rfl rfl)<|qD rfl (by decide) rfl rfl (qU rfl rfl rfl)<|zIp rfl rfl (by decide) rfl rfl (qO [none,none,none,none,none,none,some 1,none] rfl zr42 rfl) ?_
        rintro _ _ ⟨b6,rfl,rfl⟩
        refine ⟨_,rfl,?_⟩
        refine zFy rfl rfl (by decide) rfl rfl (zT rfl sz42 rfl rfl rfl (qH 0 rfl rfl)) ?_
        rintro _ _ ⟨rfl,rfl⟩
        refine ⟨_,rfl,?_⟩
        refine zAk rfl<|rMv rfl<|zB<|zS<|sReg rfl<|rMv rfl<|zA rfl (qT rfl rfl)<|rMv rfl<|zB<|zH rfl (fun c8 => ?_) (fun c8 => ?_)
        ·try simp only [sx] at c8
         refine sReg rfl<|rMv rfl<|zB<|zY _ (Weak.mem [false,false,true,true,true,true] rfl)<|zI<|zQ rfl ?_
         exact ⟨by rw [zGk h9 (by omega) c4 (by omega),hq,zHt hy (by rw [gathE_9 c7 c8]; decide),gathE_9 c7 c8],rfl⟩
        ·try simp only [sx] at c8
         refine sReg rfl<|zA rfl (zC rfl zKl rfl)<|zA rfl (zC rfl zDx rfl)<|zA rfl (zD rfl one3 rfl (zF 0 rfl) rfl)<|zA rfl (qR rfl rfl rfl)<|rMv rfl<|zB<|zH rfl (fun c9 => ?_) (fun c9 => ?_)
         ·try simp only [sx] at c9
          refine sReg rfl<|rMv rfl<|zB<|zY _ (Weak.mem [false,false,true,true,true,true] rfl)<|zI<|zQ rfl ?_
          exact ⟨by rw [zGk h9 (by omega) c4 (by omega),hq,zHt hy (by rw [zNx c7 c8 c9]; decide),zNx c7 c8 c9],rfl⟩
         ·try simp only [sx] at c9
          refine sReg rfl<|zA rfl (zC rfl zHa rfl)<|zA rfl (zD rfl zDp rfl (zF 0 rfl) rfl)<|zA rfl (zR rfl el33 rfl)<|zA rfl (zC rfl kH rfl)<|zA rfl (zD rfl wJ rfl (zF 1 rfl) rfl)<|zA rfl (zR rfl wE rfl)<|zA rfl (qR rfl rfl rfl)<|rMv rfl<|zB<|zH rfl (fun c10 => ?_) (fun c10 => ?_)
          ·try simp only [sx] at c10
           refine sReg rfl<|rMv rfl<|zB<|zY _ (Weak.mem [false,false,true,true,true,true] rfl)<|zI<|zQ rfl ?_
           exact ⟨by rw [zGk h9 (by omega) c4 (by omega),hq,zHt hy (by rw [zNw c7 c8 c9 (by omega)]; decide),zNw c7 c8 c9 (by omega)],rfl⟩
          ·try simp only [sx] at c10
           refine zJ<|zU rfl<|zA rfl (qB rfl rfl rfl ⟨by omega,by omega⟩)<|rMv rfl<|zB ?_
           refine ⟨j + 1,⟨by omega,hq.trans (zHu hy (by first | exact gathE_0 c7 | exact zNv c7 c8 (by omega) (by omega)))⟩,(by omega),Weak.mk [false,false,true,true,true,true] ⟨zE,zE,zE,zE,trivial⟩ rfl⟩
      ·try simp only [sx] at c6
       refine qN<|sReg rfl<|rMv rfl<|zB<|zI<|zQ rfl ?_
       exact ⟨by rw [zGk h9 (by omega) c4 (by omega),hq,yT (by omega)]; rfl,rfl⟩
theorem ck_typeOf_step (b : Nat) (svL svS svP : Value) (n : Ns) (U S : List ByteArray) (W : List Int) (hn : n.Ok) (e : Ex) (ih : ∀ a,a ∈ e.Args → partE a = 0 → a.wt ≤ 1073741824 → Con cfg 194 [vP b,vE a] (ckN b svL svS svP n U S W) fun r μ' => r = .tup [vTy (nodeT (tyF n.Bufs) a).1,vI (nodeT (tyF n.Bufs) a).2] ∧ μ' = ckN b svL svS svP n U S W) (hpart : partE e = 0) (he : e.wt ≤ 1073741824) :
    Con cfg 194 [vP b,vE e] (ckN b svL svS svP n U S W) fun r μ' => r = .tup [vTy (nodeT (tyF n.Bufs) e).1,vI (nodeT (tyF n.Bufs) e).2] ∧ μ' = ckN b svL svS svP n U S W:= by
 refine Con.drop<|zV Tryz.func194 rfl Tryz.ntmps194 Tryz.results194 rfl ?_
 intro z hz
 obtain ⟨hLl,hIl,hAl⟩ := e.parts he
 have hwt := Ex.wt_eq e
 refine sReg rfl<|qA rfl rfl (qL rfl rfl) ?_
 rintro _ _ ⟨b1,rfl,rfl⟩
 refine qA rfl rfl (yJ rfl zr40) ?_
 rintro _ _ ⟨b2,rfl,rfl⟩
 refine rMv rfl<|zB<|sReg rfl<|rMv rfl<|yK _ (kI 40 5)<|zB<|zK<|sReg rfl<|zA rfl (zC rfl kW rfl)<|zA rfl (zD rfl zAt rfl (zF 2 rfl) rfl)<|zA rfl (zR rfl el50 rfl)<|rMv rfl<|zB<|zS<|zY ⟨[(16,.c _),(6,.c _),(0,.c _),(3,.c _),(4,.c _),(14,.c _),(15,.c _)],[_,_,_,_,_,_,_]⟩ (Weak.mk [true,true,true,true,true,true,true] ⟨zE,zE,zE,zE,zE,zE,zE,trivial⟩ rfl)<|qI 2 1 rfl rfl (Nat × Value) (fun ⟨k,sv⟩ => [(16,vI k),(6,.c (.lit sv))]) (fun ⟨k,sv⟩ => [E.vec sv 40 5 ((nodeL (tyF n.Bufs) (e.Args.take k)).1.map tyC)]) (fun ⟨k,sv⟩ => k ≤ e.Args.length ∧ ((nodeL (tyF n.Bufs) (e.Args.take k)).2 = 0)) (fun ⟨k,sv⟩ => e.Args.length - k) ⟨⟨0,(.slice none 0 0)⟩,⟨by omega,rfl⟩,Weak.mk [true,true,true,true,true,true,true] ⟨zE,zE,zE,zE,zE,zE,zE,trivial⟩ rfl⟩ ?_
 rintro ⟨k,sv⟩ ⟨hk,hp⟩
 show AWP _ _ _ _ _ ⟨[(16,vI k),(6,.c (.lit sv))] ++ _,[E.vec sv 40 5 ((nodeL (tyF n.Bufs) (e.Args.take k)).1.map tyC)] ++ _⟩
 refine sReg rfl<|zA rfl (qM rfl rfl rfl)<|zB<|zK<|zH rfl (fun c1 => ?_) (fun c1 => ?_)
 ·try simp only [sx] at c1
  obtain ⟨x,hx⟩ := qX e.Args k (by omega)
  have hll := zDq _ _ hp
  refine zJ<|zK<|zS<|sReg rfl<|zA rfl (zO rfl el50 rfl rfl (by omega) (zEy (by assumption)))<|zA rfl (zG rfl yS rfl qC rfl)<|qA rfl rfl (qO [none,none,none,none,none,none,none,none,none,none,some 2,some 4,some 13] rfl zr52 rfl) ?_
  rintro _ _ ⟨b4,rfl,rfl⟩
  refine zX rfl rfl (zT rfl sz52 rfl rfl rfl (qH 0 rfl rfl))<|zB<|sReg rfl<|rMv rfl<|zA rfl (zG rfl yS rfl (zF 0 rfl) rfl)<|zA rfl (kD [4,4,4,4] rfl ok194 (ih x (qE hx) (zPv hpart (qE hx)) (by have := Ex.arg_wt (qE hx); omega)) ⟨zE,rfl,zE,rfl,trivial⟩ rfl)<|zA rfl (qP rfl rfl)<|zA rfl (yF rfl rfl rfl)<|zA rfl (qU rfl rfl rfl)<|qA rfl rfl (yJ rfl zr40) ?_
  rintro _ _ ⟨b5,rfl,rfl⟩
  refine zX rfl rfl (zT rfl sz40 rfl rfl rfl (qH 0 rfl rfl))<|rMv rfl<|zB<|zK<|sReg rfl<|rMv rfl<|zA rfl (qR rfl rfl rfl)<|zB<|zH rfl (fun c2 => ?_) (fun c2 => ?_)
  ·try simp only [sx] at c2
   refine sReg rfl<|zA rfl (zG rfl yH rfl (zF 0 rfl) rfl)<|rMv rfl<|zX rfl rfl (zT rfl sz40 rfl rfl rfl (qH 3 rfl rfl))<|rMv rfl<|zB<|zY _ (Weak.mem [false,false,false,true,false,true,true,true,true] rfl)<|zI<|fin2 (qG yH rfl (zF 0 rfl) rfl) (rs_c rfl) ?_
   exact ⟨by rw [nodeT_no hx hp c2,nodeT_zero c2]; rfl,[_],rfl⟩
  ·try simp only [sx] at c2
   refine zJ<|zU rfl<|rMv rfl<|zA rfl (zG rfl yH rfl (zF 0 rfl) rfl)<|zA rfl (qZ rfl wH zr40 rfl rfl rfl rfl)<|qA rfl rfl (yI 2 rfl wH rfl rfl rfl (by simp only [List.length_map,List.length_cons,List.length_nil,hll,List.length_take]; omega) (by simp only [List.length_map,List.length_cons,List.length_nil,hll,List.length_take]; omega)) ?_
   rintro _ _ ⟨sv6,rfl,rfl⟩
   refine rMv rfl<|zB<|zU rfl<|zA rfl (qB rfl rfl rfl ⟨by omega,by omega⟩)<|rMv rfl<|zB ?_
   refine ⟨⟨k + 1,sv6⟩,⟨by omega,by rw [zCf hx hp c2]⟩,(by show e.Args.length - (k + 1) < e.Args.length - k; omega),Weak.mk [false,false,true,true,true,true,true,true,true] ⟨zE,zE,zE,zE,zE,zE,zE,trivial⟩ (by show _ = [E.vec sv6 _ 5 ((nodeL (tyF n.Bufs) (e.Args.take (k + 1))).1.map tyC)] ++ _; rw [zCf hx hp c2]; simp only [List.map_append]; rfl)⟩
 ·try simp only [sx] at c1
  have hll := zDq _ _ hp
  have hta : e.Args.take k = e.Args := yO (by omega)
  rw [hta] at hll
  have hg : ∀ i,i < e.Args.length → ((nodeL (tyF n.Bufs) (e.Args.take k)).1.map tyC)[i]? = some (tyC (tyAt (nodeL (tyF n.Bufs) (e.Args.take k)).1 i)) := fun i hi => zHk (by rw [hta]; omega)
  have hgn : ∀ i : Nat,1 ≤ i → i ≤ e.Args.length → ∀ j : Int,j = (((nodeL (tyF n.Bufs) (e.Args.take k)).1.length : Int) - i) → ((nodeL (tyF n.Bufs) (e.Args.take k)).1.map tyC)[j.toNat]? = some (tyC (tyAt (nodeL (tyF n.Bufs) (e.Args.take k)).1 ((nodeL (tyF n.Bufs) (e.Args.take k)).1.length - i))) := fun i h1 h2 j hj => by rw [hta] at *; rw [show j.toNat = (nodeL (tyF n.Bufs) e.Args).1.length - i by omega]; exact zHk (by omega)
  have hT : nodeT (tyF n.Bufs) e = tyF n.Bufs e (nodeL (tyF n.Bufs) (e.Args.take k)).1 := nodeT_ok hta hp
  have hlk : (nodeL (tyF n.Bufs) (e.Args.take k)).1.length = e.Args.length:= by rw [hta]; exact hll
  refine qN<|zK<|sReg rfl<|zA rfl (zC rfl kN rfl)<|zA rfl (zD rfl one3 rfl (zF 2 rfl) rfl)<|zB<|zS<|zK<|sReg rfl<|zA rfl (qF rfl rfl rfl)<|rMv rfl<|zB<|zH rfl (fun c3 => ?_) (fun c3 => ?_)
  ·try simp only [sx] at c3
   refine zJ<|zH rfl (fun c4 => ?_) (fun c4 => ?_)
   ·try simp only [sx] at c4
    refine sReg rfl<|zA rfl (zC rfl zCr rfl)<|zA rfl (zG rfl yH rfl (zF 2 rfl) rfl)<|zX rfl rfl (zT rfl sz40 rfl rfl rfl (qH 1 rfl rfl))<|rMv rfl<|zB<|zY _ (Weak.mem [false,true,false,true,true,true,true] rfl)<|zI<|fin2 (qG yH rfl (zF 0 rfl) rfl) (rs_c rfl) ?_
    exact ⟨by rw [hT]; first | (rw [zAg (by omega)]; rfl) | (rw [zAq (by omega)]; rfl) | (rw [zAf (by omega)]; rfl) | (rw [zAp (by omega)]; rfl) | (rw [kU (by omega)]; rfl) | (rw [kV ho h10]; rfl) | (rw [zAo ho h10 c12]; rfl) | (rw [zAe ho h10 c12]; rfl),[_],rfl⟩
   ·try simp only [sx] at c4
    refine sReg rfl<|zA rfl (qF rfl rfl rfl)<|rMv rfl<|zB<|zH rfl (fun c5 => ?_) (fun c5 => ?_)
    ·try simp only [sx] at c5
     refine sReg rfl<|zA rfl (qV rfl zr40 pl40 rfl)<|zX rfl rfl (zT rfl sz40 rfl rfl rfl (qH 1 rfl rfl))<|rMv rfl<|zB<|zY _ (Weak.mem [false,true,false,true,true,true,true] rfl)<|zI<|fin2 (qG yH rfl (zF 0 rfl) rfl) (rs_c rfl) ?_
     exact ⟨by rw [hT]; first | (rw [zAg (by omega)]; rfl) | (rw [zAq (by omega)]; rfl) | (rw [zAf (by omega)]; rfl) | (rw [zAp (by omega)]; rfl) | (rw [kU (by omega)]; rfl) | (rw [kV ho h10]; rfl) | (rw [zAo ho h10 c12]; rfl) | (rw [zAe ho h10 c12]; rfl),[_],rfl⟩
    ·try simp only [sx] at c5
     refine sReg rfl<|zA rfl (qF rfl rfl rfl)<|rMv rfl<|zB<|zH rfl (fun c6 => ?_) (fun c6 => ?_)
     ·try simp only [sx] at c6
      refine zK<|yZ 12 1 [⟨0,.q []⟩,⟨1,.q []⟩,⟨2,.q []⟩,⟨3,.q [4]⟩,⟨4,.q []⟩,⟨5,.q [3]⟩,⟨6,.q []⟩,⟨7,.q []⟩,⟨8,.q []⟩,⟨9,.q []⟩,⟨10,.e 0 []⟩,⟨11,.e 0 []⟩] mixed (by kernel_rfl) (by kernel_rfl) rfl rfl rfl<|zW rfl<|zW rfl<|zW rfl<|zW rfl<|zW rfl<|zW rfl<|zW rfl<|zW rfl<|zW rfl<|zW rfl<|zW rfl<|zW rfl<|zAl<|qD rfl (by decide) rfl rfl (zN rfl rfl)<|qD rfl (by decide) rfl rfl (qW rfl rfl)<|qD rfl (by decide) rfl rfl (zC rfl zMc rfl)<|qD rfl (by decide) rfl rfl (zG rfl wM rfl (zF 0 rfl) rfl)<|qD rfl (by decide) rfl rfl (zC rfl zCs rfl)<|qD rfl (by decide) rfl rfl (zD rfl one9 rfl (zF 0 rfl) rfl)<|qD rfl (by decide) rfl rfl (zP rfl ok29 (wN n e.Name hn) ⟨zE,rfl,zE,rfl,trivial⟩)<|qD rfl (by decide) rfl rfl (qP rfl rfl)<|qD rfl (by decide) rfl rfl (yF rfl rfl rfl)<|qD rfl (by decide) rfl rfl (qU rfl rfl rfl)<|zIp rfl rfl (by decide) rfl rfl (qO [none,none,none,none,none,none,some 1,none] rfl zr42 rfl) ?_
      rintro _ _ ⟨b7,rfl,rfl⟩
      refine ⟨_,rfl,?_⟩
      refine zFy rfl rfl (by decide) rfl rfl (zT rfl sz42 rfl rfl rfl (qH 0 rfl rfl)) ?_
      rintro _ _ ⟨rfl,rfl⟩
      refine ⟨_,rfl,?_⟩
      refine zAk rfl<|rMv rfl<|zB<|sReg rfl<|zA rfl (zC rfl zKl rfl)<|zA rfl (zG rfl yH rfl (zF 0 rfl) rfl)<|zX rfl rfl (zT rfl sz40 rfl rfl rfl (qH 2 rfl rfl))<|rMv rfl<|zB<|zY _ (Weak.mem [false,false,true,false,true,true,true,true] rfl)<|zI<|fin2 (qG yH rfl (zF 0 rfl) rfl) (rs_c rfl) ?_
      exact ⟨by rw [hT]; first | (rw [zAg (by omega)]; rfl) | (rw [zAq (by omega)]; rfl) | (rw [zAf (by omega)]; rfl) | (rw [zAp (by omega)]; rfl) | (rw [kU (by omega)]; rfl) | (rw [kV ho h10]; rfl) | (rw [zAo ho h10 c12]; rfl) | (rw [zAe ho h10 c12]; rfl),[_],rfl⟩
     ·try simp only [sx] at c6
      refine sReg rfl<|zA rfl (qF rfl rfl rfl)<|rMv rfl<|zB<|zH rfl (fun c7 => ?_) (fun c7 => ?_)
      ·try simp only [sx] at c7
       have hlen1 := args_len hpart (by omega)
       refine sReg rfl<|rMv rfl<|zA rfl (qQ 0 rfl wH rfl rfl rfl (by omega) (by simp only [List.length_map]; omega))<|zA rfl (zG rfl yH rfl (kS 0 rfl (hg 0 (by omega))) rfl)<|zX rfl rfl (zT rfl sz40 rfl rfl rfl (qH 1 rfl rfl))<|rMv rfl<|zB<|zY _ (Weak.mem [false,true,false,true,true,true,true] rfl)<|zI<|fin2 (qG yH rfl (zF 0 rfl) rfl) (rs_c rfl) ?_
       exact ⟨by rw [hT]; first | (rw [zAg (by omega)]; rfl) | (rw [zAq (by omega)]; rfl) | (rw [zAf (by omega)]; rfl) | (rw [zAp (by omega)]; rfl) | (rw [kU (by omega)]; rfl) | (rw [kV ho h10]; rfl) | (rw [zAo ho h10 c12]; rfl) | (rw [zAe ho h10 c12]; rfl),[_],rfl⟩
      ·try simp only [sx] at c7
       refine zK<|sReg rfl<|zA rfl (qF rfl rfl rfl)<|rMv rfl<|zB<|zH rfl (fun c8 => ?_) (fun c8 => ?_)
       ·try simp only [sx] at c8
        refine zJ<|zH rfl (fun c10 => ?_) (fun c10 => ?_)
        ·try simp only [sx] at c10
         refine sReg rfl<|zA rfl (qV rfl zr40 pl40 rfl)<|zX rfl rfl (zT rfl sz40 rfl rfl rfl (qH 1 rfl rfl))<|rMv rfl<|zB<|zY _ (Weak.mem [false,true,false,true,true,true,true] rfl)<|zI<|fin2 (qG yH rfl (zF 0 rfl) rfl) (rs_c rfl) ?_
         exact ⟨by rw [hT]; first | (rw [zAg (by omega)]; rfl) | (rw [zAq (by omega)]; rfl) | (rw [zAf (by omega)]; rfl) | (rw [zAp (by omega)]; rfl) | (rw [kU (by omega)]; rfl) | (rw [kV ho h10]; rfl) | (rw [zAo ho h10 c12]; rfl) | (rw [zAe ho h10 c12]; rfl),[_],rfl⟩
        ·try simp only [sx] at c10
         have hlen2 := zEb hpart (by omega)
         have ho : ¬ opLow e.Op:= by unfold opLow; omega
         refine zJ<|zK<|zK<|yC 13 mixed (by kernel_rfl) rfl rfl<|zM rfl rfl (zN rfl rfl)<|zM rfl rfl (zN rfl rfl)<|zM rfl rfl (yU 0 rfl wH rfl rfl)<|zM rfl rfl (yD rfl rfl rfl (by simp only [List.length_map]; exact ⟨by omega,by omega⟩))<|zM rfl rfl (qQ 0 rfl wH rfl rfl rfl (by simp only [List.length_map]; omega) (by simp only [List.length_map]; omega))<|zM rfl rfl (zG rfl yH rfl (kS 0 rfl (hgn 2 (by omega) (by omega) _ (by simp only [List.length_map]; rfl))) rfl)<|zM rfl rfl (zN rfl rfl)<|zM rfl rfl (zN rfl rfl)<|zM rfl rfl (yU 0 rfl wH rfl rfl)<|zM rfl rfl (yD rfl rfl rfl (by simp only [List.length_map]; exact ⟨by omega,by omega⟩))<|zM rfl rfl (qQ 0 rfl wH rfl rfl rfl (by simp only [List.length_map]; omega) (by simp only [List.length_map]; omega))<|zM rfl rfl (zG rfl yH rfl (kS 0 rfl (hgn 1 (by omega) (by omega) _ (by simp only [List.length_map]; rfl))) rfl)<|zM rfl rfl (wV rfl fl40 rfl rfl rfl)<|kA<|zB<|zH rfl (fun c11 => ?_) (fun c11 => ?_)
         ·have h10 := zEf c11
          refine sReg rfl<|zA rfl (qV rfl zr40 pl40 rfl)<|zX rfl rfl (zT rfl sz40 rfl rfl rfl (qH 1 rfl rfl))<|rMv rfl<|zB<|zY _ (Weak.mem [false,true,false,true,true,true,true] rfl)<|zI<|fin2 (qG yH rfl (zF 0 rfl) rfl) (rs_c rfl) ?_
          exact ⟨by rw [hT]; first | (rw [zAg (by omega)]; rfl) | (rw [zAq (by omega)]; rfl) | (rw [zAf (by omega)]; rfl) | (rw [zAp (by omega)]; rfl) | (rw [kU (by omega)]; rfl) | (rw [kV ho h10]; rfl) | (rw [zAo ho h10 c12]; rfl) | (rw [zAe ho h10 c12]; rfl),[_],rfl⟩
         ·have h10 := zEg c11
          refine zJ<|zK<|sReg rfl<|zA rfl (zG rfl yS rfl (zF 2 rfl) rfl)<|zA rfl (zP rfl ok164 (kJ e) ⟨zE,rfl,trivial⟩)<|zB<|zH rfl (fun c12 => ?_) (fun c12 => ?_)
          ·try simp only [sx] at c12
           refine sReg rfl<|zA rfl (qV rfl zr40 pl40 rfl)<|zX rfl rfl (zT rfl sz40 rfl rfl rfl (qH 1 rfl rfl))<|rMv rfl<|zB<|zY _ (Weak.mem [false,true,false,true,true,true,true] rfl)<|zI<|fin2 (qG yH rfl (zF 0 rfl) rfl) (rs_c rfl) ?_
           exact ⟨by rw [hT]; first | (rw [zAg (by omega)]; rfl) | (rw [zAq (by omega)]; rfl) | (rw [zAf (by omega)]; rfl) | (rw [zAp (by omega)]; rfl) | (rw [kU (by omega)]; rfl) | (rw [kV ho h10]; rfl) | (rw [zAo ho h10 c12]; rfl) | (rw [zAe ho h10 c12]; rfl),[_],rfl⟩
          ·try simp only [sx] at c12
           refine zJ<|sReg rfl<|rMv rfl<|rMv rfl<|zA rfl (yU 0 rfl wH rfl rfl)<|zA rfl (yD rfl rfl rfl (by simp only [List.length_map]; exact ⟨by omega,by omega⟩))<|zA rfl (qQ 0 rfl wH rfl rfl rfl (by simp only [List.length_map]; omega) (by simp only [List.length_map]; omega))<|zA rfl (zG rfl yH rfl (kS 0 rfl (hgn 1 (by omega) (by omega) _ (by simp only [List.length_map]; rfl))) rfl)<|zX rfl rfl (zT rfl sz40 rfl rfl rfl (qH 1 rfl rfl))<|rMv rfl<|zB<|zY _ (Weak.mem [false,true,false,true,true,true,true] rfl)<|zI<|fin2 (qG yH rfl (zF 0 rfl) rfl) (rs_c rfl) ?_
           exact ⟨by rw [hT]; first | (rw [zAg (by omega)]; rfl) | (rw [zAq (by omega)]; rfl) | (rw [zAf (by omega)]; rfl) | (rw [zAp (by omega)]; rfl) | (rw [kU (by omega)]; rfl) | (rw [kV ho h10]; rfl) | (rw [zAo ho h10 c12]; rfl) | (rw [zAe ho h10 c12]; rfl),[_],rfl⟩
       ·try simp only [sx] at c8
        refine sReg rfl<|zA rfl (qF rfl rfl rfl)<|rMv rfl<|zB<|zH rfl (fun c9 => ?_) (fun c9 => ?_)
        ·try simp only [sx] at c9
         refine zJ<|zH rfl (fun c10 => ?_) (fun c10 => ?_)
         ·try simp only [sx] at c10
          refine sReg rfl<|zA rfl (qV rfl zr40 pl40 rfl)<|zX rfl rfl (zT rfl sz40 rfl rfl rfl (qH 1 rfl rfl))<|rMv rfl<|zB<|zY _ (Weak.mem [false,true,false,true,true,true,true] rfl)<|zI<|fin2 (qG yH rfl (zF 0 rfl) rfl) (rs_c rfl) ?_
          exact ⟨by rw [hT]; first | (rw [zAg (by omega)]; rfl) | (rw [zAq (by omega)]; rfl) | (rw [zAf (by omega)]; rfl) | (rw [zAp (by omega)]; rfl) | (rw [kU (by omega)]; rfl) | (rw [kV ho h10]; rfl) | (rw [zAo ho h10 c12]; rfl) | (rw [zAe ho h10 c12]; rfl),[_],rfl⟩
         ·try simp only [sx] at c10
          have hlen2 := zEb hpart (by omega)
          have ho : ¬ opLow e.Op:= by unfold opLow; omega
          refine zJ<|zK<|zK<|yC 13 mixed (by kernel_rfl) rfl rfl<|zM rfl rfl (zN rfl rfl)<|zM rfl rfl (zN rfl rfl)<|zM rfl rfl (yU 0 rfl wH rfl rfl)<|zM rfl rfl (yD rfl rfl rfl (by simp only [List.length_map]; exact ⟨by omega,by omega⟩))<|zM rfl rfl (qQ 0 rfl wH rfl rfl rfl (by simp only [List.length_map]; omega) (by simp only [List.length_map]; omega))<|zM rfl rfl (zG rfl yH rfl (kS 0 rfl (hgn 2 (by omega) (by omega) _ (by simp only [List.length_map]; rfl))) rfl)<|zM rfl rfl (zN rfl rfl)<|zM rfl rfl (zN rfl rfl)<|zM rfl rfl (yU 0 rfl wH rfl rfl)<|zM rfl rfl (yD rfl rfl rfl (by simp only [List.length_map]; exact ⟨by omega,by omega⟩))<|zM rfl rfl (qQ 0 rfl wH rfl rfl rfl (by simp only [List.length_map]; omega) (by simp only [List.length_map]; omega))<|zM rfl rfl (zG rfl yH rfl (kS 0 rfl (hgn 1 (by omega) (by omega) _ (by simp only [List.length_map]; rfl))) rfl)<|zM rfl rfl (wV rfl fl40 rfl rfl rfl)<|kA<|zB<|zH rfl (fun c11 => ?_) (fun c11 => ?_)
          ·have h10 := zEf c11
           refine sReg rfl<|zA rfl (qV rfl zr40 pl40 rfl)<|zX rfl rfl (zT rfl sz40 rfl rfl rfl (qH 1 rfl rfl))<|rMv rfl<|zB<|zY _ (Weak.mem [false,true,false,true,true,true,true] rfl)<|zI<|fin2 (qG yH rfl (zF 0 rfl) rfl) (rs_c rfl) ?_
           exact ⟨by rw [hT]; first | (rw [zAg (by omega)]; rfl) | (rw [zAq (by omega)]; rfl) | (rw [zAf (by omega)]; rfl) | (rw [zAp (by omega)]; rfl) | (rw [kU (by omega)]; rfl) | (rw [kV ho h10]; rfl) | (rw [zAo ho h10 c12]; rfl) | (rw [zAe ho h10 c12]; rfl),[_],rfl⟩
          ·have h10 := zEg c11
           refine zJ<|zK<|sReg rfl<|zA rfl (zG rfl yS rfl (zF 2 rfl) rfl)<|zA rfl (zP rfl ok164 (kJ e) ⟨zE,rfl,trivial⟩)<|zB<|zH rfl (fun c12 => ?_) (fun c12 => ?_)
           ·try simp only [sx] at c12
            refine sReg rfl<|zA rfl (qV rfl zr40 pl40 rfl)<|zX rfl rfl (zT rfl sz40 rfl rfl rfl (qH 1 rfl rfl))<|rMv rfl<|zB<|zY _ (Weak.mem [false,true,false,true,true,true,true] rfl)<|zI<|fin2 (qG yH rfl (zF 0 rfl) rfl) (rs_c rfl) ?_
            exact ⟨by rw [hT]; first | (rw [zAg (by omega)]; rfl) | (rw [zAq (by omega)]; rfl) | (rw [zAf (by omega)]; rfl) | (rw [zAp (by omega)]; rfl) | (rw [kU (by omega)]; rfl) | (rw [kV ho h10]; rfl) | (rw [zAo ho h10 c12]; rfl) | (rw [zAe ho h10 c12]; rfl),[_],rfl⟩
           ·try simp only [sx] at c12
            refine zJ<|sReg rfl<|rMv rfl<|rMv rfl<|zA rfl (yU 0 rfl wH rfl rfl)<|zA rfl (yD rfl rfl rfl (by simp only [List.length_map]; exact ⟨by omega,by omega⟩))<|zA rfl (qQ 0 rfl wH rfl rfl rfl (by simp only [List.length_map]; omega) (by simp only [List.length_map]; omega))<|zA rfl (zG rfl yH rfl (kS 0 rfl (hgn 1 (by omega) (by omega) _ (by simp only [List.length_map]; rfl))) rfl)<|zX rfl rfl (zT rfl sz40 rfl rfl rfl (qH 1 rfl rfl))<|rMv rfl<|zB<|zY _ (Weak.mem [false,true,false,true,true,true,true] rfl)<|zI<|fin2 (qG yH rfl (zF 0 rfl) rfl) (rs_c rfl) ?_
            exact ⟨by rw [hT]; first | (rw [zAg (by omega)]; rfl) | (rw [zAq (by omega)]; rfl) | (rw [zAf (by omega)]; rfl) | (rw [zAp (by omega)]; rfl) | (rw [kU (by omega)]; rfl) | (rw [kV ho h10]; rfl) | (rw [zAo ho h10 c12]; rfl) | (rw [zAe ho h10 c12]; rfl),[_],rfl⟩
        ·try simp only [sx] at c9
         refine zU rfl<|zA rfl (qF rfl rfl rfl)<|rMv rfl<|zB<|zH rfl (fun c10 => ?_) (fun c10 => ?_)
         ·try simp only [sx] at c10
          refine sReg rfl<|zA rfl (qV rfl zr40 pl40 rfl)<|zX rfl rfl (zT rfl sz40 rfl rfl rfl (qH 1 rfl rfl))<|rMv rfl<|zB<|zY _ (Weak.mem [false,true,false,true,true,true,true] rfl)<|zI<|fin2 (qG yH rfl (zF 0 rfl) rfl) (rs_c rfl) ?_
          exact ⟨by rw [hT]; first | (rw [zAg (by omega)]; rfl) | (rw [zAq (by omega)]; rfl) | (rw [zAf (by omega)]; rfl) | (rw [zAp (by omega)]; rfl) | (rw [kU (by omega)]; rfl) | (rw [kV ho h10]; rfl) | (rw [zAo ho h10 c12]; rfl) | (rw [zAe ho h10 c12]; rfl),[_],rfl⟩
         ·try simp only [sx] at c10
          have hlen2 := zEb hpart (by omega)
          have ho : ¬ opLow e.Op:= by unfold opLow; omega
          refine zJ<|zK<|zK<|yC 13 mixed (by kernel_rfl) rfl rfl<|zM rfl rfl (zN rfl rfl)<|zM rfl rfl (zN rfl rfl)<|zM rfl rfl (yU 0 rfl wH rfl rfl)<|zM rfl rfl (yD rfl rfl rfl (by simp only [List.length_map]; exact ⟨by omega,by omega⟩))<|zM rfl rfl (qQ 0 rfl wH rfl rfl rfl (by simp only [List.length_map]; omega) (by simp only [List.length_map]; omega))<|zM rfl rfl (zG rfl yH rfl (kS 0 rfl (hgn 2 (by omega) (by omega) _ (by simp only [List.length_map]; rfl))) rfl)<|zM rfl rfl (zN rfl rfl)<|zM rfl rfl (zN rfl rfl)<|zM rfl rfl (yU 0 rfl wH rfl rfl)<|zM rfl rfl (yD rfl rfl rfl (by simp only [List.length_map]; exact ⟨by omega,by omega⟩))<|zM rfl rfl (qQ 0 rfl wH rfl rfl rfl (by simp only [List.length_map]; omega) (by simp only [List.length_map]; omega))<|zM rfl rfl (zG rfl yH rfl (kS 0 rfl (hgn 1 (by omega) (by omega) _ (by simp only [List.length_map]; rfl))) rfl)<|zM rfl rfl (wV rfl fl40 rfl rfl rfl)<|kA<|zB<|zH rfl (fun c11 => ?_) (fun c11 => ?_)
          ·have h10 := zEf c11
           refine sReg rfl<|zA rfl (qV rfl zr40 pl40 rfl)<|zX rfl rfl (zT rfl sz40 rfl rfl rfl (qH 1 rfl rfl))<|rMv rfl<|zB<|zY _ (Weak.mem [false,true,false,true,true,true,true] rfl)<|zI<|fin2 (qG yH rfl (zF 0 rfl) rfl) (rs_c rfl) ?_
           exact ⟨by rw [hT]; first | (rw [zAg (by omega)]; rfl) | (rw [zAq (by omega)]; rfl) | (rw [zAf (by omega)]; rfl) | (rw [zAp (by omega)]; rfl) | (rw [kU (by omega)]; rfl) | (rw [kV ho h10]; rfl) | (rw [zAo ho h10 c12]; rfl) | (rw [zAe ho h10 c12]; rfl),[_],rfl⟩
          ·have h10 := zEg c11
           refine zJ<|zK<|sReg rfl<|zA rfl (zG rfl yS rfl (zF 2 rfl) rfl)<|zA rfl (zP rfl ok164 (kJ e) ⟨zE,rfl,trivial⟩)<|zB<|zH rfl (fun c12 => ?_) (fun c12 => ?_)
           ·try simp only [sx] at c12
            refine sReg rfl<|zA rfl (qV rfl zr40 pl40 rfl)<|zX rfl rfl (zT rfl sz40 rfl rfl rfl (qH 1 rfl rfl))<|rMv rfl<|zB<|zY _ (Weak.mem [false,true,false,true,true,true,true] rfl)<|zI<|fin2 (qG yH rfl (zF 0 rfl) rfl) (rs_c rfl) ?_
            exact ⟨by rw [hT]; first | (rw [zAg (by omega)]; rfl) | (rw [zAq (by omega)]; rfl) | (rw [zAf (by omega)]; rfl) | (rw [zAp (by omega)]; rfl) | (rw [kU (by omega)]; rfl) | (rw [kV ho h10]; rfl) | (rw [zAo ho h10 c12]; rfl) | (rw [zAe ho h10 c12]; rfl),[_],rfl⟩
           ·try simp only [sx] at c12
            refine zJ<|sReg rfl<|rMv rfl<|rMv rfl<|zA rfl (yU 0 rfl wH rfl rfl)<|zA rfl (yD rfl rfl rfl (by simp only [List.length_map]; exact ⟨by omega,by omega⟩))<|zA rfl (qQ 0 rfl wH rfl rfl rfl (by simp only [List.length_map]; omega) (by simp only [List.length_map]; omega))<|zA rfl (zG rfl yH rfl (kS 0 rfl (hgn 1 (by omega) (by omega) _ (by simp only [List.length_map]; rfl))) rfl)<|zX rfl rfl (zT rfl sz40 rfl rfl rfl (qH 1 rfl rfl))<|rMv rfl<|zB<|zY _ (Weak.mem [false,true,false,true,true,true,true] rfl)<|zI<|fin2 (qG yH rfl (zF 0 rfl) rfl) (rs_c rfl) ?_
            exact ⟨by rw [hT]; first | (rw [zAg (by omega)]; rfl) | (rw [zAq (by omega)]; rfl) | (rw [zAf (by omega)]; rfl) | (rw [zAp (by omega)]; rfl) | (rw [kU (by omega)]; rfl) | (rw [kV ho h10]; rfl) | (rw [zAo ho h10 c12]; rfl) | (rw [zAe ho h10 c12]; rfl),[_],rfl⟩
  ·try simp only [sx] at c3
   refine zU rfl<|zA rfl (qF rfl rfl rfl)<|rMv rfl<|zB<|zH rfl (fun c4 => ?_) (fun c4 => ?_)
   ·try simp only [sx] at c4
    refine sReg rfl<|zA rfl (zC rfl zCr rfl)<|zA rfl (zG rfl yH rfl (zF 2 rfl) rfl)<|zX rfl rfl (zT rfl sz40 rfl rfl rfl (qH 1 rfl rfl))<|rMv rfl<|zB<|zY _ (Weak.mem [false,true,false,true,true,true,true] rfl)<|zI<|fin2 (qG yH rfl (zF 0 rfl) rfl) (rs_c rfl) ?_
    exact ⟨by rw [hT]; first | (rw [zAg (by omega)]; rfl) | (rw [zAq (by omega)]; rfl) | (rw [zAf (by omega)]; rfl) | (rw [zAp (by omega)]; rfl) | (rw [kU (by omega)]; rfl) | (rw [kV ho h10]; rfl) | (rw [zAo ho h10 c12]; rfl) | (rw [zAe ho h10 c12]; rfl),[_],rfl⟩
   ·try simp only [sx] at c4
    refine sReg rfl<|zA rfl (qF rfl rfl rfl)<|rMv rfl<|zB<|zH rfl (fun c5 => ?_) (fun c5 => ?_)
    ·try simp only [sx] at c5
     refine sReg rfl<|zA rfl (qV rfl zr40 pl40 rfl)<|zX rfl rfl (zT rfl sz40 rfl rfl rfl (qH 1 rfl rfl))<|rMv rfl<|zB<|zY _ (Weak.mem [false,true,false,true,true,true,true] rfl)<|zI<|fin2 (qG yH rfl (zF 0 rfl) rfl) (rs_c rfl) ?_
     exact ⟨by rw [hT]; first | (rw [zAg (by omega)]; rfl) | (rw [zAq (by omega)]; rfl) | (rw [zAf (by omega)]; rfl) | (rw [zAp (by omega)]; rfl) | (rw [kU (by omega)]; rfl) | (rw [kV ho h10]; rfl) | (rw [zAo ho h10 c12]; rfl) | (rw [zAe ho h10 c12]; rfl),[_],rfl⟩
    ·try simp only [sx] at c5
     refine sReg rfl<|zA rfl (qF rfl rfl rfl)<|rMv rfl<|zB<|zH rfl (fun c6 => ?_) (fun c6 => ?_)
     ·try simp only [sx] at c6
      refine zK<|yZ 12 1 [⟨0,.q []⟩,⟨1,.q []⟩,⟨2,.q []⟩,⟨3,.q [4]⟩,⟨4,.q []⟩,⟨5,.q [3]⟩,⟨6,.q []⟩,⟨7,.q []⟩,⟨8,.q []⟩,⟨9,.q []⟩,⟨10,.e 0 []⟩,⟨11,.e 0 []⟩] mixed (by kernel_rfl) (by kernel_rfl) rfl rfl rfl<|zW rfl<|zW rfl<|zW rfl<|zW rfl<|zW rfl<|zW rfl<|zW rfl<|zW rfl<|zW rfl<|zW rfl<|zW rfl<|zW rfl<|zAl<|qD rfl (by decide) rfl rfl (zN rfl rfl)<|qD rfl (by decide) rfl rfl (qW rfl rfl)<|qD rfl (by decide) rfl rfl (zC rfl zMc rfl)<|qD rfl (by decide) rfl rfl (zG rfl wM rfl (zF 0 rfl) rfl)<|qD rfl (by decide) rfl rfl (zC rfl zCs rfl)<|qD rfl (by decide) rfl rfl (zD rfl one9 rfl (zF 0 rfl) rfl)<|qD rfl (by decide) rfl rfl (zP rfl ok29 (wN n e.Name hn) ⟨zE,rfl,zE,rfl,trivial⟩)<|qD rfl (by decide) rfl rfl (qP rfl rfl)<|qD rfl (by decide) rfl rfl (yF rfl rfl rfl)<|qD rfl (by decide) rfl rfl (qU rfl rfl rfl)<|zIp rfl rfl (by decide) rfl rfl (qO [none,none,none,none,none,none,some 1,none] rfl zr42 rfl) ?_
      rintro _ _ ⟨b8,rfl,rfl⟩
      refine ⟨_,rfl,?_⟩
      refine zFy rfl rfl (by decide) rfl rfl (zT rfl sz42 rfl rfl rfl (qH 0 rfl rfl)) ?_
      rintro _ _ ⟨rfl,rfl⟩
      refine ⟨_,rfl,?_⟩
      refine zAk rfl<|rMv rfl<|zB<|sReg rfl<|zA rfl (zC rfl zKl rfl)<|zA rfl (zG rfl yH rfl (zF 0 rfl) rfl)<|zX rfl rfl (zT rfl sz40 rfl rfl rfl (qH 2 rfl rfl))<|rMv rfl<|zB<|zY _ (Weak.mem [false,false,true,false,true,true,true,true] rfl)<|zI<|fin2 (qG yH rfl (zF 0 rfl) rfl) (rs_c rfl) ?_
      exact ⟨by rw [hT]; first | (rw [zAg (by omega)]; rfl) | (rw [zAq (by omega)]; rfl) | (rw [zAf (by omega)]; rfl) | (rw [zAp (by omega)]; rfl) | (rw [kU (by omega)]; rfl) | (rw [kV ho h10]; rfl) | (rw [zAo ho h10 c12]; rfl) | (rw [zAe ho h10 c12]; rfl),[_],rfl⟩
     ·try simp only [sx] at c6
      refine sReg rfl<|zA rfl (qF rfl rfl rfl)<|rMv rfl<|zB<|zH rfl (fun c7 => ?_) (fun c7 => ?_)
      ·try simp only [sx] at c7
       have hlen1 := args_len hpart (by omega)
       refine sReg rfl<|rMv rfl<|zA rfl (qQ 0 rfl wH rfl rfl rfl (by omega) (by simp only [List.length_map]; omega))<|zA rfl (zG rfl yH rfl (kS 0 rfl (hg 0 (by omega))) rfl)<|zX rfl rfl (zT rfl sz40 rfl rfl rfl (qH 1 rfl rfl))<|rMv rfl<|zB<|zY _ (Weak.mem [false,true,false,true,true,true,true] rfl)<|zI<|fin2 (qG yH rfl (zF 0 rfl) rfl) (rs_c rfl) ?_
       exact ⟨by rw [hT]; first | (rw [zAg (by omega)]; rfl) | (rw [zAq (by omega)]; rfl) | (rw [zAf (by omega)]; rfl) | (rw [zAp (by omega)]; rfl) | (rw [kU (by omega)]; rfl) | (rw [kV ho h10]; rfl) | (rw [zAo ho h10 c12]; rfl) | (rw [zAe ho h10 c12]; rfl),[_],rfl⟩
      ·try simp only [sx] at c7
       refine zK<|sReg rfl<|zA rfl (qF rfl rfl rfl)<|rMv rfl<|zB<|zH rfl (fun c8 => ?_) (fun c8 => ?_)
       ·try simp only [sx] at c8
        refine zJ<|zH rfl (fun c10 => ?_) (fun c10 => ?_)
        ·try simp only [sx] at c10
         refine sReg rfl<|zA rfl (qV rfl zr40 pl40 rfl)<|zX rfl rfl (zT rfl sz40 rfl rfl rfl (qH 1 rfl rfl))<|rMv rfl<|zB<|zY _ (Weak.mem [false,true,false,true,true,true,true] rfl)<|zI<|fin2 (qG yH rfl (zF 0 rfl) rfl) (rs_c rfl) ?_
         exact ⟨by rw [hT]; first | (rw [zAg (by omega)]; rfl) | (rw [zAq (by omega)]; rfl) | (rw [zAf (by omega)]; rfl) | (rw [zAp (by omega)]; rfl) | (rw [kU (by omega)]; rfl) | (rw [kV ho h10]; rfl) | (rw [zAo ho h10 c12]; rfl) | (rw [zAe ho h10 c12]; rfl),[_],rfl⟩
        ·try simp only [sx] at c10
         have hlen2 := zEb hpart (by omega)
         have ho : ¬ opLow e.Op:= by unfold opLow; omega
         refine zJ<|zK<|zK<|yC 13 mixed (by kernel_rfl) rfl rfl<|zM rfl rfl (zN rfl rfl)<|zM rfl rfl (zN rfl rfl)<|zM rfl rfl (yU 0 rfl wH rfl rfl)<|zM rfl rfl (yD rfl rfl rfl (by simp only [List.length_map]; exact ⟨by omega,by omega⟩))<|zM rfl rfl (qQ 0 rfl wH rfl rfl rfl (by simp only [List.length_map]; omega) (by simp only [List.length_map]; omega))<|zM rfl rfl (zG rfl yH rfl (kS 0 rfl (hgn 2 (by omega) (by omega) _ (by simp only [List.length_map]; rfl))) rfl)<|zM rfl rfl (zN rfl rfl)<|zM rfl rfl (zN rfl rfl)<|zM rfl rfl (yU 0 rfl wH rfl rfl)<|zM rfl rfl (yD rfl rfl rfl (by simp only [List.length_map]; exact ⟨by omega,by omega⟩))<|zM rfl rfl (qQ 0 rfl wH rfl rfl rfl (by simp only [List.length_map]; omega) (by simp only [List.length_map]; omega))<|zM rfl rfl (zG rfl yH rfl (kS 0 rfl (hgn 1 (by omega) (by omega) _ (by simp only [List.length_map]; rfl))) rfl)<|zM rfl rfl (wV rfl fl40 rfl rfl rfl)<|kA<|zB<|zH rfl (fun c11 => ?_) (fun c11 => ?_)
         ·have h10 := zEf c11
          refine sReg rfl<|zA rfl (qV rfl zr40 pl40 rfl)<|zX rfl rfl (zT rfl sz40 rfl rfl rfl (qH 1 rfl rfl))<|rMv rfl<|zB<|zY _ (Weak.mem [false,true,false,true,true,true,true] rfl)<|zI<|fin2 (qG yH rfl (zF 0 rfl) rfl) (rs_c rfl) ?_
          exact ⟨by rw [hT]; first | (rw [zAg (by omega)]; rfl) | (rw [zAq (by omega)]; rfl) | (rw [zAf (by omega)]; rfl) | (rw [zAp (by omega)]; rfl) | (rw [kU (by omega)]; rfl) | (rw [kV ho h10]; rfl) | (rw [zAo ho h10 c12]; rfl) | (rw [zAe ho h10 c12]; rfl),[_],rfl⟩
         ·have h10 := zEg c11
          refine zJ<|zK<|sReg rfl<|zA rfl (zG rfl yS rfl (zF 2 rfl) rfl)<|zA rfl (zP rfl ok164 (kJ e) ⟨zE,rfl,trivial⟩)<|zB<|zH rfl (fun c12 => ?_) (fun c12 => ?_)
          ·try simp only [sx] at c12
           refine sReg rfl<|zA rfl (qV rfl zr40 pl40 rfl)<|zX rfl rfl (zT rfl sz40 rfl rfl rfl (qH 1 rfl rfl))<|rMv rfl<|zB<|zY _ (Weak.mem [false,true,false,true,true,true,true] rfl)<|zI<|fin2 (qG yH rfl (zF 0 rfl) rfl) (rs_c rfl) ?_
           exact ⟨by rw [hT]; first | (rw [zAg (by omega)]; rfl) | (rw [zAq (by omega)]; rfl) | (rw [zAf (by omega)]; rfl) | (rw [zAp (by omega)]; rfl) | (rw [kU (by omega)]; rfl) | (rw [kV ho h10]; rfl) | (rw [zAo ho h10 c12]; rfl) | (rw [zAe ho h10 c12]; rfl),[_],rfl⟩
          ·try simp only [sx] at c12
           refine zJ<|sReg rfl<|rMv rfl<|rMv rfl<|zA rfl (yU 0 rfl wH rfl rfl)<|zA rfl (yD rfl rfl rfl (by simp only [List.length_map]; exact ⟨by omega,by omega⟩))<|zA rfl (qQ 0 rfl wH rfl rfl rfl (by simp only [List.length_map]; omega) (by simp only [List.length_map]; omega))<|zA rfl (zG rfl yH rfl (kS 0 rfl (hgn 1 (by omega) (by omega) _ (by simp only [List.length_map]; rfl))) rfl)<|zX rfl rfl (zT rfl sz40 rfl rfl rfl (qH 1 rfl rfl))<|rMv rfl<|zB<|zY _ (Weak.mem [false,true,false,true,true,true,true] rfl)<|zI<|fin2 (qG yH rfl (zF 0 rfl) rfl) (rs_c rfl) ?_
           exact ⟨by rw [hT]; first | (rw [zAg (by omega)]; rfl) | (rw [zAq (by omega)]; rfl) | (rw [zAf (by omega)]; rfl) | (rw [zAp (by omega)]; rfl) | (rw [kU (by omega)]; rfl) | (rw [kV ho h10]; rfl) | (rw [zAo ho h10 c12]; rfl) | (rw [zAe ho h10 c12]; rfl),[_],rfl⟩
       ·try simp only [sx] at c8
        refine sReg rfl<|zA rfl (qF rfl rfl rfl)<|rMv rfl<|zB<|zH rfl (fun c9 => ?_) (fun c9 => ?_)
        ·try simp only [sx] at c9
         refine zJ<|zH rfl (fun c10 => ?_) (fun c10 => ?_)
         ·try simp only [sx] at c10
          refine sReg rfl<|zA rfl (qV rfl zr40 pl40 rfl)<|zX rfl rfl (zT rfl sz40 rfl rfl rfl (qH 1 rfl rfl))<|rMv rfl<|zB<|zY _ (Weak.mem [false,true,false,true,true,true,true] rfl)<|zI<|fin2 (qG yH rfl (zF 0 rfl) rfl) (rs_c rfl) ?_
          exact ⟨by rw [hT]; first | (rw [zAg (by omega)]; rfl) | (rw [zAq (by omega)]; rfl) | (rw [zAf (by omega)]; rfl) | (rw [zAp (by omega)]; rfl) | (rw [kU (by omega)]; rfl) | (rw [kV ho h10]; rfl) | (rw [zAo ho h10 c12]; rfl) | (rw [zAe ho h10 c12]; rfl),[_],rfl⟩
         ·try simp only [sx] at c10
          have hlen2 := zEb hpart (by omega)
          have ho : ¬ opLow e.Op:= by unfold opLow; omega
          refine zJ<|zK<|zK<|yC 13 mixed (by kernel_rfl) rfl rfl<|zM rfl rfl (zN rfl rfl)<|zM rfl rfl (zN rfl rfl)<|zM rfl rfl (yU 0 rfl wH rfl rfl)<|zM rfl rfl (yD rfl rfl rfl (by simp only [List.length_map]; exact ⟨by omega,by omega⟩))<|zM rfl rfl (qQ 0 rfl wH rfl rfl rfl (by simp only [List.length_map]; omega) (by simp only [List.length_map]; omega))<|zM rfl rfl (zG rfl yH rfl (kS 0 rfl (hgn 2 (by omega) (by omega) _ (by simp only [List.length_map]; rfl))) rfl)<|zM rfl rfl (zN rfl rfl)<|zM rfl rfl (zN rfl rfl)<|zM rfl rfl (yU 0 rfl wH rfl rfl)<|zM rfl rfl (yD rfl rfl rfl (by simp only [List.length_map]; exact ⟨by omega,by omega⟩))<|zM rfl rfl (qQ 0 rfl wH rfl rfl rfl (by simp only [List.length_map]; omega) (by simp only [List.length_map]; omega))<|zM rfl rfl (zG rfl yH rfl (kS 0 rfl (hgn 1 (by omega) (by omega) _ (by simp only [List.length_map]; rfl))) rfl)<|zM rfl rfl (wV rfl fl40 rfl rfl rfl)<|kA<|zB<|zH rfl (fun c11 => ?_) (fun c11 => ?_)
          ·have h10 := zEf c11
           refine sReg rfl<|zA rfl (qV rfl zr40 pl40 rfl)<|zX rfl rfl (zT rfl sz40 rfl rfl rfl (qH 1 rfl rfl))<|rMv rfl<|zB<|zY _ (Weak.mem [false,true,false,true,true,true,true] rfl)<|zI<|fin2 (qG yH rfl (zF 0 rfl) rfl) (rs_c rfl) ?_
           exact ⟨by rw [hT]; first | (rw [zAg (by omega)]; rfl) | (rw [zAq (by omega)]; rfl) | (rw [zAf (by omega)]; rfl) | (rw [zAp (by omega)]; rfl) | (rw [kU (by omega)]; rfl) | (rw [kV ho h10]; rfl) | (rw [zAo ho h10 c12]; rfl) | (rw [zAe ho h10 c12]; rfl),[_],rfl⟩
          ·have h10 := zEg c11
           refine zJ<|zK<|sReg rfl<|zA rfl (zG rfl yS rfl (zF 2 rfl) rfl)<|zA rfl (zP rfl ok164 (kJ e) ⟨zE,rfl,trivial⟩)<|zB<|zH rfl (fun c12 => ?_) (fun c12 => ?_)
           ·try simp only [sx] at c12
            refine sReg rfl<|zA rfl (qV rfl zr40 pl40 rfl)<|zX rfl rfl (zT rfl sz40 rfl rfl rfl (qH 1 rfl rfl))<|rMv rfl<|zB<|zY _ (Weak.mem [false,true,false,true,true,true,true] rfl)<|zI<|fin2 (qG yH rfl (zF 0 rfl) rfl) (rs_c rfl) ?_
            exact ⟨by rw [hT]; first | (rw [zAg (by omega)]; rfl) | (rw [zAq (by omega)]; rfl) | (rw [zAf (by omega)]; rfl) | (rw [zAp (by omega)]; rfl) | (rw [kU (by omega)]; rfl) | (rw [kV ho h10]; rfl) | (rw [zAo ho h10 c12]; rfl) | (rw [zAe ho h10 c12]; rfl),[_],rfl⟩
           ·try simp only [sx] at c12
            refine zJ<|sReg rfl<|rMv rfl<|rMv rfl<|zA rfl (yU 0 rfl wH rfl rfl)<|zA rfl (yD rfl rfl rfl (by simp only [List.length_map]; exact ⟨by omega,by omega⟩))<|zA rfl (qQ 0 rfl wH rfl rfl rfl (by simp only [List.length_map]; omega) (by simp only [List.length_map]; omega))<|zA rfl (zG rfl yH rfl (kS 0 rfl (hgn 1 (by omega) (by omega) _ (by simp only [List.length_map]; rfl))) rfl)<|zX rfl rfl (zT rfl sz40 rfl rfl rfl (qH 1 rfl rfl))<|rMv rfl<|zB<|zY _ (Weak.mem [false,true,false,true,true,true,true] rfl)<|zI<|fin2 (qG yH rfl (zF 0 rfl) rfl) (rs_c rfl) ?_
            exact ⟨by rw [hT]; first | (rw [zAg (by omega)]; rfl) | (rw [zAq (by omega)]; rfl) | (rw [zAf (by omega)]; rfl) | (rw [zAp (by omega)]; rfl) | (rw [kU (by omega)]; rfl) | (rw [kV ho h10]; rfl) | (rw [zAo ho h10 c12]; rfl) | (rw [zAe ho h10 c12]; rfl),[_],rfl⟩
        ·try simp only [sx] at c9
         refine zU rfl<|zA rfl (qF rfl rfl rfl)<|rMv rfl<|zB<|zH rfl (fun c10 => ?_) (fun c10 => ?_)
         ·try simp only [sx] at c10
          refine sReg rfl<|zA rfl (qV rfl zr40 pl40 rfl)<|zX rfl rfl (zT rfl sz40 rfl rfl rfl (qH 1 rfl rfl))<|rMv rfl<|zB<|zY _ (Weak.mem [false,true,false,true,true,true,true] rfl)<|zI<|fin2 (qG yH rfl (zF 0 rfl) rfl) (rs_c rfl) ?_
          exact ⟨by rw [hT]; first | (rw [zAg (by omega)]; rfl) | (rw [zAq (by omega)]; rfl) | (rw [zAf (by omega)]; rfl) | (rw [zAp (by omega)]; rfl) | (rw [kU (by omega)]; rfl) | (rw [kV ho h10]; rfl) | (rw [zAo ho h10 c12]; rfl) | (rw [zAe ho h10 c12]; rfl),[_],rfl⟩
         ·try simp only [sx] at c10
          have hlen2 := zEb hpart (by omega)
          have ho : ¬ opLow e.Op:= by unfold opLow; omega
          refine zJ<|zK<|zK<|yC 13 mixed (by kernel_rfl) rfl rfl<|zM rfl rfl (zN rfl rfl)<|zM rfl rfl (zN rfl rfl)<|zM rfl rfl (yU 0 rfl wH rfl rfl)<|zM rfl rfl (yD rfl rfl rfl (by simp only [List.length_map]; exact ⟨by omega,by omega⟩))<|zM rfl rfl (qQ 0 rfl wH rfl rfl rfl (by simp only [List.length_map]; omega) (by simp only [List.length_map]; omega))<|zM rfl rfl (zG rfl yH rfl (kS 0 rfl (hgn 2 (by omega) (by omega) _ (by simp only [List.length_map]; rfl))) rfl)<|zM rfl rfl (zN rfl rfl)<|zM rfl rfl (zN rfl rfl)<|zM rfl rfl (yU 0 rfl wH rfl rfl)<|zM rfl rfl (yD rfl rfl rfl (by simp only [List.length_map]; exact ⟨by omega,by omega⟩))<|zM rfl rfl (qQ 0 rfl wH rfl rfl rfl (by simp only [List.length_map]; omega) (by simp only [List.length_map]; omega))<|zM rfl rfl (zG rfl yH rfl (kS 0 rfl (hgn 1 (by omega) (by omega) _ (by simp only [List.length_map]; rfl))) rfl)<|zM rfl rfl (wV rfl fl40 rfl rfl rfl)<|kA<|zB<|zH rfl (fun c11 => ?_) (fun c11 => ?_)
          ·have h10 := zEf c11
           refine sReg rfl<|zA rfl (qV rfl zr40 pl40 rfl)<|zX rfl rfl (zT rfl sz40 rfl rfl rfl (qH 1 rfl rfl))<|rMv rfl<|zB<|zY _ (Weak.mem [false,true,false,true,true,true,true] rfl)<|zI<|fin2 (qG yH rfl (zF 0 rfl) rfl) (rs_c rfl) ?_
           exact ⟨by rw [hT]; first | (rw [zAg (by omega)]; rfl) | (rw [zAq (by omega)]; rfl) | (rw [zAf (by omega)]; rfl) | (rw [zAp (by omega)]; rfl) | (rw [kU (by omega)]; rfl) | (rw [kV ho h10]; rfl) | (rw [zAo ho h10 c12]; rfl) | (rw [zAe ho h10 c12]; rfl),[_],rfl⟩
          ·have h10 := zEg c11
           refine zJ<|zK<|sReg rfl<|zA rfl (zG rfl yS rfl (zF 2 rfl) rfl)<|zA rfl (zP rfl ok164 (kJ e) ⟨zE,rfl,trivial⟩)<|zB<|zH rfl (fun c12 => ?_) (fun c12 => ?_)
           ·try simp only [sx] at c12
            refine sReg rfl<|zA rfl (qV rfl zr40 pl40 rfl)<|zX rfl rfl (zT rfl sz40 rfl rfl rfl (qH 1 rfl rfl))<|rMv rfl<|zB<|zY _ (Weak.mem [false,true,false,true,true,true,true] rfl)<|zI<|fin2 (qG yH rfl (zF 0 rfl) rfl) (rs_c rfl) ?_
            exact ⟨by rw [hT]; first | (rw [zAg (by omega)]; rfl) | (rw [zAq (by omega)]; rfl) | (rw [zAf (by omega)]; rfl) | (rw [zAp (by omega)]; rfl) | (rw [kU (by omega)]; rfl) | (rw [kV ho h10]; rfl) | (rw [zAo ho h10 c12]; rfl) | (rw [zAe ho h10 c12]; rfl),[_],rfl⟩
           ·try simp only [sx] at c12
            refine zJ<|sReg rfl<|rMv rfl<|rMv rfl<|zA rfl (yU 0 rfl wH rfl rfl)<|zA rfl (yD rfl rfl rfl (by simp only [List.length_map]; exact ⟨by omega,by omega⟩))<|zA rfl (qQ 0 rfl wH rfl rfl rfl (by simp only [List.length_map]; omega) (by simp only [List.length_map]; omega))<|zA rfl (zG rfl yH rfl (kS 0 rfl (hgn 1 (by omega) (by omega) _ (by simp only [List.length_map]; rfl))) rfl)<|zX rfl rfl (zT rfl sz40 rfl rfl rfl (qH 1 rfl rfl))<|rMv rfl<|zB<|zY _ (Weak.mem [false,true,false,true,true,true,true] rfl)<|zI<|fin2 (qG yH rfl (zF 0 rfl) rfl) (rs_c rfl) ?_
            exact ⟨by rw [hT]; first | (rw [zAg (by omega)]; rfl) | (rw [zAq (by omega)]; rfl) | (rw [zAf (by omega)]; rfl) | (rw [zAp (by omega)]; rfl) | (rw [kU (by omega)]; rfl) | (rw [kV ho h10]; rfl) | (rw [zAo ho h10 c12]; rfl) | (rw [zAe ho h10 c12]; rfl),[_],rfl⟩
theorem ck_typeOf (b : Nat) (svL svS svP : Value) (n : Ns) (U S : List ByteArray) (W : List Int)  (e : Ex) (hn : n.Ok) (hpart : partE e = 0) (he : e.wt ≤ 1073741824) : Con cfg 194 [vP b,vE e] (ckN b svL svS svP n U S W) fun r μ' => r = .tup [vTy (nodeT (tyF n.Bufs) e).1,vI (nodeT (tyF n.Bufs) e).2] ∧ μ' = ckN b svL svS svP n U S W:= by
  induction e using Ex.ind with
  | _ e ih => exact ck_typeOf_step b svL svS svP n U S W hn e (fun a ha h1 h2 => ih a ha h1 h2) hpart he
theorem zFf (b : Nat) (svL svS svP : Value) (n : Ns) (U S : List ByteArray) (W : List Int) (e : Ex) (hn : n.Ok) (hS : S.length ≤ 1000000) (he : e.wt ≤ 1000000000) :
    Con cfg 163 [vP b,vE e] (ckN b svL svS svP n U S W) fun r μ' => r = .tup [vTy (exprT n.Bufs S e).1,vI (exprT n.Bufs S e).2] ∧ μ' = ckN b svL svS svP n U S W:= by
 refine Con.drop<|zV Tryz.func163 rfl Tryz.ntmps163 Tryz.results163 rfl ?_
 intro z hz
 refine sReg rfl<|qA rfl rfl (qL rfl rfl) ?_
 rintro _ _ ⟨b1,rfl,rfl⟩
 refine yK _ (yQ 0 rfl 2 _ PLe.ptr)<|qA rfl rfl (qL rfl rfl) ?_
 rintro _ _ ⟨b2,rfl,rfl⟩
 refine qA rfl rfl (yJ rfl zr40) ?_
 rintro _ _ ⟨b3,rfl,rfl⟩
 refine qA rfl rfl (yJ rfl zr29) ?_
 rintro _ _ ⟨b4,rfl,rfl⟩
 refine zB<|zK<|sReg rfl<|zA rfl (zG rfl yS rfl (zF 2 rfl) rfl)<|zA rfl (zP rfl ok192 (expr_Validate e (by omega)) ⟨zE,rfl,trivial⟩)<|rMv rfl<|zB<|sReg rfl<|rMv rfl<|zA rfl (qR rfl rfl rfl)<|zB<|zH rfl (fun c1 => ?_) (fun c1 => ?_)
 ·try simp only [sx] at c1
  refine sReg rfl<|zA rfl (qV rfl zr40 pl40 rfl)<|rMv rfl<|zX rfl rfl (zT rfl sz40 rfl rfl rfl (qH 1 rfl rfl))<|zX rfl rfl (zT rfl sz29 rfl rfl rfl (qH 0 rfl rfl))<|zB<|zY _ (Weak.mem [true,true,false,true,true,true,true] rfl)<|zI<|fin2 (qG yH rfl (zF 1 rfl) rfl) (kL zGi rfl (zF 0 rfl) rfl) ?_
  exact ⟨by rw [exprT_1 c1]; rfl,[_,_],rfl⟩
 ·try simp only [sx] at c1
  refine zJ<|zK<|sReg rfl<|zA rfl (zG rfl yS rfl (zF 2 rfl) rfl)<|zA rfl (zP rfl ok130 (zKn _) ⟨zE,rfl,trivial⟩)<|zB<|zS<|zFh (ps := [17]) hz 2 rfl rfl ok167 (zJf e (by omega)) (fun _ _ => rfl) rfl (fun pre => nodesN n.Bufs S pre = 0) (fun pre => [E.row b4 29 [cI 0],E.row b3 40 [cI 0,cI 0,cI 0,cI 0,cI 0]]) (fun c pre => (c = .ret ∧ ¬ nodesN n.Bufs S pre = 0)) (fun c pre => [E.row b4 29 [cI (nodesN n.Bufs S pre)],E.row b3 40 [cI 0,cI 0,cI 0,cI 0,cI 0]]) ⟨rfl,rfl⟩ ?_ ?_ ?_ ?_
  ·intro pre x suf hxs hi z hz
   have hxw : x.wt ≤ e.wt := zCn e x (by rw [hxs]; simp)
   refine zU rfl<|qA rfl rfl (qO [none,none,none,none,none,none,none,none,none,none,some 2,some 4,some 13] rfl zr52 rfl) ?_
   rintro _ _ ⟨b5,rfl,rfl⟩
   refine zX rfl rfl (zT rfl sz52 rfl rfl rfl (qH 0 rfl rfl))<|zB ?_
   intro z hz
   refine zS<|sReg rfl<|zA rfl (zD rfl zMs rfl qC rfl)<|zA rfl (zG rfl yS rfl (zF 0 rfl) rfl)<|zA rfl (kD [4,4,4,4] rfl ok193 (ck_node b svL svS svP n U S W x hn hS (by omega)) ⟨zE,rfl,zE,rfl,trivial⟩ rfl)<|rMv rfl<|zB<|sReg rfl<|rMv rfl<|zA rfl (qR rfl rfl rfl)<|zB<|zH rfl (fun c2 => ?_) (fun c2 => ?_)
   ·try simp only [sx] at c2
    refine sReg rfl<|zA rfl (qV rfl zr40 pl40 rfl)<|rMv rfl<|zX rfl rfl (zT rfl sz40 rfl rfl rfl (qH 2 rfl rfl))<|zX rfl rfl (zT rfl sz29 rfl rfl rfl (qH 1 rfl rfl))<|zB<|zI ?_
    exact zAs (τ := ⟨[],_⟩) (Weak.mk [false,true,true,true,true,true,true,true] trivial rfl) ⟨⟨rfl,by rw [zLq hi]; exact c2⟩,(by dsimp only; rw [zLq hi]; rfl)⟩
   ·try simp only [sx] at c2
    refine zJ ?_
    exact zAs (τ := ⟨[],_⟩) (Weak.mk [false,true,true,true,true,true,true,true] trivial rfl) ⟨(by dsimp only; rw [zLq hi]; exact c2),rfl⟩
  ·intro hd
   refine sReg rfl<|zA rfl (zD rfl zMs rfl qC rfl)<|zA rfl (zG rfl yS rfl (zF 2 rfl) rfl)<|zA rfl (kD [3,3,3,3] rfl ok194 (ck_typeOf b svL svS svP n U S W e hn (zDl c1) (by omega)) ⟨zE,rfl,zE,rfl,trivial⟩ rfl)<|zA rfl (yF rfl rfl rfl)<|zA rfl (qU rfl rfl rfl)<|zX rfl rfl (zT rfl sz40 rfl rfl rfl (qH 1 rfl rfl))<|zX rfl rfl (zT rfl sz29 rfl rfl rfl (qH 0 rfl rfl))<|zB<|zY _ (Weak.mem [true,true,false,true,true,true,true] rfl)<|zI<|fin2 (qG yH rfl (zF 1 rfl) rfl) (kL zGi rfl (zF 0 rfl) rfl) ?_
   exact ⟨by rw [zRh c1 hd]; rfl,[_,_],rfl⟩
  ·rintro pre x suf hxs hx
   rcases hx with ⟨hc,hx⟩
   clear hc
   repeat (first | refine zOw ?_ | refine zMl ?_)
   refine fin2 (qG yH rfl (zF 1 rfl) rfl) (kL zGi rfl (zF 0 rfl) rfl) ?_
   exact ⟨by rw [exprT_2 c1 (by rw [hxs,nodesN_pre hx]; exact hx),hxs,nodesN_pre (suf := suf) hx]; rfl,[_,_,_],rfl⟩
  ·rintro i pre x suf hxs hx
   rcases hx with ⟨hc,hx⟩
   cases hc
theorem ck_store (b : Nat) (svL svS svP : Value) (n : Ns) (U S : List ByteArray) (W : List Int) (s : St) (hn : n.Ok) (hS : S.length ≤ 1000000) (hs : s.wt ≤ 900000000) :
    Con cfg 165 [vP b,vSt s] (ckN b svL svS svP n U S W) fun r μ' => r = vI (storeE n.Bufs S s) ∧ μ' = ckN b svL svS svP n U S W:= by
 refine zV Tryz.func165 rfl Tryz.ntmps165 Tryz.results165 rfl ?_
 intro z hz
 obtain ⟨hE,hI,hIw,hB,hBw⟩ := St.parts hs
 have hrd := rdE_wt s
 refine sReg rfl<|qA rfl rfl (qL rfl rfl) ?_
 rintro _ _ ⟨b1,rfl,rfl⟩
 refine rMv rfl<|zB<|sReg rfl<|rMv rfl<|zA rfl (zC rfl wQ rfl)<|zA rfl (zD rfl one9 rfl (zF 0 rfl) rfl)<|zA rfl (zC rfl zBz rfl)<|zA rfl (zD rfl kM rfl (zF 0 rfl) rfl)<|zA rfl (yW [none,none,none,none,none,none,none,none,none,none,some 2,none,some 13] rfl zr52 pl52 rfl rfl)<|zA rfl (kD [1,1,1,1] rfl ok163 (zFf b svL svS svP n U S W (rdE s) hn hS (by omega)) ⟨zE,rfl,zE,rfl,trivial⟩ rfl)<|zA rfl (qP rfl rfl)<|zA rfl (yF rfl rfl rfl)<|zA rfl (qU rfl rfl rfl)<|qA rfl rfl (yJ rfl zr40) ?_
 rintro _ _ ⟨b2,rfl,rfl⟩
 refine zX rfl rfl (zT rfl sz40 rfl rfl rfl (qH 0 rfl rfl))<|rMv rfl<|zB<|zK<|sReg rfl<|rMv rfl<|zA rfl (qR rfl rfl rfl)<|zB<|zH rfl (fun c1 => ?_) (fun c1 => ?_)
 ·try simp only [sx] at c1
  refine sReg rfl<|rMv rfl<|rMv rfl<|zB<|zY _ (Weak.mem [false,false,true,true,true,true] rfl)<|zI<|zQ rfl ?_
  exact ⟨by rw [zNp c1],rfl⟩
 ·try simp only [sx] at c1
  have hT := exprT_rd c1
  refine zJ<|zK<|zK<|yZ 12 1 [⟨0,.q []⟩,⟨1,.q []⟩,⟨2,.q []⟩,⟨3,.q [3]⟩,⟨4,.q []⟩,⟨5,.q [2]⟩,⟨6,.q []⟩,⟨7,.q []⟩,⟨8,.q []⟩,⟨9,.q []⟩,⟨10,.e 0 []⟩,⟨11,.e 0 []⟩] mixed (by kernel_rfl) (by kernel_rfl) rfl rfl rfl<|zW rfl<|zW rfl<|zW rfl<|zW rfl<|zW rfl<|zW rfl<|zW rfl<|zW rfl<|zW rfl<|zW rfl<|zW rfl<|zW rfl<|zAl<|qD rfl (by decide) rfl rfl (zN rfl rfl)<|qD rfl (by decide) rfl rfl (qW rfl rfl)<|qD rfl (by decide) rfl rfl (zC rfl zMc rfl)<|qD rfl (by decide) rfl rfl (zG rfl wM rfl (zF 0 rfl) rfl)<|qD rfl (by decide) rfl rfl (zC rfl wQ rfl)<|qD rfl (by decide) rfl rfl (zD rfl one9 rfl (zF 0 rfl) rfl)<|qD rfl (by decide) rfl rfl (zP rfl ok29 (wN n s.Name hn) ⟨zE,rfl,zE,rfl,trivial⟩)<|qD rfl (by decide) rfl rfl (qP rfl rfl)<|qD rfl (by decide) rfl rfl (yF rfl rfl rfl)<|qD rfl (by decide) rfl rfl (qU rfl rfl rfl)<|zIp rfl rfl (by decide) rfl rfl (qO [none,none,none,none,none,none,some 1,none] rfl zr42 rfl) ?_
  rintro _ _ ⟨b3,rfl,rfl⟩
  refine ⟨_,rfl,?_⟩
  refine zFy rfl rfl (by decide) rfl rfl (zT rfl sz42 rfl rfl rfl (qH 0 rfl rfl)) ?_
  rintro _ _ ⟨rfl,rfl⟩
  refine ⟨_,rfl,?_⟩
  refine zAk rfl<|rMv rfl<|zB<|sReg rfl<|zA rfl (zC rfl zRb rfl)<|zA rfl (zD rfl one3 rfl (zF 0 rfl) rfl)<|zA rfl (qF rfl rfl rfl)<|zB<|zH rfl (fun c2 => ?_) (fun c2 => ?_)
  ·try simp only [sx] at c2
   refine sReg rfl<|rMv rfl<|zB<|zY _ (Weak.mem [false,false,false,true,true,true,true] rfl)<|zI<|zQ rfl ?_
   exact ⟨by rw [zJn c1 (.inl c2)],rfl⟩
  ·try simp only [sx] at c2
   refine zJ<|zK<|sReg rfl<|zA rfl (zC rfl zAc rfl)<|zA rfl (zD rfl one3 rfl (zF 2 rfl) rfl)<|zA rfl (qF rfl rfl rfl)<|rMv rfl<|rLz [] rfl gv1 trivial (fun g7_3 => zC rfl zMw rfl) rfl<|rLz [(40,_)] rfl gv1 ⟨rfl,rfl,trivial⟩ (fun g7_3 => zD rfl one3 rfl (zF 2 rfl) rfl) rfl<|rLz [(41,_)] rfl gv1 ⟨rfl,rfl,trivial⟩ (fun g7_3 => qM rfl rfl rfl) rfl<|rLz [(42,_)] rfl gv1 ⟨rfl,rfl,trivial⟩ (fun g7_3 => zN rfl rfl) rfl<|rLz [] rfl gv2 trivial (fun g7_7 => zC rfl zMw rfl) rfl<|rLz [(44,_)] rfl gv2 ⟨rfl,rfl,trivial⟩ (fun g7_7 => zD rfl one3 rfl (zF 2 rfl) rfl) rfl<|rLz [(45,_)] rfl gv2 ⟨rfl,rfl,trivial⟩ (fun g7_7 => yA rfl rfl rfl) rfl<|rLz [(43,_)] rfl gv1 ⟨rfl,rfl,trivial⟩ (fun g7_3 => yB rfl rfl rfl rfl (fun h => yV (by assumption) (lzf h))) rfl<|zA rfl (qK rfl rfl rfl (fun h => h) rfl)<|zB<|zH rfl (fun c3 => ?_) (fun c3 => ?_)
   ·try simp only [sx] at c3
    refine sReg rfl<|rMv rfl<|zB<|zY _ (Weak.mem [false,false,false,true,true,true,true] rfl)<|zI<|zQ rfl ?_
    exact ⟨by rw [zJn c1 (.inr c3)],rfl⟩
   ·try simp only [sx] at c3
    refine zJ<|sReg rfl<|rMv rfl<|zA rfl (zC rfl zAv rfl)<|zA rfl (zG rfl yS rfl (zF 2 rfl) rfl)<|zA rfl (kD [3,3,3,3] rfl ok163 (zFf b svL svS svP n U S W s.E hn hS (by omega)) ⟨zE,rfl,zE,rfl,trivial⟩ rfl)<|zA rfl (qP rfl rfl)<|zA rfl (yF rfl rfl rfl)<|zA rfl (qU rfl rfl rfl)<|qA rfl rfl (yJ rfl zr40) ?_
    rintro _ _ ⟨b4,rfl,rfl⟩
    refine zX rfl rfl (zT rfl sz40 rfl rfl rfl (qH 0 rfl rfl))<|rMv rfl<|zB<|zK<|sReg rfl<|rMv rfl<|zA rfl (qR rfl rfl rfl)<|zB<|zH rfl (fun c4 => ?_) (fun c4 => ?_)
    ·try simp only [sx] at c4
     refine sReg rfl<|rMv rfl<|rMv rfl<|zB<|zY _ (Weak.mem [false,false,false,false,true,true,true,true] rfl)<|zI<|zQ rfl ?_
     exact ⟨by rw [zNo c1 (by omega) c4],rfl⟩
    ·try simp only [sx] at c4
     refine zJ<|zK<|sReg rfl<|zA rfl (zC rfl zAv rfl)<|zA rfl (zG rfl yS rfl (zF 3 rfl) rfl)<|zA rfl (zP rfl ok164 (kJ s.E) ⟨zE,rfl,trivial⟩)<|rMv rfl<|rLz [] rfl gv1 trivial (fun g12_3 => zG rfl yH rfl (zF 0 rfl) rfl) rfl<|rLz [] rfl gv1 trivial (fun g12_3 => zG rfl yH rfl (zF 2 rfl) rfl) rfl<|rLz [(63,_),(64,_)] rfl gv1 ⟨rfl,rfl,rfl,rfl,trivial⟩ (fun g12_3 => wV rfl fl40 rfl rfl rfl) rfl<|zA rfl (yB rfl rfl rfl rfl (fun h => (lzf h)))<|zB<|zH rfl (fun c5 => ?_) (fun c5 => ?_)
     ·have h10 := st10_t c5
      rw [hT] at h10
      refine sReg rfl<|rMv rfl<|zB<|zY _ (Weak.mem [false,false,false,false,true,true,true,true] rfl)<|zI<|zQ rfl ?_
      exact ⟨by rw [zOy c1 (by omega) c4 h10],rfl⟩
     ·have h10 := st10_f c5
      rw [hT] at h10
      refine zJ<|sReg rfl<|rMv rfl<|zB<|zY _ (Weak.mem [false,false,false,false,true,true,true,true] rfl)<|zI<|zQ rfl ?_
      exact ⟨by rw [storeE_0 c1 (by omega) c4 h10],rfl⟩
theorem ck_loop (b : Nat) (svL svS svP : Value) (n : Ns) (U S : List ByteArray) (W : List Int) (s : St) (hn : n.Ok) (hU : U.length ≤ 1000000) :
    Con cfg 162 [vP b,vSt s] (ckN b svL svS svP n U S W) fun r μ' => r = vI (loopE n.Bufs U s) ∧ μ' = ckN b svL svS svP n U S W:= by
 refine zV Tryz.func162 rfl Tryz.ntmps162 Tryz.results162 rfl ?_
 intro z hz
 refine sReg rfl<|qA rfl rfl (qL rfl rfl) ?_
 rintro _ _ ⟨b1,rfl,rfl⟩
 refine rMv rfl<|zB<|zK<|sReg rfl<|zA rfl (zC rfl wQ rfl)<|zA rfl (zD rfl one9 rfl (zF 0 rfl) rfl)<|zA rfl (zP rfl ok66 (zDb _) ⟨zE,rfl,trivial⟩)<|zA rfl (qT rfl rfl)<|zB<|zH rfl (fun c1 => ?_) (fun c1 => ?_)
 ·try simp only [sx] at c1
  refine sReg rfl<|rMv rfl<|zB<|zY _ (Weak.mem [false,true,true,true,true] rfl)<|zI<|zQ rfl ?_
  exact ⟨by rw [loopE_7 c1],rfl⟩
 ·try simp only [sx] at c1
  refine zJ<|zK<|zK<|yZ 12 1 [⟨0,.q []⟩,⟨1,.q []⟩,⟨2,.q []⟩,⟨3,.q [2]⟩,⟨4,.q []⟩,⟨5,.q [1]⟩,⟨6,.q []⟩,⟨7,.q []⟩,⟨8,.q []⟩,⟨9,.q []⟩,⟨10,.e 0 []⟩,⟨11,.e 0 []⟩] mixed (by kernel_rfl) (by kernel_rfl) rfl rfl rfl<|zW rfl<|zW rfl<|zW rfl<|zW rfl<|zW rfl<|zW rfl<|zW rfl<|zW rfl<|zW rfl<|zW rfl<|zW rfl<|zW rfl<|zAl<|qD rfl (by decide) rfl rfl (zN rfl rfl)<|qD rfl (by decide) rfl rfl (qW rfl rfl)<|qD rfl (by decide) rfl rfl (zC rfl zMc rfl)<|qD rfl (by decide) rfl rfl (zG rfl wM rfl (zF 0 rfl) rfl)<|qD rfl (by decide) rfl rfl (zC rfl wQ rfl)<|qD rfl (by decide) rfl rfl (zD rfl one9 rfl (zF 0 rfl) rfl)<|qD rfl (by decide) rfl rfl (zP rfl ok29 (wN n s.Name hn) ⟨zE,rfl,zE,rfl,trivial⟩)<|qD rfl (by decide) rfl rfl (qP rfl rfl)<|qD rfl (by decide) rfl rfl (yF rfl rfl rfl)<|qD rfl (by decide) rfl rfl (qU rfl rfl rfl)<|zIp rfl rfl (by decide) rfl rfl (qO [none,none,none,none,none,none,some 1,none] rfl zr42 rfl) ?_
  rintro _ _ ⟨b2,rfl,rfl⟩
  refine ⟨_,rfl,?_⟩
  refine zFy rfl rfl (by decide) rfl rfl (zT rfl sz42 rfl rfl rfl (qH 0 rfl rfl)) ?_
  rintro _ _ ⟨rfl,rfl⟩
  refine ⟨_,rfl,?_⟩
  refine zAk rfl<|rMv rfl<|zB<|zK<|yC 10 mixed (by kernel_rfl) rfl rfl<|zM rfl rfl (zN rfl rfl)<|zM rfl rfl (zN rfl rfl)<|qJ [] rfl rfl rfl rfl gv1 trivial (fun g4_1 => zN rfl rfl) rfl<|qJ [(23,_)] rfl rfl rfl rfl gv1 ⟨rfl,rfl,trivial⟩ (fun g4_1 => qW rfl rfl) rfl<|qJ [(24,_)] rfl rfl rfl rfl gv1 ⟨rfl,rfl,trivial⟩ (fun g4_1 => zC rfl fd118_1 rfl) rfl<|qJ [(25,_)] rfl rfl rfl rfl gv1 ⟨rfl,rfl,trivial⟩ (fun g4_1 => zD rfl zLo rfl (zF 2 rfl) rfl) rfl<|qJ [] rfl rfl rfl rfl gv1 trivial (fun g4_1 => zC rfl wQ rfl) rfl<|qJ [(27,_)] rfl rfl rfl rfl gv1 ⟨rfl,rfl,trivial⟩ (fun g4_1 => zD rfl one9 rfl (zF 1 rfl) rfl) rfl<|qJ [(26,_),(28,_)] rfl rfl rfl rfl gv1 ⟨rfl,rfl,rfl,rfl,trivial⟩ (fun g4_1 => zKq 3 rfl ok156 rfl (zBa U s.Name hU) rfl ⟨.inl ⟨rfl,rfl⟩,.inr ⟨zE,rfl⟩,trivial⟩) rfl<|zM rfl rfl (yB rfl rfl rfl rfl (fun h => (lzf h)))<|kA<|zB<|zH rfl (fun c2 => ?_) (fun c2 => ?_)
  ·try simp only [sx] at c2
   refine sReg rfl<|rMv rfl<|zB<|zY _ (Weak.mem [false,false,true,true,true,true] rfl)<|zI<|zQ rfl ?_
   exact ⟨by rw [loopE_8 c1 c2],rfl⟩
  ·try simp only [sx] at c2
   have h8 : ¬ (hasBf n.Bufs s.Name = true ∨ hasB U s.Name = true):= by rw [c2.1,c2.2]; simp
   refine zJ<|zK<|sReg rfl<|zA rfl (zC rfl zIh rfl)<|zA rfl (zD rfl one3 rfl (zF 1 rfl) rfl)<|zA rfl (qM rfl rfl rfl)<|rMv rfl<|rLz [] rfl gv1 trivial (fun g6_3 => zC rfl zIh rfl) rfl<|rLz [(35,_)] rfl gv1 ⟨rfl,rfl,trivial⟩ (fun g6_3 => zD rfl one3 rfl (zF 1 rfl) rfl) rfl<|rLz [(36,_)] rfl gv1 ⟨rfl,rfl,trivial⟩ (fun g6_3 => yA rfl rfl rfl) rfl<|zA rfl (yB rfl rfl rfl rfl (fun h => (lzf h)))<|rMv rfl<|rLz [] rfl gv1 trivial (fun g6_8 => zC rfl zMx rfl) rfl<|rLz [(40,_)] rfl gv1 ⟨rfl,rfl,trivial⟩ (fun g6_8 => zD rfl one3 rfl (zF 1 rfl) rfl) rfl<|rLz [(41,_)] rfl gv1 ⟨rfl,rfl,trivial⟩ (fun g6_8 => qM rfl rfl rfl) rfl<|zA rfl (yB rfl rfl rfl rfl (fun h => (lzf h)))<|rMv rfl<|rLz [] rfl gv1 trivial (fun g6_13 => zC rfl zMx rfl) rfl<|rLz [(45,_)] rfl gv1 ⟨rfl,rfl,trivial⟩ (fun g6_13 => zD rfl one3 rfl (zF 1 rfl) rfl) rfl<|rLz [(46,_)] rfl gv1 ⟨rfl,rfl,trivial⟩ (fun g6_13 => yA rfl rfl rfl) rfl<|zA rfl (yB rfl rfl rfl rfl (fun h => (lzf h)))<|zB<|zH rfl (fun c3 => ?_) (fun c3 => ?_)
   ·try simp only [sx] at c3
    refine sReg rfl<|rMv rfl<|zB<|zY _ (Weak.mem [false,false,true,true,true,true] rfl)<|zI<|zQ rfl ?_
    exact ⟨by rw [loopE_1 c1 h8 (by omega)],rfl⟩
   ·try simp only [sx] at c3
    refine zJ<|sReg rfl<|rMv rfl<|zB<|zY _ (Weak.mem [false,false,true,true,true,true] rfl)<|zI<|zQ rfl ?_
    exact ⟨by rw [loopE_0 c1 h8 (by omega)],rfl⟩
theorem zQn (e : Ex) (he : e.wt ≤ 4294967296) :
    Pur cfg 191 [vE e] (vB (emptyE e)):= by
 refine zV Tryz.func191 rfl Tryz.ntmps191 Tryz.results191 rfl ?_
 intro z hz
 refine sReg rfl<|qA rfl rfl (qL rfl rfl) ?_
 rintro _ _ ⟨b1,rfl,rfl⟩
 refine rMv rfl<|zB<|sReg rfl<|zA rfl (zG rfl yS rfl (zF 0 rfl) rfl)<|zA rfl (yW [none,none,none,none,none,none,none,none,none,none,some 2,some 4,some 13] rfl zr52 pl52 rfl rfl)<|zA rfl (zP rfl ok150 (expr_Same e zEx he (by decide)) ⟨zE,rfl,zE,rfl,trivial⟩)<|rMv rfl<|zB<|zI<|zQ rfl ?_
 exact rfl
theorem zQm (s : St) (hs : s.wt ≤ 900000000) :
    Pur cfg 161 [vSt s] (vB (synSt s)):= by
 refine zV Tryz.func161 rfl Tryz.ntmps161 Tryz.results161 rfl ?_
 intro z hz
 obtain ⟨hE,hI,hIw,hB,hBw⟩ := St.parts hs
 refine sReg rfl<|qA rfl rfl (qL rfl rfl) ?_
 rintro _ _ ⟨b1,rfl,rfl⟩
 refine rMv rfl<|zB<|zK<|yC 17 mixed (by kernel_rfl) rfl rfl<|zM rfl rfl (zC rfl zAc rfl)<|zM rfl rfl (zD rfl one3 rfl (zF 0 rfl) rfl)<|zM rfl rfl (qF rfl rfl rfl)<|zM rfl rfl (zC rfl zAc rfl)<|zM rfl rfl (zD rfl one3 rfl (zF 0 rfl) rfl)<|zM rfl rfl (qF rfl rfl rfl)<|zM rfl rfl (zN rfl rfl)<|qJ [] rfl rfl rfl rfl gv1 trivial (fun g1_6 => zC rfl zAc rfl) rfl<|qJ [(13,_)] rfl rfl rfl rfl gv1 ⟨rfl,rfl,trivial⟩ (fun g1_6 => zD rfl one3 rfl (zF 0 rfl) rfl) rfl<|qJ [(14,_)] rfl rfl rfl rfl gv1 ⟨rfl,rfl,trivial⟩ (fun g1_6 => qF rfl rfl rfl) rfl<|zM rfl rfl (yB rfl rfl rfl rfl (fun h => (lzf h)))<|zM rfl rfl (zC rfl zAc rfl)<|zM rfl rfl (zD rfl one3 rfl (zF 0 rfl) rfl)<|zM rfl rfl (qF rfl rfl rfl)<|zM rfl rfl (yG rfl rfl)<|zM rfl rfl (yG rfl rfl)<|zM rfl rfl (yG rfl rfl)<|kA<|zB<|zK<|zS<|sReg rfl<|rMv rfl<|zA rfl (qT rfl rfl)<|rMv rfl<|rLz [] rfl gv1 trivial (fun g2_2 => zN rfl rfl) rfl<|rLz [(24,_)] rfl gv1 ⟨rfl,rfl,trivial⟩ (fun g2_2 => qT rfl rfl) rfl<|zA rfl (qK rfl rfl rfl (fun h => h) rfl)<|rMv rfl<|rLz [] rfl gv1 trivial (fun g2_6 => zN rfl rfl) rfl<|rLz [(28,_)] rfl gv1 ⟨rfl,rfl,trivial⟩ (fun g2_6 => qT rfl rfl) rfl<|zA rfl (qK rfl rfl rfl (fun h => h) rfl)<|rMv rfl<|zB<|zH rfl (fun c1 => ?_) (fun c1 => ?_)
 ·refine sReg rfl<|rMv rfl<|zB<|zI<|zQ rfl ?_
  exact congrArg vB (syn_1 c1)
 ·refine sReg rfl<|rMv rfl<|rMv rfl<|rLz [] rfl gv1 trivial (fun g4_1 => zC rfl wQ rfl) rfl<|rLz [(34,_)] rfl gv1 ⟨rfl,rfl,trivial⟩ (fun g4_1 => zD rfl one9 rfl (zF 0 rfl) rfl) rfl<|rLz [(35,_)] rfl gv1 ⟨rfl,rfl,trivial⟩ (fun g4_1 => zCd rfl rfl rfl) rfl<|zA rfl (qK rfl rfl rfl (fun h => h) rfl)<|rMv rfl<|zB<|zH rfl (fun c2 => ?_) (fun c2 => ?_)
  ·refine sReg rfl<|rMv rfl<|zB<|zI<|zQ rfl ?_
   exact congrArg vB (syn_2 c2)
  ·refine sReg rfl<|rMv rfl<|zA rfl (qT rfl rfl)<|rMv rfl<|rLz [] rfl gv1 trivial (fun g6_2 => zC rfl zIh rfl) rfl<|rLz [(42,_)] rfl gv1 ⟨rfl,rfl,trivial⟩ (fun g6_2 => zD rfl one3 rfl (zF 0 rfl) rfl) rfl<|rLz [(43,_)] rfl gv1 ⟨rfl,rfl,trivial⟩ (fun g6_2 => qR rfl rfl rfl) rfl<|rLz [(44,_)] rfl gv1 ⟨rfl,rfl,trivial⟩ (fun g6_2 => zN rfl rfl) rfl<|rLz [] rfl gv2 trivial (fun g6_6 => zC rfl zMx rfl) rfl<|rLz [(46,_)] rfl gv2 ⟨rfl,rfl,trivial⟩ (fun g6_6 => zD rfl one3 rfl (zF 0 rfl) rfl) rfl<|rLz [(47,_)] rfl gv2 ⟨rfl,rfl,trivial⟩ (fun g6_6 => qR rfl rfl rfl) rfl<|rLz [(45,_)] rfl gv1 ⟨rfl,rfl,trivial⟩ (fun g6_2 => yB rfl rfl rfl rfl (fun h => yV (by assumption) (lzf h))) rfl<|zA rfl (qK rfl rfl rfl (fun h => h) rfl)<|rMv rfl<|zB<|zH rfl (fun c3 => ?_) (fun c3 => ?_)
   ·refine sReg rfl<|rMv rfl<|zB<|zI<|zQ rfl ?_
    exact congrArg vB (syn_3 c3)
   ·refine sReg rfl<|zA rfl (zC rfl zAc rfl)<|zA rfl (zD rfl one3 rfl (zF 0 rfl) rfl)<|zA rfl (qR rfl rfl rfl)<|rMv rfl<|rLz [] rfl gv1 trivial (fun g8_3 => zC rfl zMw rfl) rfl<|rLz [(56,_)] rfl gv1 ⟨rfl,rfl,trivial⟩ (fun g8_3 => zD rfl one3 rfl (zF 0 rfl) rfl) rfl<|rLz [(57,_)] rfl gv1 ⟨rfl,rfl,trivial⟩ (fun g8_3 => qR rfl rfl rfl) rfl<|zA rfl (qK rfl rfl rfl (fun h => h) rfl)<|rMv rfl<|zB<|zH rfl (fun c4 => ?_) (fun c4 => ?_)
    ·refine sReg rfl<|rMv rfl<|zB<|zI<|zQ rfl ?_
     exact congrArg vB (syn_4 c4)
    ·refine sReg rfl<|rMv rfl<|zA rfl (qT rfl rfl)<|rMv rfl<|rLz [] rfl gv1 trivial (fun g10_2 => zC rfl zBz rfl) rfl<|rLz [(64,_)] rfl gv1 ⟨rfl,rfl,trivial⟩ (fun g10_2 => zD rfl kM rfl (zF 0 rfl) rfl) rfl<|rLz [(65,_)] rfl gv1 ⟨rfl,rfl,trivial⟩ (fun g10_2 => zR rfl el44 rfl) rfl<|rLz [(66,_)] rfl gv1 ⟨rfl,rfl,trivial⟩ (fun g10_2 => yA rfl rfl rfl) rfl<|zA rfl (qK rfl rfl rfl (fun h => h) rfl)<|rMv rfl<|zB<|zH rfl (fun c5 => ?_) (fun c5 => ?_)
     ·refine sReg rfl<|rMv rfl<|zB<|zI<|zQ rfl ?_
      exact congrArg vB (syn_5 c5)
     ·refine sReg rfl<|rMv rfl<|rMv rfl<|rLz [] rfl gv1 trivial (fun g12_1 => zC rfl zAv rfl) rfl<|rLz [(72,_)] rfl gv1 ⟨rfl,rfl,trivial⟩ (fun g12_1 => zG rfl yS rfl (zF 0 rfl) rfl) rfl<|rLz [(73,_)] rfl gv1 ⟨rfl,rfl,trivial⟩ (fun g12_1 => zP rfl ok191 (zQn s.E (by omega)) ⟨zE,rfl,trivial⟩) rfl<|rLz [(74,_)] rfl gv1 ⟨rfl,rfl,trivial⟩ (fun g12_1 => qT rfl rfl) rfl<|zA rfl (qK rfl rfl rfl (fun h => h) rfl)<|rMv rfl<|zB<|zH rfl (fun c6 => ?_) (fun c6 => ?_)
      ·refine sReg rfl<|rMv rfl<|zB<|zI<|zQ rfl ?_
       exact congrArg vB (syn_6 c6)
      ·refine zJ<|sReg rfl<|rMv rfl<|zA rfl (qT rfl rfl)<|rMv rfl<|rLz [] rfl gv1 trivial (fun g14_2 => zC rfl zAn rfl) rfl<|rLz [(80,_)] rfl gv1 ⟨rfl,rfl,trivial⟩ (fun g14_2 => zD rfl zAa rfl (zF 0 rfl) rfl) rfl<|rLz [(81,_)] rfl gv1 ⟨rfl,rfl,trivial⟩ (fun g14_2 => zR rfl el23 rfl) rfl<|rLz [(82,_)] rfl gv1 ⟨rfl,rfl,trivial⟩ (fun g14_2 => qF rfl rfl rfl) rfl<|zA rfl (yB rfl rfl rfl rfl (fun h => (lzf h)))<|rMv rfl<|zB<|zI<|zQ rfl ?_
       exact congrArg vB (syn_7 c1 c2 c3 c4 c5 c6)
theorem ck_statement (b : Nat) (svL svS svP : Value) (n : Ns) (U S : List ByteArray) (W : List Int) (s : St) (hn : n.Ok) (hS : S.length ≤ 1000000) (hU : U.length ≤ 1000000) (hs : s.wt ≤ 900000000) :
    Con cfg 124 [vP b,vSt s] (ckN b svL svS svP n U S W) fun r μ' => r = vI (stE n.Bufs U S s) ∧ μ' = ckN b svL svS svP n U S W:= by
 refine zV Tryz.func124 rfl Tryz.ntmps124 Tryz.results124 rfl ?_
 intro z hz
 obtain ⟨hE,hI,hIw,hB,hBw⟩ := St.parts hs
 refine sReg rfl<|qA rfl rfl (qL rfl rfl) ?_
 rintro _ _ ⟨b1,rfl,rfl⟩
 refine rMv rfl<|zB<|zK<|sReg rfl<|zA rfl (zG rfl zJd rfl (zF 0 rfl) rfl)<|zA rfl (zP rfl ok161 (zQm s hs) ⟨zE,rfl,trivial⟩)<|zA rfl (qT rfl rfl)<|zB<|zH rfl (fun c1 => ?_) (fun c1 => ?_)
 ·try simp only [sx] at c1
  refine sReg rfl<|rMv rfl<|zB<|zY _ (Weak.mem [false,true,true,true,true] rfl)<|zI<|zQ rfl ?_
  exact ⟨by rw [stE_5 c1],rfl⟩
 ·try simp only [sx] at c1
  refine zJ<|zK<|sReg rfl<|zA rfl (zC rfl zAc rfl)<|zA rfl (zD rfl one3 rfl (zF 0 rfl) rfl)<|zB<|zS<|sReg rfl<|zA rfl (qF rfl rfl rfl)<|rMv rfl<|zB<|zH rfl (fun c2 => ?_) (fun c2 => ?_)
  ·try simp only [sx] at c2
   refine sReg rfl<|rMv rfl<|zA rfl (zG rfl zJd rfl (zF 0 rfl) rfl)<|zA rfl (kD [1,1,1,1] rfl ok162 (ck_loop b svL svS svP n U S W s hn hU) ⟨zE,rfl,zE,rfl,trivial⟩ rfl)<|rMv rfl<|zB<|zY _ (Weak.mem [false,true,true,true,true] rfl)<|zI<|zQ rfl ?_
   exact ⟨by rw [stE_l c1 c2],rfl⟩
  ·try simp only [sx] at c2
   refine sReg rfl<|zA rfl (qF rfl rfl rfl)<|rMv rfl<|zB<|zH rfl (fun c3 => ?_) (fun c3 => ?_)
   ·try simp only [sx] at c3
    refine zK<|sReg rfl<|rMv rfl<|zA rfl (zC rfl zAv rfl)<|zA rfl (zG rfl yS rfl (zF 0 rfl) rfl)<|zA rfl (kD [1,1,1,1] rfl ok163 (zFf b svL svS svP n U S W s.E hn hS (by omega)) ⟨zE,rfl,zE,rfl,trivial⟩ rfl)<|zA rfl (qP rfl rfl)<|zA rfl (yF rfl rfl rfl)<|zA rfl (qU rfl rfl rfl)<|qA rfl rfl (yJ rfl zr40) ?_
    rintro _ _ ⟨b2,rfl,rfl⟩
    refine zX rfl rfl (zT rfl sz40 rfl rfl rfl (qH 0 rfl rfl))<|rMv rfl<|zB<|sReg rfl<|rMv rfl<|zA rfl (qR rfl rfl rfl)<|zB<|zH rfl (fun c4 => ?_) (fun c4 => ?_)
    ·try simp only [sx] at c4
     refine sReg rfl<|rMv rfl<|rMv rfl<|zB<|zY _ (Weak.mem [false,false,true,true,true,true] rfl)<|zI<|zQ rfl ?_
     exact ⟨by rw [stE_i c1 c3,ifE_x c4],rfl⟩
    ·try simp only [sx] at c4
     refine zJ<|zK<|sReg rfl<|zA rfl (zC rfl zAv rfl)<|zA rfl (zG rfl yS rfl (zF 1 rfl) rfl)<|zA rfl (zP rfl ok164 (kJ s.E) ⟨zE,rfl,trivial⟩)<|zA rfl (qT rfl rfl)<|zB<|zH rfl (fun c5 => ?_) (fun c5 => ?_)
     ·try simp only [sx] at c5
      refine sReg rfl<|rMv rfl<|zB<|zY _ (Weak.mem [false,false,true,true,true,true] rfl)<|zI<|zQ rfl ?_
      exact ⟨by rw [stE_i c1 c3,ifE_10 c4 c5],rfl⟩
     ·try simp only [sx] at c5
      refine zJ<|sReg rfl<|rMv rfl<|zB<|zY _ (Weak.mem [false,false,true,true,true,true] rfl)<|zI<|zQ rfl ?_
      exact ⟨by rw [stE_i c1 c3,ifE_0 c4 c5],rfl⟩
   ·try simp only [sx] at c3
    refine zJ<|sReg rfl<|rMv rfl<|zA rfl (zG rfl zJd rfl (zF 0 rfl) rfl)<|zA rfl (kD [1,1,1,1] rfl ok165 (ck_store b svL svS svP n U S W s hn hS hs) ⟨zE,rfl,zE,rfl,trivial⟩ rfl)<|rMv rfl<|zB<|zY _ (Weak.mem [false,true,true,true,true] rfl)<|zI<|zQ rfl ?_
    exact ⟨by rw [stE_s c1 c2 c3],rfl⟩
set_option maxHeartbeats 2000000 in
theorem zDg (b : Nat) (svL svS svP : Value) (n : Ns) (U S : List ByteArray) (W : List Int) (l : List St) (hn : n.Ok) (hU : U.length + stsN l ≤ 1000000) (hS : S.length + stsN l ≤ 1000000) (hW : W.length + stsN l ≤ 1000000) (hl : stsWt l ≤ 536870912) (ih : ∀ s,s ∈ l → ∀ (svL svS svP : Value) (U S : List ByteArray) (W : List Int),U.length + stsN s.Body ≤ 1000000 → S.length + stsN s.Body ≤ 1000000 → W.length + stsN s.Body ≤ 1000000 → Con cfg 71 [vP b,vSts s.Body] (ckN b svL svS svP n U S W) fun r μ' => ∃ svL' svS' svP' U' S' W',r = vI (chkL n.Bufs U S W 0 s.Body).E ∧ ((chkL n.Bufs U S W 0 s.Body).E = 0 → U' = (chkL n.Bufs U S W 0 s.Body).U ∧ S' = S ∧ W' = W) ∧ (¬ (chkL n.Bufs U S W 0 s.Body).E = 0 → W' = (chkL n.Bufs U S W 0 s.Body).W) ∧ μ' = ckN b svL' svS' svP' n U' S' W') :
    Con cfg 71 [vP b,vSts l] (ckN b svL svS svP n U S W) fun r μ' => ∃ svL' svS' svP' U' S' W',r = vI (chkL n.Bufs U S W 0 l).E ∧ ((chkL n.Bufs U S W 0 l).E = 0 → U' = (chkL n.Bufs U S W 0 l).U ∧ S' = S ∧ W' = W) ∧ (¬ (chkL n.Bufs U S W 0 l).E = 0 → W' = (chkL n.Bufs U S W 0 l).W) ∧ μ' = ckN b svL' svS' svP' n U' S' W':= by
 refine zV Tryz.func71 rfl Tryz.ntmps71 Tryz.results71 rfl ?_
 intro z hz
 have hll := wA l
 have hlN := zBt l
 refine sReg rfl<|rMv rfl<|zB<|zK<|sReg rfl<|rMv rfl<|zA rfl (zR rfl el23 rfl)<|rMv rfl<|zB<|zS<|zY ⟨[(12,.c _),(0,.c _),(1,.c _),(11,.c _)],[_,_,_,_]⟩ (Weak.mk [true,true,true,true] ⟨zE,zE,zE,zE,trivial⟩ rfl)<|qI 1 4 rfl rfl (Nat × Value × Value × Value × List ByteArray) (fun ⟨k,vL,vS,vP_,u⟩ => [(12,vI k)]) (fun ⟨k,vL,vS,vP_,u⟩ => [E.row b 118 [.sl 8 (n.Bufs.map Bf.cells),.sl 20 (n.Body.map St.cells),.lit vL,.lit vS,.lit vP_],E.vec vL 9 1 (u.map fun s => [cS s]),E.vec vS 9 1 (S.map fun s => [cS s]),E.vec vP_ 3 1 (W.map fun i => [cI i])]) (fun ⟨k,vL,vS,vP_,u⟩ => k ≤ l.length ∧ (u.length + stsN (l.drop k) ≤ 1000000) ∧ ((chkL n.Bufs U S W 0 l) = chkL n.Bufs u S W k (l.drop k))) (fun ⟨k,vL,vS,vP_,u⟩ => l.length - k) ⟨⟨0,svL,svS,svP,U⟩,⟨by omega,by simpa using hU,rfl⟩,Weak.mk [true,true,true,true] ⟨zE,zE,zE,zE,trivial⟩ rfl⟩ ?_
 rintro ⟨k,vL,vS,vP_,u⟩ ⟨hk,hub,hp⟩
 show AWP _ _ _ _ _ ⟨[(12,vI k)] ++ _,[E.row b 118 [.sl 8 (n.Bufs.map Bf.cells),.sl 20 (n.Body.map St.cells),.lit vL,.lit vS,.lit vP_],E.vec vL 9 1 (u.map fun s => [cS s]),E.vec vS 9 1 (S.map fun s => [cS s]),E.vec vP_ 3 1 (W.map fun i => [cI i])] ++ _⟩
 refine sReg rfl<|zA rfl (qM rfl rfl rfl)<|zB<|zK<|zH rfl (fun c1 => ?_) (fun c1 => ?_)
 ·try simp only [sx] at c1
  obtain ⟨s,hs⟩ := qX l k (by omega)
  have hsw := yY (qE hs)
  have hsb := St.body_wt s
  have hsn := stsN_drop hs
  have hse := zIc s
  have hsm := zJm (qE hs)
  have hcl := chkS_len n.Bufs s u S (W ++ [(k : Int)])
  refine zJ<|zK<|zS<|sReg rfl<|rMv rfl<|rMv rfl<|zB<|sReg rfl<|rMv rfl<|rMv rfl<|zA rfl (zO rfl el23 rfl rfl (by omega) (wW (by assumption)))<|zA rfl (zG rfl zJd rfl qC rfl)<|qA rfl rfl (qO [none,none,none,none,none,some 4,none,none,none,none,none,none,none,none,none,none,some 2,some 4,some 13,some 20] rfl zr54 rfl) ?_
  rintro _ _ ⟨b1,rfl,rfl⟩
  refine zX rfl rfl (zT rfl sz54 rfl rfl rfl (qH 0 rfl rfl))<|zB<|sReg rfl<|rMv rfl<|rMv rfl<|zA rfl (qW rfl rfl)<|zA rfl (zC rfl zEz rfl)<|zA rfl (zD rfl zDp rfl (zF 1 rfl) rfl)<|rMv rfl<|zA rfl (qZ rfl el33 zr3 rfl rfl rfl rfl)<|qA rfl rfl (yI 4 rfl el33 rfl rfl rfl (by simp only [List.length_map,List.length_append,List.length_cons,List.length_nil]; omega) (by simp only [List.length_map,List.length_append,List.length_cons,List.length_nil]; omega)) ?_
  rintro _ _ ⟨sv2,rfl,rfl⟩
  refine zA rfl (qW rfl rfl)<|zA rfl (zC rfl zEz rfl)<|zX rfl rfl (zT rfl sz33 rfl rfl rfl (qH 1 rfl rfl))<|zB<|zK<|zK<|zY _ (Weak.vecEq 4 rfl (rows' := (W ++ [(k : Int)]).map fun i => [cI i]) (by first | rfl | simp | rw [List.take_of_length_le (by simp)]))<|zU rfl<|rMv rfl<|zA rfl (zG rfl zJd rfl (zF 0 rfl) rfl)<|zA rfl (kD [1,1,1,1] rfl ok124 (ck_statement b vL vS _ n u S (W ++ [(k : Int)]) s hn (by omega) (by omega) (by omega)) ⟨zE,rfl,zE,rfl,trivial⟩ rfl)<|rMv rfl<|zB<|sReg rfl<|rMv rfl<|zA rfl (qR rfl rfl rfl)<|zB<|zH rfl (fun c2 => ?_) (fun c2 => ?_)
  ·try simp only [sx] at c2
   have hx0 := zRq (here := W ++ [(k : Int)]) (B := n.Bufs) (U := u) (sc := S) (s := s) c2
   refine sReg rfl<|rMv rfl<|rMv rfl<|zB<|zY _ (Weak.mem [false,true,true,true,true] rfl)<|zI<|zQ rfl ?_
   refine ⟨_,_,_,_,_,_,?_,fun h0 => ?_,fun _ => ?_,rfl⟩
   · rw [zBx hs hp (by rw [hx0]; exact c2),hx0]
   · rw [zBx hs hp (by rw [hx0]; exact c2),hx0] at h0; exact absurd h0 c2
   · rw [zBx hs hp (by rw [hx0]; exact c2),hx0]
  ·try simp only [sx] at c2
   have hin := zMj (here := W ++ [(k : Int)]) (B := n.Bufs) (U := u) (sc := S) (s := s) c2
   refine zJ<|sReg rfl<|rMv rfl<|zA rfl (qW rfl rfl)<|zA rfl (zC rfl zHb rfl)<|zA rfl (zD rfl zLo rfl (zF 1 rfl) rfl)<|zA rfl (yU 3 rfl el72 rfl rfl)<|rMv rfl<|zB<|zK<|sReg rfl<|zA rfl (zC rfl zAc rfl)<|zA rfl (zD rfl one3 rfl (zF 0 rfl) rfl)<|zA rfl (qF rfl rfl rfl)<|zB<|zH rfl (fun c3 => ?_) (fun c3 => ?_)
   ·try simp only [sx] at c3
    rw [zGm c3,zGm c3] at hin
    refine zK<|yZ 9 0 [⟨0,.q []⟩,⟨1,.q []⟩,⟨2,.q []⟩,⟨3,.q []⟩,⟨4,.q [1]⟩,⟨5,.q []⟩,⟨6,.q [0]⟩,⟨7,.q []⟩,⟨8,.e 2 []⟩] mixed (by kernel_rfl) (by kernel_rfl) rfl rfl rfl<|zW rfl<|zW rfl<|zW rfl<|zW rfl<|zW rfl<|zW rfl<|zW rfl<|zW rfl<|zW rfl<|zAl<|qD rfl (by decide) rfl rfl (zN rfl rfl)<|qD rfl (by decide) rfl rfl (zN rfl rfl)<|qD rfl (by decide) rfl rfl (qW rfl rfl)<|qD rfl (by decide) rfl rfl (zC rfl fd118_1 rfl)<|qD rfl (by decide) rfl rfl (zD rfl zLo rfl (zF 0 rfl) rfl)<|qD rfl (by decide) rfl rfl (zC rfl wQ rfl)<|qD rfl (by decide) rfl rfl (zD rfl one9 rfl (zF 0 rfl) rfl)<|qD rfl (by decide) rfl rfl (qZ rfl el72 zr9 rfl rfl rfl rfl)<|zIp rfl rfl (by decide) rfl rfl (yI 0 rfl el72 rfl rfl rfl (by simp only [List.length_map,List.length_append,List.length_cons,List.length_nil]; omega) (by simp only [List.length_map,List.length_append,List.length_cons,List.length_nil]; omega)) ?_
    rintro _ _ ⟨sv3,rfl,rfl⟩
    refine ⟨_,rfl,?_⟩
    refine zAk rfl<|zA rfl (qW rfl rfl)<|zA rfl (zC rfl fd118_1 rfl)<|zX rfl rfl (zT rfl sz72 rfl rfl rfl (qH 1 rfl rfl))<|zB<|zY _ (Weak.vecEq 2 rfl (rows' := (u ++ [s.Name]).map fun s => [cS s]) (by first | rfl | simp | rw [List.take_of_length_le (by simp)]))<|yZ 9 0 [⟨0,.q []⟩,⟨1,.q []⟩,⟨2,.q []⟩,⟨3,.q []⟩,⟨4,.q [1]⟩,⟨5,.q []⟩,⟨6,.q [0]⟩,⟨7,.q []⟩,⟨8,.e 3 []⟩] mixed (by kernel_rfl) (by kernel_rfl) rfl rfl rfl<|zW rfl<|zW rfl<|zW rfl<|zW rfl<|zW rfl<|zW rfl<|zW rfl<|zW rfl<|zW rfl<|zAl<|qD rfl (by decide) rfl rfl (zN rfl rfl)<|qD rfl (by decide) rfl rfl (zN rfl rfl)<|qD rfl (by decide) rfl rfl (qW rfl rfl)<|qD rfl (by decide) rfl rfl (zC rfl zHb rfl)<|qD rfl (by decide) rfl rfl (zD rfl zLo rfl (zF 0 rfl) rfl)<|qD rfl (by decide) rfl rfl (zC rfl wQ rfl)<|qD rfl (by decide) rfl rfl (zD rfl one9 rfl (zF 0 rfl) rfl)<|qD rfl (by decide) rfl rfl (qZ rfl el72 zr9 rfl rfl rfl rfl)<|zIp rfl rfl (by decide) rfl rfl (yI 0 rfl el72 rfl rfl rfl (by simp only [List.length_map,List.length_append,List.length_cons,List.length_nil]; omega) (by simp only [List.length_map,List.length_append,List.length_cons,List.length_nil]; omega)) ?_
    rintro _ _ ⟨sv4,rfl,rfl⟩
    refine ⟨_,rfl,?_⟩
    refine zAk rfl<|zA rfl (qW rfl rfl)<|zA rfl (zC rfl zHb rfl)<|zX rfl rfl (zT rfl sz72 rfl rfl rfl (qH 1 rfl rfl))<|zB<|zK<|zK<|zY _ (Weak.vecEq 3 rfl (rows' := (S ++ [s.Name]).map fun s => [cS s]) (by first | rfl | simp | rw [List.take_of_length_le (by simp)]))<|zY ⟨_,E.row _ _ _ :: ckN b _ _ _ n (u ++ [s.Name]) (S ++ [s.Name]) (W ++ [(k : Int)])⟩ (Weak.mem [true,true,true,true,true] rfl)<|zU rfl<|rMv rfl<|zA rfl (zC rfl zAn rfl)<|zA rfl (zD rfl zAa rfl (zF 0 rfl) rfl)<|qA rfl rfl (zCy [1,1,1,1] rfl ok71 (ih s (qE hs) _ _ _ (u ++ [s.Name]) (S ++ [s.Name]) (W ++ [(k : Int)]) (by first | omega | (simp; omega)) (by first | omega | (simp; omega)) (by simp; omega)) ⟨zE,rfl,zE,rfl,trivial⟩ rfl) ?_
    rintro _ _ ⟨_,⟨svL1,svS1,svP1,U1,S1,W1,rfl,hok,hno,rfl⟩,rfl⟩
    refine rMv rfl<|zB<|sReg rfl<|rMv rfl<|zA rfl (qR rfl rfl rfl)<|zB<|zH rfl (fun c4 => ?_) (fun c4 => ?_)
    ·try simp only [sx] at c4
     rw [← hin] at c4 hno
     refine sReg rfl<|rMv rfl<|rMv rfl<|zB<|zY _ (Weak.mem [false,true,true,true,true] rfl)<|zI<|zQ rfl ?_
     refine ⟨_,_,_,_,_,_,?_,fun h0 => ?_,fun _ => ?_,rfl⟩
     · rw [zBx hs hp c4,hin]
     · rw [zBx hs hp c4] at h0; exact absurd h0 c4
     · rw [zBx hs hp c4]; exact hno c4
    ·try simp only [sx] at c4
     rw [← hin] at c4 hok
     obtain ⟨hU1,hS1,hW1⟩ := hok c4
     have hS2 := hS1.symm
     subst hU1 hS2 hW1
     refine zJ<|sReg rfl<|rMv rfl<|rMv rfl<|zA rfl (qW rfl rfl)<|zA rfl (zC rfl zHb rfl)<|zA rfl (zD rfl zLo rfl (zF 1 rfl) rfl)<|rMv rfl<|qA rfl rfl (zEn (k := S.length) 3 rfl el72 rfl rfl rfl (by simp) (by simp)) ?_
     rintro _ _ ⟨sv5,rfl,rfl⟩
     refine zA rfl (qW rfl rfl)<|zA rfl (zC rfl zHb rfl)<|zX rfl rfl (zT rfl sz72 rfl rfl rfl (qH 1 rfl rfl))<|zB<|zY _ (Weak.vecEq 3 rfl (rows' := S.map fun s => [cS s]) (by first | rfl | simp | rw [List.take_of_length_le (by simp)]))<|yZ 12 0 [⟨0,.q []⟩,⟨1,.q []⟩,⟨2,.q []⟩,⟨3,.q []⟩,⟨4,.q [1]⟩,⟨5,.q []⟩,⟨6,.q []⟩,⟨7,.q []⟩,⟨8,.q [1]⟩,⟨9,.q [4]⟩,⟨10,.q []⟩,⟨11,.e 4 []⟩] mixed (by kernel_rfl) (by kernel_rfl) rfl rfl rfl<|zW rfl<|zW rfl<|zW rfl<|zW rfl<|zW rfl<|zW rfl<|zW rfl<|zW rfl<|zW rfl<|zW rfl<|zW rfl<|zW rfl<|zAl<|qD rfl (by decide) rfl rfl (zN rfl rfl)<|qD rfl (by decide) rfl rfl (zN rfl rfl)<|qD rfl (by decide) rfl rfl (qW rfl rfl)<|qD rfl (by decide) rfl rfl (zC rfl zEz rfl)<|qD rfl (by decide) rfl rfl (zD rfl zDp rfl (zF 0 rfl) rfl)<|qD rfl (by decide) rfl rfl (zN rfl rfl)<|qD rfl (by decide) rfl rfl (qW rfl rfl)<|qD rfl (by decide) rfl rfl (zC rfl zEz rfl)<|qD rfl (by decide) rfl rfl (zD rfl zDp rfl (zF 0 rfl) rfl)<|qD rfl (by decide) rfl rfl (yU 0 rfl el33 rfl rfl)<|qD rfl (by decide) rfl rfl (yD rfl rfl rfl (by simp only [List.length_map,List.length_append,List.length_cons,List.length_nil]; exact ⟨by omega,by omega⟩))<|zIp rfl rfl (by decide) rfl rfl (zEn (k := W.length) 0 rfl el33 rfl rfl rfl (by simp only [List.length_map,List.length_append,List.length_cons,List.length_nil]; omega) (by simp)) ?_
     rintro _ _ ⟨sv6,rfl,rfl⟩
     refine ⟨_,rfl,?_⟩
     refine zAk rfl<|zA rfl (qW rfl rfl)<|zA rfl (zC rfl zEz rfl)<|zX rfl rfl (zT rfl sz33 rfl rfl rfl (qH 1 rfl rfl))<|zB<|zY _ (Weak.vecEq 4 rfl (rows' := W.map fun i => [cI i]) (by first | rfl | simp | rw [List.take_of_length_le (by simp)]))<|zU rfl<|zA rfl (qB rfl rfl rfl ⟨by omega,by omega⟩)<|rMv rfl<|zB ?_
     refine ⟨⟨k + 1,_,_,_,(chkS n.Bufs u S (W ++ [(k : Int)]) s).U⟩,⟨by omega,by omega,zKx hs hp c4⟩,(by show l.length - (k + 1) < l.length - k; omega),Weak.mk [false,true,true,true,true] ⟨zE,zE,zE,zE,trivial⟩ rfl⟩
   ·try simp only [sx] at c3
    rw [zJw c3,zJw c3] at hin
    refine zJ<|zK<|zK<|zY ⟨_,E.row _ _ _ :: ckN b _ _ _ n u S (W ++ [(k : Int)])⟩ (Weak.mem [true,true,true,true,true] rfl)<|zU rfl<|rMv rfl<|zA rfl (zC rfl zAn rfl)<|zA rfl (zD rfl zAa rfl (zF 0 rfl) rfl)<|qA rfl rfl (zCy [1,1,1,1] rfl ok71 (ih s (qE hs) _ _ _ u S (W ++ [(k : Int)]) (by first | omega | (simp; omega)) (by first | omega | (simp; omega)) (by simp; omega)) ⟨zE,rfl,zE,rfl,trivial⟩ rfl) ?_
    rintro _ _ ⟨_,⟨svL1,svS1,svP1,U1,S1,W1,rfl,hok,hno,rfl⟩,rfl⟩
    refine rMv rfl<|zB<|sReg rfl<|rMv rfl<|zA rfl (qR rfl rfl rfl)<|zB<|zH rfl (fun c4 => ?_) (fun c4 => ?_)
    ·try simp only [sx] at c4
     rw [← hin] at c4 hno
     refine sReg rfl<|rMv rfl<|rMv rfl<|zB<|zY _ (Weak.mem [false,true,true,true,true] rfl)<|zI<|zQ rfl ?_
     refine ⟨_,_,_,_,_,_,?_,fun h0 => ?_,fun _ => ?_,rfl⟩
     · rw [zBx hs hp c4,hin]
     · rw [zBx hs hp c4] at h0; exact absurd h0 c4
     · rw [zBx hs hp c4]; exact hno c4
    ·try simp only [sx] at c4
     rw [← hin] at c4 hok
     obtain ⟨hU1,hS1,hW1⟩ := hok c4
     have hS2 := hS1.symm
     subst hU1 hS2 hW1
     refine zJ<|sReg rfl<|rMv rfl<|rMv rfl<|zA rfl (qW rfl rfl)<|zA rfl (zC rfl zHb rfl)<|zA rfl (zD rfl zLo rfl (zF 1 rfl) rfl)<|rMv rfl<|qA rfl rfl (zEn (k := S.length) 3 rfl el72 rfl rfl rfl (by simp) (by simp)) ?_
     rintro _ _ ⟨sv7,rfl,rfl⟩
     refine zA rfl (qW rfl rfl)<|zA rfl (zC rfl zHb rfl)<|zX rfl rfl (zT rfl sz72 rfl rfl rfl (qH 1 rfl rfl))<|zB<|zY _ (Weak.vecEq 3 rfl (rows' := S.map fun s => [cS s]) (by first | rfl | simp | rw [List.take_of_length_le (by simp)]))<|yZ 12 0 [⟨0,.q []⟩,⟨1,.q []⟩,⟨2,.q []⟩,⟨3,.q []⟩,⟨4,.q [1]⟩,⟨5,.q []⟩,⟨6,.q []⟩,⟨7,.q []⟩,⟨8,.q [1]⟩,⟨9,.q [4]⟩,⟨10,.q []⟩,⟨11,.e 4 []⟩] mixed (by kernel_rfl) (by kernel_rfl) rfl rfl rfl<|zW rfl<|zW rfl<|zW rfl<|zW rfl<|zW rfl<|zW rfl<|zW rfl<|zW rfl<|zW rfl<|zW rfl<|zW rfl<|zW rfl<|zAl<|qD rfl (by decide) rfl rfl (zN rfl rfl)<|qD rfl (by decide) rfl rfl (zN rfl rfl)<|qD rfl (by decide) rfl rfl (qW rfl rfl)<|qD rfl (by decide) rfl rfl (zC rfl zEz rfl)<|qD rfl (by decide) rfl rfl (zD rfl zDp rfl (zF 0 rfl) rfl)<|qD rfl (by decide) rfl rfl (zN rfl rfl)<|qD rfl (by decide) rfl rfl (qW rfl rfl)<|qD rfl (by decide) rfl rfl (zC rfl zEz rfl)<|qD rfl (by decide) rfl rfl (zD rfl zDp rfl (zF 0 rfl) rfl)<|qD rfl (by decide) rfl rfl (yU 0 rfl el33 rfl rfl)<|qD rfl (by decide) rfl rfl (yD rfl rfl rfl (by simp only [List.length_map,List.length_append,List.length_cons,List.length_nil]; exact ⟨by omega,by omega⟩))<|zIp rfl rfl (by decide) rfl rfl (zEn (k := W.length) 0 rfl el33 rfl rfl rfl (by simp only [List.length_map,List.length_append,List.length_cons,List.length_nil]; omega) (by simp)) ?_
     rintro _ _ ⟨sv8,rfl,rfl⟩
     refine ⟨_,rfl,?_⟩
     refine zAk rfl<|zA rfl (qW rfl rfl)<|zA rfl (zC rfl zEz rfl)<|zX rfl rfl (zT rfl sz33 rfl rfl rfl (qH 1 rfl rfl))<|zB<|zY _ (Weak.vecEq 4 rfl (rows' := W.map fun i => [cI i]) (by first | rfl | simp | rw [List.take_of_length_le (by simp)]))<|zU rfl<|zA rfl (qB rfl rfl rfl ⟨by omega,by omega⟩)<|rMv rfl<|zB ?_
     refine ⟨⟨k + 1,_,_,_,(chkS n.Bufs u S (W ++ [(k : Int)]) s).U⟩,⟨by omega,by omega,zKx hs hp c4⟩,(by show l.length - (k + 1) < l.length - k; omega),Weak.mk [false,true,true,true,true] ⟨zE,zE,zE,zE,trivial⟩ rfl⟩
 ·try simp only [sx] at c1
  refine qN<|sReg rfl<|rMv rfl<|zB<|zI<|zQ rfl ?_
  refine ⟨_,_,_,_,_,_,?_,fun _ => ⟨?_,rfl,rfl⟩,fun h0 => ?_,rfl⟩
  · rw [zOg hp (by omega)]
  · rw [zOg hp (by omega)]
  · rw [zOg hp (by omega)] at h0; exact absurd rfl h0
theorem zKw (b : Nat) (n : Ns) (hn : n.Ok) (s : St) (hl : stsWt s.Body ≤ 536870912) : ∀ (svL svS svP : Value) (U S : List ByteArray) (W : List Int),U.length + stsN s.Body ≤ 1000000 → S.length + stsN s.Body ≤ 1000000 → W.length + stsN s.Body ≤ 1000000 → Con cfg 71 [vP b,vSts s.Body] (ckN b svL svS svP n U S W) fun r μ' => ∃ svL' svS' svP' U' S' W',r = vI (chkL n.Bufs U S W 0 s.Body).E ∧ ((chkL n.Bufs U S W 0 s.Body).E = 0 → U' = (chkL n.Bufs U S W 0 s.Body).U ∧ S' = S ∧ W' = W) ∧ (¬ (chkL n.Bufs U S W 0 s.Body).E = 0 → W' = (chkL n.Bufs U S W 0 s.Body).W) ∧ μ' = ckN b svL' svS' svP' n U' S' W':= by
  induction s using St.ind with
  | _ s ih =>
    intro svL svS svP U S W hU hS hW
    refine zDg b svL svS svP n U S W s.Body hn hU hS hW hl fun a ha => ih a ha ?_
    have := yY ha; have := St.body_wt a; omega
theorem ck_statements (b : Nat) (svL svS svP : Value) (n : Ns) (U S : List ByteArray) (W : List Int) (l : List St) (hn : n.Ok) (hU : U.length + stsN l ≤ 1000000) (hS : S.length + stsN l ≤ 1000000) (hW : W.length + stsN l ≤ 1000000) (hl : stsWt l ≤ 536870912) : Con cfg 71 [vP b,vSts l] (ckN b svL svS svP n U S W) fun r μ' => ∃ svL' svS' svP' U' S' W',r = vI (chkL n.Bufs U S W 0 l).E ∧ ((chkL n.Bufs U S W 0 l).E = 0 → U' = (chkL n.Bufs U S W 0 l).U ∧ S' = S ∧ W' = W) ∧ (¬ (chkL n.Bufs U S W 0 l).E = 0 → W' = (chkL n.Bufs U S W 0 l).W) ∧ μ' = ckN b svL' svS' svP' n U' S' W' :=
  zDg b svL svS svP n U S W l hn hU hS hW hl fun s hs => zKw b n hn s (by have := yY hs; have := St.body_wt s; omega)
theorem zBo (n : Ns) (hn : n.Ok) :
    Pur cfg 22 [vNs n] (.tup [vIs (validN n).1,vI (validN n).2]):= by
 refine zV Tryz.func22 rfl Tryz.ntmps22 Tryz.results22 rfl ?_
 intro z hz
 have hnb := hn.body
 refine sReg rfl<|qA rfl rfl (qL rfl rfl) ?_
 rintro _ _ ⟨b1,rfl,rfl⟩
 refine zA rfl (qY 1 rfl rfl)<|rMv rfl<|zB<|zK<|sReg rfl<|zA rfl (zC rfl zCa rfl)<|zA rfl (zD rfl zAa rfl (zF 0 rfl) rfl)<|zA rfl (zP rfl ok68 (zQl 40 n.Body 40 (by omega) (by omega) rfl) ⟨zE,rfl,zE,rfl,trivial⟩)<|zA rfl (qT rfl rfl)<|zB<|zH rfl (fun c1 => ?_) (fun c1 => ?_)
 ·try simp only [sx] at c1
  refine sReg rfl<|zA rfl (qY 1 rfl rfl)<|rMv rfl<|zB<|zI<|fin2 (rs_c rfl) (rs_c rfl) ?_
  rw [zOv c1]; rfl
 ·try simp only [sx] at c1
  refine zJ<|zK<|sReg rfl<|zA rfl (zC rfl zCa rfl)<|zA rfl (zD rfl zAa rfl (zF 0 rfl) rfl)<|zA rfl (zP rfl ok69 (zKc n.Body 2000 2000 (by omega) (by omega) rfl) ⟨zE,rfl,zE,rfl,trivial⟩)<|zA rfl (yA rfl rfl rfl)<|rMv rfl<|rLz [] rfl gv1 trivial (fun g3_4 => zC rfl wU rfl) rfl<|rLz [(16,_)] rfl gv1 ⟨rfl,rfl,trivial⟩ (fun g3_4 => zD rfl zCm rfl (zF 0 rfl) rfl) rfl<|rLz [(17,_)] rfl gv1 ⟨rfl,rfl,trivial⟩ (fun g3_4 => zR rfl el22 rfl) rfl<|rLz [(18,_)] rfl gv1 ⟨rfl,rfl,trivial⟩ (fun g3_4 => yA rfl rfl rfl) rfl<|zA rfl (yB rfl rfl rfl rfl (fun h => (lzf h)))<|zB<|zH rfl (fun c2 => ?_) (fun c2 => ?_)
  ·try simp only [sx] at c2
   refine sReg rfl<|zA rfl (qY 1 rfl rfl)<|rMv rfl<|zB<|zI<|fin2 (rs_c rfl) (rs_c rfl) ?_
   rw [validN_2 c1 (by omega)]; rfl
  ·try simp only [sx] at c2
   have hnum := numB_ok (l := n.Body) (m := 2000) (by omega)
   refine zJ<|zK<|sReg rfl<|zA rfl (zC rfl wU rfl)<|zA rfl (zD rfl zCm rfl (zF 0 rfl) rfl)<|zA rfl (zP rfl ok70 (zGs n.Bufs hn.bufs hn.dims) ⟨zE,rfl,trivial⟩)<|rMv rfl<|zB<|sReg rfl<|rMv rfl<|zA rfl (qR rfl rfl rfl)<|zB<|zH rfl (fun c3 => ?_) (fun c3 => ?_)
   ·try simp only [sx] at c3
    refine sReg rfl<|rMv rfl<|zA rfl (qY 1 rfl rfl)<|rMv rfl<|zB<|zI<|fin2 (rs_c rfl) (rs_c rfl) ?_
    rw [validN_b c1 (by omega) c3]; rfl
   ·try simp only [sx] at c3
    refine zJ<|sReg rfl<|zA rfl (zG rfl wM rfl (zF 0 rfl) rfl)<|zA rfl (qV rfl zr118 pl118 rfl)<|qA rfl rfl (qL rfl rfl) ?_
    rintro _ _ ⟨b2,rfl,rfl⟩
    refine yK _ (kI 9 1)<|yK _ (kI 9 1)<|yK _ (kI 3 1)<|rMv rfl<|zB<|zK<|sReg rfl<|rMv rfl<|zA rfl (zC rfl zCa rfl)<|zA rfl (zD rfl zAa rfl (zF 4 rfl) rfl)<|qA rfl rfl (zCy [3,2,1,0] rfl ok71 (ck_statements b2 _ _ _ n [] [] [] n.Body hn (by simp; omega) (by simp; omega) (by simp; omega) hnb) ⟨zE,rfl,zE,rfl,trivial⟩ rfl) ?_
    rintro _ _ ⟨_,⟨svL1,svS1,svP1,U1,S1,W1,rfl,hok,hno,rfl⟩,rfl⟩
    refine rMv rfl<|zB<|sReg rfl<|rMv rfl<|zA rfl (qR rfl rfl rfl)<|zB<|zH rfl (fun c4 => ?_) (fun c4 => ?_)
    ·try simp only [sx] at c4
     have hW1 := hno c4
     subst hW1
     refine zY _ (yL 0 rfl (regs' := []) (μ' := [_,_,_,_]) trivial ⟨EFle.refl _,EFle.refl _,EFle.row (ds := [_,_,_,_,_]) ⟨.inl rfl,.inl rfl,.inl rfl,.inl rfl,.inr ⟨rfl,rfl⟩,trivial⟩,EFle.refl _,trivial⟩)<|sReg rfl<|rMv rfl<|zA rfl (qW rfl rfl)<|zA rfl (zC rfl zEz rfl)<|zA rfl (zD rfl zDp rfl (zF 2 rfl) rfl)<|rMv rfl<|rMv rfl<|rMv rfl<|zB<|zI<|fin2 (rs_c rfl) (rs_c rfl) ?_
     rw [zJi c1 (by omega) c3]
    ·try simp only [sx] at c4
     refine zJ<|sReg rfl<|zA rfl (qY 1 rfl rfl)<|rMv rfl<|zB<|zI<|fin2 (rs_c rfl) (rs_c rfl) ?_
     rw [zJi c1 (by omega) c3,chkL_ok c4,c4]; rfl
end Go.W
