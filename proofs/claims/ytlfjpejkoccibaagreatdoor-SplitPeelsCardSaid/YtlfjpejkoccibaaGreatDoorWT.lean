/-
  Walks: what functions of the program compute. Printed by wip/gen/mk2.py.
  Conditions: none.
-/
import Derived.Test.YtlfjpejkoccibaaGreatDoorWE
import Derived.Test.YtlfjpejkoccibaaGreatDoorPlain
import Derived.Test.YtlfjpejkoccibaaGreatDoorEngZ
set_option linter.unusedSimpArgs false
set_option linter.unusedVariables false
set_option maxRecDepth 10000
namespace Go.W
open Go Go.Eng Go.Proofs Go.L41 Go.Br
attribute [local irreducible] AWP RWP TD finQ
theorem K:elemT Tryz.prog 26=some (3,1,8):=by kernel_rfl
theorem ok234:callOk Tryz.prog 234=true:=by kernel_rfl
theorem ok261:callOk Tryz.prog 261=true:=by kernel_rfl
theorem ok262:callOk Tryz.prog 262=true:=by kernel_rfl
theorem ok263:callOk Tryz.prog 263=true:=by kernel_rfl
theorem ok264:callOk Tryz.prog 264=true:=by kernel_rfl
theorem ok265:callOk Tryz.prog 265=true:=by kernel_rfl
theorem ok266:callOk Tryz.prog 266=true:=by kernel_rfl
theorem ok267:callOk Tryz.prog 267=true:=by kernel_rfl
theorem ok268:callOk Tryz.prog 268=true:=by kernel_rfl
theorem ok269:callOk Tryz.prog 269=true:=by kernel_rfl
theorem ok286:callOk Tryz.prog 286=true:=by kernel_rfl
theorem ok288:callOk Tryz.prog 288=true:=by kernel_rfl
theorem ok289:callOk Tryz.prog 289=true:=by kernel_rfl
theorem ok290:callOk Tryz.prog 290=true:=by kernel_rfl
theorem ok291:callOk Tryz.prog 291=true:=by kernel_rfl
theorem ok292:callOk Tryz.prog 292=true:=by kernel_rfl
theorem ok293:callOk Tryz.prog 293=true:=by kernel_rfl
theorem ok294:callOk Tryz.prog 294=true:=by kernel_rfl
theorem ok303:callOk Tryz.prog 303=true:=by kernel_rfl
theorem zNq (a:Int):
    Pur cfg 286 [vI a] (vB false):=by
 refine zT Tryz.func286 O Tryz.ntmps286 Tryz.results286 O ?_
 intro z hz
 refine F O<|A O<|G<|F O<|A O<|A O<|yN O<|A O<|G<|o<|X O ?_
 exact congrArg vB (by simp)
theorem wO (a b:Int):
    Pur cfg 262 [vI a,vI b] (vI (cmpI a b)):=by
 refine zT Tryz.func262 O Tryz.ntmps262 Tryz.results262 O ?_
 intro z hz
 refine F O<|A O<|G<|F O<|A O<|qI O ok286 (zNq a) ⟨H,O,T⟩<|A O<|G<|F O<|A O<|qI O ok286 (zNq b) ⟨H,O,T⟩<|A O<|G<|zJ<|F O<|A O<|G<|zD O (fun c1=>?_) (fun c1=>?_)
 ·exact absurd c1 (by decide)
 ·refine zK<|zJ<|F O<|A O<|G<|zD O (fun c3=>?_) (fun c3=>?_)
  ·exact absurd c3 (by decide)
  ·refine zK<|zJ<|F O<|A O<|A O<|yD O<|G<|zD O (fun c4=>?_) (fun c4=>?_)
   ·try simp only [I] at c4
    refine F O<|A O<|G<|o<|X O ?_
    rw [cmpI_lt c4]
   ·try simp only [I] at c4
    refine zK<|zJ<|F O<|A O<|A O<|zU O (yG O O O)<|G<|zD O (fun c5=>?_) (fun c5=>?_)
    ·try simp only [I] at c5
     refine F O<|A O<|G<|o<|X O ?_
     rw [cmpI_gt c5]
    ·try simp only [I] at c5
     refine zK<|F O<|A O<|G<|o<|X O ?_
     rw [cmpI_eq (by omega) (by omega)]
theorem zNr (a:Int):
    Pur cfg 288 [vI a] (vB false):=by
 refine zT Tryz.func288 O Tryz.ntmps288 Tryz.results288 O ?_
 intro z hz
 refine F O<|A O<|G<|F O<|A O<|A O<|yN O<|A O<|G<|o<|X O ?_
 exact congrArg vB (by simp)
theorem zKb (a b:Int):
    Pur cfg 264 [vI a,vI b] (vI (cmpI a b)):=by
 refine zT Tryz.func264 O Tryz.ntmps264 Tryz.results264 O ?_
 intro z hz
 refine F O<|A O<|G<|F O<|A O<|qI O ok288 (zNr a) ⟨H,O,T⟩<|A O<|G<|F O<|A O<|qI O ok288 (zNr b) ⟨H,O,T⟩<|A O<|G<|zJ<|F O<|A O<|G<|zD O (fun c1=>?_) (fun c1=>?_)
 ·exact absurd c1 (by decide)
 ·refine zK<|zJ<|F O<|A O<|G<|zD O (fun c3=>?_) (fun c3=>?_)
  ·exact absurd c3 (by decide)
  ·refine zK<|zJ<|F O<|A O<|A O<|yD O<|G<|zD O (fun c4=>?_) (fun c4=>?_)
   ·try simp only [I] at c4
    refine F O<|A O<|G<|o<|X O ?_
    rw [cmpI_lt c4]
   ·try simp only [I] at c4
    refine zK<|zJ<|F O<|A O<|A O<|zU O (yG O O O)<|G<|zD O (fun c5=>?_) (fun c5=>?_)
    ·try simp only [I] at c5
     refine F O<|A O<|G<|o<|X O ?_
     rw [cmpI_gt c5]
    ·try simp only [I] at c5
     refine zK<|F O<|A O<|G<|o<|X O ?_
     rw [cmpI_eq (by omega) (by omega)]
theorem cmp_Or_int (l:List Int) (hl:l.length<=4294967296):
    Pur cfg 261 [.c (.sl 1 (l.map fun n=>[cI n]))] (vI (orI l)):=by
 refine zT Tryz.func261 O Tryz.ntmps261 Tryz.results261 O ?_
 intro z hz
 refine F O<|A O<|G<|F O<|A O<|G<|zJ<|F O<|A O<|qC O K<|A O<|G<|zR<|zY ⟨[(8,.c _),(3,.c _),(6,.c _),(7,.c _)],[]⟩ (Weak.mk [] ⟨H,H,H,H,T⟩ O)<|qK 1 0 O O (Nat) (fun k=>[(8,vI k)]) (fun k=>[]) (fun k=>k<=l.length/\(orI l=orI (l.drop k))) (fun k=>l.length-k) ⟨0,⟨by omega,O⟩,Weak.mk [] ⟨H,H,H,H,T⟩ O⟩ ?_
 rintro k ⟨hk,hp⟩
 refine F O<|yD O<|G<|zJ<|zD O (fun c1=>?_) (fun c1=>?_)
 ·try simp only [I] at c1
  obtain ⟨x,hx⟩:=qV l k (by omega)
  refine zK<|zJ<|zR<|F O<|qD O K (by omega) (Q (by assumption))<|zM one3 qA O<|A O<|G<|F O<|A O<|A O<|yN O<|G<|zD O (fun c2=>?_) (fun c2=>?_)
  ·try simp only [I] at c2
   refine F O<|A O<|A O<|G<|o<|X O ?_
   rw [hp,orI_at hx c2]
  ·try simp only [I] at c2
   refine zK<|zQ O<|qJ O ⟨by omega,by omega⟩<|A O<|G ?_
   refine ⟨k+1,⟨by omega,hp.trans (orI_next hx c2)⟩,(by omega),Weak.mk [] ⟨H,H,H,H,T⟩ O⟩
 ·try simp only [I] at c1
  refine qQ<|F O<|A O<|A O<|G<|o<|X O ?_
  rw [hp,kA (by omega)];rfl
theorem zHh (a b:List Mono) (c:C) (f:Mono->Mono->Int) (ha:a.length<=4294967296) (hb:b.length<=4294967296) (hc:∀x,x∈a->∀y,y∈b->FnPur cfg c [vMono x,vMono y] (vI (f x y))):
    Pur cfg 289 [.c (.sl 2 (a.map Mono.cells)),.c (.sl 2 (b.map Mono.cells)),.c c] (vI (cmpL f a b)):=by
 refine zT Tryz.func289 O Tryz.ntmps289 Tryz.results289 O ?_
 intro z hz
 refine F O<|A O<|G<|zJ<|F O<|A O<|qC O N<|A O<|G<|zR<|zY ⟨[(13,.c _),(0,.c _),(1,.c _),(2,.c _),(11,.c _),(12,.c _)],[]⟩ (Weak.mk [] ⟨H,H,H,H,H,H,T⟩ O)<|qK 1 0 O O (Nat) (fun k=>[(13,vI k)]) (fun k=>[]) (fun k=>k<=a.length/\(cmpL f a b=cmpL f (a.drop k) (b.drop k))/\(k<=b.length)) (fun k=>a.length-k) ⟨0,⟨by omega,O,by omega⟩,Weak.mk [] ⟨H,H,H,H,H,H,T⟩ O⟩ ?_
 rintro k ⟨hk,hp,hq⟩
 refine F O<|yD O<|G<|zJ<|zD O (fun c1=>?_) (fun c1=>?_)
 ·try simp only [I] at c1
  obtain ⟨x,hx⟩:=qV a k (by omega)
  refine zK<|zJ<|zR<|F O<|A O<|qD O N (by omega) (Q (by assumption))<|zP zOd qA O<|zX O O (yX O zr69) ?_
  rintro _ _ ⟨b1,rfl,rfl⟩
  refine A O<|Y 0 sz69 O<|G<|zJ<|F O<|A O<|A O<|qC O N<|zU O (wH O O O)<|G<|zD O (fun c2=>?_) (fun c2=>?_)
  ·try simp only [I] at c2
   refine F O<|A O<|G<|o<|X O ?_
   rw [hp,zRt hx (by omega)]
  ·try simp only [I] at c2
   obtain ⟨y,hy⟩:=qV b k (by omega)
   refine zK<|F O<|A O<|A O<|qD O N (by omega) (Q (by assumption))<|zP zOd qA O<|zX O O (yX O zr69) ?_
   rintro _ _ ⟨b2,rfl,rfl⟩
   refine Y 0 sz69 O<|G<|F O<|A O<|zP zOd (R 1 O) O<|zP zOd (R 0 O) O<|zU O (kW O O (hc _ (qB hx) _ (qB hy)) ⟨H,O,H,O,T⟩)<|A O<|G<|F O<|A O<|yN O<|G<|zD O (fun c3=>?_) (fun c3=>?_)
   ·try simp only [I] at c3
    refine F O<|A O<|A O<|G<|o<|X O ?_
    rw [hp,cmpL_ne hx hy c3]
   ·try simp only [I] at c3
    refine zK<|zQ O<|qJ O ⟨by omega,by omega⟩<|A O<|G ?_
    refine ⟨k+1,⟨by omega,hp.trans (zNu hx hy c3),by omega⟩,(by omega),Weak.mk [false,false] ⟨H,H,H,H,H,H,T⟩ O⟩
 ·try simp only [I] at c1
  refine qQ<|zJ<|F O<|A O<|qC O N<|A O<|qC O N<|yD O<|G<|zD O (fun c4=>?_) (fun c4=>?_)
  ·try simp only [I] at c4
   refine F O<|A O<|G<|o<|X O ?_
   rw [hp,zNv (by omega) (by omega)]
  ·try simp only [I] at c4
   refine zK<|F O<|A O<|G<|o<|X O ?_
   rw [hp,zRu (by omega) (by omega)]
theorem zIw (a b:List Ix) (c:C) (f:Ix->Ix->Int) (ha:a.length<=4294967296) (hb:b.length<=4294967296) (hc:∀x,x∈a->∀y,y∈b->FnPur cfg c [vIndex x,vIndex y] (vI (f x y))):
    Pur cfg 292 [.c (.sl 4 (a.map Ix.cells)),.c (.sl 4 (b.map Ix.cells)),.c c] (vI (cmpL f a b)):=by
 refine zT Tryz.func292 O Tryz.ntmps292 Tryz.results292 O ?_
 intro z hz
 refine F O<|A O<|G<|zJ<|F O<|A O<|qC O d<|A O<|G<|zR<|zY ⟨[(13,.c _),(0,.c _),(1,.c _),(2,.c _),(11,.c _),(12,.c _)],[]⟩ (Weak.mk [] ⟨H,H,H,H,H,H,T⟩ O)<|qK 1 0 O O (Nat) (fun k=>[(13,vI k)]) (fun k=>[]) (fun k=>k<=a.length/\(cmpL f a b=cmpL f (a.drop k) (b.drop k))/\(k<=b.length)) (fun k=>a.length-k) ⟨0,⟨by omega,O,by omega⟩,Weak.mk [] ⟨H,H,H,H,H,H,T⟩ O⟩ ?_
 rintro k ⟨hk,hp,hq⟩
 refine F O<|yD O<|G<|zJ<|zD O (fun c1=>?_) (fun c1=>?_)
 ·try simp only [I] at c1
  obtain ⟨x,hx⟩:=qV a k (by omega)
  refine zK<|zJ<|zR<|F O<|A O<|qD O d (by omega) (Q (by assumption))<|zP zIb qA O<|zX O O (qE [none,some 2,none,some 2] O zr72 O) ?_
  rintro _ _ ⟨b1,rfl,rfl⟩
  refine A O<|Y 0 sz72 O<|G<|zJ<|F O<|A O<|A O<|qC O d<|zU O (wH O O O)<|G<|zD O (fun c2=>?_) (fun c2=>?_)
  ·try simp only [I] at c2
   refine F O<|A O<|G<|o<|X O ?_
   rw [hp,zRt hx (by omega)]
  ·try simp only [I] at c2
   obtain ⟨y,hy⟩:=qV b k (by omega)
   refine zK<|F O<|A O<|A O<|qD O d (by omega) (Q (by assumption))<|zP zIb qA O<|zX O O (qE [none,some 2,none,some 2] O zr72 O) ?_
   rintro _ _ ⟨b2,rfl,rfl⟩
   refine Y 0 sz72 O<|G<|F O<|A O<|zP zIb (R 1 O) O<|zP zIb (R 0 O) O<|zU O (kW O O (hc _ (qB hx) _ (qB hy)) ⟨H,O,H,O,T⟩)<|A O<|G<|F O<|A O<|yN O<|G<|zD O (fun c3=>?_) (fun c3=>?_)
   ·try simp only [I] at c3
    refine F O<|A O<|A O<|G<|o<|X O ?_
    rw [hp,cmpL_ne hx hy c3]
   ·try simp only [I] at c3
    refine zK<|zQ O<|qJ O ⟨by omega,by omega⟩<|A O<|G ?_
    refine ⟨k+1,⟨by omega,hp.trans (zNu hx hy c3),by omega⟩,(by omega),Weak.mk [false,false] ⟨H,H,H,H,H,H,T⟩ O⟩
 ·try simp only [I] at c1
  refine qQ<|zJ<|F O<|A O<|qC O d<|A O<|qC O d<|yD O<|G<|zD O (fun c4=>?_) (fun c4=>?_)
  ·try simp only [I] at c4
   refine F O<|A O<|G<|o<|X O ?_
   rw [hp,zNv (by omega) (by omega)]
  ·try simp only [I] at c4
   refine zK<|F O<|A O<|G<|o<|X O ?_
   rw [hp,zRu (by omega) (by omega)]
theorem zIv (a b:List Lf) (c:C) (f:Lf->Lf->Int) (ha:a.length<=4294967296) (hb:b.length<=4294967296) (hc:∀x,x∈a->∀y,y∈b->FnPur cfg c [vLin x,vLin y] (vI (f x y))):
    Pur cfg 303 [.c (.sl 2 (a.map Lf.cells)),.c (.sl 2 (b.map Lf.cells)),.c c] (vI (cmpL f a b)):=by
 refine zT Tryz.func303 O Tryz.ntmps303 Tryz.results303 O ?_
 intro z hz
 refine F O<|A O<|G<|zJ<|F O<|A O<|qC O el70<|A O<|G<|zR<|zY ⟨[(13,.c _),(0,.c _),(1,.c _),(2,.c _),(11,.c _),(12,.c _)],[]⟩ (Weak.mk [] ⟨H,H,H,H,H,H,T⟩ O)<|qK 1 0 O O (Nat) (fun k=>[(13,vI k)]) (fun k=>[]) (fun k=>k<=a.length/\(cmpL f a b=cmpL f (a.drop k) (b.drop k))/\(k<=b.length)) (fun k=>a.length-k) ⟨0,⟨by omega,O,by omega⟩,Weak.mk [] ⟨H,H,H,H,H,H,T⟩ O⟩ ?_
 rintro k ⟨hk,hp,hq⟩
 refine F O<|yD O<|G<|zJ<|zD O (fun c1=>?_) (fun c1=>?_)
 ·try simp only [I] at c1
  obtain ⟨x,hx⟩:=qV a k (by omega)
  refine zK<|zJ<|zR<|F O<|A O<|qD O el70 (by omega) (Q (by assumption))<|zP yK qA O<|zX O O (qE [none,some 2] O U O) ?_
  rintro _ _ ⟨b1,rfl,rfl⟩
  refine A O<|Y 0 g O<|G<|zJ<|F O<|A O<|A O<|qC O el70<|zU O (wH O O O)<|G<|zD O (fun c2=>?_) (fun c2=>?_)
  ·try simp only [I] at c2
   refine F O<|A O<|G<|o<|X O ?_
   rw [hp,zRt hx (by omega)]
  ·try simp only [I] at c2
   obtain ⟨y,hy⟩:=qV b k (by omega)
   refine zK<|F O<|A O<|A O<|qD O el70 (by omega) (Q (by assumption))<|zP yK qA O<|zX O O (qE [none,some 2] O U O) ?_
   rintro _ _ ⟨b2,rfl,rfl⟩
   refine Y 0 g O<|G<|F O<|A O<|zP yK (R 1 O) O<|zP yK (R 0 O) O<|zU O (kW O O (hc _ (qB hx) _ (qB hy)) ⟨H,O,H,O,T⟩)<|A O<|G<|F O<|A O<|yN O<|G<|zD O (fun c3=>?_) (fun c3=>?_)
   ·try simp only [I] at c3
    refine F O<|A O<|A O<|G<|o<|X O ?_
    rw [hp,cmpL_ne hx hy c3]
   ·try simp only [I] at c3
    refine zK<|zQ O<|qJ O ⟨by omega,by omega⟩<|A O<|G ?_
    refine ⟨k+1,⟨by omega,hp.trans (zNu hx hy c3),by omega⟩,(by omega),Weak.mk [false,false] ⟨H,H,H,H,H,H,T⟩ O⟩
 ·try simp only [I] at c1
  refine qQ<|zJ<|F O<|A O<|qC O el70<|A O<|qC O el70<|yD O<|G<|zD O (fun c4=>?_) (fun c4=>?_)
  ·try simp only [I] at c4
   refine F O<|A O<|G<|o<|X O ?_
   rw [hp,zNv (by omega) (by omega)]
  ·try simp only [I] at c4
   refine zK<|F O<|A O<|G<|o<|X O ?_
   rw [hp,zRu (by omega) (by omega)]
theorem zIx (a b:List Ex) (c:C) (f:Ex->Ex->Int) (ha:a.length<=4294967296) (hb:b.length<=4294967296) (hc:∀x,x∈a->∀y,y∈b->FnPur cfg c [vE x,vE y] (vI (f x y))):
    Pur cfg 294 [.c (.sl 13 (a.map Ex.cells)),.c (.sl 13 (b.map Ex.cells)),.c c] (vI (cmpL f a b)):=by
 refine zT Tryz.func294 O Tryz.ntmps294 Tryz.results294 O ?_
 intro z hz
 refine F O<|A O<|G<|zJ<|F O<|A O<|qC O el42<|A O<|G<|zR<|zY ⟨[(13,.c _),(0,.c _),(1,.c _),(2,.c _),(11,.c _),(12,.c _)],[]⟩ (Weak.mk [] ⟨H,H,H,H,H,H,T⟩ O)<|qK 1 0 O O (Nat) (fun k=>[(13,vI k)]) (fun k=>[]) (fun k=>k<=a.length/\(cmpL f a b=cmpL f (a.drop k) (b.drop k))/\(k<=b.length)) (fun k=>a.length-k) ⟨0,⟨by omega,O,by omega⟩,Weak.mk [] ⟨H,H,H,H,H,H,T⟩ O⟩ ?_
 rintro k ⟨hk,hp,hq⟩
 refine F O<|yD O<|G<|zJ<|zD O (fun c1=>?_) (fun c1=>?_)
 ·try simp only [I] at c1
  obtain ⟨x,hx⟩:=qV a k (by omega)
  refine zK<|zJ<|zR<|F O<|A O<|qD O el42 (by omega) (zEm (by assumption))<|zP kC qA O<|zX O O (qE [none,none,none,none,none,none,none,none,none,none,some 2,some 4,some 13] O zr44 O) ?_
  rintro _ _ ⟨b1,rfl,rfl⟩
  refine A O<|Y 0 sz44 O<|G<|zJ<|F O<|A O<|A O<|qC O el42<|zU O (wH O O O)<|G<|zD O (fun c2=>?_) (fun c2=>?_)
  ·try simp only [I] at c2
   refine F O<|A O<|G<|o<|X O ?_
   rw [hp,zRt hx (by omega)]
  ·try simp only [I] at c2
   obtain ⟨y,hy⟩:=qV b k (by omega)
   refine zK<|F O<|A O<|A O<|qD O el42 (by omega) (zEm (by assumption))<|zP kC qA O<|zX O O (qE [none,none,none,none,none,none,none,none,none,none,some 2,some 4,some 13] O zr44 O) ?_
   rintro _ _ ⟨b2,rfl,rfl⟩
   refine Y 0 sz44 O<|G<|F O<|A O<|zP kC (R 1 O) O<|zP kC (R 0 O) O<|zU O (kW O O (hc _ (qB hx) _ (qB hy)) ⟨H,O,H,O,T⟩)<|A O<|G<|F O<|A O<|yN O<|G<|zD O (fun c3=>?_) (fun c3=>?_)
   ·try simp only [I] at c3
    refine F O<|A O<|A O<|G<|o<|X O ?_
    rw [hp,cmpL_ne hx hy c3]
   ·try simp only [I] at c3
    refine zK<|zQ O<|qJ O ⟨by omega,by omega⟩<|A O<|G ?_
    refine ⟨k+1,⟨by omega,hp.trans (zNu hx hy c3),by omega⟩,(by omega),Weak.mk [false,false] ⟨H,H,H,H,H,H,T⟩ O⟩
 ·try simp only [I] at c1
  refine qQ<|zJ<|F O<|A O<|qC O el42<|A O<|qC O el42<|yD O<|G<|zD O (fun c4=>?_) (fun c4=>?_)
  ·try simp only [I] at c4
   refine F O<|A O<|G<|o<|X O ?_
   rw [hp,zNv (by omega) (by omega)]
  ·try simp only [I] at c4
   refine zK<|F O<|A O<|G<|o<|X O ?_
   rw [hp,zRu (by omega) (by omega)]
theorem zVc (a b:List Ix) (c:C) (f:Ix->Ix->Int) (ha:a.length<=4294967296) (hb:b.length<=4294967296) (hc:∀x,x∈a->∀y,y∈b->FnPur cfg c [vIndex x,vIndex y] (vI (f x y))):
    Pur cfg 267 [.c (.sl 4 (a.map Ix.cells)),.c (.sl 4 (b.map Ix.cells)),.c c] (vI (cmpLs f a b)):=by
 refine zT Tryz.func267 O Tryz.ntmps267 Tryz.results267 O ?_
 intro z hz
 refine F O<|A O<|G<|zJ<|F O<|A O<|qC O d<|A O<|qC O d<|qI O ok262 (wO _ _) ⟨H,O,H,O,T⟩<|A O<|G<|F O<|A O<|yN O<|G<|zD O (fun c1=>?_) (fun c1=>?_)
 ·try simp only [I] at c1
  refine F O<|A O<|A O<|G<|o<|X O ?_
  rw [cmpLs,if_neg c1]
 ·try simp only [I] at c1
  refine zK<|F O<|A O<|A O<|A O<|qI O ok292 (zIw a b c f ha hb hc) ⟨H,O,H,O,H,O,T⟩<|A O<|G<|o<|X O ?_
  rw [cmpLs,if_pos c1]
theorem zVb (a b:List Lf) (c:C) (f:Lf->Lf->Int) (ha:a.length<=4294967296) (hb:b.length<=4294967296) (hc:∀x,x∈a->∀y,y∈b->FnPur cfg c [vLin x,vLin y] (vI (f x y))):
    Pur cfg 293 [.c (.sl 2 (a.map Lf.cells)),.c (.sl 2 (b.map Lf.cells)),.c c] (vI (cmpLs f a b)):=by
 refine zT Tryz.func293 O Tryz.ntmps293 Tryz.results293 O ?_
 intro z hz
 refine F O<|A O<|G<|zJ<|F O<|A O<|qC O el70<|A O<|qC O el70<|qI O ok262 (wO _ _) ⟨H,O,H,O,T⟩<|A O<|G<|F O<|A O<|yN O<|G<|zD O (fun c1=>?_) (fun c1=>?_)
 ·try simp only [I] at c1
  refine F O<|A O<|A O<|G<|o<|X O ?_
  rw [cmpLs,if_neg c1]
 ·try simp only [I] at c1
  refine zK<|F O<|A O<|A O<|A O<|qI O ok303 (zIv a b c f ha hb hc) ⟨H,O,H,O,H,O,T⟩<|A O<|G<|o<|X O ?_
  rw [cmpLs,if_pos c1]
theorem zVd (a b:List Ex) (c:C) (f:Ex->Ex->Int) (ha:a.length<=4294967296) (hb:b.length<=4294967296) (hc:∀x,x∈a->∀y,y∈b->FnPur cfg c [vE x,vE y] (vI (f x y))):
    Pur cfg 269 [.c (.sl 13 (a.map Ex.cells)),.c (.sl 13 (b.map Ex.cells)),.c c] (vI (cmpLs f a b)):=by
 refine zT Tryz.func269 O Tryz.ntmps269 Tryz.results269 O ?_
 intro z hz
 refine F O<|A O<|G<|zJ<|F O<|A O<|qC O el42<|A O<|qC O el42<|qI O ok262 (wO _ _) ⟨H,O,H,O,T⟩<|A O<|G<|F O<|A O<|yN O<|G<|zD O (fun c1=>?_) (fun c1=>?_)
 ·try simp only [I] at c1
  refine F O<|A O<|A O<|G<|o<|X O ?_
  rw [cmpLs,if_neg c1]
 ·try simp only [I] at c1
  refine zK<|F O<|A O<|A O<|A O<|qI O ok294 (zIx a b c f ha hb hc) ⟨H,O,H,O,H,O,T⟩<|A O<|G<|o<|X O ?_
  rw [cmpLs,if_pos c1]
theorem lin_order (a b:Int):
    Pur cfg 291 [vI a,vI b] (vI (cmpI a b)):=by
 refine zT Tryz.func291 O Tryz.ntmps291 Tryz.results291 O ?_
 intro z hz
 refine F O<|A O<|G<|zJ<|zR<|F O<|A O<|A O<|yD O<|A O<|G<|zD O (fun c1=>?_) (fun c1=>?_)
 ·try simp only [I] at c1
  refine F O<|A O<|G<|o<|X O ?_
  rw [cmpI_lt c1]
 ·try simp only [I] at c1
  refine F O<|A O<|A O<|zU O (yG O O O)<|A O<|G<|zD O (fun c2=>?_) (fun c2=>?_)
  ·try simp only [I] at c2
   refine F O<|A O<|G<|o<|X O ?_
   rw [cmpI_gt c2]
  ·try simp only [I] at c2
   refine zK<|F O<|A O<|G<|o<|X O ?_
   rw [cmpI_eq (by omega) (by omega)]
theorem lin_Compare_1 (x y:Mono):
    Pur cfg 290 [vMono x,vMono y] (vI (cmpM x y)):=by
 refine zT Tryz.func290 O Tryz.ntmps290 Tryz.results290 O ?_
 intro z hz
 refine F O<|zX O O (qN O O) ?_
 rintro _ _ ⟨b1,rfl,rfl⟩
 refine zX O O (qN O O) ?_
 rintro _ _ ⟨b2,rfl,rfl⟩
 refine A O<|G<|zJ<|F O<|zH O zAc<|zM one9 (R 1 O) O<|zH O zAc<|zM one9 (R 0 O) O<|zU O (zAp O O O)<|G<|zD O (fun c1=>?_) (fun c1=>?_)
 ·try simp only [I] at c1
  refine F O<|zH O zAc<|zM one9 (R 1 O) O<|zH O zAc<|zM one9 (R 0 O) O<|qI O ok263 (strings_Compare _ _) ⟨H,O,H,O,T⟩<|A O<|G<|o<|X O ?_
  rw [cmpM,if_neg c1]
 ·try simp only [I] at c1
  refine zK<|F O<|zH O zDd<|zM W (R 1 O) O<|zH O zDd<|zM W (R 0 O) O<|qI O ok291 (lin_order _ _) ⟨H,O,H,O,T⟩<|A O<|G<|o<|X O ?_
  rw [cmpM,if_pos c1]
theorem zLw (a b:Lf) (ha:a.L.length<=4294967296) (hb:b.L.length<=4294967296):
    Pur cfg 266 [vLin a,vLin b] (vI (cmpLf a b)):=by
 refine zT Tryz.func266 O Tryz.ntmps266 Tryz.results266 O ?_
 intro z hz
 refine F O<|zX O O (qN O O) ?_
 rintro _ _ ⟨b1,rfl,rfl⟩
 refine zX O O (qN O O) ?_
 rintro _ _ ⟨b2,rfl,rfl⟩
 refine A O<|G<|F O<|zH O yT<|zM wE (R 1 O) O<|zH O yT<|zM wE (R 0 O) O<|qI O ok289 (zHh a.L b.L _ cmpM ha hb (fun x _ y _=>FnPur.of_pur (first:=[]) (cap:=[]) ok290 (lin_Compare_1 x y))) ⟨H,O,H,O,H,O,T⟩<|A O<|G<|zJ<|F O<|A O<|yN O<|G<|zD O (fun c1=>?_) (fun c1=>?_)
 ·try simp only [I] at c1
  refine F O<|A O<|A O<|G<|o<|X O ?_
  rw [cmpLf,if_neg c1]
 ·try simp only [I] at c1
  refine zK<|F O<|zH O zCg<|zM W (R 1 O) O<|zH O zCg<|zM W (R 0 O) O<|qI O ok291 (lin_order _ _) ⟨H,O,H,O,T⟩<|A O<|G<|o<|X O ?_
  rw [cmpLf,if_pos c1]
theorem zPe (a b:Ix) (ha:a.wt<=4294967296) (hb:b.wt<=4294967296):
    Pur cfg 268 [vIndex a,vIndex b] (vI (cmpIx a b)):=by
 refine zT Tryz.func268 O Tryz.ntmps268 Tryz.results268 O ?_
 intro z hz
 have hwa:=ha
 have hwb:=hb
 unfold Ix.wt at hwa hwb
 refine F O<|zX O O (qN O O) ?_
 rintro _ _ ⟨b1,rfl,rfl⟩
 refine zX O O (qN O O) ?_
 rintro _ _ ⟨b2,rfl,rfl⟩
 refine A O<|G<|zJ<|F O<|zH O zEo<|zM one9 (R 1 O) O<|zH O zEo<|zM one9 (R 0 O) O<|qI O ok263 (strings_Compare _ _) ⟨H,O,H,O,T⟩<|A O<|G<|F O<|A O<|yN O<|G<|zD O (fun c1=>?_) (fun c1=>?_)
 ·try simp only [I] at c1
  refine F O<|A O<|A O<|G<|o<|X O ?_
  rw [cmpIx,if_neg c1]
 ·try simp only [I] at c1
  refine zK<|zJ<|F O<|zH O zEp<|zP yK (R 1 O) O<|zH O zEp<|zP yK (R 0 O) O<|qI O ok266 (zLw a.Lin b.Lin (by omega) (by omega)) ⟨H,O,H,O,T⟩<|A O<|G<|F O<|A O<|yN O<|G<|zD O (fun c2=>?_) (fun c2=>?_)
  ·try simp only [I] at c2
   refine F O<|A O<|A O<|G<|o<|X O ?_
   rw [cmpIx,if_pos c1,if_neg c2]
  ·try simp only [I] at c2
   refine zK<|F O<|zH O zAq<|zM zEh (R 1 O) O<|zH O zAq<|zM zEh (R 0 O) O<|qI O ok293 (zVb a.At b.At _ cmpLf (by omega) (by omega) (fun x hx y hy=>FnPur.of_pur (first:=[]) (cap:=[]) ok266 (zLw x y (by have:=zDb hx;omega) (by have:=zDb hy;omega)))) ⟨H,O,H,O,H,O,T⟩<|A O<|G<|o<|X O ?_
   rw [cmpIx,if_pos c1,if_pos c2]
theorem zQn (a b:Ty):
    Pur cfg 265 [vTy a,vTy b] (vI (cmpTy a b)):=by
 refine zT Tryz.func265 O Tryz.ntmps265 Tryz.results265 O ?_
 intro z hz
 refine F O<|zX O O (qN O O) ?_
 rintro _ _ ⟨b1,rfl,rfl⟩
 refine zX O O (qN O O) ?_
 rintro _ _ ⟨b2,rfl,rfl⟩
 refine A O<|G<|zJ<|qY 28 mixed (by kernel_rfl) O O<|M O O (zE O zGu O)<|M O O (zF O one3 O (R 1 O) O)<|M O O (zE O zGu O)<|M O O (zF O one3 O (R 0 O) O)<|M O O (qM O ok262 (wO _ _) ⟨H,O,H,O,T⟩)<|M O O (zE O zLj O)<|M O O (zF O one3 O (R 1 O) O)<|M O O (zE O zLj O)<|M O O (zF O one3 O (R 0 O) O)<|M O O (qM O ok262 (wO _ _) ⟨H,O,H,O,T⟩)<|M O O (zE O zUq O)<|M O O (zF O one3 O (R 1 O) O)<|M O O (zE O zUq O)<|M O O (zF O one3 O (R 0 O) O)<|M O O (qM O ok262 (wO _ _) ⟨H,O,H,O,T⟩)<|M O O (zE O zUp O)<|M O O (zF O one3 O (R 1 O) O)<|M O O (zE O zUp O)<|M O O (zF O one3 O (R 0 O) O)<|M O O (qM O ok262 (wO _ _) ⟨H,O,H,O,T⟩)<|M O O (zE O zUo O)<|M O O (zF O one3 O (R 1 O) O)<|M O O (zE O zUo O)<|M O O (zF O one3 O (R 0 O) O)<|M O O (qM O ok262 (wO _ _) ⟨H,O,H,O,T⟩)<|M O O (wI O K zr3 O O O O)<|M O O (qM O ok261 (cmp_Or_int [cmpI a.Kind b.Kind,cmpI a.Bits b.Bits,cmpI a.Frac b.Frac,cmpI a.Round b.Round,cmpI a.Over b.Over] (by simp)) ⟨H,O,T⟩)<|M O O (yA O O)<|kD<|G<|o<|X O ?_
 exact O
theorem zPf (a b:Ex) (ih:∀x,x∈a.Args->∀y,x.wt<=4294967296->y.wt<=4294967296->Pur cfg 234 [vE x,vE y] (vI (cmpE x y))) (ha:a.wt<=4294967296) (hb:b.wt<=4294967296):
    Pur cfg 234 [vE a,vE b] (vI (cmpE a b)):=by
 refine zT Tryz.func234 O Tryz.ntmps234 Tryz.results234 O ?_
 intro z hz
 obtain ⟨hLa,hIa,hAa⟩:=a.parts ha
 obtain ⟨hLb,hIb,hAb⟩:=b.parts hb
 have hwa:=Ex.wt_eq a
 have hwb:=Ex.wt_eq b
 refine F O<|zX O O (qN O O) ?_
 rintro _ _ ⟨b1,rfl,rfl⟩
 refine zX O O (qN O O) ?_
 rintro _ _ ⟨b2,rfl,rfl⟩
 refine A O<|G<|zJ<|qY 37 mixed (by kernel_rfl) O O<|M O O (zE O wF O)<|M O O (zF O one3 O (R 1 O) O)<|M O O (zE O wF O)<|M O O (zF O one3 O (R 0 O) O)<|M O O (qM O ok262 (wO _ _) ⟨H,O,H,O,T⟩)<|M O O (zE O zFk O)<|M O O (zF O one9 O (R 1 O) O)<|M O O (zE O zFk O)<|M O O (zF O one9 O (R 0 O) O)<|M O O (qM O ok263 (strings_Compare _ _) ⟨H,O,H,O,T⟩)<|M O O (zE O zJw O)<|M O O (zE O zGv O)<|M O O (zF O W O (R 1 O) O)<|M O O (zE O zJw O)<|M O O (zE O zGv O)<|M O O (zF O W O (R 0 O) O)<|M O O (qM O ok264 (zKb _ _) ⟨H,O,H,O,T⟩)<|M O O (zE O zJw O)<|M O O (zE O zIh O)<|M O O (zF O W O (R 1 O) O)<|M O O (zE O zJw O)<|M O O (zE O zIh O)<|M O O (zF O W O (R 0 O) O)<|M O O (qM O ok264 (zKb _ _) ⟨H,O,H,O,T⟩)<|M O O (zE O zFj O)<|M O O (zZ O yR O (R 1 O) O)<|M O O (zE O zFj O)<|M O O (zZ O yR O (R 0 O) O)<|M O O (qM O ok265 (zQn _ _) ⟨H,O,H,O,T⟩)<|M O O (zE O zDj O)<|M O O (zZ O yK O (R 1 O) O)<|M O O (zE O zDj O)<|M O O (zZ O yK O (R 0 O) O)<|M O O (qM O ok266 (zLw a.Lin b.Lin hLa hLb) ⟨H,O,H,O,T⟩)<|M O O (wI O K zr3 O O O O)<|M O O (qM O ok261 (cmp_Or_int [cmpI a.Op b.Op,cmpS a.Name b.Name,cmpI a.Val.N b.Val.N,cmpI a.Val.D b.Val.D,cmpTy a.Ty b.Ty,cmpLf a.Lin b.Lin] (by simp)) ⟨H,O,T⟩)<|M O O (yA O O)<|kD<|G<|zJ<|F O<|A O<|yN O<|G<|zD O (fun c1=>?_) (fun c1=>?_)
 ·try simp only [I] at c1
  refine F O<|A O<|A O<|G<|o<|X O ?_
  rw [cmpE_eq,if_neg (show ¬cmpHd a b=0 from c1)];rfl
 ·try simp only [I] at c1
  refine zK<|zJ<|F O<|zH O wD<|zM wQ (R 1 O) O<|zH O wD<|zM wQ (R 0 O) O<|qI O ok267 (zVc a.Idx b.Idx _ cmpIx hIa hIb (fun x hx y hy=>FnPur.of_pur (first:=[]) (cap:=[]) ok268 (zPe x y (by have:=zAy hx;omega) (by have:=zAy hy;omega)))) ⟨H,O,H,O,H,O,T⟩<|A O<|G<|F O<|A O<|yN O<|G<|zD O (fun c2=>?_) (fun c2=>?_)
  ·try simp only [I] at c2
   refine F O<|A O<|A O<|G<|o<|X O ?_
   rw [cmpE_eq,if_pos (show cmpHd a b=0 from c1),if_neg c2]
  ·try simp only [I] at c2
   refine zK<|F O<|zH O wN<|zM zBk (R 1 O) O<|zH O wN<|zM zBk (R 0 O) O<|qI O ok269 (zVd a.Args b.Args _ cmpE hAa hAb (fun x hx y hy=>FnPur.of_pur (first:=[]) (cap:=[]) ok234 (ih x hx y (by have:=Ex.arg_wt hx;omega) (by have:=Ex.arg_wt hy;omega)))) ⟨H,O,H,O,H,O,T⟩<|A O<|G<|o<|X O ?_
   rw [cmpE_eq,if_pos (show cmpHd a b=0 from c1),if_pos c2]
theorem expr_Compare (a b:Ex) (ha:a.wt<=4294967296) (hb:b.wt<=4294967296):Pur cfg 234 [vE a,vE b] (vI (cmpE a b)):=by
  induction a using Ex.ind generalizing b with
  |_ a ih=>exact zPf a b (fun x hx y h1 h2=>ih x hx y h1 h2) ha hb
theorem expr_Same (a b:Ex) (ha:a.wt<=4294967296) (hb:b.wt<=4294967296):
    Pur cfg 205 [vE a,vE b] (vB (decide (a=b))):=by
 refine zT Tryz.func205 O Tryz.ntmps205 Tryz.results205 O ?_
 intro z hz
 refine F O<|zX O O (qN O O) ?_
 rintro _ _ ⟨b1,rfl,rfl⟩
 refine zX O O (qN O O) ?_
 rintro _ _ ⟨b2,rfl,rfl⟩
 refine A O<|G<|F O<|zP kC (R 1 O) O<|zP kC (R 0 O) O<|qI O ok234 (expr_Compare a b ha hb) ⟨H,O,H,O,T⟩<|yF O<|A O<|G<|o<|X O ?_
 exact congrArg vB (decide_eq_decide.2 (cmpE_zero a b))
end Go.W
