/-
  Walks: what functions of the program compute. Printed by wip/gen/mk2.py.
  Conditions: none.
-/
import Derived.Test.YtlfjpejkoccibaaGreatDoorWE
import Derived.Test.YtlfjpejkoccibaaGreatDoorPlain
import Derived.Test.YtlfjpejkoccibaaGreatDoorEngZ
set_option linter.unusedSimpArgs false
set_option linter.unusedVariables false
set_option maxRecDepth 10000
namespace Go.W
open Go Go.Eng Go.Proofs Go.L41 Go.Br
attribute [local irreducible] AWP RWP TD finQ
theorem el26:elemT Tryz.prog 26=some (3,1,8):=by kernel_rfl
theorem ok234:callOk Tryz.prog 234=true:=by kernel_rfl
theorem ok261:callOk Tryz.prog 261=true:=by kernel_rfl
theorem ok262:callOk Tryz.prog 262=true:=by kernel_rfl
theorem ok263:callOk Tryz.prog 263=true:=by kernel_rfl
theorem ok264:callOk Tryz.prog 264=true:=by kernel_rfl
theorem ok265:callOk Tryz.prog 265=true:=by kernel_rfl
theorem ok266:callOk Tryz.prog 266=true:=by kernel_rfl
theorem ok267:callOk Tryz.prog 267=true:=by kernel_rfl
theorem ok268:callOk Tryz.prog 268=true:=by kernel_rfl
theorem ok269:callOk Tryz.prog 269=true:=by kernel_rfl
theorem ok286:callOk Tryz.prog 286=true:=by kernel_rfl
theorem ok288:callOk Tryz.prog 288=true:=by kernel_rfl
theorem ok289:callOk Tryz.prog 289=true:=by kernel_rfl
theorem ok290:callOk Tryz.prog 290=true:=by kernel_rfl
theorem ok291:callOk Tryz.prog 291=true:=by kernel_rfl
theorem ok292:callOk Tryz.prog 292=true:=by kernel_rfl
theorem ok293:callOk Tryz.prog 293=true:=by kernel_rfl
theorem ok294:callOk Tryz.prog 294=true:=by kernel_rfl
theorem ok303:callOk Tryz.prog 303=true:=by kernel_rfl
theorem zMd (a:Int):
    Pur cfg 286 [vI a] (vB false):=by
 refine zR Tryz.func286 O Tryz.ntmps286 Tryz.results286 O ?_
 intro z hz
 refine G O<|F O<|I<|G O<|F O<|F O<|yR O<|F O<|I<|o<|X O ?_
 exact congrArg vB (by simp)
theorem wD (a b:Int):
    Pur cfg 262 [vI a,vI b] (vI (cmpI a b)):=by
 refine zR Tryz.func262 O Tryz.ntmps262 Tryz.results262 O ?_
 intro z hz
 refine G O<|F O<|I<|G O<|F O<|qJ O ok286 (zMd a) ⟨H,O,T⟩<|F O<|I<|G O<|F O<|qJ O ok286 (zMd b) ⟨H,O,T⟩<|F O<|I<|zJ<|G O<|F O<|I<|zF O (fun c1=>?_) (fun c1=>?_)
 ·exact absurd c1 (by decide)
 ·refine zI<|zJ<|G O<|F O<|I<|zF O (fun c3=>?_) (fun c3=>?_)
  ·exact absurd c3 (by decide)
  ·refine zI<|zJ<|G O<|F O<|F O<|yH O<|I<|zF O (fun c4=>?_) (fun c4=>?_)
   ·try simp only [R] at c4
    refine G O<|F O<|I<|o<|X O ?_
    rw [cmpI_lt c4]
   ·try simp only [R] at c4
    refine zI<|zJ<|G O<|F O<|F O<|zX O (yC O O O)<|I<|zF O (fun c5=>?_) (fun c5=>?_)
    ·try simp only [R] at c5
     refine G O<|F O<|I<|o<|X O ?_
     rw [cmpI_gt c5]
    ·try simp only [R] at c5
     refine zI<|G O<|F O<|I<|o<|X O ?_
     rw [cmpI_eq (by omega) (by omega)]
theorem zMe (a:Int):
    Pur cfg 288 [vI a] (vB false):=by
 refine zR Tryz.func288 O Tryz.ntmps288 Tryz.results288 O ?_
 intro z hz
 refine G O<|F O<|I<|G O<|F O<|F O<|yR O<|F O<|I<|o<|X O ?_
 exact congrArg vB (by simp)
theorem zIv (a b:Int):
    Pur cfg 264 [vI a,vI b] (vI (cmpI a b)):=by
 refine zR Tryz.func264 O Tryz.ntmps264 Tryz.results264 O ?_
 intro z hz
 refine G O<|F O<|I<|G O<|F O<|qJ O ok288 (zMe a) ⟨H,O,T⟩<|F O<|I<|G O<|F O<|qJ O ok288 (zMe b) ⟨H,O,T⟩<|F O<|I<|zJ<|G O<|F O<|I<|zF O (fun c1=>?_) (fun c1=>?_)
 ·exact absurd c1 (by decide)
 ·refine zI<|zJ<|G O<|F O<|I<|zF O (fun c3=>?_) (fun c3=>?_)
  ·exact absurd c3 (by decide)
  ·refine zI<|zJ<|G O<|F O<|F O<|yH O<|I<|zF O (fun c4=>?_) (fun c4=>?_)
   ·try simp only [R] at c4
    refine G O<|F O<|I<|o<|X O ?_
    rw [cmpI_lt c4]
   ·try simp only [R] at c4
    refine zI<|zJ<|G O<|F O<|F O<|zX O (yC O O O)<|I<|zF O (fun c5=>?_) (fun c5=>?_)
    ·try simp only [R] at c5
     refine G O<|F O<|I<|o<|X O ?_
     rw [cmpI_gt c5]
    ·try simp only [R] at c5
     refine zI<|G O<|F O<|I<|o<|X O ?_
     rw [cmpI_eq (by omega) (by omega)]
theorem cmp_Or_int (l:List Int) (hl:l.length<=4294967296):
    Pur cfg 261 [.c (.sl 1 (l.map fun n=>[cI n]))] (vI (orI l)):=by
 refine zR Tryz.func261 O Tryz.ntmps261 Tryz.results261 O ?_
 intro z hz
 refine G O<|F O<|I<|G O<|F O<|I<|zJ<|G O<|F O<|qB O el26<|F O<|I<|zQ<|zW ⟨[(8,.c _),(3,.c _),(6,.c _),(7,.c _)],[]⟩ (Weak.mk [] ⟨H,H,H,H,T⟩ O)<|qK 1 0 O O (Nat) (fun k=>[(8,vI k)]) (fun k=>[]) (fun k=>k<=l.length/\(orI l=orI (l.drop k))) (fun k=>l.length-k) ⟨0,⟨by omega,O⟩,Weak.mk [] ⟨H,H,H,H,T⟩ O⟩ ?_
 rintro k ⟨hk,hp⟩
 refine G O<|yH O<|I<|zJ<|zF O (fun c1=>?_) (fun c1=>?_)
 ·try simp only [R] at c1
  obtain ⟨x,hx⟩:=qW l k (by omega)
  refine zI<|zJ<|zQ<|G O<|qC O el26 (by omega) (N (by assumption))<|zK J qA O<|F O<|I<|G O<|F O<|F O<|yR O<|I<|zF O (fun c2=>?_) (fun c2=>?_)
  ·try simp only [R] at c2
   refine G O<|F O<|F O<|I<|o<|X O ?_
   rw [hp,orI_at hx c2]
  ·try simp only [R] at c2
   refine zI<|zS O<|qH O ⟨by omega,by omega⟩<|F O<|I ?_
   refine ⟨k+1,⟨by omega,hp.trans (orI_next hx c2)⟩,(by omega),Weak.mk [] ⟨H,H,H,H,T⟩ O⟩
 ·try simp only [R] at c1
  refine qN<|G O<|F O<|F O<|I<|o<|X O ?_
  rw [hp,kC (by omega)];rfl
theorem zGd (a b:List Mono) (c:C) (f:Mono->Mono->Int) (ha:a.length<=4294967296) (hb:b.length<=4294967296) (hc:∀x,x∈a->∀y,y∈b->FnPur cfg c [vMono x,vMono y] (vI (f x y))):
    Pur cfg 289 [.c (.sl 2 (a.map Mono.cells)),.c (.sl 2 (b.map Mono.cells)),.c c] (vI (cmpL f a b)):=by
 refine zR Tryz.func289 O Tryz.ntmps289 Tryz.results289 O ?_
 intro z hz
 refine G O<|F O<|I<|zJ<|G O<|F O<|qB O U<|F O<|I<|zQ<|zW ⟨[(13,.c _),(0,.c _),(1,.c _),(2,.c _),(11,.c _),(12,.c _)],[]⟩ (Weak.mk [] ⟨H,H,H,H,H,H,T⟩ O)<|qK 1 0 O O (Nat) (fun k=>[(13,vI k)]) (fun k=>[]) (fun k=>k<=a.length/\(cmpL f a b=cmpL f (a.drop k) (b.drop k))/\(k<=b.length)) (fun k=>a.length-k) ⟨0,⟨by omega,O,by omega⟩,Weak.mk [] ⟨H,H,H,H,H,H,T⟩ O⟩ ?_
 rintro k ⟨hk,hp,hq⟩
 refine G O<|yH O<|I<|zJ<|zF O (fun c1=>?_) (fun c1=>?_)
 ·try simp only [R] at c1
  obtain ⟨x,hx⟩:=qW a k (by omega)
  refine zI<|zJ<|zQ<|G O<|F O<|qC O U (by omega) (N (by assumption))<|zO zOb qA O<|zU O O (yW O zr69) ?_
  rintro _ _ ⟨b1,rfl,rfl⟩
  refine F O<|D 0 sz69 O<|I<|zJ<|G O<|F O<|F O<|qB O U<|zX O (wG O O O)<|I<|zF O (fun c2=>?_) (fun c2=>?_)
  ·try simp only [R] at c2
   refine G O<|F O<|I<|o<|X O ?_
   rw [hp,zQa hx (by omega)]
  ·try simp only [R] at c2
   obtain ⟨y,hy⟩:=qW b k (by omega)
   refine zI<|G O<|F O<|F O<|qC O U (by omega) (N (by assumption))<|zO zOb qA O<|zU O O (yW O zr69) ?_
   rintro _ _ ⟨b2,rfl,rfl⟩
   refine D 0 sz69 O<|I<|G O<|F O<|zO zOb (Y 1 O) O<|zO zOb (Y 0 O) O<|zX O (kR O O (hc _ (zZ hx) _ (zZ hy)) ⟨H,O,H,O,T⟩)<|F O<|I<|G O<|F O<|yR O<|I<|zF O (fun c3=>?_) (fun c3=>?_)
   ·try simp only [R] at c3
    refine G O<|F O<|F O<|I<|o<|X O ?_
    rw [hp,cmpL_ne hx hy c3]
   ·try simp only [R] at c3
    refine zI<|zS O<|qH O ⟨by omega,by omega⟩<|F O<|I ?_
    refine ⟨k+1,⟨by omega,hp.trans (zMg hx hy c3),by omega⟩,(by omega),Weak.mk [false,false] ⟨H,H,H,H,H,H,T⟩ O⟩
 ·try simp only [R] at c1
  refine qN<|zJ<|G O<|F O<|qB O U<|F O<|qB O U<|yH O<|I<|zF O (fun c4=>?_) (fun c4=>?_)
  ·try simp only [R] at c4
   refine G O<|F O<|I<|o<|X O ?_
   rw [hp,zMh (by omega) (by omega)]
  ·try simp only [R] at c4
   refine zI<|G O<|F O<|I<|o<|X O ?_
   rw [hp,zQb (by omega) (by omega)]
theorem zHu (a b:List Ix) (c:C) (f:Ix->Ix->Int) (ha:a.length<=4294967296) (hb:b.length<=4294967296) (hc:∀x,x∈a->∀y,y∈b->FnPur cfg c [vIndex x,vIndex y] (vI (f x y))):
    Pur cfg 292 [.c (.sl 4 (a.map Ix.cells)),.c (.sl 4 (b.map Ix.cells)),.c c] (vI (cmpL f a b)):=by
 refine zR Tryz.func292 O Tryz.ntmps292 Tryz.results292 O ?_
 intro z hz
 refine G O<|F O<|I<|zJ<|G O<|F O<|qB O A<|F O<|I<|zQ<|zW ⟨[(13,.c _),(0,.c _),(1,.c _),(2,.c _),(11,.c _),(12,.c _)],[]⟩ (Weak.mk [] ⟨H,H,H,H,H,H,T⟩ O)<|qK 1 0 O O (Nat) (fun k=>[(13,vI k)]) (fun k=>[]) (fun k=>k<=a.length/\(cmpL f a b=cmpL f (a.drop k) (b.drop k))/\(k<=b.length)) (fun k=>a.length-k) ⟨0,⟨by omega,O,by omega⟩,Weak.mk [] ⟨H,H,H,H,H,H,T⟩ O⟩ ?_
 rintro k ⟨hk,hp,hq⟩
 refine G O<|yH O<|I<|zJ<|zF O (fun c1=>?_) (fun c1=>?_)
 ·try simp only [R] at c1
  obtain ⟨x,hx⟩:=qW a k (by omega)
  refine zI<|zJ<|zQ<|G O<|F O<|qC O A (by omega) (N (by assumption))<|zO zOa qA O<|zU O O (qE [none,some 2,none,some 2] O zr72 O) ?_
  rintro _ _ ⟨b1,rfl,rfl⟩
  refine F O<|D 0 sz72 O<|I<|zJ<|G O<|F O<|F O<|qB O A<|zX O (wG O O O)<|I<|zF O (fun c2=>?_) (fun c2=>?_)
  ·try simp only [R] at c2
   refine G O<|F O<|I<|o<|X O ?_
   rw [hp,zQa hx (by omega)]
  ·try simp only [R] at c2
   obtain ⟨y,hy⟩:=qW b k (by omega)
   refine zI<|G O<|F O<|F O<|qC O A (by omega) (N (by assumption))<|zO zOa qA O<|zU O O (qE [none,some 2,none,some 2] O zr72 O) ?_
   rintro _ _ ⟨b2,rfl,rfl⟩
   refine D 0 sz72 O<|I<|G O<|F O<|zO zOa (Y 1 O) O<|zO zOa (Y 0 O) O<|zX O (kR O O (hc _ (zZ hx) _ (zZ hy)) ⟨H,O,H,O,T⟩)<|F O<|I<|G O<|F O<|yR O<|I<|zF O (fun c3=>?_) (fun c3=>?_)
   ·try simp only [R] at c3
    refine G O<|F O<|F O<|I<|o<|X O ?_
    rw [hp,cmpL_ne hx hy c3]
   ·try simp only [R] at c3
    refine zI<|zS O<|qH O ⟨by omega,by omega⟩<|F O<|I ?_
    refine ⟨k+1,⟨by omega,hp.trans (zMg hx hy c3),by omega⟩,(by omega),Weak.mk [false,false] ⟨H,H,H,H,H,H,T⟩ O⟩
 ·try simp only [R] at c1
  refine qN<|zJ<|G O<|F O<|qB O A<|F O<|qB O A<|yH O<|I<|zF O (fun c4=>?_) (fun c4=>?_)
  ·try simp only [R] at c4
   refine G O<|F O<|I<|o<|X O ?_
   rw [hp,zMh (by omega) (by omega)]
  ·try simp only [R] at c4
   refine zI<|G O<|F O<|I<|o<|X O ?_
   rw [hp,zQb (by omega) (by omega)]
theorem zHt (a b:List Lf) (c:C) (f:Lf->Lf->Int) (ha:a.length<=4294967296) (hb:b.length<=4294967296) (hc:∀x,x∈a->∀y,y∈b->FnPur cfg c [vLin x,vLin y] (vI (f x y))):
    Pur cfg 303 [.c (.sl 2 (a.map Lf.cells)),.c (.sl 2 (b.map Lf.cells)),.c c] (vI (cmpL f a b)):=by
 refine zR Tryz.func303 O Tryz.ntmps303 Tryz.results303 O ?_
 intro z hz
 refine G O<|F O<|I<|zJ<|G O<|F O<|qB O s<|F O<|I<|zQ<|zW ⟨[(13,.c _),(0,.c _),(1,.c _),(2,.c _),(11,.c _),(12,.c _)],[]⟩ (Weak.mk [] ⟨H,H,H,H,H,H,T⟩ O)<|qK 1 0 O O (Nat) (fun k=>[(13,vI k)]) (fun k=>[]) (fun k=>k<=a.length/\(cmpL f a b=cmpL f (a.drop k) (b.drop k))/\(k<=b.length)) (fun k=>a.length-k) ⟨0,⟨by omega,O,by omega⟩,Weak.mk [] ⟨H,H,H,H,H,H,T⟩ O⟩ ?_
 rintro k ⟨hk,hp,hq⟩
 refine G O<|yH O<|I<|zJ<|zF O (fun c1=>?_) (fun c1=>?_)
 ·try simp only [R] at c1
  obtain ⟨x,hx⟩:=qW a k (by omega)
  refine zI<|zJ<|zQ<|G O<|F O<|qC O s (by omega) (N (by assumption))<|zO yY qA O<|zU O O (qE [none,some 2] O zr41 O) ?_
  rintro _ _ ⟨b1,rfl,rfl⟩
  refine F O<|D 0 sz41 O<|I<|zJ<|G O<|F O<|F O<|qB O s<|zX O (wG O O O)<|I<|zF O (fun c2=>?_) (fun c2=>?_)
  ·try simp only [R] at c2
   refine G O<|F O<|I<|o<|X O ?_
   rw [hp,zQa hx (by omega)]
  ·try simp only [R] at c2
   obtain ⟨y,hy⟩:=qW b k (by omega)
   refine zI<|G O<|F O<|F O<|qC O s (by omega) (N (by assumption))<|zO yY qA O<|zU O O (qE [none,some 2] O zr41 O) ?_
   rintro _ _ ⟨b2,rfl,rfl⟩
   refine D 0 sz41 O<|I<|G O<|F O<|zO yY (Y 1 O) O<|zO yY (Y 0 O) O<|zX O (kR O O (hc _ (zZ hx) _ (zZ hy)) ⟨H,O,H,O,T⟩)<|F O<|I<|G O<|F O<|yR O<|I<|zF O (fun c3=>?_) (fun c3=>?_)
   ·try simp only [R] at c3
    refine G O<|F O<|F O<|I<|o<|X O ?_
    rw [hp,cmpL_ne hx hy c3]
   ·try simp only [R] at c3
    refine zI<|zS O<|qH O ⟨by omega,by omega⟩<|F O<|I ?_
    refine ⟨k+1,⟨by omega,hp.trans (zMg hx hy c3),by omega⟩,(by omega),Weak.mk [false,false] ⟨H,H,H,H,H,H,T⟩ O⟩
 ·try simp only [R] at c1
  refine qN<|zJ<|G O<|F O<|qB O s<|F O<|qB O s<|yH O<|I<|zF O (fun c4=>?_) (fun c4=>?_)
  ·try simp only [R] at c4
   refine G O<|F O<|I<|o<|X O ?_
   rw [hp,zMh (by omega) (by omega)]
  ·try simp only [R] at c4
   refine zI<|G O<|F O<|I<|o<|X O ?_
   rw [hp,zQb (by omega) (by omega)]
theorem zHv (a b:List Ex) (c:C) (f:Ex->Ex->Int) (ha:a.length<=4294967296) (hb:b.length<=4294967296) (hc:∀x,x∈a->∀y,y∈b->FnPur cfg c [vE x,vE y] (vI (f x y))):
    Pur cfg 294 [.c (.sl 13 (a.map Ex.cells)),.c (.sl 13 (b.map Ex.cells)),.c c] (vI (cmpL f a b)):=by
 refine zR Tryz.func294 O Tryz.ntmps294 Tryz.results294 O ?_
 intro z hz
 refine G O<|F O<|I<|zJ<|G O<|F O<|qB O g<|F O<|I<|zQ<|zW ⟨[(13,.c _),(0,.c _),(1,.c _),(2,.c _),(11,.c _),(12,.c _)],[]⟩ (Weak.mk [] ⟨H,H,H,H,H,H,T⟩ O)<|qK 1 0 O O (Nat) (fun k=>[(13,vI k)]) (fun k=>[]) (fun k=>k<=a.length/\(cmpL f a b=cmpL f (a.drop k) (b.drop k))/\(k<=b.length)) (fun k=>a.length-k) ⟨0,⟨by omega,O,by omega⟩,Weak.mk [] ⟨H,H,H,H,H,H,T⟩ O⟩ ?_
 rintro k ⟨hk,hp,hq⟩
 refine G O<|yH O<|I<|zJ<|zF O (fun c1=>?_) (fun c1=>?_)
 ·try simp only [R] at c1
  obtain ⟨x,hx⟩:=qW a k (by omega)
  refine zI<|zJ<|zQ<|G O<|F O<|qC O g (by omega) (zCk (by assumption))<|zO yX qA O<|zU O O (qE [none,none,none,none,none,none,none,none,none,none,some 2,some 4,some 13] O zr44 O) ?_
  rintro _ _ ⟨b1,rfl,rfl⟩
  refine F O<|D 0 sz44 O<|I<|zJ<|G O<|F O<|F O<|qB O g<|zX O (wG O O O)<|I<|zF O (fun c2=>?_) (fun c2=>?_)
  ·try simp only [R] at c2
   refine G O<|F O<|I<|o<|X O ?_
   rw [hp,zQa hx (by omega)]
  ·try simp only [R] at c2
   obtain ⟨y,hy⟩:=qW b k (by omega)
   refine zI<|G O<|F O<|F O<|qC O g (by omega) (zCk (by assumption))<|zO yX qA O<|zU O O (qE [none,none,none,none,none,none,none,none,none,none,some 2,some 4,some 13] O zr44 O) ?_
   rintro _ _ ⟨b2,rfl,rfl⟩
   refine D 0 sz44 O<|I<|G O<|F O<|zO yX (Y 1 O) O<|zO yX (Y 0 O) O<|zX O (kR O O (hc _ (zZ hx) _ (zZ hy)) ⟨H,O,H,O,T⟩)<|F O<|I<|G O<|F O<|yR O<|I<|zF O (fun c3=>?_) (fun c3=>?_)
   ·try simp only [R] at c3
    refine G O<|F O<|F O<|I<|o<|X O ?_
    rw [hp,cmpL_ne hx hy c3]
   ·try simp only [R] at c3
    refine zI<|zS O<|qH O ⟨by omega,by omega⟩<|F O<|I ?_
    refine ⟨k+1,⟨by omega,hp.trans (zMg hx hy c3),by omega⟩,(by omega),Weak.mk [false,false] ⟨H,H,H,H,H,H,T⟩ O⟩
 ·try simp only [R] at c1
  refine qN<|zJ<|G O<|F O<|qB O g<|F O<|qB O g<|yH O<|I<|zF O (fun c4=>?_) (fun c4=>?_)
  ·try simp only [R] at c4
   refine G O<|F O<|I<|o<|X O ?_
   rw [hp,zMh (by omega) (by omega)]
  ·try simp only [R] at c4
   refine zI<|G O<|F O<|I<|o<|X O ?_
   rw [hp,zQb (by omega) (by omega)]
theorem zTf (a b:List Ix) (c:C) (f:Ix->Ix->Int) (ha:a.length<=4294967296) (hb:b.length<=4294967296) (hc:∀x,x∈a->∀y,y∈b->FnPur cfg c [vIndex x,vIndex y] (vI (f x y))):
    Pur cfg 267 [.c (.sl 4 (a.map Ix.cells)),.c (.sl 4 (b.map Ix.cells)),.c c] (vI (cmpLs f a b)):=by
 refine zR Tryz.func267 O Tryz.ntmps267 Tryz.results267 O ?_
 intro z hz
 refine G O<|F O<|I<|zJ<|G O<|F O<|qB O A<|F O<|qB O A<|qJ O ok262 (wD _ _) ⟨H,O,H,O,T⟩<|F O<|I<|G O<|F O<|yR O<|I<|zF O (fun c1=>?_) (fun c1=>?_)
 ·try simp only [R] at c1
  refine G O<|F O<|F O<|I<|o<|X O ?_
  rw [cmpLs,if_neg c1]
 ·try simp only [R] at c1
  refine zI<|G O<|F O<|F O<|F O<|qJ O ok292 (zHu a b c f ha hb hc) ⟨H,O,H,O,H,O,T⟩<|F O<|I<|o<|X O ?_
  rw [cmpLs,if_pos c1]
theorem zTe (a b:List Lf) (c:C) (f:Lf->Lf->Int) (ha:a.length<=4294967296) (hb:b.length<=4294967296) (hc:∀x,x∈a->∀y,y∈b->FnPur cfg c [vLin x,vLin y] (vI (f x y))):
    Pur cfg 293 [.c (.sl 2 (a.map Lf.cells)),.c (.sl 2 (b.map Lf.cells)),.c c] (vI (cmpLs f a b)):=by
 refine zR Tryz.func293 O Tryz.ntmps293 Tryz.results293 O ?_
 intro z hz
 refine G O<|F O<|I<|zJ<|G O<|F O<|qB O s<|F O<|qB O s<|qJ O ok262 (wD _ _) ⟨H,O,H,O,T⟩<|F O<|I<|G O<|F O<|yR O<|I<|zF O (fun c1=>?_) (fun c1=>?_)
 ·try simp only [R] at c1
  refine G O<|F O<|F O<|I<|o<|X O ?_
  rw [cmpLs,if_neg c1]
 ·try simp only [R] at c1
  refine zI<|G O<|F O<|F O<|F O<|qJ O ok303 (zHt a b c f ha hb hc) ⟨H,O,H,O,H,O,T⟩<|F O<|I<|o<|X O ?_
  rw [cmpLs,if_pos c1]
theorem zTg (a b:List Ex) (c:C) (f:Ex->Ex->Int) (ha:a.length<=4294967296) (hb:b.length<=4294967296) (hc:∀x,x∈a->∀y,y∈b->FnPur cfg c [vE x,vE y] (vI (f x y))):
    Pur cfg 269 [.c (.sl 13 (a.map Ex.cells)),.c (.sl 13 (b.map Ex.cells)),.c c] (vI (cmpLs f a b)):=by
 refine zR Tryz.func269 O Tryz.ntmps269 Tryz.results269 O ?_
 intro z hz
 refine G O<|F O<|I<|zJ<|G O<|F O<|qB O g<|F O<|qB O g<|qJ O ok262 (wD _ _) ⟨H,O,H,O,T⟩<|F O<|I<|G O<|F O<|yR O<|I<|zF O (fun c1=>?_) (fun c1=>?_)
 ·try simp only [R] at c1
  refine G O<|F O<|F O<|I<|o<|X O ?_
  rw [cmpLs,if_neg c1]
 ·try simp only [R] at c1
  refine zI<|G O<|F O<|F O<|F O<|qJ O ok294 (zHv a b c f ha hb hc) ⟨H,O,H,O,H,O,T⟩<|F O<|I<|o<|X O ?_
  rw [cmpLs,if_pos c1]
theorem lin_order (a b:Int):
    Pur cfg 291 [vI a,vI b] (vI (cmpI a b)):=by
 refine zR Tryz.func291 O Tryz.ntmps291 Tryz.results291 O ?_
 intro z hz
 refine G O<|F O<|I<|zJ<|zQ<|G O<|F O<|F O<|yH O<|F O<|I<|zF O (fun c1=>?_) (fun c1=>?_)
 ·try simp only [R] at c1
  refine G O<|F O<|I<|o<|X O ?_
  rw [cmpI_lt c1]
 ·try simp only [R] at c1
  refine G O<|F O<|F O<|zX O (yC O O O)<|F O<|I<|zF O (fun c2=>?_) (fun c2=>?_)
  ·try simp only [R] at c2
   refine G O<|F O<|I<|o<|X O ?_
   rw [cmpI_gt c2]
  ·try simp only [R] at c2
   refine zI<|G O<|F O<|I<|o<|X O ?_
   rw [cmpI_eq (by omega) (by omega)]
theorem lin_Compare_1 (x y:Mono):
    Pur cfg 290 [vMono x,vMono y] (vI (cmpM x y)):=by
 refine zR Tryz.func290 O Tryz.ntmps290 Tryz.results290 O ?_
 intro z hz
 refine G O<|zU O O (qM O O) ?_
 rintro _ _ ⟨b1,rfl,rfl⟩
 refine zU O O (qM O O) ?_
 rintro _ _ ⟨b2,rfl,rfl⟩
 refine F O<|I<|zJ<|G O<|zH O zAl<|zK one9 (Y 1 O) O<|zH O zAl<|zK one9 (Y 0 O) O<|zX O (zBb O O O)<|I<|zF O (fun c1=>?_) (fun c1=>?_)
 ·try simp only [R] at c1
  refine G O<|zH O zAl<|zK one9 (Y 1 O) O<|zH O zAl<|zK one9 (Y 0 O) O<|qJ O ok263 (strings_Compare _ _) ⟨H,O,H,O,T⟩<|F O<|I<|o<|X O ?_
  rw [cmpM,if_neg c1]
 ·try simp only [R] at c1
  refine zI<|G O<|zH O zDo<|zK W (Y 1 O) O<|zH O zDo<|zK W (Y 0 O) O<|qJ O ok291 (lin_order _ _) ⟨H,O,H,O,T⟩<|F O<|I<|o<|X O ?_
  rw [cmpM,if_pos c1]
theorem zKo (a b:Lf) (ha:a.L.length<=4294967296) (hb:b.L.length<=4294967296):
    Pur cfg 266 [vLin a,vLin b] (vI (cmpLf a b)):=by
 refine zR Tryz.func266 O Tryz.ntmps266 Tryz.results266 O ?_
 intro z hz
 refine G O<|zU O O (qM O O) ?_
 rintro _ _ ⟨b1,rfl,rfl⟩
 refine zU O O (qM O O) ?_
 rintro _ _ ⟨b2,rfl,rfl⟩
 refine F O<|I<|G O<|zH O kM<|zK wX (Y 1 O) O<|zH O kM<|zK wX (Y 0 O) O<|qJ O ok289 (zGd a.L b.L _ cmpM ha hb (fun x _ y _=>FnPur.of_pur (first:=[]) (cap:=[]) ok290 (lin_Compare_1 x y))) ⟨H,O,H,O,H,O,T⟩<|F O<|I<|zJ<|G O<|F O<|yR O<|I<|zF O (fun c1=>?_) (fun c1=>?_)
 ·try simp only [R] at c1
  refine G O<|F O<|F O<|I<|o<|X O ?_
  rw [cmpLf,if_neg c1]
 ·try simp only [R] at c1
  refine zI<|G O<|zH O zCw<|zK W (Y 1 O) O<|zH O zCw<|zK W (Y 0 O) O<|qJ O ok291 (lin_order _ _) ⟨H,O,H,O,T⟩<|F O<|I<|o<|X O ?_
  rw [cmpLf,if_pos c1]
theorem zNo (a b:Ix) (ha:a.wt<=4294967296) (hb:b.wt<=4294967296):
    Pur cfg 268 [vIndex a,vIndex b] (vI (cmpIx a b)):=by
 refine zR Tryz.func268 O Tryz.ntmps268 Tryz.results268 O ?_
 intro z hz
 have hwa:=ha
 have hwb:=hb
 unfold Ix.wt at hwa hwb
 refine G O<|zU O O (qM O O) ?_
 rintro _ _ ⟨b1,rfl,rfl⟩
 refine zU O O (qM O O) ?_
 rintro _ _ ⟨b2,rfl,rfl⟩
 refine F O<|I<|zJ<|G O<|zH O zEl<|zK one9 (Y 1 O) O<|zH O zEl<|zK one9 (Y 0 O) O<|qJ O ok263 (strings_Compare _ _) ⟨H,O,H,O,T⟩<|F O<|I<|G O<|F O<|yR O<|I<|zF O (fun c1=>?_) (fun c1=>?_)
 ·try simp only [R] at c1
  refine G O<|F O<|F O<|I<|o<|X O ?_
  rw [cmpIx,if_neg c1]
 ·try simp only [R] at c1
  refine zI<|zJ<|G O<|zH O zEm<|zO yY (Y 1 O) O<|zH O zEm<|zO yY (Y 0 O) O<|qJ O ok266 (zKo a.Lin b.Lin (by omega) (by omega)) ⟨H,O,H,O,T⟩<|F O<|I<|G O<|F O<|yR O<|I<|zF O (fun c2=>?_) (fun c2=>?_)
  ·try simp only [R] at c2
   refine G O<|F O<|F O<|I<|o<|X O ?_
   rw [cmpIx,if_pos c1,if_neg c2]
  ·try simp only [R] at c2
   refine zI<|G O<|zH O zBa<|zK zEe (Y 1 O) O<|zH O zBa<|zK zEe (Y 0 O) O<|qJ O ok293 (zTe a.At b.At _ cmpLf (by omega) (by omega) (fun x hx y hy=>FnPur.of_pur (first:=[]) (cap:=[]) ok266 (zKo x y (by have:=zDc hx;omega) (by have:=zDc hy;omega)))) ⟨H,O,H,O,H,O,T⟩<|F O<|I<|o<|X O ?_
   rw [cmpIx,if_pos c1,if_pos c2]
theorem zOy (a b:Ty):
    Pur cfg 265 [vTy a,vTy b] (vI (cmpTy a b)):=by
 refine zR Tryz.func265 O Tryz.ntmps265 Tryz.results265 O ?_
 intro z hz
 refine G O<|zU O O (qM O O) ?_
 rintro _ _ ⟨b1,rfl,rfl⟩
 refine zU O O (qM O O) ?_
 rintro _ _ ⟨b2,rfl,rfl⟩
 refine F O<|I<|zJ<|qX 28 mixed (by kernel_rfl) O O<|M O O (zD O zFr O)<|M O O (Q O J O (Y 1 O) O)<|M O O (zD O zFr O)<|M O O (Q O J O (Y 0 O) O)<|M O O (qL O ok262 (wD _ _) ⟨H,O,H,O,T⟩)<|M O O (zD O zKc O)<|M O O (Q O J O (Y 1 O) O)<|M O O (zD O zKc O)<|M O O (Q O J O (Y 0 O) O)<|M O O (qL O ok262 (wD _ _) ⟨H,O,H,O,T⟩)<|M O O (zD O zSu O)<|M O O (Q O J O (Y 1 O) O)<|M O O (zD O zSu O)<|M O O (Q O J O (Y 0 O) O)<|M O O (qL O ok262 (wD _ _) ⟨H,O,H,O,T⟩)<|M O O (zD O zSs O)<|M O O (Q O J O (Y 1 O) O)<|M O O (zD O zSs O)<|M O O (Q O J O (Y 0 O) O)<|M O O (qL O ok262 (wD _ _) ⟨H,O,H,O,T⟩)<|M O O (zD O zSr O)<|M O O (Q O J O (Y 1 O) O)<|M O O (zD O zSr O)<|M O O (Q O J O (Y 0 O) O)<|M O O (qL O ok262 (wD _ _) ⟨H,O,H,O,T⟩)<|M O O (qS O el26 zr3 O O O O)<|M O O (qL O ok261 (cmp_Or_int [cmpI a.Kind b.Kind,cmpI a.Bits b.Bits,cmpI a.Frac b.Frac,cmpI a.Round b.Round,cmpI a.Over b.Over] (by simp)) ⟨H,O,T⟩)<|M O O (qY O O)<|kB<|I<|o<|X O ?_
 exact O
theorem zNp (a b:Ex) (ih:∀x,x∈a.Args->∀y,x.wt<=4294967296->y.wt<=4294967296->Pur cfg 234 [vE x,vE y] (vI (cmpE x y))) (ha:a.wt<=4294967296) (hb:b.wt<=4294967296):
    Pur cfg 234 [vE a,vE b] (vI (cmpE a b)):=by
 refine zR Tryz.func234 O Tryz.ntmps234 Tryz.results234 O ?_
 intro z hz
 obtain ⟨hLa,hIa,hAa⟩:=a.parts ha
 obtain ⟨hLb,hIb,hAb⟩:=b.parts hb
 have hwa:=Ex.wt_eq a
 have hwb:=Ex.wt_eq b
 refine G O<|zU O O (qM O O) ?_
 rintro _ _ ⟨b1,rfl,rfl⟩
 refine zU O O (qM O O) ?_
 rintro _ _ ⟨b2,rfl,rfl⟩
 refine F O<|I<|zJ<|qX 37 mixed (by kernel_rfl) O O<|M O O (zD O kQ O)<|M O O (Q O J O (Y 1 O) O)<|M O O (zD O kQ O)<|M O O (Q O J O (Y 0 O) O)<|M O O (qL O ok262 (wD _ _) ⟨H,O,H,O,T⟩)<|M O O (zD O zEt O)<|M O O (Q O one9 O (Y 1 O) O)<|M O O (zD O zEt O)<|M O O (Q O one9 O (Y 0 O) O)<|M O O (qL O ok263 (strings_Compare _ _) ⟨H,O,H,O,T⟩)<|M O O (zD O zKb O)<|M O O (zD O zFs O)<|M O O (Q O W O (Y 1 O) O)<|M O O (zD O zKb O)<|M O O (zD O zFs O)<|M O O (Q O W O (Y 0 O) O)<|M O O (qL O ok264 (zIv _ _) ⟨H,O,H,O,T⟩)<|M O O (zD O zKb O)<|M O O (zD O zHe O)<|M O O (Q O W O (Y 1 O) O)<|M O O (zD O zKb O)<|M O O (zD O zHe O)<|M O O (Q O W O (Y 0 O) O)<|M O O (qL O ok264 (zIv _ _) ⟨H,O,H,O,T⟩)<|M O O (zD O zEs O)<|M O O (zY O yK O (Y 1 O) O)<|M O O (zD O zEs O)<|M O O (zY O yK O (Y 0 O) O)<|M O O (qL O ok265 (zOy _ _) ⟨H,O,H,O,T⟩)<|M O O (zD O zCq O)<|M O O (zY O yY O (Y 1 O) O)<|M O O (zD O zCq O)<|M O O (zY O yY O (Y 0 O) O)<|M O O (qL O ok266 (zKo a.Lin b.Lin hLa hLb) ⟨H,O,H,O,T⟩)<|M O O (qS O el26 zr3 O O O O)<|M O O (qL O ok261 (cmp_Or_int [cmpI a.Op b.Op,cmpS a.Name b.Name,cmpI a.Val.N b.Val.N,cmpI a.Val.D b.Val.D,cmpTy a.Ty b.Ty,cmpLf a.Lin b.Lin] (by simp)) ⟨H,O,T⟩)<|M O O (qY O O)<|kB<|I<|zJ<|G O<|F O<|yR O<|I<|zF O (fun c1=>?_) (fun c1=>?_)
 ·try simp only [R] at c1
  refine G O<|F O<|F O<|I<|o<|X O ?_
  rw [cmpE_eq,if_neg (show ¬cmpHd a b=0 from c1)];rfl
 ·try simp only [R] at c1
  refine zI<|zJ<|G O<|zH O wA<|zK wR (Y 1 O) O<|zH O wA<|zK wR (Y 0 O) O<|qJ O ok267 (zTf a.Idx b.Idx _ cmpIx hIa hIb (fun x hx y hy=>FnPur.of_pur (first:=[]) (cap:=[]) ok268 (zNo x y (by have:=zAw hx;omega) (by have:=zAw hy;omega)))) ⟨H,O,H,O,H,O,T⟩<|F O<|I<|G O<|F O<|yR O<|I<|zF O (fun c2=>?_) (fun c2=>?_)
  ·try simp only [R] at c2
   refine G O<|F O<|F O<|I<|o<|X O ?_
   rw [cmpE_eq,if_pos (show cmpHd a b=0 from c1),if_neg c2]
  ·try simp only [R] at c2
   refine zI<|G O<|zH O kZ<|zK zAj (Y 1 O) O<|zH O kZ<|zK zAj (Y 0 O) O<|qJ O ok269 (zTg a.Args b.Args _ cmpE hAa hAb (fun x hx y hy=>FnPur.of_pur (first:=[]) (cap:=[]) ok234 (ih x hx y (by have:=Ex.arg_wt hx;omega) (by have:=Ex.arg_wt hy;omega)))) ⟨H,O,H,O,H,O,T⟩<|F O<|I<|o<|X O ?_
   rw [cmpE_eq,if_pos (show cmpHd a b=0 from c1),if_pos c2]
theorem expr_Compare (a b:Ex) (ha:a.wt<=4294967296) (hb:b.wt<=4294967296):Pur cfg 234 [vE a,vE b] (vI (cmpE a b)):=by
  induction a using Ex.ind generalizing b with
  |_ a ih=>exact zNp a b (fun x hx y h1 h2=>ih x hx y h1 h2) ha hb
theorem expr_Same (a b:Ex) (ha:a.wt<=4294967296) (hb:b.wt<=4294967296):
    Pur cfg 205 [vE a,vE b] (vB (decide (a=b))):=by
 refine zR Tryz.func205 O Tryz.ntmps205 Tryz.results205 O ?_
 intro z hz
 refine G O<|zU O O (qM O O) ?_
 rintro _ _ ⟨b1,rfl,rfl⟩
 refine zU O O (qM O O) ?_
 rintro _ _ ⟨b2,rfl,rfl⟩
 refine F O<|I<|G O<|zO yX (Y 1 O) O<|zO yX (Y 0 O) O<|qJ O ok234 (expr_Compare a b ha hb) ⟨H,O,H,O,T⟩<|yE O<|F O<|I<|o<|X O ?_
 exact congrArg vB (decide_eq_decide.2 (cmpE_zero a b))
end Go.W
