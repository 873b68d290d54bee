/-
  Walks: what functions of the program compute. Printed by wip/gen/mk2.py.
  Conditions: none.
-/
import Derived.Test.YtlfjpejkoccibaaGreatDoorWE
import Derived.Test.YtlfjpejkoccibaaGreatDoorPlain
import Derived.Test.YtlfjpejkoccibaaGreatDoorEngZ
set_option linter.unusedSimpArgs false
set_option linter.unusedVariables false
set_option maxRecDepth 10000
namespace Go.W
open Go Go.Eng Go.Proofs Go.L41 Go.Br
attribute [local irreducible] AWP RWP TD finQ
theorem L:elemT Tryz.prog 26=some (3,1,8):=by kernel_rfl
theorem ok234:callOk Tryz.prog 234=true:=by kernel_rfl
theorem ok261:callOk Tryz.prog 261=true:=by kernel_rfl
theorem ok262:callOk Tryz.prog 262=true:=by kernel_rfl
theorem ok263:callOk Tryz.prog 263=true:=by kernel_rfl
theorem ok264:callOk Tryz.prog 264=true:=by kernel_rfl
theorem ok265:callOk Tryz.prog 265=true:=by kernel_rfl
theorem ok266:callOk Tryz.prog 266=true:=by kernel_rfl
theorem ok267:callOk Tryz.prog 267=true:=by kernel_rfl
theorem ok268:callOk Tryz.prog 268=true:=by kernel_rfl
theorem ok269:callOk Tryz.prog 269=true:=by kernel_rfl
theorem ok286:callOk Tryz.prog 286=true:=by kernel_rfl
theorem ok288:callOk Tryz.prog 288=true:=by kernel_rfl
theorem ok289:callOk Tryz.prog 289=true:=by kernel_rfl
theorem ok290:callOk Tryz.prog 290=true:=by kernel_rfl
theorem ok291:callOk Tryz.prog 291=true:=by kernel_rfl
theorem ok292:callOk Tryz.prog 292=true:=by kernel_rfl
theorem ok293:callOk Tryz.prog 293=true:=by kernel_rfl
theorem ok294:callOk Tryz.prog 294=true:=by kernel_rfl
theorem ok303:callOk Tryz.prog 303=true:=by kernel_rfl
theorem zLa (a:Int):
    Pur cfg 286 [vI a] (vB false):=by
 refine zQ Tryz.func286 O Tryz.ntmps286 Tryz.results286 O ?_
 intro z hz
 refine F O<|A O<|H<|F O<|A O<|A O<|yP O<|A O<|H<|o<|X O ?_
 exact congrArg vB (by simp)
theorem kR (a b:Int):
    Pur cfg 262 [vI a,vI b] (vI (cmpI a b)):=by
 refine zQ Tryz.func262 O Tryz.ntmps262 Tryz.results262 O ?_
 intro z hz
 refine F O<|A O<|H<|F O<|A O<|qG O ok286 (zLa a) ⟨G,O,T⟩<|A O<|H<|F O<|A O<|qG O ok286 (zLa b) ⟨G,O,T⟩<|A O<|H<|zI<|F O<|A O<|H<|zD O (fun c1=>?_) (fun c1=>?_)
 ·exact absurd c1 (by decide)
 ·refine zH<|zI<|F O<|A O<|H<|zD O (fun c3=>?_) (fun c3=>?_)
  ·exact absurd c3 (by decide)
  ·refine zH<|zI<|F O<|A O<|A O<|yN O<|H<|zD O (fun c4=>?_) (fun c4=>?_)
   ·try simp only [I] at c4
    refine F O<|A O<|H<|o<|X O ?_
    rw [cmpI_lt c4]
   ·try simp only [I] at c4
    refine zH<|zI<|F O<|A O<|A O<|zR O (yW O O O)<|H<|zD O (fun c5=>?_) (fun c5=>?_)
    ·try simp only [I] at c5
     refine F O<|A O<|H<|o<|X O ?_
     rw [cmpI_gt c5]
    ·try simp only [I] at c5
     refine zH<|F O<|A O<|H<|o<|X O ?_
     rw [cmpI_eq (by omega) (by omega)]
theorem zLb (a:Int):
    Pur cfg 288 [vI a] (vB false):=by
 refine zQ Tryz.func288 O Tryz.ntmps288 Tryz.results288 O ?_
 intro z hz
 refine F O<|A O<|H<|F O<|A O<|A O<|yP O<|A O<|H<|o<|X O ?_
 exact congrArg vB (by simp)
theorem zHn (a b:Int):
    Pur cfg 264 [vI a,vI b] (vI (cmpI a b)):=by
 refine zQ Tryz.func264 O Tryz.ntmps264 Tryz.results264 O ?_
 intro z hz
 refine F O<|A O<|H<|F O<|A O<|qG O ok288 (zLb a) ⟨G,O,T⟩<|A O<|H<|F O<|A O<|qG O ok288 (zLb b) ⟨G,O,T⟩<|A O<|H<|zI<|F O<|A O<|H<|zD O (fun c1=>?_) (fun c1=>?_)
 ·exact absurd c1 (by decide)
 ·refine zH<|zI<|F O<|A O<|H<|zD O (fun c3=>?_) (fun c3=>?_)
  ·exact absurd c3 (by decide)
  ·refine zH<|zI<|F O<|A O<|A O<|yN O<|H<|zD O (fun c4=>?_) (fun c4=>?_)
   ·try simp only [I] at c4
    refine F O<|A O<|H<|o<|X O ?_
    rw [cmpI_lt c4]
   ·try simp only [I] at c4
    refine zH<|zI<|F O<|A O<|A O<|zR O (yW O O O)<|H<|zD O (fun c5=>?_) (fun c5=>?_)
    ·try simp only [I] at c5
     refine F O<|A O<|H<|o<|X O ?_
     rw [cmpI_gt c5]
    ·try simp only [I] at c5
     refine zH<|F O<|A O<|H<|o<|X O ?_
     rw [cmpI_eq (by omega) (by omega)]
theorem cmp_Or_int (l:List Int) (hl:l.length<=4294967296):
    Pur cfg 261 [.c (.sl 1 (l.map fun n=>[cI n]))] (vI (orI l)):=by
 refine zQ Tryz.func261 O Tryz.ntmps261 Tryz.results261 O ?_
 intro z hz
 refine F O<|A O<|H<|F O<|A O<|H<|zI<|F O<|A O<|qB O L<|A O<|H<|zS<|zV ⟨[(8,.c _),(3,.c _),(6,.c _),(7,.c _)],[]⟩ (Weak.mk [] ⟨G,G,G,G,T⟩ O)<|qO 1 0 O O (Nat) (fun k=>[(8,vI k)]) (fun k=>[]) (fun k=>k<=l.length/\(orI l=orI (l.drop k))) (fun k=>l.length-k) ⟨0,⟨by omega,O⟩,Weak.mk [] ⟨G,G,G,G,T⟩ O⟩ ?_
 rintro k ⟨hk,hp⟩
 refine F O<|yN O<|H<|zI<|zD O (fun c1=>?_) (fun c1=>?_)
 ·try simp only [I] at c1
  obtain ⟨x,hx⟩:=qZ l k (by omega)
  refine zH<|zI<|zS<|F O<|qD O L (by omega) (v (by assumption))<|zK J qA O<|A O<|H<|F O<|A O<|A O<|yP O<|H<|zD O (fun c2=>?_) (fun c2=>?_)
  ·try simp only [I] at c2
   refine F O<|A O<|A O<|H<|o<|X O ?_
   rw [hp,orI_at hx c2]
  ·try simp only [I] at c2
   refine zH<|zT O<|qK O ⟨by omega,by omega⟩<|A O<|H ?_
   refine ⟨k+1,⟨by omega,hp.trans (orI_next hx c2)⟩,(by omega),Weak.mk [] ⟨G,G,G,G,T⟩ O⟩
 ·try simp only [I] at c1
  refine qQ<|F O<|A O<|A O<|H<|o<|X O ?_
  rw [hp,kB (by omega)];rfl
theorem zFj (a b:List Mono) (c:C) (f:Mono->Mono->Int) (ha:a.length<=4294967296) (hb:b.length<=4294967296) (hc:∀x,x∈a->∀y,y∈b->FnPur cfg c [vMono x,vMono y] (vI (f x y))):
    Pur cfg 289 [.c (.sl 2 (a.map Mono.cells)),.c (.sl 2 (b.map Mono.cells)),.c c] (vI (cmpL f a b)):=by
 refine zQ Tryz.func289 O Tryz.ntmps289 Tryz.results289 O ?_
 intro z hz
 refine F O<|A O<|H<|zI<|F O<|A O<|qB O P<|A O<|H<|zS<|zV ⟨[(13,.c _),(0,.c _),(1,.c _),(2,.c _),(11,.c _),(12,.c _)],[]⟩ (Weak.mk [] ⟨G,G,G,G,G,G,T⟩ O)<|qO 1 0 O O (Nat) (fun k=>[(13,vI k)]) (fun k=>[]) (fun k=>k<=a.length/\(cmpL f a b=cmpL f (a.drop k) (b.drop k))/\(k<=b.length)) (fun k=>a.length-k) ⟨0,⟨by omega,O,by omega⟩,Weak.mk [] ⟨G,G,G,G,G,G,T⟩ O⟩ ?_
 rintro k ⟨hk,hp,hq⟩
 refine F O<|yN O<|H<|zI<|zD O (fun c1=>?_) (fun c1=>?_)
 ·try simp only [I] at c1
  obtain ⟨x,hx⟩:=qZ a k (by omega)
  refine zH<|zI<|zS<|F O<|A O<|qD O P (by omega) (v (by assumption))<|zO zMq qA O<|zU O O (yV O zr69) ?_
  rintro _ _ ⟨b1,rfl,rfl⟩
  refine A O<|D 0 sz69 O<|H<|zI<|F O<|A O<|A O<|qB O P<|zR O (wK O O O)<|H<|zD O (fun c2=>?_) (fun c2=>?_)
  ·try simp only [I] at c2
   refine F O<|A O<|H<|o<|X O ?_
   rw [hp,zOf hx (by omega)]
  ·try simp only [I] at c2
   obtain ⟨y,hy⟩:=qZ b k (by omega)
   refine zH<|F O<|A O<|A O<|qD O P (by omega) (v (by assumption))<|zO zMq qA O<|zU O O (yV O zr69) ?_
   rintro _ _ ⟨b2,rfl,rfl⟩
   refine D 0 sz69 O<|H<|F O<|A O<|zO zMq (R 1 O) O<|zO zMq (R 0 O) O<|zR O (kC O O (hc _ (zZ hx) _ (zZ hy)) ⟨G,O,G,O,T⟩)<|A O<|H<|F O<|A O<|yP O<|H<|zD O (fun c3=>?_) (fun c3=>?_)
   ·try simp only [I] at c3
    refine F O<|A O<|A O<|H<|o<|X O ?_
    rw [hp,cmpL_ne hx hy c3]
   ·try simp only [I] at c3
    refine zH<|zT O<|qK O ⟨by omega,by omega⟩<|A O<|H ?_
    refine ⟨k+1,⟨by omega,hp.trans (zLd hx hy c3),by omega⟩,(by omega),Weak.mk [false,false] ⟨G,G,G,G,G,G,T⟩ O⟩
 ·try simp only [I] at c1
  refine qQ<|zI<|F O<|A O<|qB O P<|A O<|qB O P<|yN O<|H<|zD O (fun c4=>?_) (fun c4=>?_)
  ·try simp only [I] at c4
   refine F O<|A O<|H<|o<|X O ?_
   rw [hp,zLe (by omega) (by omega)]
  ·try simp only [I] at c4
   refine zH<|F O<|A O<|H<|o<|X O ?_
   rw [hp,zOg (by omega) (by omega)]
theorem zGp (a b:List Ix) (c:C) (f:Ix->Ix->Int) (ha:a.length<=4294967296) (hb:b.length<=4294967296) (hc:∀x,x∈a->∀y,y∈b->FnPur cfg c [vIndex x,vIndex y] (vI (f x y))):
    Pur cfg 292 [.c (.sl 4 (a.map Ix.cells)),.c (.sl 4 (b.map Ix.cells)),.c c] (vI (cmpL f a b)):=by
 refine zQ Tryz.func292 O Tryz.ntmps292 Tryz.results292 O ?_
 intro z hz
 refine F O<|A O<|H<|zI<|F O<|A O<|qB O g<|A O<|H<|zS<|zV ⟨[(13,.c _),(0,.c _),(1,.c _),(2,.c _),(11,.c _),(12,.c _)],[]⟩ (Weak.mk [] ⟨G,G,G,G,G,G,T⟩ O)<|qO 1 0 O O (Nat) (fun k=>[(13,vI k)]) (fun k=>[]) (fun k=>k<=a.length/\(cmpL f a b=cmpL f (a.drop k) (b.drop k))/\(k<=b.length)) (fun k=>a.length-k) ⟨0,⟨by omega,O,by omega⟩,Weak.mk [] ⟨G,G,G,G,G,G,T⟩ O⟩ ?_
 rintro k ⟨hk,hp,hq⟩
 refine F O<|yN O<|H<|zI<|zD O (fun c1=>?_) (fun c1=>?_)
 ·try simp only [I] at c1
  obtain ⟨x,hx⟩:=qZ a k (by omega)
  refine zH<|zI<|zS<|F O<|A O<|qD O g (by omega) (v (by assumption))<|zO zNl qA O<|zU O O (qC [none,some 2,none,some 2] O zr72 O) ?_
  rintro _ _ ⟨b1,rfl,rfl⟩
  refine A O<|D 0 sz72 O<|H<|zI<|F O<|A O<|A O<|qB O g<|zR O (wK O O O)<|H<|zD O (fun c2=>?_) (fun c2=>?_)
  ·try simp only [I] at c2
   refine F O<|A O<|H<|o<|X O ?_
   rw [hp,zOf hx (by omega)]
  ·try simp only [I] at c2
   obtain ⟨y,hy⟩:=qZ b k (by omega)
   refine zH<|F O<|A O<|A O<|qD O g (by omega) (v (by assumption))<|zO zNl qA O<|zU O O (qC [none,some 2,none,some 2] O zr72 O) ?_
   rintro _ _ ⟨b2,rfl,rfl⟩
   refine D 0 sz72 O<|H<|F O<|A O<|zO zNl (R 1 O) O<|zO zNl (R 0 O) O<|zR O (kC O O (hc _ (zZ hx) _ (zZ hy)) ⟨G,O,G,O,T⟩)<|A O<|H<|F O<|A O<|yP O<|H<|zD O (fun c3=>?_) (fun c3=>?_)
   ·try simp only [I] at c3
    refine F O<|A O<|A O<|H<|o<|X O ?_
    rw [hp,cmpL_ne hx hy c3]
   ·try simp only [I] at c3
    refine zH<|zT O<|qK O ⟨by omega,by omega⟩<|A O<|H ?_
    refine ⟨k+1,⟨by omega,hp.trans (zLd hx hy c3),by omega⟩,(by omega),Weak.mk [false,false] ⟨G,G,G,G,G,G,T⟩ O⟩
 ·try simp only [I] at c1
  refine qQ<|zI<|F O<|A O<|qB O g<|A O<|qB O g<|yN O<|H<|zD O (fun c4=>?_) (fun c4=>?_)
  ·try simp only [I] at c4
   refine F O<|A O<|H<|o<|X O ?_
   rw [hp,zLe (by omega) (by omega)]
  ·try simp only [I] at c4
   refine zH<|F O<|A O<|H<|o<|X O ?_
   rw [hp,zOg (by omega) (by omega)]
theorem zGo (a b:List Lf) (c:C) (f:Lf->Lf->Int) (ha:a.length<=4294967296) (hb:b.length<=4294967296) (hc:∀x,x∈a->∀y,y∈b->FnPur cfg c [vLin x,vLin y] (vI (f x y))):
    Pur cfg 303 [.c (.sl 2 (a.map Lf.cells)),.c (.sl 2 (b.map Lf.cells)),.c c] (vI (cmpL f a b)):=by
 refine zQ Tryz.func303 O Tryz.ntmps303 Tryz.results303 O ?_
 intro z hz
 refine F O<|A O<|H<|zI<|F O<|A O<|qB O el70<|A O<|H<|zS<|zV ⟨[(13,.c _),(0,.c _),(1,.c _),(2,.c _),(11,.c _),(12,.c _)],[]⟩ (Weak.mk [] ⟨G,G,G,G,G,G,T⟩ O)<|qO 1 0 O O (Nat) (fun k=>[(13,vI k)]) (fun k=>[]) (fun k=>k<=a.length/\(cmpL f a b=cmpL f (a.drop k) (b.drop k))/\(k<=b.length)) (fun k=>a.length-k) ⟨0,⟨by omega,O,by omega⟩,Weak.mk [] ⟨G,G,G,G,G,G,T⟩ O⟩ ?_
 rintro k ⟨hk,hp,hq⟩
 refine F O<|yN O<|H<|zI<|zD O (fun c1=>?_) (fun c1=>?_)
 ·try simp only [I] at c1
  obtain ⟨x,hx⟩:=qZ a k (by omega)
  refine zH<|zI<|zS<|F O<|A O<|qD O el70 (by omega) (v (by assumption))<|zO kE qA O<|zU O O (qC [none,some 2] O zr41 O) ?_
  rintro _ _ ⟨b1,rfl,rfl⟩
  refine A O<|D 0 sz41 O<|H<|zI<|F O<|A O<|A O<|qB O el70<|zR O (wK O O O)<|H<|zD O (fun c2=>?_) (fun c2=>?_)
  ·try simp only [I] at c2
   refine F O<|A O<|H<|o<|X O ?_
   rw [hp,zOf hx (by omega)]
  ·try simp only [I] at c2
   obtain ⟨y,hy⟩:=qZ b k (by omega)
   refine zH<|F O<|A O<|A O<|qD O el70 (by omega) (v (by assumption))<|zO kE qA O<|zU O O (qC [none,some 2] O zr41 O) ?_
   rintro _ _ ⟨b2,rfl,rfl⟩
   refine D 0 sz41 O<|H<|F O<|A O<|zO kE (R 1 O) O<|zO kE (R 0 O) O<|zR O (kC O O (hc _ (zZ hx) _ (zZ hy)) ⟨G,O,G,O,T⟩)<|A O<|H<|F O<|A O<|yP O<|H<|zD O (fun c3=>?_) (fun c3=>?_)
   ·try simp only [I] at c3
    refine F O<|A O<|A O<|H<|o<|X O ?_
    rw [hp,cmpL_ne hx hy c3]
   ·try simp only [I] at c3
    refine zH<|zT O<|qK O ⟨by omega,by omega⟩<|A O<|H ?_
    refine ⟨k+1,⟨by omega,hp.trans (zLd hx hy c3),by omega⟩,(by omega),Weak.mk [false,false] ⟨G,G,G,G,G,G,T⟩ O⟩
 ·try simp only [I] at c1
  refine qQ<|zI<|F O<|A O<|qB O el70<|A O<|qB O el70<|yN O<|H<|zD O (fun c4=>?_) (fun c4=>?_)
  ·try simp only [I] at c4
   refine F O<|A O<|H<|o<|X O ?_
   rw [hp,zLe (by omega) (by omega)]
  ·try simp only [I] at c4
   refine zH<|F O<|A O<|H<|o<|X O ?_
   rw [hp,zOg (by omega) (by omega)]
theorem zGq (a b:List Ex) (c:C) (f:Ex->Ex->Int) (ha:a.length<=4294967296) (hb:b.length<=4294967296) (hc:∀x,x∈a->∀y,y∈b->FnPur cfg c [vE x,vE y] (vI (f x y))):
    Pur cfg 294 [.c (.sl 13 (a.map Ex.cells)),.c (.sl 13 (b.map Ex.cells)),.c c] (vI (cmpL f a b)):=by
 refine zQ Tryz.func294 O Tryz.ntmps294 Tryz.results294 O ?_
 intro z hz
 refine F O<|A O<|H<|zI<|F O<|A O<|qB O el42<|A O<|H<|zS<|zV ⟨[(13,.c _),(0,.c _),(1,.c _),(2,.c _),(11,.c _),(12,.c _)],[]⟩ (Weak.mk [] ⟨G,G,G,G,G,G,T⟩ O)<|qO 1 0 O O (Nat) (fun k=>[(13,vI k)]) (fun k=>[]) (fun k=>k<=a.length/\(cmpL f a b=cmpL f (a.drop k) (b.drop k))/\(k<=b.length)) (fun k=>a.length-k) ⟨0,⟨by omega,O,by omega⟩,Weak.mk [] ⟨G,G,G,G,G,G,T⟩ O⟩ ?_
 rintro k ⟨hk,hp,hq⟩
 refine F O<|yN O<|H<|zI<|zD O (fun c1=>?_) (fun c1=>?_)
 ·try simp only [I] at c1
  obtain ⟨x,hx⟩:=qZ a k (by omega)
  refine zH<|zI<|zS<|F O<|A O<|qD O el42 (by omega) (zIh (by assumption))<|zO kL qA O<|zU O O (qC [none,none,none,none,none,none,none,none,none,none,some 2,some 4,some 13] O zr44 O) ?_
  rintro _ _ ⟨b1,rfl,rfl⟩
  refine A O<|D 0 sz44 O<|H<|zI<|F O<|A O<|A O<|qB O el42<|zR O (wK O O O)<|H<|zD O (fun c2=>?_) (fun c2=>?_)
  ·try simp only [I] at c2
   refine F O<|A O<|H<|o<|X O ?_
   rw [hp,zOf hx (by omega)]
  ·try simp only [I] at c2
   obtain ⟨y,hy⟩:=qZ b k (by omega)
   refine zH<|F O<|A O<|A O<|qD O el42 (by omega) (zIh (by assumption))<|zO kL qA O<|zU O O (qC [none,none,none,none,none,none,none,none,none,none,some 2,some 4,some 13] O zr44 O) ?_
   rintro _ _ ⟨b2,rfl,rfl⟩
   refine D 0 sz44 O<|H<|F O<|A O<|zO kL (R 1 O) O<|zO kL (R 0 O) O<|zR O (kC O O (hc _ (zZ hx) _ (zZ hy)) ⟨G,O,G,O,T⟩)<|A O<|H<|F O<|A O<|yP O<|H<|zD O (fun c3=>?_) (fun c3=>?_)
   ·try simp only [I] at c3
    refine F O<|A O<|A O<|H<|o<|X O ?_
    rw [hp,cmpL_ne hx hy c3]
   ·try simp only [I] at c3
    refine zH<|zT O<|qK O ⟨by omega,by omega⟩<|A O<|H ?_
    refine ⟨k+1,⟨by omega,hp.trans (zLd hx hy c3),by omega⟩,(by omega),Weak.mk [false,false] ⟨G,G,G,G,G,G,T⟩ O⟩
 ·try simp only [I] at c1
  refine qQ<|zI<|F O<|A O<|qB O el42<|A O<|qB O el42<|yN O<|H<|zD O (fun c4=>?_) (fun c4=>?_)
  ·try simp only [I] at c4
   refine F O<|A O<|H<|o<|X O ?_
   rw [hp,zLe (by omega) (by omega)]
  ·try simp only [I] at c4
   refine zH<|F O<|A O<|H<|o<|X O ?_
   rw [hp,zOg (by omega) (by omega)]
theorem zRa (a b:List Ix) (c:C) (f:Ix->Ix->Int) (ha:a.length<=4294967296) (hb:b.length<=4294967296) (hc:∀x,x∈a->∀y,y∈b->FnPur cfg c [vIndex x,vIndex y] (vI (f x y))):
    Pur cfg 267 [.c (.sl 4 (a.map Ix.cells)),.c (.sl 4 (b.map Ix.cells)),.c c] (vI (cmpLs f a b)):=by
 refine zQ Tryz.func267 O Tryz.ntmps267 Tryz.results267 O ?_
 intro z hz
 refine F O<|A O<|H<|zI<|F O<|A O<|qB O g<|A O<|qB O g<|qG O ok262 (kR _ _) ⟨G,O,G,O,T⟩<|A O<|H<|F O<|A O<|yP O<|H<|zD O (fun c1=>?_) (fun c1=>?_)
 ·try simp only [I] at c1
  refine F O<|A O<|A O<|H<|o<|X O ?_
  rw [cmpLs,if_neg c1]
 ·try simp only [I] at c1
  refine zH<|F O<|A O<|A O<|A O<|qG O ok292 (zGp a b c f ha hb hc) ⟨G,O,G,O,G,O,T⟩<|A O<|H<|o<|X O ?_
  rw [cmpLs,if_pos c1]
theorem zQz (a b:List Lf) (c:C) (f:Lf->Lf->Int) (ha:a.length<=4294967296) (hb:b.length<=4294967296) (hc:∀x,x∈a->∀y,y∈b->FnPur cfg c [vLin x,vLin y] (vI (f x y))):
    Pur cfg 293 [.c (.sl 2 (a.map Lf.cells)),.c (.sl 2 (b.map Lf.cells)),.c c] (vI (cmpLs f a b)):=by
 refine zQ Tryz.func293 O Tryz.ntmps293 Tryz.results293 O ?_
 intro z hz
 refine F O<|A O<|H<|zI<|F O<|A O<|qB O el70<|A O<|qB O el70<|qG O ok262 (kR _ _) ⟨G,O,G,O,T⟩<|A O<|H<|F O<|A O<|yP O<|H<|zD O (fun c1=>?_) (fun c1=>?_)
 ·try simp only [I] at c1
  refine F O<|A O<|A O<|H<|o<|X O ?_
  rw [cmpLs,if_neg c1]
 ·try simp only [I] at c1
  refine zH<|F O<|A O<|A O<|A O<|qG O ok303 (zGo a b c f ha hb hc) ⟨G,O,G,O,G,O,T⟩<|A O<|H<|o<|X O ?_
  rw [cmpLs,if_pos c1]
theorem zRb (a b:List Ex) (c:C) (f:Ex->Ex->Int) (ha:a.length<=4294967296) (hb:b.length<=4294967296) (hc:∀x,x∈a->∀y,y∈b->FnPur cfg c [vE x,vE y] (vI (f x y))):
    Pur cfg 269 [.c (.sl 13 (a.map Ex.cells)),.c (.sl 13 (b.map Ex.cells)),.c c] (vI (cmpLs f a b)):=by
 refine zQ Tryz.func269 O Tryz.ntmps269 Tryz.results269 O ?_
 intro z hz
 refine F O<|A O<|H<|zI<|F O<|A O<|qB O el42<|A O<|qB O el42<|qG O ok262 (kR _ _) ⟨G,O,G,O,T⟩<|A O<|H<|F O<|A O<|yP O<|H<|zD O (fun c1=>?_) (fun c1=>?_)
 ·try simp only [I] at c1
  refine F O<|A O<|A O<|H<|o<|X O ?_
  rw [cmpLs,if_neg c1]
 ·try simp only [I] at c1
  refine zH<|F O<|A O<|A O<|A O<|qG O ok294 (zGq a b c f ha hb hc) ⟨G,O,G,O,G,O,T⟩<|A O<|H<|o<|X O ?_
  rw [cmpLs,if_pos c1]
theorem lin_order (a b:Int):
    Pur cfg 291 [vI a,vI b] (vI (cmpI a b)):=by
 refine zQ Tryz.func291 O Tryz.ntmps291 Tryz.results291 O ?_
 intro z hz
 refine F O<|A O<|H<|zI<|zS<|F O<|A O<|A O<|yN O<|A O<|H<|zD O (fun c1=>?_) (fun c1=>?_)
 ·try simp only [I] at c1
  refine F O<|A O<|H<|o<|X O ?_
  rw [cmpI_lt c1]
 ·try simp only [I] at c1
  refine F O<|A O<|A O<|zR O (yW O O O)<|A O<|H<|zD O (fun c2=>?_) (fun c2=>?_)
  ·try simp only [I] at c2
   refine F O<|A O<|H<|o<|X O ?_
   rw [cmpI_gt c2]
  ·try simp only [I] at c2
   refine zH<|F O<|A O<|H<|o<|X O ?_
   rw [cmpI_eq (by omega) (by omega)]
theorem lin_Compare_1 (x y:Mono):
    Pur cfg 290 [vMono x,vMono y] (vI (cmpM x y)):=by
 refine zQ Tryz.func290 O Tryz.ntmps290 Tryz.results290 O ?_
 intro z hz
 refine F O<|zU O O (qL O O) ?_
 rintro _ _ ⟨b1,rfl,rfl⟩
 refine zU O O (qL O O) ?_
 rintro _ _ ⟨b2,rfl,rfl⟩
 refine A O<|H<|zI<|F O<|zJ O zCe<|zK one9 (R 1 O) O<|zJ O zCe<|zK one9 (R 0 O) O<|zR O (zCw O O O)<|H<|zD O (fun c1=>?_) (fun c1=>?_)
 ·try simp only [I] at c1
  refine F O<|zJ O zCe<|zK one9 (R 1 O) O<|zJ O zCe<|zK one9 (R 0 O) O<|qG O ok263 (strings_Compare _ _) ⟨G,O,G,O,T⟩<|A O<|H<|o<|X O ?_
  rw [cmpM,if_neg c1]
 ·try simp only [I] at c1
  refine zH<|F O<|zJ O zGc<|zK n (R 1 O) O<|zJ O zGc<|zK n (R 0 O) O<|qG O ok291 (lin_order _ _) ⟨G,O,G,O,T⟩<|A O<|H<|o<|X O ?_
  rw [cmpM,if_pos c1]
theorem zJe (a b:Lf) (ha:a.L.length<=4294967296) (hb:b.L.length<=4294967296):
    Pur cfg 266 [vLin a,vLin b] (vI (cmpLf a b)):=by
 refine zQ Tryz.func266 O Tryz.ntmps266 Tryz.results266 O ?_
 intro z hz
 refine F O<|zU O O (qL O O) ?_
 rintro _ _ ⟨b1,rfl,rfl⟩
 refine zU O O (qL O O) ?_
 rintro _ _ ⟨b2,rfl,rfl⟩
 refine A O<|H<|F O<|zJ O wU<|zK zDl (R 1 O) O<|zJ O wU<|zK zDl (R 0 O) O<|qG O ok289 (zFj a.L b.L _ cmpM ha hb (fun x _ y _=>FnPur.of_pur (first:=[]) (cap:=[]) ok290 (lin_Compare_1 x y))) ⟨G,O,G,O,G,O,T⟩<|A O<|H<|zI<|F O<|A O<|yP O<|H<|zD O (fun c1=>?_) (fun c1=>?_)
 ·try simp only [I] at c1
  refine F O<|A O<|A O<|H<|o<|X O ?_
  rw [cmpLf,if_neg c1]
 ·try simp only [I] at c1
  refine zH<|F O<|zJ O zGd<|zK n (R 1 O) O<|zJ O zGd<|zK n (R 0 O) O<|qG O ok291 (lin_order _ _) ⟨G,O,G,O,T⟩<|A O<|H<|o<|X O ?_
  rw [cmpLf,if_pos c1]
theorem zMh (a b:Ix) (ha:a.wt<=4294967296) (hb:b.wt<=4294967296):
    Pur cfg 268 [vIndex a,vIndex b] (vI (cmpIx a b)):=by
 refine zQ Tryz.func268 O Tryz.ntmps268 Tryz.results268 O ?_
 intro z hz
 have hwa:=ha
 have hwb:=hb
 unfold Ix.wt at hwa hwb
 refine F O<|zU O O (qL O O) ?_
 rintro _ _ ⟨b1,rfl,rfl⟩
 refine zU O O (qL O O) ?_
 rintro _ _ ⟨b2,rfl,rfl⟩
 refine A O<|H<|zI<|F O<|zJ O zKr<|zK one9 (R 1 O) O<|zJ O zKr<|zK one9 (R 0 O) O<|qG O ok263 (strings_Compare _ _) ⟨G,O,G,O,T⟩<|A O<|H<|F O<|A O<|yP O<|H<|zD O (fun c1=>?_) (fun c1=>?_)
 ·try simp only [I] at c1
  refine F O<|A O<|A O<|H<|o<|X O ?_
  rw [cmpIx,if_neg c1]
 ·try simp only [I] at c1
  refine zH<|zI<|F O<|zJ O zHh<|zO kE (R 1 O) O<|zJ O zHh<|zO kE (R 0 O) O<|qG O ok266 (zJe a.Lin b.Lin (by omega) (by omega)) ⟨G,O,G,O,T⟩<|A O<|H<|F O<|A O<|yP O<|H<|zD O (fun c2=>?_) (fun c2=>?_)
  ·try simp only [I] at c2
   refine F O<|A O<|A O<|H<|o<|X O ?_
   rw [cmpIx,if_pos c1,if_neg c2]
  ·try simp only [I] at c2
   refine zH<|F O<|zJ O zCk<|zK zGy (R 1 O) O<|zJ O zCk<|zK zGy (R 0 O) O<|qG O ok293 (zQz a.At b.At _ cmpLf (by omega) (by omega) (fun x hx y hy=>FnPur.of_pur (first:=[]) (cap:=[]) ok266 (zJe x y (by have:=zDo hx;omega) (by have:=zDo hy;omega)))) ⟨G,O,G,O,G,O,T⟩<|A O<|H<|o<|X O ?_
   rw [cmpIx,if_pos c1,if_pos c2]
theorem zNj (a b:Ty):
    Pur cfg 265 [vTy a,vTy b] (vI (cmpTy a b)):=by
 refine zQ Tryz.func265 O Tryz.ntmps265 Tryz.results265 O ?_
 intro z hz
 refine F O<|zU O O (qL O O) ?_
 rintro _ _ ⟨b1,rfl,rfl⟩
 refine zU O O (qL O O) ?_
 rintro _ _ ⟨b2,rfl,rfl⟩
 refine A O<|H<|zI<|qY 28 mixed (by kernel_rfl) O O<|Y O O (zE O zQn O)<|Y O O (Q O J O (R 1 O) O)<|Y O O (zE O zQn O)<|Y O O (Q O J O (R 0 O) O)<|Y O O (qI O ok262 (kR _ _) ⟨G,O,G,O,T⟩)<|Y O O (zE O fd38_1 O)<|Y O O (Q O J O (R 1 O) O)<|Y O O (zE O fd38_1 O)<|Y O O (Q O J O (R 0 O) O)<|Y O O (qI O ok262 (kR _ _) ⟨G,O,G,O,T⟩)<|Y O O (zE O fd38_2 O)<|Y O O (Q O J O (R 1 O) O)<|Y O O (zE O fd38_2 O)<|Y O O (Q O J O (R 0 O) O)<|Y O O (qI O ok262 (kR _ _) ⟨G,O,G,O,T⟩)<|Y O O (zE O fd38_3 O)<|Y O O (Q O J O (R 1 O) O)<|Y O O (zE O fd38_3 O)<|Y O O (Q O J O (R 0 O) O)<|Y O O (qI O ok262 (kR _ _) ⟨G,O,G,O,T⟩)<|Y O O (zE O fd38_4 O)<|Y O O (Q O J O (R 1 O) O)<|Y O O (zE O fd38_4 O)<|Y O O (Q O J O (R 0 O) O)<|Y O O (qI O ok262 (kR _ _) ⟨G,O,G,O,T⟩)<|Y O O (qW O L zr3 O O O O)<|Y O O (qI O ok261 (cmp_Or_int [cmpI a.Kind b.Kind,cmpI a.Bits b.Bits,cmpI a.Frac b.Frac,cmpI a.Round b.Round,cmpI a.Over b.Over] (by simp)) ⟨G,O,T⟩)<|Y O O (yC O O)<|kH<|H<|o<|X O ?_
 exact O
theorem zMi (a b:Ex) (ih:∀x,x∈a.Args->∀y,x.wt<=4294967296->y.wt<=4294967296->Pur cfg 234 [vE x,vE y] (vI (cmpE x y))) (ha:a.wt<=4294967296) (hb:b.wt<=4294967296):
    Pur cfg 234 [vE a,vE b] (vI (cmpE a b)):=by
 refine zQ Tryz.func234 O Tryz.ntmps234 Tryz.results234 O ?_
 intro z hz
 obtain ⟨hLa,hIa,hAa⟩:=a.parts ha
 obtain ⟨hLb,hIb,hAb⟩:=b.parts hb
 have hwa:=Ex.wt_eq a
 have hwb:=Ex.wt_eq b
 refine F O<|zU O O (qL O O) ?_
 rintro _ _ ⟨b1,rfl,rfl⟩
 refine zU O O (qL O O) ?_
 rintro _ _ ⟨b2,rfl,rfl⟩
 refine A O<|H<|zI<|qY 37 mixed (by kernel_rfl) O O<|Y O O (zE O wT O)<|Y O O (Q O J O (R 1 O) O)<|Y O O (zE O wT O)<|Y O O (Q O J O (R 0 O) O)<|Y O O (qI O ok262 (kR _ _) ⟨G,O,G,O,T⟩)<|Y O O (zE O zKu O)<|Y O O (Q O one9 O (R 1 O) O)<|Y O O (zE O zKu O)<|Y O O (Q O one9 O (R 0 O) O)<|Y O O (qI O ok263 (strings_Compare _ _) ⟨G,O,G,O,T⟩)<|Y O O (zE O zMy O)<|Y O O (zE O zQp O)<|Y O O (Q O n O (R 1 O) O)<|Y O O (zE O zMy O)<|Y O O (zE O zQp O)<|Y O O (Q O n O (R 0 O) O)<|Y O O (qI O ok264 (zHn _ _) ⟨G,O,G,O,T⟩)<|Y O O (zE O zMy O)<|Y O O (zE O zQo O)<|Y O O (Q O n O (R 1 O) O)<|Y O O (zE O zMy O)<|Y O O (zE O zQo O)<|Y O O (Q O n O (R 0 O) O)<|Y O O (qI O ok264 (zHn _ _) ⟨G,O,G,O,T⟩)<|Y O O (zE O zKt O)<|Y O O (zX O yR O (R 1 O) O)<|Y O O (zE O zKt O)<|Y O O (zX O yR O (R 0 O) O)<|Y O O (qI O ok265 (zNj _ _) ⟨G,O,G,O,T⟩)<|Y O O (zE O zEv O)<|Y O O (zX O kE O (R 1 O) O)<|Y O O (zE O zEv O)<|Y O O (zX O kE O (R 0 O) O)<|Y O O (qI O ok266 (zJe a.Lin b.Lin hLa hLb) ⟨G,O,G,O,T⟩)<|Y O O (qW O L zr3 O O O O)<|Y O O (qI O ok261 (cmp_Or_int [cmpI a.Op b.Op,cmpS a.Name b.Name,cmpI a.Val.N b.Val.N,cmpI a.Val.D b.Val.D,cmpTy a.Ty b.Ty,cmpLf a.Lin b.Lin] (by simp)) ⟨G,O,T⟩)<|Y O O (yC O O)<|kH<|H<|zI<|F O<|A O<|yP O<|H<|zD O (fun c1=>?_) (fun c1=>?_)
 ·try simp only [I] at c1
  refine F O<|A O<|A O<|H<|o<|X O ?_
  rw [cmpE_eq,if_neg (show ¬cmpHd a b=0 from c1)];rfl
 ·try simp only [I] at c1
  refine zH<|zI<|F O<|zJ O zAw<|zK zBn (R 1 O) O<|zJ O zAw<|zK zBn (R 0 O) O<|qG O ok267 (zRa a.Idx b.Idx _ cmpIx hIa hIb (fun x hx y hy=>FnPur.of_pur (first:=[]) (cap:=[]) ok268 (zMh x y (by have:=zAp hx;omega) (by have:=zAp hy;omega)))) ⟨G,O,G,O,G,O,T⟩<|A O<|H<|F O<|A O<|yP O<|H<|zD O (fun c2=>?_) (fun c2=>?_)
  ·try simp only [I] at c2
   refine F O<|A O<|A O<|H<|o<|X O ?_
   rw [cmpE_eq,if_pos (show cmpHd a b=0 from c1),if_neg c2]
  ·try simp only [I] at c2
   refine zH<|F O<|zJ O zAv<|zK zEh (R 1 O) O<|zJ O zAv<|zK zEh (R 0 O) O<|qG O ok269 (zRb a.Args b.Args _ cmpE hAa hAb (fun x hx y hy=>FnPur.of_pur (first:=[]) (cap:=[]) ok234 (ih x hx y (by have:=Ex.arg_wt hx;omega) (by have:=Ex.arg_wt hy;omega)))) ⟨G,O,G,O,G,O,T⟩<|A O<|H<|o<|X O ?_
   rw [cmpE_eq,if_pos (show cmpHd a b=0 from c1),if_pos c2]
theorem expr_Compare (a b:Ex) (ha:a.wt<=4294967296) (hb:b.wt<=4294967296):Pur cfg 234 [vE a,vE b] (vI (cmpE a b)):=by
  induction a using Ex.ind generalizing b with
  |_ a ih=>exact zMi a b (fun x hx y h1 h2=>ih x hx y h1 h2) ha hb
theorem expr_Same (a b:Ex) (ha:a.wt<=4294967296) (hb:b.wt<=4294967296):
    Pur cfg 205 [vE a,vE b] (vB (decide (a=b))):=by
 refine zQ Tryz.func205 O Tryz.ntmps205 Tryz.results205 O ?_
 intro z hz
 refine F O<|zU O O (qL O O) ?_
 rintro _ _ ⟨b1,rfl,rfl⟩
 refine zU O O (qL O O) ?_
 rintro _ _ ⟨b2,rfl,rfl⟩
 refine A O<|H<|F O<|zO kL (R 1 O) O<|zO kL (R 0 O) O<|qG O ok234 (expr_Compare a b ha hb) ⟨G,O,G,O,T⟩<|yZ O<|A O<|H<|o<|X O ?_
 exact congrArg vB (decide_eq_decide.2 (cmpE_zero a b))
end Go.W
