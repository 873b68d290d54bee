/-
  What functions compute.
  Conditions: none.
-/
import Derived.Test.YtlfjpejkoccibaaGreatDoorWE
import Derived.Test.YtlfjpejkoccibaaGreatDoorPlain
import Derived.Test.YtlfjpejkoccibaaGreatDoorEngZ
set_option linter.unusedSimpArgs false
set_option linter.unusedVariables false
set_option maxRecDepth 10000
namespace Go.W
open Go Go.Eng Go.Proofs Go.L41 Go.Br
attribute [local irreducible] AWP RWP TD fH
theorem K:dY Tryz.prog 26=some (3,1,8):=by kernel_rfl
theorem ok234:bA Tryz.prog 234=true:=by kernel_rfl
theorem ok261:bA Tryz.prog 261=true:=by kernel_rfl
theorem ok262:bA Tryz.prog 262=true:=by kernel_rfl
theorem ok263:bA Tryz.prog 263=true:=by kernel_rfl
theorem ok264:bA Tryz.prog 264=true:=by kernel_rfl
theorem ok265:bA Tryz.prog 265=true:=by kernel_rfl
theorem ok266:bA Tryz.prog 266=true:=by kernel_rfl
theorem ok267:bA Tryz.prog 267=true:=by kernel_rfl
theorem ok268:bA Tryz.prog 268=true:=by kernel_rfl
theorem ok269:bA Tryz.prog 269=true:=by kernel_rfl
theorem ok286:bA Tryz.prog 286=true:=by kernel_rfl
theorem ok288:bA Tryz.prog 288=true:=by kernel_rfl
theorem ok289:bA Tryz.prog 289=true:=by kernel_rfl
theorem ok290:bA Tryz.prog 290=true:=by kernel_rfl
theorem ok291:bA Tryz.prog 291=true:=by kernel_rfl
theorem ok292:bA Tryz.prog 292=true:=by kernel_rfl
theorem ok293:bA Tryz.prog 293=true:=by kernel_rfl
theorem ok294:bA Tryz.prog 294=true:=by kernel_rfl
theorem ok303:bA Tryz.prog 303=true:=by kernel_rfl
theorem zOw (a:Int):
    Pur cfg 286 [vI a] (vB false):=by
 refine zT Tryz.func286 O Tryz.ntmps286 Tryz.results286 O ?_
 intro z hz
 refine F O<|A O<|H<|F O<|A O<|A O<|yM O<|A O<|H<|o<|X O ?_
 exact congrArg vB (by simp)
theorem wP (a b:Int):
    Pur cfg 262 [vI a,vI b] (vI (jG a b)):=by
 refine zT Tryz.func262 O Tryz.ntmps262 Tryz.results262 O ?_
 intro z hz
 refine F O<|A O<|H<|F O<|A O<|qI O ok286 (zOw a) ⟨G,O,T⟩<|A O<|H<|F O<|A O<|qI O ok286 (zOw b) ⟨G,O,T⟩<|A O<|H<|zK<|F O<|A O<|H<|zD O (fun c1=>?_) (fun c1=>?_)
 ·exact absurd c1 (by decide)
 ·refine zM<|zK<|F O<|A O<|H<|zD O (fun c3=>?_) (fun c3=>?_)
  ·exact absurd c3 (by decide)
  ·refine zM<|zK<|F O<|A O<|A O<|yD O<|H<|zD O (fun c4=>?_) (fun c4=>?_)
   ·try simp only [I] at c4
    refine F O<|A O<|H<|o<|X O ?_
    rw [cmpI_lt c4]
   ·try simp only [I] at c4
    refine zM<|zK<|F O<|A O<|A O<|zU O (yG O O O)<|H<|zD O (fun c5=>?_) (fun c5=>?_)
    ·try simp only [I] at c5
     refine F O<|A O<|H<|o<|X O ?_
     rw [cmpI_gt c5]
    ·try simp only [I] at c5
     refine zM<|F O<|A O<|H<|o<|X O ?_
     rw [cmpI_eq (by omega) (by omega)]
theorem zOx (a:Int):
    Pur cfg 288 [vI a] (vB false):=by
 refine zT Tryz.func288 O Tryz.ntmps288 Tryz.results288 O ?_
 intro z hz
 refine F O<|A O<|H<|F O<|A O<|A O<|yM O<|A O<|H<|o<|X O ?_
 exact congrArg vB (by simp)
theorem zKv (a b:Int):
    Pur cfg 264 [vI a,vI b] (vI (jG a b)):=by
 refine zT Tryz.func264 O Tryz.ntmps264 Tryz.results264 O ?_
 intro z hz
 refine F O<|A O<|H<|F O<|A O<|qI O ok288 (zOx a) ⟨G,O,T⟩<|A O<|H<|F O<|A O<|qI O ok288 (zOx b) ⟨G,O,T⟩<|A O<|H<|zK<|F O<|A O<|H<|zD O (fun c1=>?_) (fun c1=>?_)
 ·exact absurd c1 (by decide)
 ·refine zM<|zK<|F O<|A O<|H<|zD O (fun c3=>?_) (fun c3=>?_)
  ·exact absurd c3 (by decide)
  ·refine zM<|zK<|F O<|A O<|A O<|yD O<|H<|zD O (fun c4=>?_) (fun c4=>?_)
   ·try simp only [I] at c4
    refine F O<|A O<|H<|o<|X O ?_
    rw [cmpI_lt c4]
   ·try simp only [I] at c4
    refine zM<|zK<|F O<|A O<|A O<|zU O (yG O O O)<|H<|zD O (fun c5=>?_) (fun c5=>?_)
    ·try simp only [I] at c5
     refine F O<|A O<|H<|o<|X O ?_
     rw [cmpI_gt c5]
    ·try simp only [I] at c5
     refine zM<|F O<|A O<|H<|o<|X O ?_
     rw [cmpI_eq (by omega) (by omega)]
theorem cmp_Or_int (l:List Int) (hl:l.length<=4294967296):
    Pur cfg 261 [.c (.sl 1 (l.map fun n=>[cI n]))] (vI (orI l)):=by
 refine zT Tryz.func261 O Tryz.ntmps261 Tryz.results261 O ?_
 intro z hz
 refine F O<|A O<|H<|F O<|A O<|H<|zK<|F O<|A O<|qC O K<|A O<|H<|zR<|zY ⟨[(8,.c _),(3,.c _),(6,.c _),(7,.c _)],[]⟩ (Weak.mk [] ⟨G,G,G,G,T⟩ O)<|qK 1 0 O O (Nat) (fun k=>[(8,vI k)]) (fun k=>[]) (fun k=>k<=l.length/\(orI l=orI (l.drop k))) (fun k=>l.length-k) ⟨0,⟨by omega,O⟩,Weak.mk [] ⟨G,G,G,G,T⟩ O⟩ ?_
 rintro k ⟨hk,hp⟩
 refine F O<|yD O<|H<|zK<|zD O (fun c1=>?_) (fun c1=>?_)
 ·try simp only [I] at c1
  obtain ⟨x,hx⟩:=qY l k (by omega)
  refine zM<|zK<|zR<|F O<|qD O K (by omega) (Q (by assumption))<|zJ one3 qA O<|A O<|H<|F O<|A O<|A O<|yM O<|H<|zD O (fun c2=>?_) (fun c2=>?_)
  ·try simp only [I] at c2
   refine F O<|A O<|A O<|H<|o<|X O ?_
   rw [hp,orI_at hx c2]
  ·try simp only [I] at c2
   refine zM<|zQ O<|qJ O ⟨by omega,by omega⟩<|A O<|H ?_
   refine ⟨k+1,⟨by omega,hp.trans (orI_next hx c2)⟩,(by omega),Weak.mk [] ⟨G,G,G,G,T⟩ O⟩
 ·try simp only [I] at c1
  refine qQ<|F O<|A O<|A O<|H<|o<|X O ?_
  rw [hp,yW (by omega)];rfl
theorem zHu (a b:List Mono) (c:C) (f:Mono->Mono->Int) (ha:a.length<=4294967296) (hb:b.length<=4294967296) (hc:∀x,x∈a->∀y,y∈b->FnPur cfg c [rC x,rC y] (vI (f x y))):
    Pur cfg 289 [.c (.sl 2 (a.map Mono.cells)),.c (.sl 2 (b.map Mono.cells)),.c c] (vI (jH f a b)):=by
 refine zT Tryz.func289 O Tryz.ntmps289 Tryz.results289 O ?_
 intro z hz
 refine F O<|A O<|H<|zK<|F O<|A O<|qC O P<|A O<|H<|zR<|zY ⟨[(13,.c _),(0,.c _),(1,.c _),(2,.c _),(11,.c _),(12,.c _)],[]⟩ (Weak.mk [] ⟨G,G,G,G,G,G,T⟩ O)<|qK 1 0 O O (Nat) (fun k=>[(13,vI k)]) (fun k=>[]) (fun k=>k<=a.length/\(jH f a b=jH f (a.drop k) (b.drop k))/\(k<=b.length)) (fun k=>a.length-k) ⟨0,⟨by omega,O,by omega⟩,Weak.mk [] ⟨G,G,G,G,G,G,T⟩ O⟩ ?_
 rintro k ⟨hk,hp,hq⟩
 refine F O<|yD O<|H<|zK<|zD O (fun c1=>?_) (fun c1=>?_)
 ·try simp only [I] at c1
  obtain ⟨x,hx⟩:=qY a k (by omega)
  refine zM<|zK<|zR<|F O<|A O<|qD O P (by omega) (Q (by assumption))<|zP zPk qA O<|zV O O (yT O zr69) ?_
  rintro _ _ ⟨b1,rfl,rfl⟩
  refine A O<|Y 0 sz69 O<|H<|zK<|F O<|A O<|A O<|qC O P<|zU O (wI O O O)<|H<|zD O (fun c2=>?_) (fun c2=>?_)
  ·try simp only [I] at c2
   refine F O<|A O<|H<|o<|X O ?_
   rw [hp,zSy hx (by omega)]
  ·try simp only [I] at c2
   obtain ⟨y,hy⟩:=qY b k (by omega)
   refine zM<|F O<|A O<|A O<|qD O P (by omega) (Q (by assumption))<|zP zPk qA O<|zV O O (yT O zr69) ?_
   rintro _ _ ⟨b2,rfl,rfl⟩
   refine Y 0 sz69 O<|H<|F O<|A O<|zP zPk (R 1 O) O<|zP zPk (R 0 O) O<|zU O (kV O O (hc _ (zZ hx) _ (zZ hy)) ⟨G,O,G,O,T⟩)<|A O<|H<|F O<|A O<|yM O<|H<|zD O (fun c3=>?_) (fun c3=>?_)
   ·try simp only [I] at c3
    refine F O<|A O<|A O<|H<|o<|X O ?_
    rw [hp,cmpL_ne hx hy c3]
   ·try simp only [I] at c3
    refine zM<|zQ O<|qJ O ⟨by omega,by omega⟩<|A O<|H ?_
    refine ⟨k+1,⟨by omega,hp.trans (zOz hx hy c3),by omega⟩,(by omega),Weak.mk [false,false] ⟨G,G,G,G,G,G,T⟩ O⟩
 ·try simp only [I] at c1
  refine qQ<|zK<|F O<|A O<|qC O P<|A O<|qC O P<|yD O<|H<|zD O (fun c4=>?_) (fun c4=>?_)
  ·try simp only [I] at c4
   refine F O<|A O<|H<|o<|X O ?_
   rw [hp,zPa (by omega) (by omega)]
  ·try simp only [I] at c4
   refine zM<|F O<|A O<|H<|o<|X O ?_
   rw [hp,zSz (by omega) (by omega)]
theorem zJo (a b:List Ix) (c:C) (f:Ix->Ix->Int) (ha:a.length<=4294967296) (hb:b.length<=4294967296) (hc:∀x,x∈a->∀y,y∈b->FnPur cfg c [jE x,jE y] (vI (f x y))):
    Pur cfg 292 [.c (.sl 4 (a.map Ix.cells)),.c (.sl 4 (b.map Ix.cells)),.c c] (vI (jH f a b)):=by
 refine zT Tryz.func292 O Tryz.ntmps292 Tryz.results292 O ?_
 intro z hz
 refine F O<|A O<|H<|zK<|F O<|A O<|qC O d<|A O<|H<|zR<|zY ⟨[(13,.c _),(0,.c _),(1,.c _),(2,.c _),(11,.c _),(12,.c _)],[]⟩ (Weak.mk [] ⟨G,G,G,G,G,G,T⟩ O)<|qK 1 0 O O (Nat) (fun k=>[(13,vI k)]) (fun k=>[]) (fun k=>k<=a.length/\(jH f a b=jH f (a.drop k) (b.drop k))/\(k<=b.length)) (fun k=>a.length-k) ⟨0,⟨by omega,O,by omega⟩,Weak.mk [] ⟨G,G,G,G,G,G,T⟩ O⟩ ?_
 rintro k ⟨hk,hp,hq⟩
 refine F O<|yD O<|H<|zK<|zD O (fun c1=>?_) (fun c1=>?_)
 ·try simp only [I] at c1
  obtain ⟨x,hx⟩:=qY a k (by omega)
  refine zM<|zK<|zR<|F O<|A O<|qD O d (by omega) (Q (by assumption))<|zP zIn qA O<|zV O O (qE [none,some 2,none,some 2] O zr72 O) ?_
  rintro _ _ ⟨b1,rfl,rfl⟩
  refine A O<|Y 0 sz72 O<|H<|zK<|F O<|A O<|A O<|qC O d<|zU O (wI O O O)<|H<|zD O (fun c2=>?_) (fun c2=>?_)
  ·try simp only [I] at c2
   refine F O<|A O<|H<|o<|X O ?_
   rw [hp,zSy hx (by omega)]
  ·try simp only [I] at c2
   obtain ⟨y,hy⟩:=qY b k (by omega)
   refine zM<|F O<|A O<|A O<|qD O d (by omega) (Q (by assumption))<|zP zIn qA O<|zV O O (qE [none,some 2,none,some 2] O zr72 O) ?_
   rintro _ _ ⟨b2,rfl,rfl⟩
   refine Y 0 sz72 O<|H<|F O<|A O<|zP zIn (R 1 O) O<|zP zIn (R 0 O) O<|zU O (kV O O (hc _ (zZ hx) _ (zZ hy)) ⟨G,O,G,O,T⟩)<|A O<|H<|F O<|A O<|yM O<|H<|zD O (fun c3=>?_) (fun c3=>?_)
   ·try simp only [I] at c3
    refine F O<|A O<|A O<|H<|o<|X O ?_
    rw [hp,cmpL_ne hx hy c3]
   ·try simp only [I] at c3
    refine zM<|zQ O<|qJ O ⟨by omega,by omega⟩<|A O<|H ?_
    refine ⟨k+1,⟨by omega,hp.trans (zOz hx hy c3),by omega⟩,(by omega),Weak.mk [false,false] ⟨G,G,G,G,G,G,T⟩ O⟩
 ·try simp only [I] at c1
  refine qQ<|zK<|F O<|A O<|qC O d<|A O<|qC O d<|yD O<|H<|zD O (fun c4=>?_) (fun c4=>?_)
  ·try simp only [I] at c4
   refine F O<|A O<|H<|o<|X O ?_
   rw [hp,zPa (by omega) (by omega)]
  ·try simp only [I] at c4
   refine zM<|F O<|A O<|H<|o<|X O ?_
   rw [hp,zSz (by omega) (by omega)]
theorem zJn (a b:List Lf) (c:C) (f:Lf->Lf->Int) (ha:a.length<=4294967296) (hb:b.length<=4294967296) (hc:∀x,x∈a->∀y,y∈b->FnPur cfg c [bZ x,bZ y] (vI (f x y))):
    Pur cfg 303 [.c (.sl 2 (a.map Lf.cells)),.c (.sl 2 (b.map Lf.cells)),.c c] (vI (jH f a b)):=by
 refine zT Tryz.func303 O Tryz.ntmps303 Tryz.results303 O ?_
 intro z hz
 refine F O<|A O<|H<|zK<|F O<|A O<|qC O el70<|A O<|H<|zR<|zY ⟨[(13,.c _),(0,.c _),(1,.c _),(2,.c _),(11,.c _),(12,.c _)],[]⟩ (Weak.mk [] ⟨G,G,G,G,G,G,T⟩ O)<|qK 1 0 O O (Nat) (fun k=>[(13,vI k)]) (fun k=>[]) (fun k=>k<=a.length/\(jH f a b=jH f (a.drop k) (b.drop k))/\(k<=b.length)) (fun k=>a.length-k) ⟨0,⟨by omega,O,by omega⟩,Weak.mk [] ⟨G,G,G,G,G,G,T⟩ O⟩ ?_
 rintro k ⟨hk,hp,hq⟩
 refine F O<|yD O<|H<|zK<|zD O (fun c1=>?_) (fun c1=>?_)
 ·try simp only [I] at c1
  obtain ⟨x,hx⟩:=qY a k (by omega)
  refine zM<|zK<|zR<|F O<|A O<|qD O el70 (by omega) (Q (by assumption))<|zP yX qA O<|zV O O (qE [none,some 2] O v O) ?_
  rintro _ _ ⟨b1,rfl,rfl⟩
  refine A O<|Y 0 sz41 O<|H<|zK<|F O<|A O<|A O<|qC O el70<|zU O (wI O O O)<|H<|zD O (fun c2=>?_) (fun c2=>?_)
  ·try simp only [I] at c2
   refine F O<|A O<|H<|o<|X O ?_
   rw [hp,zSy hx (by omega)]
  ·try simp only [I] at c2
   obtain ⟨y,hy⟩:=qY b k (by omega)
   refine zM<|F O<|A O<|A O<|qD O el70 (by omega) (Q (by assumption))<|zP yX qA O<|zV O O (qE [none,some 2] O v O) ?_
   rintro _ _ ⟨b2,rfl,rfl⟩
   refine Y 0 sz41 O<|H<|F O<|A O<|zP yX (R 1 O) O<|zP yX (R 0 O) O<|zU O (kV O O (hc _ (zZ hx) _ (zZ hy)) ⟨G,O,G,O,T⟩)<|A O<|H<|F O<|A O<|yM O<|H<|zD O (fun c3=>?_) (fun c3=>?_)
   ·try simp only [I] at c3
    refine F O<|A O<|A O<|H<|o<|X O ?_
    rw [hp,cmpL_ne hx hy c3]
   ·try simp only [I] at c3
    refine zM<|zQ O<|qJ O ⟨by omega,by omega⟩<|A O<|H ?_
    refine ⟨k+1,⟨by omega,hp.trans (zOz hx hy c3),by omega⟩,(by omega),Weak.mk [false,false] ⟨G,G,G,G,G,G,T⟩ O⟩
 ·try simp only [I] at c1
  refine qQ<|zK<|F O<|A O<|qC O el70<|A O<|qC O el70<|yD O<|H<|zD O (fun c4=>?_) (fun c4=>?_)
  ·try simp only [I] at c4
   refine F O<|A O<|H<|o<|X O ?_
   rw [hp,zPa (by omega) (by omega)]
  ·try simp only [I] at c4
   refine zM<|F O<|A O<|H<|o<|X O ?_
   rw [hp,zSz (by omega) (by omega)]
theorem zJp (a b:List Ex) (c:C) (f:Ex->Ex->Int) (ha:a.length<=4294967296) (hb:b.length<=4294967296) (hc:∀x,x∈a->∀y,y∈b->FnPur cfg c [vE x,vE y] (vI (f x y))):
    Pur cfg 294 [.c (.sl 13 (a.map Ex.cells)),.c (.sl 13 (b.map Ex.cells)),.c c] (vI (jH f a b)):=by
 refine zT Tryz.func294 O Tryz.ntmps294 Tryz.results294 O ?_
 intro z hz
 refine F O<|A O<|H<|zK<|F O<|A O<|qC O g<|A O<|H<|zR<|zY ⟨[(13,.c _),(0,.c _),(1,.c _),(2,.c _),(11,.c _),(12,.c _)],[]⟩ (Weak.mk [] ⟨G,G,G,G,G,G,T⟩ O)<|qK 1 0 O O (Nat) (fun k=>[(13,vI k)]) (fun k=>[]) (fun k=>k<=a.length/\(jH f a b=jH f (a.drop k) (b.drop k))/\(k<=b.length)) (fun k=>a.length-k) ⟨0,⟨by omega,O,by omega⟩,Weak.mk [] ⟨G,G,G,G,G,G,T⟩ O⟩ ?_
 rintro k ⟨hk,hp,hq⟩
 refine F O<|yD O<|H<|zK<|zD O (fun c1=>?_) (fun c1=>?_)
 ·try simp only [I] at c1
  obtain ⟨x,hx⟩:=qY a k (by omega)
  refine zM<|zK<|zR<|F O<|A O<|qD O g (by omega) (zEn (by assumption))<|zP kA qA O<|zV O O (qE [none,none,none,none,none,none,none,none,none,none,some 2,some 4,some 13] O zr44 O) ?_
  rintro _ _ ⟨b1,rfl,rfl⟩
  refine A O<|Y 0 sz44 O<|H<|zK<|F O<|A O<|A O<|qC O g<|zU O (wI O O O)<|H<|zD O (fun c2=>?_) (fun c2=>?_)
  ·try simp only [I] at c2
   refine F O<|A O<|H<|o<|X O ?_
   rw [hp,zSy hx (by omega)]
  ·try simp only [I] at c2
   obtain ⟨y,hy⟩:=qY b k (by omega)
   refine zM<|F O<|A O<|A O<|qD O g (by omega) (zEn (by assumption))<|zP kA qA O<|zV O O (qE [none,none,none,none,none,none,none,none,none,none,some 2,some 4,some 13] O zr44 O) ?_
   rintro _ _ ⟨b2,rfl,rfl⟩
   refine Y 0 sz44 O<|H<|F O<|A O<|zP kA (R 1 O) O<|zP kA (R 0 O) O<|zU O (kV O O (hc _ (zZ hx) _ (zZ hy)) ⟨G,O,G,O,T⟩)<|A O<|H<|F O<|A O<|yM O<|H<|zD O (fun c3=>?_) (fun c3=>?_)
   ·try simp only [I] at c3
    refine F O<|A O<|A O<|H<|o<|X O ?_
    rw [hp,cmpL_ne hx hy c3]
   ·try simp only [I] at c3
    refine zM<|zQ O<|qJ O ⟨by omega,by omega⟩<|A O<|H ?_
    refine ⟨k+1,⟨by omega,hp.trans (zOz hx hy c3),by omega⟩,(by omega),Weak.mk [false,false] ⟨G,G,G,G,G,G,T⟩ O⟩
 ·try simp only [I] at c1
  refine qQ<|zK<|F O<|A O<|qC O g<|A O<|qC O g<|yD O<|H<|zD O (fun c4=>?_) (fun c4=>?_)
  ·try simp only [I] at c4
   refine F O<|A O<|H<|o<|X O ?_
   rw [hp,zPa (by omega) (by omega)]
  ·try simp only [I] at c4
   refine zM<|F O<|A O<|H<|o<|X O ?_
   rw [hp,zSz (by omega) (by omega)]
theorem zWq (a b:List Ix) (c:C) (f:Ix->Ix->Int) (ha:a.length<=4294967296) (hb:b.length<=4294967296) (hc:∀x,x∈a->∀y,y∈b->FnPur cfg c [jE x,jE y] (vI (f x y))):
    Pur cfg 267 [.c (.sl 4 (a.map Ix.cells)),.c (.sl 4 (b.map Ix.cells)),.c c] (vI (jT f a b)):=by
 refine zT Tryz.func267 O Tryz.ntmps267 Tryz.results267 O ?_
 intro z hz
 refine F O<|A O<|H<|zK<|F O<|A O<|qC O d<|A O<|qC O d<|qI O ok262 (wP _ _) ⟨G,O,G,O,T⟩<|A O<|H<|F O<|A O<|yM O<|H<|zD O (fun c1=>?_) (fun c1=>?_)
 ·try simp only [I] at c1
  refine F O<|A O<|A O<|H<|o<|X O ?_
  rw [jT,if_neg c1]
 ·try simp only [I] at c1
  refine zM<|F O<|A O<|A O<|A O<|qI O ok292 (zJo a b c f ha hb hc) ⟨G,O,G,O,G,O,T⟩<|A O<|H<|o<|X O ?_
  rw [jT,if_pos c1]
theorem zWp (a b:List Lf) (c:C) (f:Lf->Lf->Int) (ha:a.length<=4294967296) (hb:b.length<=4294967296) (hc:∀x,x∈a->∀y,y∈b->FnPur cfg c [bZ x,bZ y] (vI (f x y))):
    Pur cfg 293 [.c (.sl 2 (a.map Lf.cells)),.c (.sl 2 (b.map Lf.cells)),.c c] (vI (jT f a b)):=by
 refine zT Tryz.func293 O Tryz.ntmps293 Tryz.results293 O ?_
 intro z hz
 refine F O<|A O<|H<|zK<|F O<|A O<|qC O el70<|A O<|qC O el70<|qI O ok262 (wP _ _) ⟨G,O,G,O,T⟩<|A O<|H<|F O<|A O<|yM O<|H<|zD O (fun c1=>?_) (fun c1=>?_)
 ·try simp only [I] at c1
  refine F O<|A O<|A O<|H<|o<|X O ?_
  rw [jT,if_neg c1]
 ·try simp only [I] at c1
  refine zM<|F O<|A O<|A O<|A O<|qI O ok303 (zJn a b c f ha hb hc) ⟨G,O,G,O,G,O,T⟩<|A O<|H<|o<|X O ?_
  rw [jT,if_pos c1]
theorem zWr (a b:List Ex) (c:C) (f:Ex->Ex->Int) (ha:a.length<=4294967296) (hb:b.length<=4294967296) (hc:∀x,x∈a->∀y,y∈b->FnPur cfg c [vE x,vE y] (vI (f x y))):
    Pur cfg 269 [.c (.sl 13 (a.map Ex.cells)),.c (.sl 13 (b.map Ex.cells)),.c c] (vI (jT f a b)):=by
 refine zT Tryz.func269 O Tryz.ntmps269 Tryz.results269 O ?_
 intro z hz
 refine F O<|A O<|H<|zK<|F O<|A O<|qC O g<|A O<|qC O g<|qI O ok262 (wP _ _) ⟨G,O,G,O,T⟩<|A O<|H<|F O<|A O<|yM O<|H<|zD O (fun c1=>?_) (fun c1=>?_)
 ·try simp only [I] at c1
  refine F O<|A O<|A O<|H<|o<|X O ?_
  rw [jT,if_neg c1]
 ·try simp only [I] at c1
  refine zM<|F O<|A O<|A O<|A O<|qI O ok294 (zJp a b c f ha hb hc) ⟨G,O,G,O,G,O,T⟩<|A O<|H<|o<|X O ?_
  rw [jT,if_pos c1]
theorem lin_order (a b:Int):
    Pur cfg 291 [vI a,vI b] (vI (jG a b)):=by
 refine zT Tryz.func291 O Tryz.ntmps291 Tryz.results291 O ?_
 intro z hz
 refine F O<|A O<|H<|zK<|zR<|F O<|A O<|A O<|yD O<|A O<|H<|zD O (fun c1=>?_) (fun c1=>?_)
 ·try simp only [I] at c1
  refine F O<|A O<|H<|o<|X O ?_
  rw [cmpI_lt c1]
 ·try simp only [I] at c1
  refine F O<|A O<|A O<|zU O (yG O O O)<|A O<|H<|zD O (fun c2=>?_) (fun c2=>?_)
  ·try simp only [I] at c2
   refine F O<|A O<|H<|o<|X O ?_
   rw [cmpI_gt c2]
  ·try simp only [I] at c2
   refine zM<|F O<|A O<|H<|o<|X O ?_
   rw [cmpI_eq (by omega) (by omega)]
theorem lin_Compare_1 (x y:Mono):
    Pur cfg 290 [rC x,rC y] (vI (rY x y)):=by
 refine zT Tryz.func290 O Tryz.ntmps290 Tryz.results290 O ?_
 intro z hz
 refine F O<|zV O O (qN O O) ?_
 rintro _ _ ⟨b1,rfl,rfl⟩
 refine zV O O (qN O O) ?_
 rintro _ _ ⟨b2,rfl,rfl⟩
 refine A O<|H<|zK<|F O<|zG O zAn<|zJ one9 (R 1 O) O<|zG O zAn<|zJ one9 (R 0 O) O<|zU O (zBu O O O)<|H<|zD O (fun c1=>?_) (fun c1=>?_)
 ·try simp only [I] at c1
  refine F O<|zG O zAn<|zJ one9 (R 1 O) O<|zG O zAn<|zJ one9 (R 0 O) O<|qI O ok263 (strings_Compare _ _) ⟨G,O,G,O,T⟩<|A O<|H<|o<|X O ?_
  rw [rY,if_neg c1]
 ·try simp only [I] at c1
  refine zM<|F O<|zG O zDn<|zJ U (R 1 O) O<|zG O zDn<|zJ U (R 0 O) O<|qI O ok291 (lin_order _ _) ⟨G,O,G,O,T⟩<|A O<|H<|o<|X O ?_
  rw [rY,if_pos c1]
theorem zMv (a b:Lf) (ha:a.L.length<=4294967296) (hb:b.L.length<=4294967296):
    Pur cfg 266 [bZ a,bZ b] (vI (mJ a b)):=by
 refine zT Tryz.func266 O Tryz.ntmps266 Tryz.results266 O ?_
 intro z hz
 refine F O<|zV O O (qN O O) ?_
 rintro _ _ ⟨b1,rfl,rfl⟩
 refine zV O O (qN O O) ?_
 rintro _ _ ⟨b2,rfl,rfl⟩
 refine A O<|H<|F O<|zG O kC<|zJ wN (R 1 O) O<|zG O kC<|zJ wN (R 0 O) O<|qI O ok289 (zHu a.L b.L _ rY ha hb (fun x _ y _=>FnPur.of_pur (first:=[]) (cap:=[]) ok290 (lin_Compare_1 x y))) ⟨G,O,G,O,G,O,T⟩<|A O<|H<|zK<|F O<|A O<|yM O<|H<|zD O (fun c1=>?_) (fun c1=>?_)
 ·try simp only [I] at c1
  refine F O<|A O<|A O<|H<|o<|X O ?_
  rw [mJ,if_neg c1]
 ·try simp only [I] at c1
  refine zM<|F O<|zG O zDt<|zJ U (R 1 O) O<|zG O zDt<|zJ U (R 0 O) O<|qI O ok291 (lin_order _ _) ⟨G,O,G,O,T⟩<|A O<|H<|o<|X O ?_
  rw [mJ,if_pos c1]
theorem zQl (a b:Ix) (ha:a.wt<=4294967296) (hb:b.wt<=4294967296):
    Pur cfg 268 [jE a,jE b] (vI (mK a b)):=by
 refine zT Tryz.func268 O Tryz.ntmps268 Tryz.results268 O ?_
 intro z hz
 have hwa:=ha
 have hwb:=hb
 unfold Ix.wt at hwa hwb
 refine F O<|zV O O (qN O O) ?_
 rintro _ _ ⟨b1,rfl,rfl⟩
 refine zV O O (qN O O) ?_
 rintro _ _ ⟨b2,rfl,rfl⟩
 refine A O<|H<|zK<|F O<|zG O zEw<|zJ one9 (R 1 O) O<|zG O zEw<|zJ one9 (R 0 O) O<|qI O ok263 (strings_Compare _ _) ⟨G,O,G,O,T⟩<|A O<|H<|F O<|A O<|yM O<|H<|zD O (fun c1=>?_) (fun c1=>?_)
 ·try simp only [I] at c1
  refine F O<|A O<|A O<|H<|o<|X O ?_
  rw [mK,if_neg c1]
 ·try simp only [I] at c1
  refine zM<|zK<|F O<|zG O zEp<|zP yX (R 1 O) O<|zG O zEp<|zP yX (R 0 O) O<|qI O ok266 (zMv a.Lin b.Lin (by omega) (by omega)) ⟨G,O,G,O,T⟩<|A O<|H<|F O<|A O<|yM O<|H<|zD O (fun c2=>?_) (fun c2=>?_)
  ·try simp only [I] at c2
   refine F O<|A O<|A O<|H<|o<|X O ?_
   rw [mK,if_pos c1,if_neg c2]
  ·try simp only [I] at c2
   refine zM<|F O<|zG O zAr<|zJ zDw (R 1 O) O<|zG O zAr<|zJ zDw (R 0 O) O<|qI O ok293 (zWp a.At b.At _ mJ (by omega) (by omega) (fun x hx y hy=>FnPur.of_pur (first:=[]) (cap:=[]) ok266 (zMv x y (by have:=zDc hx;omega) (by have:=zDc hy;omega)))) ⟨G,O,G,O,G,O,T⟩<|A O<|H<|o<|X O ?_
   rw [mK,if_pos c1,if_pos c2]
theorem zRs (a b:Ty):
    Pur cfg 265 [vTy a,vTy b] (vI (tF a b)):=by
 refine zT Tryz.func265 O Tryz.ntmps265 Tryz.results265 O ?_
 intro z hz
 refine F O<|zV O O (qN O O) ?_
 rintro _ _ ⟨b1,rfl,rfl⟩
 refine zV O O (qN O O) ?_
 rintro _ _ ⟨b2,rfl,rfl⟩
 refine A O<|H<|zK<|qZ 28 mixed (by kernel_rfl) O O<|M O O (zE O zHh O)<|M O O (zF O one3 O (R 1 O) O)<|M O O (zE O zHh O)<|M O O (zF O one3 O (R 0 O) O)<|M O O (qM O ok262 (wP _ _) ⟨G,O,G,O,T⟩)<|M O O (zE O zMj O)<|M O O (zF O one3 O (R 1 O) O)<|M O O (zE O zMj O)<|M O O (zF O one3 O (R 0 O) O)<|M O O (qM O ok262 (wP _ _) ⟨G,O,G,O,T⟩)<|M O O (zE O zWc O)<|M O O (zF O one3 O (R 1 O) O)<|M O O (zE O zWc O)<|M O O (zF O one3 O (R 0 O) O)<|M O O (qM O ok262 (wP _ _) ⟨G,O,G,O,T⟩)<|M O O (zE O zWb O)<|M O O (zF O one3 O (R 1 O) O)<|M O O (zE O zWb O)<|M O O (zF O one3 O (R 0 O) O)<|M O O (qM O ok262 (wP _ _) ⟨G,O,G,O,T⟩)<|M O O (zE O zWa O)<|M O O (zF O one3 O (R 1 O) O)<|M O O (zE O zWa O)<|M O O (zF O one3 O (R 0 O) O)<|M O O (qM O ok262 (wP _ _) ⟨G,O,G,O,T⟩)<|M O O (wQ O K zr3 O O O O)<|M O O (qM O ok261 (cmp_Or_int [jG a.Kind b.Kind,jG a.Bits b.Bits,jG a.Frac b.Frac,jG a.Round b.Round,jG a.Over b.Over] (by simp)) ⟨G,O,T⟩)<|M O O (yA O O)<|kE<|H<|o<|X O ?_
 exact O
theorem zQm (a b:Ex) (ih:∀x,x∈a.Args->∀y,x.wt<=4294967296->y.wt<=4294967296->Pur cfg 234 [vE x,vE y] (vI (pW x y))) (ha:a.wt<=4294967296) (hb:b.wt<=4294967296):
    Pur cfg 234 [vE a,vE b] (vI (pW a b)):=by
 refine zT Tryz.func234 O Tryz.ntmps234 Tryz.results234 O ?_
 intro z hz
 obtain ⟨hLa,hIa,hAa⟩:=a.parts ha
 obtain ⟨hLb,hIb,hAb⟩:=b.parts hb
 have hwa:=Ex.wt_eq a
 have hwb:=Ex.wt_eq b
 refine F O<|zV O O (qN O O) ?_
 rintro _ _ ⟨b1,rfl,rfl⟩
 refine zV O O (qN O O) ?_
 rintro _ _ ⟨b2,rfl,rfl⟩
 refine A O<|H<|zK<|qZ 37 mixed (by kernel_rfl) O O<|M O O (zE O wF O)<|M O O (zF O one3 O (R 1 O) O)<|M O O (zE O wF O)<|M O O (zF O one3 O (R 0 O) O)<|M O O (qM O ok262 (wP _ _) ⟨G,O,G,O,T⟩)<|M O O (zE O zFu O)<|M O O (zF O one9 O (R 1 O) O)<|M O O (zE O zFu O)<|M O O (zF O one9 O (R 0 O) O)<|M O O (qM O ok263 (strings_Compare _ _) ⟨G,O,G,O,T⟩)<|M O O (zE O zKn O)<|M O O (zE O zHi O)<|M O O (zF O U O (R 1 O) O)<|M O O (zE O zKn O)<|M O O (zE O zHi O)<|M O O (zF O U O (R 0 O) O)<|M O O (qM O ok264 (zKv _ _) ⟨G,O,G,O,T⟩)<|M O O (zE O zKn O)<|M O O (zE O zIu O)<|M O O (zF O U O (R 1 O) O)<|M O O (zE O zKn O)<|M O O (zE O zIu O)<|M O O (zF O U O (R 0 O) O)<|M O O (qM O ok264 (zKv _ _) ⟨G,O,G,O,T⟩)<|M O O (zE O zFt O)<|M O O (qB O yN O (R 1 O) O)<|M O O (zE O zFt O)<|M O O (qB O yN O (R 0 O) O)<|M O O (qM O ok265 (zRs _ _) ⟨G,O,G,O,T⟩)<|M O O (zE O zDe O)<|M O O (qB O yX O (R 1 O) O)<|M O O (zE O zDe O)<|M O O (qB O yX O (R 0 O) O)<|M O O (qM O ok266 (zMv a.Lin b.Lin hLa hLb) ⟨G,O,G,O,T⟩)<|M O O (wQ O K zr3 O O O O)<|M O O (qM O ok261 (cmp_Or_int [jG a.Op b.Op,sP a.Name b.Name,jG a.Val.N b.Val.N,jG a.Val.D b.Val.D,tF a.Ty b.Ty,mJ a.Lin b.Lin] (by simp)) ⟨G,O,T⟩)<|M O O (yA O O)<|kE<|H<|zK<|F O<|A O<|yM O<|H<|zD O (fun c1=>?_) (fun c1=>?_)
 ·try simp only [I] at c1
  refine F O<|A O<|A O<|H<|o<|X O ?_
  rw [cmpE_eq,if_neg (show ¬nI a b=0 from c1)];rfl
 ·try simp only [I] at c1
  refine zM<|zK<|F O<|zG O kX<|zJ wO (R 1 O) O<|zG O kX<|zJ wO (R 0 O) O<|qI O ok267 (zWq a.Idx b.Idx _ mK hIa hIb (fun x hx y hy=>FnPur.of_pur (first:=[]) (cap:=[]) ok268 (zQl x y (by have:=zAq hx;omega) (by have:=zAq hy;omega)))) ⟨G,O,G,O,G,O,T⟩<|A O<|H<|F O<|A O<|yM O<|H<|zD O (fun c2=>?_) (fun c2=>?_)
  ·try simp only [I] at c2
   refine F O<|A O<|A O<|H<|o<|X O ?_
   rw [cmpE_eq,if_pos (show nI a b=0 from c1),if_neg c2]
  ·try simp only [I] at c2
   refine zM<|F O<|zG O wL<|zJ zBa (R 1 O) O<|zG O wL<|zJ zBa (R 0 O) O<|qI O ok269 (zWr a.Args b.Args _ pW hAa hAb (fun x hx y hy=>FnPur.of_pur (first:=[]) (cap:=[]) ok234 (ih x hx y (by have:=Ex.arg_wt hx;omega) (by have:=Ex.arg_wt hy;omega)))) ⟨G,O,G,O,G,O,T⟩<|A O<|H<|o<|X O ?_
   rw [cmpE_eq,if_pos (show nI a b=0 from c1),if_pos c2]
theorem expr_Compare (a b:Ex) (ha:a.wt<=4294967296) (hb:b.wt<=4294967296):Pur cfg 234 [vE a,vE b] (vI (pW a b)):=by
  induction a using Ex.ind generalizing b with
  |_ a ih=>exact zQm a b (fun x hx y h1 h2=>ih x hx y h1 h2) ha hb
theorem expr_Same (a b:Ex) (ha:a.wt<=4294967296) (hb:b.wt<=4294967296):
    Pur cfg 205 [vE a,vE b] (vB (decide (a=b))):=by
 refine zT Tryz.func205 O Tryz.ntmps205 Tryz.results205 O ?_
 intro z hz
 refine F O<|zV O O (qN O O) ?_
 rintro _ _ ⟨b1,rfl,rfl⟩
 refine zV O O (qN O O) ?_
 rintro _ _ ⟨b2,rfl,rfl⟩
 refine A O<|H<|F O<|zP kA (R 1 O) O<|zP kA (R 0 O) O<|qI O ok234 (expr_Compare a b ha hb) ⟨G,O,G,O,T⟩<|yF O<|A O<|H<|o<|X O ?_
 exact congrArg vB (decide_eq_decide.2 (cmpE_zero a b))
end Go.W
