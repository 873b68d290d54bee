/-
  Walks: what functions of the program compute. Printed by wip/gen/mk2.py.
  Conditions: none.
-/
import Derived.Test.YtkijgodlhljgdaaGreatDoorWK
import Derived.Test.YtkijgodlhljgdaaGreatDoorPlain
import Derived.Test.YtkijgodlhljgdaaGreatDoorEngZ
set_option linter.unusedSimpArgs false
set_option linter.unusedVariables false
set_option maxRecDepth 10000
namespace Go.W
open Go Go.Eng Go.Proofs Go.L41 Go.Br
attribute [local irreducible] AWP RWP TD finQ
theorem ok206:callOk Tryz.prog 206=true:=by kernel_rfl
theorem ok248:callOk Tryz.prog 248=true:=by kernel_rfl
theorem ok249:callOk Tryz.prog 249=true:=by kernel_rfl
theorem ok250:callOk Tryz.prog 250=true:=by kernel_rfl
theorem ok251:callOk Tryz.prog 251=true:=by kernel_rfl
theorem ok252:callOk Tryz.prog 252=true:=by kernel_rfl
theorem ok253:callOk Tryz.prog 253=true:=by kernel_rfl
theorem ok254:callOk Tryz.prog 254=true:=by kernel_rfl
theorem ok255:callOk Tryz.prog 255=true:=by kernel_rfl
theorem ok256:callOk Tryz.prog 256=true:=by kernel_rfl
theorem ok283:callOk Tryz.prog 283=true:=by kernel_rfl
theorem ok285:callOk Tryz.prog 285=true:=by kernel_rfl
theorem ok286:callOk Tryz.prog 286=true:=by kernel_rfl
theorem ok287:callOk Tryz.prog 287=true:=by kernel_rfl
theorem ok288:callOk Tryz.prog 288=true:=by kernel_rfl
theorem ok289:callOk Tryz.prog 289=true:=by kernel_rfl
theorem ok290:callOk Tryz.prog 290=true:=by kernel_rfl
theorem ok291:callOk Tryz.prog 291=true:=by kernel_rfl
theorem ok299:callOk Tryz.prog 299=true:=by kernel_rfl
theorem zJa (a:Int):
    Pur cfg 283 [vI a] (vB false):=by
 refine zT Tryz.func283 O Tryz.ntmps283 Tryz.results283 O ?_
 intro z hz
 refine B O<|F O<|H<|B O<|F O<|F O<|yU O<|F O<|H<|U<|M O ?_
 exact congrArg vB (by simp)
theorem kO (a b:Int):
    Pur cfg 249 [vI a,vI b] (vI (cmpI a b)):=by
 refine zT Tryz.func249 O Tryz.ntmps249 Tryz.results249 O ?_
 intro z hz
 refine B O<|F O<|H<|B O<|F O<|qK O ok283 (zJa a) ⟨G,O,T⟩<|F O<|H<|B O<|F O<|qK O ok283 (zJa b) ⟨G,O,T⟩<|F O<|H<|W<|B O<|F O<|H<|g O (fun c1=>?_) (fun c1=>?_)
 ·exact absurd c1 (by decide)
 ·refine zJ<|W<|B O<|F O<|H<|g O (fun c3=>?_) (fun c3=>?_)
  ·exact absurd c3 (by decide)
  ·refine zJ<|W<|B O<|F O<|F O<|yD O<|H<|g O (fun c4=>?_) (fun c4=>?_)
   ·try simp only [I] at c4
    refine B O<|F O<|H<|U<|M O ?_
    rw [cmpI_lt c4]
   ·try simp only [I] at c4
    refine zJ<|W<|B O<|F O<|F O<|zX O (yM O O O)<|H<|g O (fun c5=>?_) (fun c5=>?_)
    ·try simp only [I] at c5
     refine B O<|F O<|H<|U<|M O ?_
     rw [cmpI_gt c5]
    ·try simp only [I] at c5
     refine zJ<|B O<|F O<|H<|U<|M O ?_
     rw [cmpI_eq (by omega) (by omega)]
theorem zJb (a:Int):
    Pur cfg 285 [vI a] (vB false):=by
 refine zT Tryz.func285 O Tryz.ntmps285 Tryz.results285 O ?_
 intro z hz
 refine B O<|F O<|H<|B O<|F O<|F O<|yU O<|F O<|H<|U<|M O ?_
 exact congrArg vB (by simp)
theorem zGd (a b:Int):
    Pur cfg 251 [vI a,vI b] (vI (cmpI a b)):=by
 refine zT Tryz.func251 O Tryz.ntmps251 Tryz.results251 O ?_
 intro z hz
 refine B O<|F O<|H<|B O<|F O<|qK O ok285 (zJb a) ⟨G,O,T⟩<|F O<|H<|B O<|F O<|qK O ok285 (zJb b) ⟨G,O,T⟩<|F O<|H<|W<|B O<|F O<|H<|g O (fun c1=>?_) (fun c1=>?_)
 ·exact absurd c1 (by decide)
 ·refine zJ<|W<|B O<|F O<|H<|g O (fun c3=>?_) (fun c3=>?_)
  ·exact absurd c3 (by decide)
  ·refine zJ<|W<|B O<|F O<|F O<|yD O<|H<|g O (fun c4=>?_) (fun c4=>?_)
   ·try simp only [I] at c4
    refine B O<|F O<|H<|U<|M O ?_
    rw [cmpI_lt c4]
   ·try simp only [I] at c4
    refine zJ<|W<|B O<|F O<|F O<|zX O (yM O O O)<|H<|g O (fun c5=>?_) (fun c5=>?_)
    ·try simp only [I] at c5
     refine B O<|F O<|H<|U<|M O ?_
     rw [cmpI_gt c5]
    ·try simp only [I] at c5
     refine zJ<|B O<|F O<|H<|U<|M O ?_
     rw [cmpI_eq (by omega) (by omega)]
theorem cmp_Or_int (l:List Int) (hl:l.length<=4294967296):
    Pur cfg 248 [.c (.sl 1 (l.map fun n=>[cI n]))] (vI (orI l)):=by
 refine zT Tryz.func248 O Tryz.ntmps248 Tryz.results248 O ?_
 intro z hz
 refine B O<|F O<|H<|B O<|F O<|H<|W<|B O<|F O<|zZ O el209<|F O<|H<|zP<|zW ⟨[(8,.c _),(3,.c _),(6,.c _),(7,.c _)],[]⟩ (Weak.mk [] ⟨G,G,G,G,T⟩ O)<|qJ 1 0 O O (Nat) (fun k=>[(8,vI k)]) (fun k=>[]) (fun k=>k<=l.length/\(orI l=orI (l.drop k))) (fun k=>l.length-k) ⟨0,⟨by omega,O⟩,Weak.mk [] ⟨G,G,G,G,T⟩ O⟩ ?_
 rintro k ⟨hk,hp⟩
 refine B O<|yD O<|H<|W<|g O (fun c1=>?_) (fun c1=>?_)
 ·try simp only [I] at c1
  obtain ⟨x,hx⟩:=qQ l k (by omega)
  refine zJ<|W<|zP<|B O<|qH O el209 (by omega) (X (by assumption))<|zL P qB O<|F O<|H<|B O<|F O<|F O<|yU O<|H<|g O (fun c2=>?_) (fun c2=>?_)
  ·try simp only [I] at c2
   refine B O<|F O<|F O<|H<|U<|M O ?_
   rw [hp,orI_at hx c2]
  ·try simp only [I] at c2
   refine zJ<|zU O<|qL O ⟨by omega,by omega⟩<|F O<|H ?_
   refine ⟨k+1,⟨by omega,hp.trans (orI_next hx c2)⟩,(by omega),Weak.mk [] ⟨G,G,G,G,T⟩ O⟩
 ·try simp only [I] at c1
  refine qN<|B O<|F O<|F O<|H<|U<|M O ?_
  rw [hp,kC (by omega)];rfl
theorem zEn (a b:List Mono) (c:C) (f:Mono->Mono->Int) (ha:a.length<=4294967296) (hb:b.length<=4294967296) (hc:∀x,x∈a->∀y,y∈b->FnPur cfg c [vMono x,vMono y] (vI (f x y))):
    Pur cfg 286 [.c (.sl 2 (a.map Mono.cells)),.c (.sl 2 (b.map Mono.cells)),.c c] (vI (cmpL f a b)):=by
 refine zT Tryz.func286 O Tryz.ntmps286 Tryz.results286 O ?_
 intro z hz
 refine B O<|F O<|H<|W<|B O<|F O<|zZ O q<|F O<|H<|zP<|zW ⟨[(13,.c _),(0,.c _),(1,.c _),(2,.c _),(11,.c _),(12,.c _)],[]⟩ (Weak.mk [] ⟨G,G,G,G,G,G,T⟩ O)<|qJ 1 0 O O (Nat) (fun k=>[(13,vI k)]) (fun k=>[]) (fun k=>k<=a.length/\(cmpL f a b=cmpL f (a.drop k) (b.drop k))/\(k<=b.length)) (fun k=>a.length-k) ⟨0,⟨by omega,O,by omega⟩,Weak.mk [] ⟨G,G,G,G,G,G,T⟩ O⟩ ?_
 rintro k ⟨hk,hp,hq⟩
 refine B O<|yD O<|H<|W<|g O (fun c1=>?_) (fun c1=>?_)
 ·try simp only [I] at c1
  obtain ⟨x,hx⟩:=qQ a k (by omega)
  refine zJ<|W<|zP<|B O<|F O<|qH O q (by omega) (X (by assumption))<|zK zHj qB O<|zV O O (qX O zr101) ?_
  rintro _ _ ⟨b1,rfl,rfl⟩
  refine F O<|N 0 sz101 O<|H<|W<|B O<|F O<|F O<|zZ O q<|zX O (wB O O O)<|H<|g O (fun c2=>?_) (fun c2=>?_)
  ·try simp only [I] at c2
   refine B O<|F O<|H<|U<|M O ?_
   rw [hp,zLy hx (by omega)]
  ·try simp only [I] at c2
   obtain ⟨y,hy⟩:=qQ b k (by omega)
   refine zJ<|B O<|F O<|F O<|qH O q (by omega) (X (by assumption))<|zK zHj qB O<|zV O O (qX O zr101) ?_
   rintro _ _ ⟨b2,rfl,rfl⟩
   refine N 0 sz101 O<|H<|B O<|F O<|zK zHj (K 1 O) O<|zK zHj (K 0 O) O<|zX O (wS O O (hc _ (qD hx) _ (qD hy)) ⟨G,O,G,O,T⟩)<|F O<|H<|B O<|F O<|yU O<|H<|g O (fun c3=>?_) (fun c3=>?_)
   ·try simp only [I] at c3
    refine B O<|F O<|F O<|H<|U<|M O ?_
    rw [hp,cmpL_ne hx hy c3]
   ·try simp only [I] at c3
    refine zJ<|zU O<|qL O ⟨by omega,by omega⟩<|F O<|H ?_
    refine ⟨k+1,⟨by omega,hp.trans (zJd hx hy c3),by omega⟩,(by omega),Weak.mk [false,false] ⟨G,G,G,G,G,G,T⟩ O⟩
 ·try simp only [I] at c1
  refine qN<|W<|B O<|F O<|zZ O q<|F O<|zZ O q<|yD O<|H<|g O (fun c4=>?_) (fun c4=>?_)
  ·try simp only [I] at c4
   refine B O<|F O<|H<|U<|M O ?_
   rw [hp,zJe (by omega) (by omega)]
  ·try simp only [I] at c4
   refine zJ<|B O<|F O<|H<|U<|M O ?_
   rw [hp,zLz (by omega) (by omega)]
theorem zFp (a b:List Ix) (c:C) (f:Ix->Ix->Int) (ha:a.length<=4294967296) (hb:b.length<=4294967296) (hc:∀x,x∈a->∀y,y∈b->FnPur cfg c [vIndex x,vIndex y] (vI (f x y))):
    Pur cfg 289 [.c (.sl 4 (a.map Ix.cells)),.c (.sl 4 (b.map Ix.cells)),.c c] (vI (cmpL f a b)):=by
 refine zT Tryz.func289 O Tryz.ntmps289 Tryz.results289 O ?_
 intro z hz
 refine B O<|F O<|H<|W<|B O<|F O<|zZ O s<|F O<|H<|zP<|zW ⟨[(13,.c _),(0,.c _),(1,.c _),(2,.c _),(11,.c _),(12,.c _)],[]⟩ (Weak.mk [] ⟨G,G,G,G,G,G,T⟩ O)<|qJ 1 0 O O (Nat) (fun k=>[(13,vI k)]) (fun k=>[]) (fun k=>k<=a.length/\(cmpL f a b=cmpL f (a.drop k) (b.drop k))/\(k<=b.length)) (fun k=>a.length-k) ⟨0,⟨by omega,O,by omega⟩,Weak.mk [] ⟨G,G,G,G,G,G,T⟩ O⟩ ?_
 rintro k ⟨hk,hp,hq⟩
 refine B O<|yD O<|H<|W<|g O (fun c1=>?_) (fun c1=>?_)
 ·try simp only [I] at c1
  obtain ⟨x,hx⟩:=qQ a k (by omega)
  refine zJ<|W<|zP<|B O<|F O<|qH O s (by omega) (X (by assumption))<|zK zJn qB O<|zV O O (qG [none,some 2,none,some 2] O zr67 O) ?_
  rintro _ _ ⟨b1,rfl,rfl⟩
  refine F O<|N 0 sz67 O<|H<|W<|B O<|F O<|F O<|zZ O s<|zX O (wB O O O)<|H<|g O (fun c2=>?_) (fun c2=>?_)
  ·try simp only [I] at c2
   refine B O<|F O<|H<|U<|M O ?_
   rw [hp,zLy hx (by omega)]
  ·try simp only [I] at c2
   obtain ⟨y,hy⟩:=qQ b k (by omega)
   refine zJ<|B O<|F O<|F O<|qH O s (by omega) (X (by assumption))<|zK zJn qB O<|zV O O (qG [none,some 2,none,some 2] O zr67 O) ?_
   rintro _ _ ⟨b2,rfl,rfl⟩
   refine N 0 sz67 O<|H<|B O<|F O<|zK zJn (K 1 O) O<|zK zJn (K 0 O) O<|zX O (wS O O (hc _ (qD hx) _ (qD hy)) ⟨G,O,G,O,T⟩)<|F O<|H<|B O<|F O<|yU O<|H<|g O (fun c3=>?_) (fun c3=>?_)
   ·try simp only [I] at c3
    refine B O<|F O<|F O<|H<|U<|M O ?_
    rw [hp,cmpL_ne hx hy c3]
   ·try simp only [I] at c3
    refine zJ<|zU O<|qL O ⟨by omega,by omega⟩<|F O<|H ?_
    refine ⟨k+1,⟨by omega,hp.trans (zJd hx hy c3),by omega⟩,(by omega),Weak.mk [false,false] ⟨G,G,G,G,G,G,T⟩ O⟩
 ·try simp only [I] at c1
  refine qN<|W<|B O<|F O<|zZ O s<|F O<|zZ O s<|yD O<|H<|g O (fun c4=>?_) (fun c4=>?_)
  ·try simp only [I] at c4
   refine B O<|F O<|H<|U<|M O ?_
   rw [hp,zJe (by omega) (by omega)]
  ·try simp only [I] at c4
   refine zJ<|B O<|F O<|H<|U<|M O ?_
   rw [hp,zLz (by omega) (by omega)]
theorem zFo (a b:List Lf) (c:C) (f:Lf->Lf->Int) (ha:a.length<=4294967296) (hb:b.length<=4294967296) (hc:∀x,x∈a->∀y,y∈b->FnPur cfg c [vLin x,vLin y] (vI (f x y))):
    Pur cfg 299 [.c (.sl 2 (a.map Lf.cells)),.c (.sl 2 (b.map Lf.cells)),.c c] (vI (cmpL f a b)):=by
 refine zT Tryz.func299 O Tryz.ntmps299 Tryz.results299 O ?_
 intro z hz
 refine B O<|F O<|H<|W<|B O<|F O<|zZ O t<|F O<|H<|zP<|zW ⟨[(13,.c _),(0,.c _),(1,.c _),(2,.c _),(11,.c _),(12,.c _)],[]⟩ (Weak.mk [] ⟨G,G,G,G,G,G,T⟩ O)<|qJ 1 0 O O (Nat) (fun k=>[(13,vI k)]) (fun k=>[]) (fun k=>k<=a.length/\(cmpL f a b=cmpL f (a.drop k) (b.drop k))/\(k<=b.length)) (fun k=>a.length-k) ⟨0,⟨by omega,O,by omega⟩,Weak.mk [] ⟨G,G,G,G,G,G,T⟩ O⟩ ?_
 rintro k ⟨hk,hp,hq⟩
 refine B O<|yD O<|H<|W<|g O (fun c1=>?_) (fun c1=>?_)
 ·try simp only [I] at c1
  obtain ⟨x,hx⟩:=qQ a k (by omega)
  refine zJ<|W<|zP<|B O<|F O<|qH O t (by omega) (X (by assumption))<|zK kQ qB O<|zV O O (qG [none,some 2] O zr34 O) ?_
  rintro _ _ ⟨b1,rfl,rfl⟩
  refine F O<|N 0 sz34 O<|H<|W<|B O<|F O<|F O<|zZ O t<|zX O (wB O O O)<|H<|g O (fun c2=>?_) (fun c2=>?_)
  ·try simp only [I] at c2
   refine B O<|F O<|H<|U<|M O ?_
   rw [hp,zLy hx (by omega)]
  ·try simp only [I] at c2
   obtain ⟨y,hy⟩:=qQ b k (by omega)
   refine zJ<|B O<|F O<|F O<|qH O t (by omega) (X (by assumption))<|zK kQ qB O<|zV O O (qG [none,some 2] O zr34 O) ?_
   rintro _ _ ⟨b2,rfl,rfl⟩
   refine N 0 sz34 O<|H<|B O<|F O<|zK kQ (K 1 O) O<|zK kQ (K 0 O) O<|zX O (wS O O (hc _ (qD hx) _ (qD hy)) ⟨G,O,G,O,T⟩)<|F O<|H<|B O<|F O<|yU O<|H<|g O (fun c3=>?_) (fun c3=>?_)
   ·try simp only [I] at c3
    refine B O<|F O<|F O<|H<|U<|M O ?_
    rw [hp,cmpL_ne hx hy c3]
   ·try simp only [I] at c3
    refine zJ<|zU O<|qL O ⟨by omega,by omega⟩<|F O<|H ?_
    refine ⟨k+1,⟨by omega,hp.trans (zJd hx hy c3),by omega⟩,(by omega),Weak.mk [false,false] ⟨G,G,G,G,G,G,T⟩ O⟩
 ·try simp only [I] at c1
  refine qN<|W<|B O<|F O<|zZ O t<|F O<|zZ O t<|yD O<|H<|g O (fun c4=>?_) (fun c4=>?_)
  ·try simp only [I] at c4
   refine B O<|F O<|H<|U<|M O ?_
   rw [hp,zJe (by omega) (by omega)]
  ·try simp only [I] at c4
   refine zJ<|B O<|F O<|H<|U<|M O ?_
   rw [hp,zLz (by omega) (by omega)]
theorem zFq (a b:List Ex) (c:C) (f:Ex->Ex->Int) (ha:a.length<=4294967296) (hb:b.length<=4294967296) (hc:∀x,x∈a->∀y,y∈b->FnPur cfg c [vE x,vE y] (vI (f x y))):
    Pur cfg 291 [.c (.sl 13 (a.map Ex.cells)),.c (.sl 13 (b.map Ex.cells)),.c c] (vI (cmpL f a b)):=by
 refine zT Tryz.func291 O Tryz.ntmps291 Tryz.results291 O ?_
 intro z hz
 refine B O<|F O<|H<|W<|B O<|F O<|zZ O A<|F O<|H<|zP<|zW ⟨[(13,.c _),(0,.c _),(1,.c _),(2,.c _),(11,.c _),(12,.c _)],[]⟩ (Weak.mk [] ⟨G,G,G,G,G,G,T⟩ O)<|qJ 1 0 O O (Nat) (fun k=>[(13,vI k)]) (fun k=>[]) (fun k=>k<=a.length/\(cmpL f a b=cmpL f (a.drop k) (b.drop k))/\(k<=b.length)) (fun k=>a.length-k) ⟨0,⟨by omega,O,by omega⟩,Weak.mk [] ⟨G,G,G,G,G,G,T⟩ O⟩ ?_
 rintro k ⟨hk,hp,hq⟩
 refine B O<|yD O<|H<|W<|g O (fun c1=>?_) (fun c1=>?_)
 ·try simp only [I] at c1
  obtain ⟨x,hx⟩:=qQ a k (by omega)
  refine zJ<|W<|zP<|B O<|F O<|qH O A (by omega) (yR (by assumption))<|zK Q qB O<|zV O O (qG [none,none,none,none,none,none,none,none,none,none,some 2,some 4,some 13] O u O) ?_
  rintro _ _ ⟨b1,rfl,rfl⟩
  refine F O<|N 0 D O<|H<|W<|B O<|F O<|F O<|zZ O A<|zX O (wB O O O)<|H<|g O (fun c2=>?_) (fun c2=>?_)
  ·try simp only [I] at c2
   refine B O<|F O<|H<|U<|M O ?_
   rw [hp,zLy hx (by omega)]
  ·try simp only [I] at c2
   obtain ⟨y,hy⟩:=qQ b k (by omega)
   refine zJ<|B O<|F O<|F O<|qH O A (by omega) (yR (by assumption))<|zK Q qB O<|zV O O (qG [none,none,none,none,none,none,none,none,none,none,some 2,some 4,some 13] O u O) ?_
   rintro _ _ ⟨b2,rfl,rfl⟩
   refine N 0 D O<|H<|B O<|F O<|zK Q (K 1 O) O<|zK Q (K 0 O) O<|zX O (wS O O (hc _ (qD hx) _ (qD hy)) ⟨G,O,G,O,T⟩)<|F O<|H<|B O<|F O<|yU O<|H<|g O (fun c3=>?_) (fun c3=>?_)
   ·try simp only [I] at c3
    refine B O<|F O<|F O<|H<|U<|M O ?_
    rw [hp,cmpL_ne hx hy c3]
   ·try simp only [I] at c3
    refine zJ<|zU O<|qL O ⟨by omega,by omega⟩<|F O<|H ?_
    refine ⟨k+1,⟨by omega,hp.trans (zJd hx hy c3),by omega⟩,(by omega),Weak.mk [false,false] ⟨G,G,G,G,G,G,T⟩ O⟩
 ·try simp only [I] at c1
  refine qN<|W<|B O<|F O<|zZ O A<|F O<|zZ O A<|yD O<|H<|g O (fun c4=>?_) (fun c4=>?_)
  ·try simp only [I] at c4
   refine B O<|F O<|H<|U<|M O ?_
   rw [hp,zJe (by omega) (by omega)]
  ·try simp only [I] at c4
   refine zJ<|B O<|F O<|H<|U<|M O ?_
   rw [hp,zLz (by omega) (by omega)]
theorem zOo (a b:List Ix) (c:C) (f:Ix->Ix->Int) (ha:a.length<=4294967296) (hb:b.length<=4294967296) (hc:∀x,x∈a->∀y,y∈b->FnPur cfg c [vIndex x,vIndex y] (vI (f x y))):
    Pur cfg 254 [.c (.sl 4 (a.map Ix.cells)),.c (.sl 4 (b.map Ix.cells)),.c c] (vI (cmpLs f a b)):=by
 refine zT Tryz.func254 O Tryz.ntmps254 Tryz.results254 O ?_
 intro z hz
 refine B O<|F O<|H<|W<|B O<|F O<|zZ O s<|F O<|zZ O s<|qK O ok249 (kO _ _) ⟨G,O,G,O,T⟩<|F O<|H<|B O<|F O<|yU O<|H<|g O (fun c1=>?_) (fun c1=>?_)
 ·try simp only [I] at c1
  refine B O<|F O<|F O<|H<|U<|M O ?_
  rw [cmpLs,if_neg c1]
 ·try simp only [I] at c1
  refine zJ<|B O<|F O<|F O<|F O<|qK O ok289 (zFp a b c f ha hb hc) ⟨G,O,G,O,G,O,T⟩<|F O<|H<|U<|M O ?_
  rw [cmpLs,if_pos c1]
theorem zOn (a b:List Lf) (c:C) (f:Lf->Lf->Int) (ha:a.length<=4294967296) (hb:b.length<=4294967296) (hc:∀x,x∈a->∀y,y∈b->FnPur cfg c [vLin x,vLin y] (vI (f x y))):
    Pur cfg 290 [.c (.sl 2 (a.map Lf.cells)),.c (.sl 2 (b.map Lf.cells)),.c c] (vI (cmpLs f a b)):=by
 refine zT Tryz.func290 O Tryz.ntmps290 Tryz.results290 O ?_
 intro z hz
 refine B O<|F O<|H<|W<|B O<|F O<|zZ O t<|F O<|zZ O t<|qK O ok249 (kO _ _) ⟨G,O,G,O,T⟩<|F O<|H<|B O<|F O<|yU O<|H<|g O (fun c1=>?_) (fun c1=>?_)
 ·try simp only [I] at c1
  refine B O<|F O<|F O<|H<|U<|M O ?_
  rw [cmpLs,if_neg c1]
 ·try simp only [I] at c1
  refine zJ<|B O<|F O<|F O<|F O<|qK O ok299 (zFo a b c f ha hb hc) ⟨G,O,G,O,G,O,T⟩<|F O<|H<|U<|M O ?_
  rw [cmpLs,if_pos c1]
theorem zOp (a b:List Ex) (c:C) (f:Ex->Ex->Int) (ha:a.length<=4294967296) (hb:b.length<=4294967296) (hc:∀x,x∈a->∀y,y∈b->FnPur cfg c [vE x,vE y] (vI (f x y))):
    Pur cfg 256 [.c (.sl 13 (a.map Ex.cells)),.c (.sl 13 (b.map Ex.cells)),.c c] (vI (cmpLs f a b)):=by
 refine zT Tryz.func256 O Tryz.ntmps256 Tryz.results256 O ?_
 intro z hz
 refine B O<|F O<|H<|W<|B O<|F O<|zZ O A<|F O<|zZ O A<|qK O ok249 (kO _ _) ⟨G,O,G,O,T⟩<|F O<|H<|B O<|F O<|yU O<|H<|g O (fun c1=>?_) (fun c1=>?_)
 ·try simp only [I] at c1
  refine B O<|F O<|F O<|H<|U<|M O ?_
  rw [cmpLs,if_neg c1]
 ·try simp only [I] at c1
  refine zJ<|B O<|F O<|F O<|F O<|qK O ok291 (zFq a b c f ha hb hc) ⟨G,O,G,O,G,O,T⟩<|F O<|H<|U<|M O ?_
  rw [cmpLs,if_pos c1]
theorem lin_order (a b:Int):
    Pur cfg 288 [vI a,vI b] (vI (cmpI a b)):=by
 refine zT Tryz.func288 O Tryz.ntmps288 Tryz.results288 O ?_
 intro z hz
 refine B O<|F O<|H<|W<|zP<|B O<|F O<|F O<|yD O<|F O<|H<|g O (fun c1=>?_) (fun c1=>?_)
 ·try simp only [I] at c1
  refine B O<|F O<|H<|U<|M O ?_
  rw [cmpI_lt c1]
 ·try simp only [I] at c1
  refine B O<|F O<|F O<|zX O (yM O O O)<|F O<|H<|g O (fun c2=>?_) (fun c2=>?_)
  ·try simp only [I] at c2
   refine B O<|F O<|H<|U<|M O ?_
   rw [cmpI_gt c2]
  ·try simp only [I] at c2
   refine zJ<|B O<|F O<|H<|U<|M O ?_
   rw [cmpI_eq (by omega) (by omega)]
theorem lin_Compare_1 (x y:Mono):
    Pur cfg 287 [vMono x,vMono y] (vI (cmpM x y)):=by
 refine zT Tryz.func287 O Tryz.ntmps287 Tryz.results287 O ?_
 intro z hz
 refine B O<|zV O O (qI O O) ?_
 rintro _ _ ⟨b1,rfl,rfl⟩
 refine zV O O (qI O O) ?_
 rintro _ _ ⟨b2,rfl,rfl⟩
 refine F O<|H<|W<|B O<|zH O zAt<|zL i (K 1 O) O<|zH O zAt<|zL i (K 0 O) O<|zX O (zDr O O O)<|H<|g O (fun c1=>?_) (fun c1=>?_)
 ·try simp only [I] at c1
  refine B O<|zH O zAt<|zL i (K 1 O) O<|zH O zAt<|zL i (K 0 O) O<|qK O ok250 (strings_Compare _ _) ⟨G,O,G,O,T⟩<|F O<|H<|U<|M O ?_
  rw [cmpM,if_neg c1]
 ·try simp only [I] at c1
  refine zJ<|B O<|zH O fd101_1<|zL one2 (K 1 O) O<|zH O fd101_1<|zL one2 (K 0 O) O<|qK O ok288 (lin_order _ _) ⟨G,O,G,O,T⟩<|F O<|H<|U<|M O ?_
  rw [cmpM,if_pos c1]
theorem zHw (a b:Lf) (ha:a.L.length<=4294967296) (hb:b.L.length<=4294967296):
    Pur cfg 253 [vLin a,vLin b] (vI (cmpLf a b)):=by
 refine zT Tryz.func253 O Tryz.ntmps253 Tryz.results253 O ?_
 intro z hz
 refine B O<|zV O O (qI O O) ?_
 rintro _ _ ⟨b1,rfl,rfl⟩
 refine zV O O (qI O O) ?_
 rintro _ _ ⟨b2,rfl,rfl⟩
 refine F O<|H<|B O<|zH O wN<|zL zBn (K 1 O) O<|zH O wN<|zL zBn (K 0 O) O<|qK O ok286 (zEn a.L b.L _ cmpM ha hb (fun x _ y _=>FnPur.of_pur (first:=[]) (cap:=[]) ok287 (lin_Compare_1 x y))) ⟨G,O,G,O,G,O,T⟩<|F O<|H<|W<|B O<|F O<|yU O<|H<|g O (fun c1=>?_) (fun c1=>?_)
 ·try simp only [I] at c1
  refine B O<|F O<|F O<|H<|U<|M O ?_
  rw [cmpLf,if_neg c1]
 ·try simp only [I] at c1
  refine zJ<|B O<|zH O zIx<|zL one2 (K 1 O) O<|zH O zIx<|zL one2 (K 0 O) O<|qK O ok288 (lin_order _ _) ⟨G,O,G,O,T⟩<|F O<|H<|U<|M O ?_
  rw [cmpLf,if_pos c1]
theorem zKn (a b:Ix) (ha:a.wt<=4294967296) (hb:b.wt<=4294967296):
    Pur cfg 255 [vIndex a,vIndex b] (vI (cmpIx a b)):=by
 refine zT Tryz.func255 O Tryz.ntmps255 Tryz.results255 O ?_
 intro z hz
 have hwa:=ha
 have hwb:=hb
 unfold Ix.wt at hwa hwb
 refine B O<|zV O O (qI O O) ?_
 rintro _ _ ⟨b1,rfl,rfl⟩
 refine zV O O (qI O O) ?_
 rintro _ _ ⟨b2,rfl,rfl⟩
 refine F O<|H<|W<|B O<|zH O zDc<|zL i (K 1 O) O<|zH O zDc<|zL i (K 0 O) O<|qK O ok250 (strings_Compare _ _) ⟨G,O,G,O,T⟩<|F O<|H<|B O<|F O<|yU O<|H<|g O (fun c1=>?_) (fun c1=>?_)
 ·try simp only [I] at c1
  refine B O<|F O<|F O<|H<|U<|M O ?_
  rw [cmpIx,if_neg c1]
 ·try simp only [I] at c1
  refine zJ<|W<|B O<|zH O zDd<|zK kQ (K 1 O) O<|zH O zDd<|zK kQ (K 0 O) O<|qK O ok253 (zHw a.Lin b.Lin (by omega) (by omega)) ⟨G,O,G,O,T⟩<|F O<|H<|B O<|F O<|yU O<|H<|g O (fun c2=>?_) (fun c2=>?_)
  ·try simp only [I] at c2
   refine B O<|F O<|F O<|H<|U<|M O ?_
   rw [cmpIx,if_pos c1,if_neg c2]
  ·try simp only [I] at c2
   refine zJ<|B O<|zH O zAk<|zL zBf (K 1 O) O<|zH O zAk<|zL zBf (K 0 O) O<|qK O ok290 (zOn a.At b.At _ cmpLf (by omega) (by omega) (fun x hx y hy=>FnPur.of_pur (first:=[]) (cap:=[]) ok253 (zHw x y (by have:=zBi hx;omega) (by have:=zBi hy;omega)))) ⟨G,O,G,O,G,O,T⟩<|F O<|H<|U<|M O ?_
   rw [cmpIx,if_pos c1,if_pos c2]
theorem zLn (a b:Ty):
    Pur cfg 252 [vTy a,vTy b] (vI (cmpTy a b)):=by
 refine zT Tryz.func252 O Tryz.ntmps252 Tryz.results252 O ?_
 intro z hz
 refine B O<|zV O O (qI O O) ?_
 rintro _ _ ⟨b1,rfl,rfl⟩
 refine zV O O (qI O O) ?_
 rintro _ _ ⟨b2,rfl,rfl⟩
 refine F O<|H<|W<|qP 28 mixed (by kernel_rfl) O O<|Y O O (zE O zAl O)<|Y O O (zG O P O (K 1 O) O)<|Y O O (zE O zAl O)<|Y O O (zG O P O (K 0 O) O)<|Y O O (qF O ok249 (kO _ _) ⟨G,O,G,O,T⟩)<|Y O O (zE O zHh O)<|Y O O (zG O P O (K 1 O) O)<|Y O O (zE O zHh O)<|Y O O (zG O P O (K 0 O) O)<|Y O O (qF O ok249 (kO _ _) ⟨G,O,G,O,T⟩)<|Y O O (zE O zOf O)<|Y O O (zG O P O (K 1 O) O)<|Y O O (zE O zOf O)<|Y O O (zG O P O (K 0 O) O)<|Y O O (qF O ok249 (kO _ _) ⟨G,O,G,O,T⟩)<|Y O O (zE O zOe O)<|Y O O (zG O P O (K 1 O) O)<|Y O O (zE O zOe O)<|Y O O (zG O P O (K 0 O) O)<|Y O O (qF O ok249 (kO _ _) ⟨G,O,G,O,T⟩)<|Y O O (zE O zOd O)<|Y O O (zG O P O (K 1 O) O)<|Y O O (zE O zOd O)<|Y O O (zG O P O (K 0 O) O)<|Y O O (qF O ok249 (kO _ _) ⟨G,O,G,O,T⟩)<|Y O O (qY O el209 zr3 O O O O)<|Y O O (qF O ok248 (cmp_Or_int [cmpI a.Kind b.Kind,cmpI a.Bits b.Bits,cmpI a.Frac b.Frac,cmpI a.Round b.Round,cmpI a.Over b.Over] (by simp)) ⟨G,O,T⟩)<|Y O O (yW O O)<|yK<|H<|U<|M O ?_
 exact O
theorem zKp (a b:Ex) (ih:∀x,x∈a.Args->∀y,x.wt<=4294967296->y.wt<=4294967296->Pur cfg 206 [vE x,vE y] (vI (cmpE x y))) (ha:a.wt<=4294967296) (hb:b.wt<=4294967296):
    Pur cfg 206 [vE a,vE b] (vI (cmpE a b)):=by
 refine zT Tryz.func206 O Tryz.ntmps206 Tryz.results206 O ?_
 intro z hz
 obtain ⟨hLa,hIa,hAa⟩:=a.parts ha
 obtain ⟨hLb,hIb,hAb⟩:=b.parts hb
 have hwa:=Ex.wt_eq a
 have hwb:=Ex.wt_eq b
 refine B O<|zV O O (qI O O) ?_
 rintro _ _ ⟨b1,rfl,rfl⟩
 refine zV O O (qI O O) ?_
 rintro _ _ ⟨b2,rfl,rfl⟩
 refine F O<|H<|W<|qP 37 mixed (by kernel_rfl) O O<|Y O O (zE O yQ O)<|Y O O (zG O P O (K 1 O) O)<|Y O O (zE O yQ O)<|Y O O (zG O P O (K 0 O) O)<|Y O O (qF O ok249 (kO _ _) ⟨G,O,G,O,T⟩)<|Y O O (zE O zAw O)<|Y O O (zG O i O (K 1 O) O)<|Y O O (zE O zAw O)<|Y O O (zG O i O (K 0 O) O)<|Y O O (qF O ok250 (strings_Compare _ _) ⟨G,O,G,O,T⟩)<|Y O O (zE O zHg O)<|Y O O (zE O zEh O)<|Y O O (zG O one2 O (K 1 O) O)<|Y O O (zE O zHg O)<|Y O O (zE O zEh O)<|Y O O (zG O one2 O (K 0 O) O)<|Y O O (qF O ok251 (zGd _ _) ⟨G,O,G,O,T⟩)<|Y O O (zE O zHg O)<|Y O O (zE O zFh O)<|Y O O (zG O one2 O (K 1 O) O)<|Y O O (zE O zHg O)<|Y O O (zE O zFh O)<|Y O O (zG O one2 O (K 0 O) O)<|Y O O (qF O ok251 (zGd _ _) ⟨G,O,G,O,T⟩)<|Y O O (zE O zCh O)<|Y O O (zM O yC O (K 1 O) O)<|Y O O (zE O zCh O)<|Y O O (zM O yC O (K 0 O) O)<|Y O O (qF O ok252 (zLn _ _) ⟨G,O,G,O,T⟩)<|Y O O (zE O zDf O)<|Y O O (zM O kQ O (K 1 O) O)<|Y O O (zE O zDf O)<|Y O O (zM O kQ O (K 0 O) O)<|Y O O (qF O ok253 (zHw a.Lin b.Lin hLa hLb) ⟨G,O,G,O,T⟩)<|Y O O (qY O el209 zr3 O O O O)<|Y O O (qF O ok248 (cmp_Or_int [cmpI a.Op b.Op,cmpS a.Name b.Name,cmpI a.Val.N b.Val.N,cmpI a.Val.D b.Val.D,cmpTy a.Ty b.Ty,cmpLf a.Lin b.Lin] (by simp)) ⟨G,O,T⟩)<|Y O O (yW O O)<|yK<|H<|W<|B O<|F O<|yU O<|H<|g O (fun c1=>?_) (fun c1=>?_)
 ·try simp only [I] at c1
  refine B O<|F O<|F O<|H<|U<|M O ?_
  rw [cmpE_eq,if_neg (show ¬cmpHd a b=0 from c1)];rfl
 ·try simp only [I] at c1
  refine zJ<|W<|B O<|zH O kF<|zL wQ (K 1 O) O<|zH O kF<|zL wQ (K 0 O) O<|qK O ok254 (zOo a.Idx b.Idx _ cmpIx hIa hIb (fun x hx y hy=>FnPur.of_pur (first:=[]) (cap:=[]) ok255 (zKn x y (by have:=zEg hx;omega) (by have:=zEg hy;omega)))) ⟨G,O,G,O,G,O,T⟩<|F O<|H<|B O<|F O<|yU O<|H<|g O (fun c2=>?_) (fun c2=>?_)
  ·try simp only [I] at c2
   refine B O<|F O<|F O<|H<|U<|M O ?_
   rw [cmpE_eq,if_pos (show cmpHd a b=0 from c1),if_neg c2]
  ·try simp only [I] at c2
   refine zJ<|B O<|zH O kA<|zL wA (K 1 O) O<|zH O kA<|zL wA (K 0 O) O<|qK O ok256 (zOp a.Args b.Args _ cmpE hAa hAb (fun x hx y hy=>FnPur.of_pur (first:=[]) (cap:=[]) ok206 (ih x hx y (by have:=Ex.arg_wt hx;omega) (by have:=Ex.arg_wt hy;omega)))) ⟨G,O,G,O,G,O,T⟩<|F O<|H<|U<|M O ?_
   rw [cmpE_eq,if_pos (show cmpHd a b=0 from c1),if_pos c2]
theorem expr_Compare (a b:Ex) (ha:a.wt<=4294967296) (hb:b.wt<=4294967296):Pur cfg 206 [vE a,vE b] (vI (cmpE a b)):=by
  induction a using Ex.ind generalizing b with
  |_ a ih=>exact zKp a b (fun x hx y h1 h2=>ih x hx y h1 h2) ha hb
theorem expr_Same (a b:Ex) (ha:a.wt<=4294967296) (hb:b.wt<=4294967296):
    Pur cfg 155 [vE a,vE b] (vB (decide (a=b))):=by
 refine zT Tryz.func155 O Tryz.ntmps155 Tryz.results155 O ?_
 intro z hz
 refine B O<|zV O O (qI O O) ?_
 rintro _ _ ⟨b1,rfl,rfl⟩
 refine zV O O (qI O O) ?_
 rintro _ _ ⟨b2,rfl,rfl⟩
 refine F O<|H<|B O<|zK Q (K 1 O) O<|zK Q (K 0 O) O<|qK O ok206 (expr_Compare a b ha hb) ⟨G,O,G,O,T⟩<|n O<|F O<|H<|U<|M O ?_
 exact congrArg vB (decide_eq_decide.2 (cmpE_zero a b))
end Go.W
