/-
  Walks: what functions of the program compute. Printed by wip/gen/mk2.py.
  Conditions: none.
-/
import Derived.Test.YtkijgodlhljgdaaGreatDoorWK
import Derived.Test.YtkijgodlhljgdaaGreatDoorPlain
import Derived.Test.YtkijgodlhljgdaaGreatDoorEngZ
set_option linter.unusedSimpArgs false
set_option linter.unusedVariables false
set_option maxRecDepth 10000
namespace Go.W
open Go Go.Eng Go.Proofs Go.L41 Go.Br
attribute [local irreducible] AWP RWP TD finQ
theorem ok206:callOk Tryz.prog 206=true:=by kernel_rfl
theorem ok248:callOk Tryz.prog 248=true:=by kernel_rfl
theorem ok249:callOk Tryz.prog 249=true:=by kernel_rfl
theorem ok250:callOk Tryz.prog 250=true:=by kernel_rfl
theorem ok251:callOk Tryz.prog 251=true:=by kernel_rfl
theorem ok252:callOk Tryz.prog 252=true:=by kernel_rfl
theorem ok253:callOk Tryz.prog 253=true:=by kernel_rfl
theorem ok254:callOk Tryz.prog 254=true:=by kernel_rfl
theorem ok255:callOk Tryz.prog 255=true:=by kernel_rfl
theorem ok256:callOk Tryz.prog 256=true:=by kernel_rfl
theorem ok283:callOk Tryz.prog 283=true:=by kernel_rfl
theorem ok285:callOk Tryz.prog 285=true:=by kernel_rfl
theorem ok286:callOk Tryz.prog 286=true:=by kernel_rfl
theorem ok287:callOk Tryz.prog 287=true:=by kernel_rfl
theorem ok288:callOk Tryz.prog 288=true:=by kernel_rfl
theorem ok289:callOk Tryz.prog 289=true:=by kernel_rfl
theorem ok290:callOk Tryz.prog 290=true:=by kernel_rfl
theorem ok291:callOk Tryz.prog 291=true:=by kernel_rfl
theorem ok299:callOk Tryz.prog 299=true:=by kernel_rfl
theorem zJu (a:Int):
    Pur cfg 283 [vI a] (vB false):=by
 refine zV Tryz.func283 O Tryz.ntmps283 Tryz.results283 O ?_
 intro z hz
 refine B O<|F O<|H<|B O<|F O<|F O<|yP O<|F O<|H<|W<|R O ?_
 exact congrArg vB (by simp)
theorem kV (a b:Int):
    Pur cfg 249 [vI a,vI b] (vI (cmpI a b)):=by
 refine zV Tryz.func249 O Tryz.ntmps249 Tryz.results249 O ?_
 intro z hz
 refine B O<|F O<|H<|B O<|F O<|qK O ok283 (zJu a) ⟨G,O,T⟩<|F O<|H<|B O<|F O<|qK O ok283 (zJu b) ⟨G,O,T⟩<|F O<|H<|U<|B O<|F O<|H<|g O (fun c1=>?_) (fun c1=>?_)
 ·exact absurd c1 (by decide)
 ·refine zJ<|U<|B O<|F O<|H<|g O (fun c3=>?_) (fun c3=>?_)
  ·exact absurd c3 (by decide)
  ·refine zJ<|U<|B O<|F O<|F O<|yB O<|H<|g O (fun c4=>?_) (fun c4=>?_)
   ·try simp only [I] at c4
    refine B O<|F O<|H<|W<|R O ?_
    rw [cmpI_lt c4]
   ·try simp only [I] at c4
    refine zJ<|U<|B O<|F O<|F O<|qB O (yM O O O)<|H<|g O (fun c5=>?_) (fun c5=>?_)
    ·try simp only [I] at c5
     refine B O<|F O<|H<|W<|R O ?_
     rw [cmpI_gt c5]
    ·try simp only [I] at c5
     refine zJ<|B O<|F O<|H<|W<|R O ?_
     rw [cmpI_eq (by omega) (by omega)]
theorem zJv (a:Int):
    Pur cfg 285 [vI a] (vB false):=by
 refine zV Tryz.func285 O Tryz.ntmps285 Tryz.results285 O ?_
 intro z hz
 refine B O<|F O<|H<|B O<|F O<|F O<|yP O<|F O<|H<|W<|R O ?_
 exact congrArg vB (by simp)
theorem zGq (a b:Int):
    Pur cfg 251 [vI a,vI b] (vI (cmpI a b)):=by
 refine zV Tryz.func251 O Tryz.ntmps251 Tryz.results251 O ?_
 intro z hz
 refine B O<|F O<|H<|B O<|F O<|qK O ok285 (zJv a) ⟨G,O,T⟩<|F O<|H<|B O<|F O<|qK O ok285 (zJv b) ⟨G,O,T⟩<|F O<|H<|U<|B O<|F O<|H<|g O (fun c1=>?_) (fun c1=>?_)
 ·exact absurd c1 (by decide)
 ·refine zJ<|U<|B O<|F O<|H<|g O (fun c3=>?_) (fun c3=>?_)
  ·exact absurd c3 (by decide)
  ·refine zJ<|U<|B O<|F O<|F O<|yB O<|H<|g O (fun c4=>?_) (fun c4=>?_)
   ·try simp only [I] at c4
    refine B O<|F O<|H<|W<|R O ?_
    rw [cmpI_lt c4]
   ·try simp only [I] at c4
    refine zJ<|U<|B O<|F O<|F O<|qB O (yM O O O)<|H<|g O (fun c5=>?_) (fun c5=>?_)
    ·try simp only [I] at c5
     refine B O<|F O<|H<|W<|R O ?_
     rw [cmpI_gt c5]
    ·try simp only [I] at c5
     refine zJ<|B O<|F O<|H<|W<|R O ?_
     rw [cmpI_eq (by omega) (by omega)]
theorem cmp_Or_int (l:List Int) (hl:l.length<=4294967296):
    Pur cfg 248 [.c (.sl 1 (l.map fun n=>[cI n]))] (vI (orI l)):=by
 refine zV Tryz.func248 O Tryz.ntmps248 Tryz.results248 O ?_
 intro z hz
 refine B O<|F O<|H<|B O<|F O<|H<|U<|B O<|F O<|zZ O el209<|F O<|H<|zP<|zT ⟨[(8,.c _),(3,.c _),(6,.c _),(7,.c _)],[]⟩ (Weak.mk [] ⟨G,G,G,G,T⟩ O)<|qG 1 0 O O (Nat) (fun k=>[(8,vI k)]) (fun k=>[]) (fun k=>k<=l.length/\(orI l=orI (l.drop k))) (fun k=>l.length-k) ⟨0,⟨by omega,O⟩,Weak.mk [] ⟨G,G,G,G,T⟩ O⟩ ?_
 rintro k ⟨hk,hp⟩
 refine B O<|yB O<|H<|U<|g O (fun c1=>?_) (fun c1=>?_)
 ·try simp only [I] at c1
  obtain ⟨x,hx⟩:=qP l k (by omega)
  refine zJ<|U<|zP<|B O<|qE O el209 (by omega) (Q (by assumption))<|zK w qA O<|F O<|H<|B O<|F O<|F O<|yP O<|H<|g O (fun c2=>?_) (fun c2=>?_)
  ·try simp only [I] at c2
   refine B O<|F O<|F O<|H<|W<|R O ?_
   rw [hp,orI_at hx c2]
  ·try simp only [I] at c2
   refine zJ<|zU O<|qL O ⟨by omega,by omega⟩<|F O<|H ?_
   refine ⟨k+1,⟨by omega,hp.trans (orI_next hx c2)⟩,(by omega),Weak.mk [] ⟨G,G,G,G,T⟩ O⟩
 ·try simp only [I] at c1
  refine qM<|B O<|F O<|F O<|H<|W<|R O ?_
  rw [hp,kI (by omega)];rfl
theorem zFf (a b:List Mono) (c:C) (f:Mono->Mono->Int) (ha:a.length<=4294967296) (hb:b.length<=4294967296) (hc:∀x,x∈a->∀y,y∈b->FnPur cfg c [vMono x,vMono y] (vI (f x y))):
    Pur cfg 286 [.c (.sl 2 (a.map Mono.cells)),.c (.sl 2 (b.map Mono.cells)),.c c] (vI (cmpL f a b)):=by
 refine zV Tryz.func286 O Tryz.ntmps286 Tryz.results286 O ?_
 intro z hz
 refine B O<|F O<|H<|U<|B O<|F O<|zZ O el32<|F O<|H<|zP<|zT ⟨[(13,.c _),(0,.c _),(1,.c _),(2,.c _),(11,.c _),(12,.c _)],[]⟩ (Weak.mk [] ⟨G,G,G,G,G,G,T⟩ O)<|qG 1 0 O O (Nat) (fun k=>[(13,vI k)]) (fun k=>[]) (fun k=>k<=a.length/\(cmpL f a b=cmpL f (a.drop k) (b.drop k))/\(k<=b.length)) (fun k=>a.length-k) ⟨0,⟨by omega,O,by omega⟩,Weak.mk [] ⟨G,G,G,G,G,G,T⟩ O⟩ ?_
 rintro k ⟨hk,hp,hq⟩
 refine B O<|yB O<|H<|U<|g O (fun c1=>?_) (fun c1=>?_)
 ·try simp only [I] at c1
  obtain ⟨x,hx⟩:=qP a k (by omega)
  refine zJ<|U<|zP<|B O<|F O<|qE O el32 (by omega) (Q (by assumption))<|zL zIc qA O<|zW O O (yA O zr101) ?_
  rintro _ _ ⟨b1,rfl,rfl⟩
  refine F O<|N 0 sz101 O<|H<|U<|B O<|F O<|F O<|zZ O el32<|qB O (wL O O O)<|H<|g O (fun c2=>?_) (fun c2=>?_)
  ·try simp only [I] at c2
   refine B O<|F O<|H<|W<|R O ?_
   rw [hp,zMz hx (by omega)]
  ·try simp only [I] at c2
   obtain ⟨y,hy⟩:=qP b k (by omega)
   refine zJ<|B O<|F O<|F O<|qE O el32 (by omega) (Q (by assumption))<|zL zIc qA O<|zW O O (yA O zr101) ?_
   rintro _ _ ⟨b2,rfl,rfl⟩
   refine N 0 sz101 O<|H<|B O<|F O<|zL zIc (K 1 O) O<|zL zIc (K 0 O) O<|qB O (wZ O O (hc _ (qD hx) _ (qD hy)) ⟨G,O,G,O,T⟩)<|F O<|H<|B O<|F O<|yP O<|H<|g O (fun c3=>?_) (fun c3=>?_)
   ·try simp only [I] at c3
    refine B O<|F O<|F O<|H<|W<|R O ?_
    rw [hp,cmpL_ne hx hy c3]
   ·try simp only [I] at c3
    refine zJ<|zU O<|qL O ⟨by omega,by omega⟩<|F O<|H ?_
    refine ⟨k+1,⟨by omega,hp.trans (zJx hx hy c3),by omega⟩,(by omega),Weak.mk [false,false] ⟨G,G,G,G,G,G,T⟩ O⟩
 ·try simp only [I] at c1
  refine qM<|U<|B O<|F O<|zZ O el32<|F O<|zZ O el32<|yB O<|H<|g O (fun c4=>?_) (fun c4=>?_)
  ·try simp only [I] at c4
   refine B O<|F O<|H<|W<|R O ?_
   rw [hp,zJy (by omega) (by omega)]
  ·try simp only [I] at c4
   refine zJ<|B O<|F O<|H<|W<|R O ?_
   rw [hp,zNa (by omega) (by omega)]
theorem zGd (a b:List Ix) (c:C) (f:Ix->Ix->Int) (ha:a.length<=4294967296) (hb:b.length<=4294967296) (hc:∀x,x∈a->∀y,y∈b->FnPur cfg c [vIndex x,vIndex y] (vI (f x y))):
    Pur cfg 289 [.c (.sl 4 (a.map Ix.cells)),.c (.sl 4 (b.map Ix.cells)),.c c] (vI (cmpL f a b)):=by
 refine zV Tryz.func289 O Tryz.ntmps289 Tryz.results289 O ?_
 intro z hz
 refine B O<|F O<|H<|U<|B O<|F O<|zZ O d<|F O<|H<|zP<|zT ⟨[(13,.c _),(0,.c _),(1,.c _),(2,.c _),(11,.c _),(12,.c _)],[]⟩ (Weak.mk [] ⟨G,G,G,G,G,G,T⟩ O)<|qG 1 0 O O (Nat) (fun k=>[(13,vI k)]) (fun k=>[]) (fun k=>k<=a.length/\(cmpL f a b=cmpL f (a.drop k) (b.drop k))/\(k<=b.length)) (fun k=>a.length-k) ⟨0,⟨by omega,O,by omega⟩,Weak.mk [] ⟨G,G,G,G,G,G,T⟩ O⟩ ?_
 rintro k ⟨hk,hp,hq⟩
 refine B O<|yB O<|H<|U<|g O (fun c1=>?_) (fun c1=>?_)
 ·try simp only [I] at c1
  obtain ⟨x,hx⟩:=qP a k (by omega)
  refine zJ<|U<|zP<|B O<|F O<|qE O d (by omega) (Q (by assumption))<|zL zKg qA O<|zW O O (qI [none,some 2,none,some 2] O zr67 O) ?_
  rintro _ _ ⟨b1,rfl,rfl⟩
  refine F O<|N 0 sz67 O<|H<|U<|B O<|F O<|F O<|zZ O d<|qB O (wL O O O)<|H<|g O (fun c2=>?_) (fun c2=>?_)
  ·try simp only [I] at c2
   refine B O<|F O<|H<|W<|R O ?_
   rw [hp,zMz hx (by omega)]
  ·try simp only [I] at c2
   obtain ⟨y,hy⟩:=qP b k (by omega)
   refine zJ<|B O<|F O<|F O<|qE O d (by omega) (Q (by assumption))<|zL zKg qA O<|zW O O (qI [none,some 2,none,some 2] O zr67 O) ?_
   rintro _ _ ⟨b2,rfl,rfl⟩
   refine N 0 sz67 O<|H<|B O<|F O<|zL zKg (K 1 O) O<|zL zKg (K 0 O) O<|qB O (wZ O O (hc _ (qD hx) _ (qD hy)) ⟨G,O,G,O,T⟩)<|F O<|H<|B O<|F O<|yP O<|H<|g O (fun c3=>?_) (fun c3=>?_)
   ·try simp only [I] at c3
    refine B O<|F O<|F O<|H<|W<|R O ?_
    rw [hp,cmpL_ne hx hy c3]
   ·try simp only [I] at c3
    refine zJ<|zU O<|qL O ⟨by omega,by omega⟩<|F O<|H ?_
    refine ⟨k+1,⟨by omega,hp.trans (zJx hx hy c3),by omega⟩,(by omega),Weak.mk [false,false] ⟨G,G,G,G,G,G,T⟩ O⟩
 ·try simp only [I] at c1
  refine qM<|U<|B O<|F O<|zZ O d<|F O<|zZ O d<|yB O<|H<|g O (fun c4=>?_) (fun c4=>?_)
  ·try simp only [I] at c4
   refine B O<|F O<|H<|W<|R O ?_
   rw [hp,zJy (by omega) (by omega)]
  ·try simp only [I] at c4
   refine zJ<|B O<|F O<|H<|W<|R O ?_
   rw [hp,zNa (by omega) (by omega)]
theorem zGc (a b:List Lf) (c:C) (f:Lf->Lf->Int) (ha:a.length<=4294967296) (hb:b.length<=4294967296) (hc:∀x,x∈a->∀y,y∈b->FnPur cfg c [vLin x,vLin y] (vI (f x y))):
    Pur cfg 299 [.c (.sl 2 (a.map Lf.cells)),.c (.sl 2 (b.map Lf.cells)),.c c] (vI (cmpL f a b)):=by
 refine zV Tryz.func299 O Tryz.ntmps299 Tryz.results299 O ?_
 intro z hz
 refine B O<|F O<|H<|U<|B O<|F O<|zZ O el63<|F O<|H<|zP<|zT ⟨[(13,.c _),(0,.c _),(1,.c _),(2,.c _),(11,.c _),(12,.c _)],[]⟩ (Weak.mk [] ⟨G,G,G,G,G,G,T⟩ O)<|qG 1 0 O O (Nat) (fun k=>[(13,vI k)]) (fun k=>[]) (fun k=>k<=a.length/\(cmpL f a b=cmpL f (a.drop k) (b.drop k))/\(k<=b.length)) (fun k=>a.length-k) ⟨0,⟨by omega,O,by omega⟩,Weak.mk [] ⟨G,G,G,G,G,G,T⟩ O⟩ ?_
 rintro k ⟨hk,hp,hq⟩
 refine B O<|yB O<|H<|U<|g O (fun c1=>?_) (fun c1=>?_)
 ·try simp only [I] at c1
  obtain ⟨x,hx⟩:=qP a k (by omega)
  refine zJ<|U<|zP<|B O<|F O<|qE O el63 (by omega) (Q (by assumption))<|zL kP qA O<|zW O O (qI [none,some 2] O zr34 O) ?_
  rintro _ _ ⟨b1,rfl,rfl⟩
  refine F O<|N 0 sz34 O<|H<|U<|B O<|F O<|F O<|zZ O el63<|qB O (wL O O O)<|H<|g O (fun c2=>?_) (fun c2=>?_)
  ·try simp only [I] at c2
   refine B O<|F O<|H<|W<|R O ?_
   rw [hp,zMz hx (by omega)]
  ·try simp only [I] at c2
   obtain ⟨y,hy⟩:=qP b k (by omega)
   refine zJ<|B O<|F O<|F O<|qE O el63 (by omega) (Q (by assumption))<|zL kP qA O<|zW O O (qI [none,some 2] O zr34 O) ?_
   rintro _ _ ⟨b2,rfl,rfl⟩
   refine N 0 sz34 O<|H<|B O<|F O<|zL kP (K 1 O) O<|zL kP (K 0 O) O<|qB O (wZ O O (hc _ (qD hx) _ (qD hy)) ⟨G,O,G,O,T⟩)<|F O<|H<|B O<|F O<|yP O<|H<|g O (fun c3=>?_) (fun c3=>?_)
   ·try simp only [I] at c3
    refine B O<|F O<|F O<|H<|W<|R O ?_
    rw [hp,cmpL_ne hx hy c3]
   ·try simp only [I] at c3
    refine zJ<|zU O<|qL O ⟨by omega,by omega⟩<|F O<|H ?_
    refine ⟨k+1,⟨by omega,hp.trans (zJx hx hy c3),by omega⟩,(by omega),Weak.mk [false,false] ⟨G,G,G,G,G,G,T⟩ O⟩
 ·try simp only [I] at c1
  refine qM<|U<|B O<|F O<|zZ O el63<|F O<|zZ O el63<|yB O<|H<|g O (fun c4=>?_) (fun c4=>?_)
  ·try simp only [I] at c4
   refine B O<|F O<|H<|W<|R O ?_
   rw [hp,zJy (by omega) (by omega)]
  ·try simp only [I] at c4
   refine zJ<|B O<|F O<|H<|W<|R O ?_
   rw [hp,zNa (by omega) (by omega)]
theorem zGe (a b:List Ex) (c:C) (f:Ex->Ex->Int) (ha:a.length<=4294967296) (hb:b.length<=4294967296) (hc:∀x,x∈a->∀y,y∈b->FnPur cfg c [vE x,vE y] (vI (f x y))):
    Pur cfg 291 [.c (.sl 13 (a.map Ex.cells)),.c (.sl 13 (b.map Ex.cells)),.c c] (vI (cmpL f a b)):=by
 refine zV Tryz.func291 O Tryz.ntmps291 Tryz.results291 O ?_
 intro z hz
 refine B O<|F O<|H<|U<|B O<|F O<|zZ O A<|F O<|H<|zP<|zT ⟨[(13,.c _),(0,.c _),(1,.c _),(2,.c _),(11,.c _),(12,.c _)],[]⟩ (Weak.mk [] ⟨G,G,G,G,G,G,T⟩ O)<|qG 1 0 O O (Nat) (fun k=>[(13,vI k)]) (fun k=>[]) (fun k=>k<=a.length/\(cmpL f a b=cmpL f (a.drop k) (b.drop k))/\(k<=b.length)) (fun k=>a.length-k) ⟨0,⟨by omega,O,by omega⟩,Weak.mk [] ⟨G,G,G,G,G,G,T⟩ O⟩ ?_
 rintro k ⟨hk,hp,hq⟩
 refine B O<|yB O<|H<|U<|g O (fun c1=>?_) (fun c1=>?_)
 ·try simp only [I] at c1
  obtain ⟨x,hx⟩:=qP a k (by omega)
  refine zJ<|U<|zP<|B O<|F O<|qE O A (by omega) (yU (by assumption))<|zL qH qA O<|zW O O (qI [none,none,none,none,none,none,none,none,none,none,some 2,some 4,some 13] O zr38 O) ?_
  rintro _ _ ⟨b1,rfl,rfl⟩
  refine F O<|N 0 v O<|H<|U<|B O<|F O<|F O<|zZ O A<|qB O (wL O O O)<|H<|g O (fun c2=>?_) (fun c2=>?_)
  ·try simp only [I] at c2
   refine B O<|F O<|H<|W<|R O ?_
   rw [hp,zMz hx (by omega)]
  ·try simp only [I] at c2
   obtain ⟨y,hy⟩:=qP b k (by omega)
   refine zJ<|B O<|F O<|F O<|qE O A (by omega) (yU (by assumption))<|zL qH qA O<|zW O O (qI [none,none,none,none,none,none,none,none,none,none,some 2,some 4,some 13] O zr38 O) ?_
   rintro _ _ ⟨b2,rfl,rfl⟩
   refine N 0 v O<|H<|B O<|F O<|zL qH (K 1 O) O<|zL qH (K 0 O) O<|qB O (wZ O O (hc _ (qD hx) _ (qD hy)) ⟨G,O,G,O,T⟩)<|F O<|H<|B O<|F O<|yP O<|H<|g O (fun c3=>?_) (fun c3=>?_)
   ·try simp only [I] at c3
    refine B O<|F O<|F O<|H<|W<|R O ?_
    rw [hp,cmpL_ne hx hy c3]
   ·try simp only [I] at c3
    refine zJ<|zU O<|qL O ⟨by omega,by omega⟩<|F O<|H ?_
    refine ⟨k+1,⟨by omega,hp.trans (zJx hx hy c3),by omega⟩,(by omega),Weak.mk [false,false] ⟨G,G,G,G,G,G,T⟩ O⟩
 ·try simp only [I] at c1
  refine qM<|U<|B O<|F O<|zZ O A<|F O<|zZ O A<|yB O<|H<|g O (fun c4=>?_) (fun c4=>?_)
  ·try simp only [I] at c4
   refine B O<|F O<|H<|W<|R O ?_
   rw [hp,zJy (by omega) (by omega)]
  ·try simp only [I] at c4
   refine zJ<|B O<|F O<|H<|W<|R O ?_
   rw [hp,zNa (by omega) (by omega)]
theorem zPo (a b:List Ix) (c:C) (f:Ix->Ix->Int) (ha:a.length<=4294967296) (hb:b.length<=4294967296) (hc:∀x,x∈a->∀y,y∈b->FnPur cfg c [vIndex x,vIndex y] (vI (f x y))):
    Pur cfg 254 [.c (.sl 4 (a.map Ix.cells)),.c (.sl 4 (b.map Ix.cells)),.c c] (vI (cmpLs f a b)):=by
 refine zV Tryz.func254 O Tryz.ntmps254 Tryz.results254 O ?_
 intro z hz
 refine B O<|F O<|H<|U<|B O<|F O<|zZ O d<|F O<|zZ O d<|qK O ok249 (kV _ _) ⟨G,O,G,O,T⟩<|F O<|H<|B O<|F O<|yP O<|H<|g O (fun c1=>?_) (fun c1=>?_)
 ·try simp only [I] at c1
  refine B O<|F O<|F O<|H<|W<|R O ?_
  rw [cmpLs,if_neg c1]
 ·try simp only [I] at c1
  refine zJ<|B O<|F O<|F O<|F O<|qK O ok289 (zGd a b c f ha hb hc) ⟨G,O,G,O,G,O,T⟩<|F O<|H<|W<|R O ?_
  rw [cmpLs,if_pos c1]
theorem zPn (a b:List Lf) (c:C) (f:Lf->Lf->Int) (ha:a.length<=4294967296) (hb:b.length<=4294967296) (hc:∀x,x∈a->∀y,y∈b->FnPur cfg c [vLin x,vLin y] (vI (f x y))):
    Pur cfg 290 [.c (.sl 2 (a.map Lf.cells)),.c (.sl 2 (b.map Lf.cells)),.c c] (vI (cmpLs f a b)):=by
 refine zV Tryz.func290 O Tryz.ntmps290 Tryz.results290 O ?_
 intro z hz
 refine B O<|F O<|H<|U<|B O<|F O<|zZ O el63<|F O<|zZ O el63<|qK O ok249 (kV _ _) ⟨G,O,G,O,T⟩<|F O<|H<|B O<|F O<|yP O<|H<|g O (fun c1=>?_) (fun c1=>?_)
 ·try simp only [I] at c1
  refine B O<|F O<|F O<|H<|W<|R O ?_
  rw [cmpLs,if_neg c1]
 ·try simp only [I] at c1
  refine zJ<|B O<|F O<|F O<|F O<|qK O ok299 (zGc a b c f ha hb hc) ⟨G,O,G,O,G,O,T⟩<|F O<|H<|W<|R O ?_
  rw [cmpLs,if_pos c1]
theorem zPp (a b:List Ex) (c:C) (f:Ex->Ex->Int) (ha:a.length<=4294967296) (hb:b.length<=4294967296) (hc:∀x,x∈a->∀y,y∈b->FnPur cfg c [vE x,vE y] (vI (f x y))):
    Pur cfg 256 [.c (.sl 13 (a.map Ex.cells)),.c (.sl 13 (b.map Ex.cells)),.c c] (vI (cmpLs f a b)):=by
 refine zV Tryz.func256 O Tryz.ntmps256 Tryz.results256 O ?_
 intro z hz
 refine B O<|F O<|H<|U<|B O<|F O<|zZ O A<|F O<|zZ O A<|qK O ok249 (kV _ _) ⟨G,O,G,O,T⟩<|F O<|H<|B O<|F O<|yP O<|H<|g O (fun c1=>?_) (fun c1=>?_)
 ·try simp only [I] at c1
  refine B O<|F O<|F O<|H<|W<|R O ?_
  rw [cmpLs,if_neg c1]
 ·try simp only [I] at c1
  refine zJ<|B O<|F O<|F O<|F O<|qK O ok291 (zGe a b c f ha hb hc) ⟨G,O,G,O,G,O,T⟩<|F O<|H<|W<|R O ?_
  rw [cmpLs,if_pos c1]
theorem lin_order (a b:Int):
    Pur cfg 288 [vI a,vI b] (vI (cmpI a b)):=by
 refine zV Tryz.func288 O Tryz.ntmps288 Tryz.results288 O ?_
 intro z hz
 refine B O<|F O<|H<|U<|zP<|B O<|F O<|F O<|yB O<|F O<|H<|g O (fun c1=>?_) (fun c1=>?_)
 ·try simp only [I] at c1
  refine B O<|F O<|H<|W<|R O ?_
  rw [cmpI_lt c1]
 ·try simp only [I] at c1
  refine B O<|F O<|F O<|qB O (yM O O O)<|F O<|H<|g O (fun c2=>?_) (fun c2=>?_)
  ·try simp only [I] at c2
   refine B O<|F O<|H<|W<|R O ?_
   rw [cmpI_gt c2]
  ·try simp only [I] at c2
   refine zJ<|B O<|F O<|H<|W<|R O ?_
   rw [cmpI_eq (by omega) (by omega)]
theorem lin_Compare_1 (x y:Mono):
    Pur cfg 287 [vMono x,vMono y] (vI (cmpM x y)):=by
 refine zV Tryz.func287 O Tryz.ntmps287 Tryz.results287 O ?_
 intro z hz
 refine B O<|zW O O (qJ O O) ?_
 rintro _ _ ⟨b1,rfl,rfl⟩
 refine zW O O (qJ O O) ?_
 rintro _ _ ⟨b2,rfl,rfl⟩
 refine F O<|H<|U<|B O<|zG O zBk<|zK i (K 1 O) O<|zG O zBk<|zK i (K 0 O) O<|qB O (zCi O O O)<|H<|g O (fun c1=>?_) (fun c1=>?_)
 ·try simp only [I] at c1
  refine B O<|zG O zBk<|zK i (K 1 O) O<|zG O zBk<|zK i (K 0 O) O<|qK O ok250 (strings_Compare _ _) ⟨G,O,G,O,T⟩<|F O<|H<|W<|R O ?_
  rw [cmpM,if_neg c1]
 ·try simp only [I] at c1
  refine zJ<|B O<|zG O fd101_1<|zK one2 (K 1 O) O<|zG O fd101_1<|zK one2 (K 0 O) O<|qK O ok288 (lin_order _ _) ⟨G,O,G,O,T⟩<|F O<|H<|W<|R O ?_
  rw [cmpM,if_pos c1]
theorem zIq (a b:Lf) (ha:a.L.length<=4294967296) (hb:b.L.length<=4294967296):
    Pur cfg 253 [vLin a,vLin b] (vI (cmpLf a b)):=by
 refine zV Tryz.func253 O Tryz.ntmps253 Tryz.results253 O ?_
 intro z hz
 refine B O<|zW O O (qJ O O) ?_
 rintro _ _ ⟨b1,rfl,rfl⟩
 refine zW O O (qJ O O) ?_
 rintro _ _ ⟨b2,rfl,rfl⟩
 refine F O<|H<|B O<|zG O wU<|zK zCb (K 1 O) O<|zG O wU<|zK zCb (K 0 O) O<|qK O ok286 (zFf a.L b.L _ cmpM ha hb (fun x _ y _=>FnPur.of_pur (first:=[]) (cap:=[]) ok287 (lin_Compare_1 x y))) ⟨G,O,G,O,G,O,T⟩<|F O<|H<|U<|B O<|F O<|yP O<|H<|g O (fun c1=>?_) (fun c1=>?_)
 ·try simp only [I] at c1
  refine B O<|F O<|F O<|H<|W<|R O ?_
  rw [cmpLf,if_neg c1]
 ·try simp only [I] at c1
  refine zJ<|B O<|zG O zJs<|zK one2 (K 1 O) O<|zG O zJs<|zK one2 (K 0 O) O<|qK O ok288 (lin_order _ _) ⟨G,O,G,O,T⟩<|F O<|H<|W<|R O ?_
  rw [cmpLf,if_pos c1]
theorem zLj (a b:Ix) (ha:a.wt<=4294967296) (hb:b.wt<=4294967296):
    Pur cfg 255 [vIndex a,vIndex b] (vI (cmpIx a b)):=by
 refine zV Tryz.func255 O Tryz.ntmps255 Tryz.results255 O ?_
 intro z hz
 have hwa:=ha
 have hwb:=hb
 unfold Ix.wt at hwa hwb
 refine B O<|zW O O (qJ O O) ?_
 rintro _ _ ⟨b1,rfl,rfl⟩
 refine zW O O (qJ O O) ?_
 rintro _ _ ⟨b2,rfl,rfl⟩
 refine F O<|H<|U<|B O<|zG O zDv<|zK i (K 1 O) O<|zG O zDv<|zK i (K 0 O) O<|qK O ok250 (strings_Compare _ _) ⟨G,O,G,O,T⟩<|F O<|H<|B O<|F O<|yP O<|H<|g O (fun c1=>?_) (fun c1=>?_)
 ·try simp only [I] at c1
  refine B O<|F O<|F O<|H<|W<|R O ?_
  rw [cmpIx,if_neg c1]
 ·try simp only [I] at c1
  refine zJ<|U<|B O<|zG O zDw<|zL kP (K 1 O) O<|zG O zDw<|zL kP (K 0 O) O<|qK O ok253 (zIq a.Lin b.Lin (by omega) (by omega)) ⟨G,O,G,O,T⟩<|F O<|H<|B O<|F O<|yP O<|H<|g O (fun c2=>?_) (fun c2=>?_)
  ·try simp only [I] at c2
   refine B O<|F O<|F O<|H<|W<|R O ?_
   rw [cmpIx,if_pos c1,if_neg c2]
  ·try simp only [I] at c2
   refine zJ<|B O<|zG O zAw<|zK zAv (K 1 O) O<|zG O zAw<|zK zAv (K 0 O) O<|qK O ok290 (zPn a.At b.At _ cmpLf (by omega) (by omega) (fun x hx y hy=>FnPur.of_pur (first:=[]) (cap:=[]) ok253 (zIq x y (by have:=zBw hx;omega) (by have:=zBw hy;omega)))) ⟨G,O,G,O,G,O,T⟩<|F O<|H<|W<|R O ?_
   rw [cmpIx,if_pos c1,if_pos c2]
theorem zMl (a b:Ty):
    Pur cfg 252 [vTy a,vTy b] (vI (cmpTy a b)):=by
 refine zV Tryz.func252 O Tryz.ntmps252 Tryz.results252 O ?_
 intro z hz
 refine B O<|zW O O (qJ O O) ?_
 rintro _ _ ⟨b1,rfl,rfl⟩
 refine zW O O (qJ O O) ?_
 rintro _ _ ⟨b2,rfl,rfl⟩
 refine F O<|H<|U<|qO 28 mixed (by kernel_rfl) O O<|Y O O (zD O zAn O)<|Y O O (zF O w O (K 1 O) O)<|Y O O (zD O zAn O)<|Y O O (zF O w O (K 0 O) O)<|Y O O (qF O ok249 (kV _ _) ⟨G,O,G,O,T⟩)<|Y O O (zD O zIb O)<|Y O O (zF O w O (K 1 O) O)<|Y O O (zD O zIb O)<|Y O O (zF O w O (K 0 O) O)<|Y O O (qF O ok249 (kV _ _) ⟨G,O,G,O,T⟩)<|Y O O (zD O zPe O)<|Y O O (zF O w O (K 1 O) O)<|Y O O (zD O zPe O)<|Y O O (zF O w O (K 0 O) O)<|Y O O (qF O ok249 (kV _ _) ⟨G,O,G,O,T⟩)<|Y O O (zD O zPd O)<|Y O O (zF O w O (K 1 O) O)<|Y O O (zD O zPd O)<|Y O O (zF O w O (K 0 O) O)<|Y O O (qF O ok249 (kV _ _) ⟨G,O,G,O,T⟩)<|Y O O (zD O zPc O)<|Y O O (zF O w O (K 1 O) O)<|Y O O (zD O zPc O)<|Y O O (zF O w O (K 0 O) O)<|Y O O (qF O ok249 (kV _ _) ⟨G,O,G,O,T⟩)<|Y O O (yD O el209 zr3 O O O O)<|Y O O (qF O ok248 (cmp_Or_int [cmpI a.Kind b.Kind,cmpI a.Bits b.Bits,cmpI a.Frac b.Frac,cmpI a.Round b.Round,cmpI a.Over b.Over] (by simp)) ⟨G,O,T⟩)<|Y O O (yX O O)<|yK<|H<|W<|R O ?_
 exact O
theorem zLl (a b:Ex) (ih:∀x,x∈a.Args->∀y,x.wt<=4294967296->y.wt<=4294967296->Pur cfg 206 [vE x,vE y] (vI (cmpE x y))) (ha:a.wt<=4294967296) (hb:b.wt<=4294967296):
    Pur cfg 206 [vE a,vE b] (vI (cmpE a b)):=by
 refine zV Tryz.func206 O Tryz.ntmps206 Tryz.results206 O ?_
 intro z hz
 obtain ⟨hLa,hIa,hAa⟩:=a.parts ha
 obtain ⟨hLb,hIb,hAb⟩:=b.parts hb
 have hwa:=Ex.wt_eq a
 have hwb:=Ex.wt_eq b
 refine B O<|zW O O (qJ O O) ?_
 rintro _ _ ⟨b1,rfl,rfl⟩
 refine zW O O (qJ O O) ?_
 rintro _ _ ⟨b2,rfl,rfl⟩
 refine F O<|H<|U<|qO 37 mixed (by kernel_rfl) O O<|Y O O (zD O yT O)<|Y O O (zF O w O (K 1 O) O)<|Y O O (zD O yT O)<|Y O O (zF O w O (K 0 O) O)<|Y O O (qF O ok249 (kV _ _) ⟨G,O,G,O,T⟩)<|Y O O (zD O zBm O)<|Y O O (zF O i O (K 1 O) O)<|Y O O (zD O zBm O)<|Y O O (zF O i O (K 0 O) O)<|Y O O (qF O ok250 (strings_Compare _ _) ⟨G,O,G,O,T⟩)<|Y O O (zD O zIa O)<|Y O O (zD O zFa O)<|Y O O (zF O one2 O (K 1 O) O)<|Y O O (zD O zIa O)<|Y O O (zD O zFa O)<|Y O O (zF O one2 O (K 0 O) O)<|Y O O (qF O ok251 (zGq _ _) ⟨G,O,G,O,T⟩)<|Y O O (zD O zIa O)<|Y O O (zD O zFw O)<|Y O O (zF O one2 O (K 1 O) O)<|Y O O (zD O zIa O)<|Y O O (zD O zFw O)<|Y O O (zF O one2 O (K 0 O) O)<|Y O O (qF O ok251 (zGq _ _) ⟨G,O,G,O,T⟩)<|Y O O (zD O zCz O)<|Y O O (zN O yF O (K 1 O) O)<|Y O O (zD O zCz O)<|Y O O (zN O yF O (K 0 O) O)<|Y O O (qF O ok252 (zMl _ _) ⟨G,O,G,O,T⟩)<|Y O O (zD O zDy O)<|Y O O (zN O kP O (K 1 O) O)<|Y O O (zD O zDy O)<|Y O O (zN O kP O (K 0 O) O)<|Y O O (qF O ok253 (zIq a.Lin b.Lin hLa hLb) ⟨G,O,G,O,T⟩)<|Y O O (yD O el209 zr3 O O O O)<|Y O O (qF O ok248 (cmp_Or_int [cmpI a.Op b.Op,cmpS a.Name b.Name,cmpI a.Val.N b.Val.N,cmpI a.Val.D b.Val.D,cmpTy a.Ty b.Ty,cmpLf a.Lin b.Lin] (by simp)) ⟨G,O,T⟩)<|Y O O (yX O O)<|yK<|H<|U<|B O<|F O<|yP O<|H<|g O (fun c1=>?_) (fun c1=>?_)
 ·try simp only [I] at c1
  refine B O<|F O<|F O<|H<|W<|R O ?_
  rw [cmpE_eq,if_neg (show ¬cmpHd a b=0 from c1)];rfl
 ·try simp only [I] at c1
  refine zJ<|U<|B O<|zG O kL<|zK wX (K 1 O) O<|zG O kL<|zK wX (K 0 O) O<|qK O ok254 (zPo a.Idx b.Idx _ cmpIx hIa hIb (fun x hx y hy=>FnPur.of_pur (first:=[]) (cap:=[]) ok255 (zLj x y (by have:=zEz hx;omega) (by have:=zEz hy;omega)))) ⟨G,O,G,O,G,O,T⟩<|F O<|H<|B O<|F O<|yP O<|H<|g O (fun c2=>?_) (fun c2=>?_)
  ·try simp only [I] at c2
   refine B O<|F O<|F O<|H<|W<|R O ?_
   rw [cmpE_eq,if_pos (show cmpHd a b=0 from c1),if_neg c2]
  ·try simp only [I] at c2
   refine zJ<|B O<|zG O kF<|zK wJ (K 1 O) O<|zG O kF<|zK wJ (K 0 O) O<|qK O ok256 (zPp a.Args b.Args _ cmpE hAa hAb (fun x hx y hy=>FnPur.of_pur (first:=[]) (cap:=[]) ok206 (ih x hx y (by have:=Ex.arg_wt hx;omega) (by have:=Ex.arg_wt hy;omega)))) ⟨G,O,G,O,G,O,T⟩<|F O<|H<|W<|R O ?_
   rw [cmpE_eq,if_pos (show cmpHd a b=0 from c1),if_pos c2]
theorem expr_Compare (a b:Ex) (ha:a.wt<=4294967296) (hb:b.wt<=4294967296):Pur cfg 206 [vE a,vE b] (vI (cmpE a b)):=by
  induction a using Ex.ind generalizing b with
  |_ a ih=>exact zLl a b (fun x hx y h1 h2=>ih x hx y h1 h2) ha hb
theorem expr_Same (a b:Ex) (ha:a.wt<=4294967296) (hb:b.wt<=4294967296):
    Pur cfg 155 [vE a,vE b] (vB (decide (a=b))):=by
 refine zV Tryz.func155 O Tryz.ntmps155 Tryz.results155 O ?_
 intro z hz
 refine B O<|zW O O (qJ O O) ?_
 rintro _ _ ⟨b1,rfl,rfl⟩
 refine zW O O (qJ O O) ?_
 rintro _ _ ⟨b2,rfl,rfl⟩
 refine F O<|H<|B O<|zL qH (K 1 O) O<|zL qH (K 0 O) O<|qK O ok206 (expr_Compare a b ha hb) ⟨G,O,G,O,T⟩<|qX O<|F O<|H<|W<|R O ?_
 exact congrArg vB (decide_eq_decide.2 (cmpE_zero a b))
end Go.W
