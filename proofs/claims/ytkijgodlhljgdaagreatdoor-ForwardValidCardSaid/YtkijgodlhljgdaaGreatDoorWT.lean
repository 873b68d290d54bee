/-
  Walks: what functions of the program compute. Printed by wip/gen/mk2.py.
  Conditions: none.
-/
import Derived.Test.YtkijgodlhljgdaaGreatDoorWK
import Derived.Test.YtkijgodlhljgdaaGreatDoorPlain
import Derived.Test.YtkijgodlhljgdaaGreatDoorEngZ
set_option linter.unusedSimpArgs false
set_option linter.unusedVariables false
set_option maxRecDepth 10000
namespace Go.W
open Go Go.Eng Go.Proofs Go.L41 Go.Br
attribute [local irreducible] AWP RWP TD finQ
theorem ok206:callOk Tryz.prog 206=true:=by kernel_rfl
theorem ok248:callOk Tryz.prog 248=true:=by kernel_rfl
theorem ok249:callOk Tryz.prog 249=true:=by kernel_rfl
theorem ok250:callOk Tryz.prog 250=true:=by kernel_rfl
theorem ok251:callOk Tryz.prog 251=true:=by kernel_rfl
theorem ok252:callOk Tryz.prog 252=true:=by kernel_rfl
theorem ok253:callOk Tryz.prog 253=true:=by kernel_rfl
theorem ok254:callOk Tryz.prog 254=true:=by kernel_rfl
theorem ok255:callOk Tryz.prog 255=true:=by kernel_rfl
theorem ok256:callOk Tryz.prog 256=true:=by kernel_rfl
theorem ok283:callOk Tryz.prog 283=true:=by kernel_rfl
theorem ok285:callOk Tryz.prog 285=true:=by kernel_rfl
theorem ok286:callOk Tryz.prog 286=true:=by kernel_rfl
theorem ok287:callOk Tryz.prog 287=true:=by kernel_rfl
theorem ok288:callOk Tryz.prog 288=true:=by kernel_rfl
theorem ok289:callOk Tryz.prog 289=true:=by kernel_rfl
theorem ok290:callOk Tryz.prog 290=true:=by kernel_rfl
theorem ok291:callOk Tryz.prog 291=true:=by kernel_rfl
theorem ok299:callOk Tryz.prog 299=true:=by kernel_rfl
theorem zIr (a:Int):
    Pur cfg 283 [vI a] (vB false):=by
 refine zT Tryz.func283 O Tryz.ntmps283 Tryz.results283 O ?_
 intro z hz
 refine B O<|G O<|U<|B O<|G O<|G O<|yN O<|G O<|U<|zH<|zQ O ?_
 exact congrArg vB (by simp)
theorem kN (a b:Int):
    Pur cfg 249 [vI a,vI b] (vI (cmpI a b)):=by
 refine zT Tryz.func249 O Tryz.ntmps249 Tryz.results249 O ?_
 intro z hz
 refine B O<|G O<|U<|B O<|G O<|qK O ok283 (zIr a) ⟨Y,O,T⟩<|G O<|U<|B O<|G O<|qK O ok283 (zIr b) ⟨Y,O,T⟩<|G O<|U<|zI<|B O<|G O<|U<|zE O (fun c1=>?_) (fun c1=>?_)
 ·exact absurd c1 (by decide)
 ·refine zJ<|zI<|B O<|G O<|U<|zE O (fun c3=>?_) (fun c3=>?_)
  ·exact absurd c3 (by decide)
  ·refine zJ<|zI<|B O<|G O<|G O<|yA O<|U<|zE O (fun c4=>?_) (fun c4=>?_)
   ·try simp only [W] at c4
    refine B O<|G O<|U<|zH<|zQ O ?_
    rw [cmpI_lt c4]
   ·try simp only [W] at c4
    refine zJ<|zI<|B O<|G O<|G O<|zX O (yD O O O)<|U<|zE O (fun c5=>?_) (fun c5=>?_)
    ·try simp only [W] at c5
     refine B O<|G O<|U<|zH<|zQ O ?_
     rw [cmpI_gt c5]
    ·try simp only [W] at c5
     refine zJ<|B O<|G O<|U<|zH<|zQ O ?_
     rw [cmpI_eq (by omega) (by omega)]
theorem zIs (a:Int):
    Pur cfg 285 [vI a] (vB false):=by
 refine zT Tryz.func285 O Tryz.ntmps285 Tryz.results285 O ?_
 intro z hz
 refine B O<|G O<|U<|B O<|G O<|G O<|yN O<|G O<|U<|zH<|zQ O ?_
 exact congrArg vB (by simp)
theorem zFy (a b:Int):
    Pur cfg 251 [vI a,vI b] (vI (cmpI a b)):=by
 refine zT Tryz.func251 O Tryz.ntmps251 Tryz.results251 O ?_
 intro z hz
 refine B O<|G O<|U<|B O<|G O<|qK O ok285 (zIs a) ⟨Y,O,T⟩<|G O<|U<|B O<|G O<|qK O ok285 (zIs b) ⟨Y,O,T⟩<|G O<|U<|zI<|B O<|G O<|U<|zE O (fun c1=>?_) (fun c1=>?_)
 ·exact absurd c1 (by decide)
 ·refine zJ<|zI<|B O<|G O<|U<|zE O (fun c3=>?_) (fun c3=>?_)
  ·exact absurd c3 (by decide)
  ·refine zJ<|zI<|B O<|G O<|G O<|yA O<|U<|zE O (fun c4=>?_) (fun c4=>?_)
   ·try simp only [W] at c4
    refine B O<|G O<|U<|zH<|zQ O ?_
    rw [cmpI_lt c4]
   ·try simp only [W] at c4
    refine zJ<|zI<|B O<|G O<|G O<|zX O (yD O O O)<|U<|zE O (fun c5=>?_) (fun c5=>?_)
    ·try simp only [W] at c5
     refine B O<|G O<|U<|zH<|zQ O ?_
     rw [cmpI_gt c5]
    ·try simp only [W] at c5
     refine zJ<|B O<|G O<|U<|zH<|zQ O ?_
     rw [cmpI_eq (by omega) (by omega)]
theorem cmp_Or_int (l:List Int) (hl:l.length<=4294967296):
    Pur cfg 248 [.c (.sl 1 (l.map fun n=>[cI n]))] (vI (orI l)):=by
 refine zT Tryz.func248 O Tryz.ntmps248 Tryz.results248 O ?_
 intro z hz
 refine B O<|G O<|U<|B O<|G O<|U<|zI<|B O<|G O<|zY O el209<|G O<|U<|zP<|zU ⟨[(8,.c _),(3,.c _),(6,.c _),(7,.c _)],[]⟩ (Weak.mk [] ⟨Y,Y,Y,Y,T⟩ O)<|qF 1 0 O O (Nat) (fun k=>[(8,vI k)]) (fun k=>[]) (fun k=>k<=l.length/\(orI l=orI (l.drop k))) (fun k=>l.length-k) ⟨0,⟨by omega,O⟩,Weak.mk [] ⟨Y,Y,Y,Y,T⟩ O⟩ ?_
 rintro k ⟨hk,hp⟩
 refine B O<|yA O<|U<|zI<|zE O (fun c1=>?_) (fun c1=>?_)
 ·try simp only [W] at c1
  obtain ⟨x,hx⟩:=qQ l k (by omega)
  refine zJ<|zI<|zP<|B O<|qE O el209 (by omega) (getm (by assumption))<|zK one3 qB O<|G O<|U<|B O<|G O<|G O<|yN O<|U<|zE O (fun c2=>?_) (fun c2=>?_)
  ·try simp only [W] at c2
   refine B O<|G O<|G O<|U<|zH<|zQ O ?_
   rw [hp,orI_at hx c2]
  ·try simp only [W] at c2
   refine zJ<|zS O<|qJ O ⟨by omega,by omega⟩<|G O<|U ?_
   refine ⟨k+1,⟨by omega,hp.trans (orI_next hx c2)⟩,(by omega),Weak.mk [] ⟨Y,Y,Y,Y,T⟩ O⟩
 ·try simp only [W] at c1
  refine qO<|B O<|G O<|G O<|U<|zH<|zQ O ?_
  rw [hp,kB (by omega)];rfl
theorem zEq (a b:List Mono) (c:C) (f:Mono->Mono->Int) (ha:a.length<=4294967296) (hb:b.length<=4294967296) (hc:∀x,x∈a->∀y,y∈b->FnPur cfg c [vMono x,vMono y] (vI (f x y))):
    Pur cfg 286 [.c (.sl 2 (a.map Mono.cells)),.c (.sl 2 (b.map Mono.cells)),.c c] (vI (cmpL f a b)):=by
 refine zT Tryz.func286 O Tryz.ntmps286 Tryz.results286 O ?_
 intro z hz
 refine B O<|G O<|U<|zI<|B O<|G O<|zY O el32<|G O<|U<|zP<|zU ⟨[(13,.c _),(0,.c _),(1,.c _),(2,.c _),(11,.c _),(12,.c _)],[]⟩ (Weak.mk [] ⟨Y,Y,Y,Y,Y,Y,T⟩ O)<|qF 1 0 O O (Nat) (fun k=>[(13,vI k)]) (fun k=>[]) (fun k=>k<=a.length/\(cmpL f a b=cmpL f (a.drop k) (b.drop k))/\(k<=b.length)) (fun k=>a.length-k) ⟨0,⟨by omega,O,by omega⟩,Weak.mk [] ⟨Y,Y,Y,Y,Y,Y,T⟩ O⟩ ?_
 rintro k ⟨hk,hp,hq⟩
 refine B O<|yA O<|U<|zI<|zE O (fun c1=>?_) (fun c1=>?_)
 ·try simp only [W] at c1
  obtain ⟨x,hx⟩:=qQ a k (by omega)
  refine zJ<|zI<|zP<|B O<|G O<|qE O el32 (by omega) (getm (by assumption))<|zL zHa qB O<|zZ O O (yB O zr101) ?_
  rintro _ _ ⟨b1,rfl,rfl⟩
  refine G O<|N 0 sz101 O<|U<|zI<|B O<|G O<|G O<|zY O el32<|zX O (wD O O O)<|U<|zE O (fun c2=>?_) (fun c2=>?_)
  ·try simp only [W] at c2
   refine B O<|G O<|U<|zH<|zQ O ?_
   rw [hp,zLq hx (by omega)]
  ·try simp only [W] at c2
   obtain ⟨y,hy⟩:=qQ b k (by omega)
   refine zJ<|B O<|G O<|G O<|qE O el32 (by omega) (getm (by assumption))<|zL zHa qB O<|zZ O O (yB O zr101) ?_
   rintro _ _ ⟨b2,rfl,rfl⟩
   refine N 0 sz101 O<|U<|B O<|G O<|zL zHa (J 1 O) O<|zL zHa (J 0 O) O<|zX O (wO O O (hc _ (qD hx) _ (qD hy)) ⟨Y,O,Y,O,T⟩)<|G O<|U<|B O<|G O<|yN O<|U<|zE O (fun c3=>?_) (fun c3=>?_)
   ·try simp only [W] at c3
    refine B O<|G O<|G O<|U<|zH<|zQ O ?_
    rw [hp,cmpL_ne hx hy c3]
   ·try simp only [W] at c3
    refine zJ<|zS O<|qJ O ⟨by omega,by omega⟩<|G O<|U ?_
    refine ⟨k+1,⟨by omega,hp.trans (zIu hx hy c3),by omega⟩,(by omega),Weak.mk [false,false] ⟨Y,Y,Y,Y,Y,Y,T⟩ O⟩
 ·try simp only [W] at c1
  refine qO<|zI<|B O<|G O<|zY O el32<|G O<|zY O el32<|yA O<|U<|zE O (fun c4=>?_) (fun c4=>?_)
  ·try simp only [W] at c4
   refine B O<|G O<|U<|zH<|zQ O ?_
   rw [hp,zIv (by omega) (by omega)]
  ·try simp only [W] at c4
   refine zJ<|B O<|G O<|U<|zH<|zQ O ?_
   rw [hp,zLr (by omega) (by omega)]
theorem zFl (a b:List Ix) (c:C) (f:Ix->Ix->Int) (ha:a.length<=4294967296) (hb:b.length<=4294967296) (hc:∀x,x∈a->∀y,y∈b->FnPur cfg c [vIndex x,vIndex y] (vI (f x y))):
    Pur cfg 289 [.c (.sl 4 (a.map Ix.cells)),.c (.sl 4 (b.map Ix.cells)),.c c] (vI (cmpL f a b)):=by
 refine zT Tryz.func289 O Tryz.ntmps289 Tryz.results289 O ?_
 intro z hz
 refine B O<|G O<|U<|zI<|B O<|G O<|zY O el35<|G O<|U<|zP<|zU ⟨[(13,.c _),(0,.c _),(1,.c _),(2,.c _),(11,.c _),(12,.c _)],[]⟩ (Weak.mk [] ⟨Y,Y,Y,Y,Y,Y,T⟩ O)<|qF 1 0 O O (Nat) (fun k=>[(13,vI k)]) (fun k=>[]) (fun k=>k<=a.length/\(cmpL f a b=cmpL f (a.drop k) (b.drop k))/\(k<=b.length)) (fun k=>a.length-k) ⟨0,⟨by omega,O,by omega⟩,Weak.mk [] ⟨Y,Y,Y,Y,Y,Y,T⟩ O⟩ ?_
 rintro k ⟨hk,hp,hq⟩
 refine B O<|yA O<|U<|zI<|zE O (fun c1=>?_) (fun c1=>?_)
 ·try simp only [W] at c1
  obtain ⟨x,hx⟩:=qQ a k (by omega)
  refine zJ<|zI<|zP<|B O<|G O<|qE O el35 (by omega) (getm (by assumption))<|zL zJe qB O<|zZ O O (qH [none,some 2,none,some 2] O zr67 O) ?_
  rintro _ _ ⟨b1,rfl,rfl⟩
  refine G O<|N 0 sz67 O<|U<|zI<|B O<|G O<|G O<|zY O el35<|zX O (wD O O O)<|U<|zE O (fun c2=>?_) (fun c2=>?_)
  ·try simp only [W] at c2
   refine B O<|G O<|U<|zH<|zQ O ?_
   rw [hp,zLq hx (by omega)]
  ·try simp only [W] at c2
   obtain ⟨y,hy⟩:=qQ b k (by omega)
   refine zJ<|B O<|G O<|G O<|qE O el35 (by omega) (getm (by assumption))<|zL zJe qB O<|zZ O O (qH [none,some 2,none,some 2] O zr67 O) ?_
   rintro _ _ ⟨b2,rfl,rfl⟩
   refine N 0 sz67 O<|U<|B O<|G O<|zL zJe (J 1 O) O<|zL zJe (J 0 O) O<|zX O (wO O O (hc _ (qD hx) _ (qD hy)) ⟨Y,O,Y,O,T⟩)<|G O<|U<|B O<|G O<|yN O<|U<|zE O (fun c3=>?_) (fun c3=>?_)
   ·try simp only [W] at c3
    refine B O<|G O<|G O<|U<|zH<|zQ O ?_
    rw [hp,cmpL_ne hx hy c3]
   ·try simp only [W] at c3
    refine zJ<|zS O<|qJ O ⟨by omega,by omega⟩<|G O<|U ?_
    refine ⟨k+1,⟨by omega,hp.trans (zIu hx hy c3),by omega⟩,(by omega),Weak.mk [false,false] ⟨Y,Y,Y,Y,Y,Y,T⟩ O⟩
 ·try simp only [W] at c1
  refine qO<|zI<|B O<|G O<|zY O el35<|G O<|zY O el35<|yA O<|U<|zE O (fun c4=>?_) (fun c4=>?_)
  ·try simp only [W] at c4
   refine B O<|G O<|U<|zH<|zQ O ?_
   rw [hp,zIv (by omega) (by omega)]
  ·try simp only [W] at c4
   refine zJ<|B O<|G O<|U<|zH<|zQ O ?_
   rw [hp,zLr (by omega) (by omega)]
theorem zFk (a b:List Lf) (c:C) (f:Lf->Lf->Int) (ha:a.length<=4294967296) (hb:b.length<=4294967296) (hc:∀x,x∈a->∀y,y∈b->FnPur cfg c [vLin x,vLin y] (vI (f x y))):
    Pur cfg 299 [.c (.sl 2 (a.map Lf.cells)),.c (.sl 2 (b.map Lf.cells)),.c c] (vI (cmpL f a b)):=by
 refine zT Tryz.func299 O Tryz.ntmps299 Tryz.results299 O ?_
 intro z hz
 refine B O<|G O<|U<|zI<|B O<|G O<|zY O el63<|G O<|U<|zP<|zU ⟨[(13,.c _),(0,.c _),(1,.c _),(2,.c _),(11,.c _),(12,.c _)],[]⟩ (Weak.mk [] ⟨Y,Y,Y,Y,Y,Y,T⟩ O)<|qF 1 0 O O (Nat) (fun k=>[(13,vI k)]) (fun k=>[]) (fun k=>k<=a.length/\(cmpL f a b=cmpL f (a.drop k) (b.drop k))/\(k<=b.length)) (fun k=>a.length-k) ⟨0,⟨by omega,O,by omega⟩,Weak.mk [] ⟨Y,Y,Y,Y,Y,Y,T⟩ O⟩ ?_
 rintro k ⟨hk,hp,hq⟩
 refine B O<|yA O<|U<|zI<|zE O (fun c1=>?_) (fun c1=>?_)
 ·try simp only [W] at c1
  obtain ⟨x,hx⟩:=qQ a k (by omega)
  refine zJ<|zI<|zP<|B O<|G O<|qE O el63 (by omega) (getm (by assumption))<|zL kK qB O<|zZ O O (qH [none,some 2] O zr34 O) ?_
  rintro _ _ ⟨b1,rfl,rfl⟩
  refine G O<|N 0 sz34 O<|U<|zI<|B O<|G O<|G O<|zY O el63<|zX O (wD O O O)<|U<|zE O (fun c2=>?_) (fun c2=>?_)
  ·try simp only [W] at c2
   refine B O<|G O<|U<|zH<|zQ O ?_
   rw [hp,zLq hx (by omega)]
  ·try simp only [W] at c2
   obtain ⟨y,hy⟩:=qQ b k (by omega)
   refine zJ<|B O<|G O<|G O<|qE O el63 (by omega) (getm (by assumption))<|zL kK qB O<|zZ O O (qH [none,some 2] O zr34 O) ?_
   rintro _ _ ⟨b2,rfl,rfl⟩
   refine N 0 sz34 O<|U<|B O<|G O<|zL kK (J 1 O) O<|zL kK (J 0 O) O<|zX O (wO O O (hc _ (qD hx) _ (qD hy)) ⟨Y,O,Y,O,T⟩)<|G O<|U<|B O<|G O<|yN O<|U<|zE O (fun c3=>?_) (fun c3=>?_)
   ·try simp only [W] at c3
    refine B O<|G O<|G O<|U<|zH<|zQ O ?_
    rw [hp,cmpL_ne hx hy c3]
   ·try simp only [W] at c3
    refine zJ<|zS O<|qJ O ⟨by omega,by omega⟩<|G O<|U ?_
    refine ⟨k+1,⟨by omega,hp.trans (zIu hx hy c3),by omega⟩,(by omega),Weak.mk [false,false] ⟨Y,Y,Y,Y,Y,Y,T⟩ O⟩
 ·try simp only [W] at c1
  refine qO<|zI<|B O<|G O<|zY O el63<|G O<|zY O el63<|yA O<|U<|zE O (fun c4=>?_) (fun c4=>?_)
  ·try simp only [W] at c4
   refine B O<|G O<|U<|zH<|zQ O ?_
   rw [hp,zIv (by omega) (by omega)]
  ·try simp only [W] at c4
   refine zJ<|B O<|G O<|U<|zH<|zQ O ?_
   rw [hp,zLr (by omega) (by omega)]
theorem zFm (a b:List Ex) (c:C) (f:Ex->Ex->Int) (ha:a.length<=4294967296) (hb:b.length<=4294967296) (hc:∀x,x∈a->∀y,y∈b->FnPur cfg c [vE x,vE y] (vI (f x y))):
    Pur cfg 291 [.c (.sl 13 (a.map Ex.cells)),.c (.sl 13 (b.map Ex.cells)),.c c] (vI (cmpL f a b)):=by
 refine zT Tryz.func291 O Tryz.ntmps291 Tryz.results291 O ?_
 intro z hz
 refine B O<|G O<|U<|zI<|B O<|G O<|zY O D<|G O<|U<|zP<|zU ⟨[(13,.c _),(0,.c _),(1,.c _),(2,.c _),(11,.c _),(12,.c _)],[]⟩ (Weak.mk [] ⟨Y,Y,Y,Y,Y,Y,T⟩ O)<|qF 1 0 O O (Nat) (fun k=>[(13,vI k)]) (fun k=>[]) (fun k=>k<=a.length/\(cmpL f a b=cmpL f (a.drop k) (b.drop k))/\(k<=b.length)) (fun k=>a.length-k) ⟨0,⟨by omega,O,by omega⟩,Weak.mk [] ⟨Y,Y,Y,Y,Y,Y,T⟩ O⟩ ?_
 rintro k ⟨hk,hp,hq⟩
 refine B O<|yA O<|U<|zI<|zE O (fun c1=>?_) (fun c1=>?_)
 ·try simp only [W] at c1
  obtain ⟨x,hx⟩:=qQ a k (by omega)
  refine zJ<|zI<|zP<|B O<|G O<|qE O D (by omega) (yZ (by assumption))<|zL qN qB O<|zZ O O (qH [none,none,none,none,none,none,none,none,none,none,some 2,some 4,some 13] O zr38 O) ?_
  rintro _ _ ⟨b1,rfl,rfl⟩
  refine G O<|N 0 sz38 O<|U<|zI<|B O<|G O<|G O<|zY O D<|zX O (wD O O O)<|U<|zE O (fun c2=>?_) (fun c2=>?_)
  ·try simp only [W] at c2
   refine B O<|G O<|U<|zH<|zQ O ?_
   rw [hp,zLq hx (by omega)]
  ·try simp only [W] at c2
   obtain ⟨y,hy⟩:=qQ b k (by omega)
   refine zJ<|B O<|G O<|G O<|qE O D (by omega) (yZ (by assumption))<|zL qN qB O<|zZ O O (qH [none,none,none,none,none,none,none,none,none,none,some 2,some 4,some 13] O zr38 O) ?_
   rintro _ _ ⟨b2,rfl,rfl⟩
   refine N 0 sz38 O<|U<|B O<|G O<|zL qN (J 1 O) O<|zL qN (J 0 O) O<|zX O (wO O O (hc _ (qD hx) _ (qD hy)) ⟨Y,O,Y,O,T⟩)<|G O<|U<|B O<|G O<|yN O<|U<|zE O (fun c3=>?_) (fun c3=>?_)
   ·try simp only [W] at c3
    refine B O<|G O<|G O<|U<|zH<|zQ O ?_
    rw [hp,cmpL_ne hx hy c3]
   ·try simp only [W] at c3
    refine zJ<|zS O<|qJ O ⟨by omega,by omega⟩<|G O<|U ?_
    refine ⟨k+1,⟨by omega,hp.trans (zIu hx hy c3),by omega⟩,(by omega),Weak.mk [false,false] ⟨Y,Y,Y,Y,Y,Y,T⟩ O⟩
 ·try simp only [W] at c1
  refine qO<|zI<|B O<|G O<|zY O D<|G O<|zY O D<|yA O<|U<|zE O (fun c4=>?_) (fun c4=>?_)
  ·try simp only [W] at c4
   refine B O<|G O<|U<|zH<|zQ O ?_
   rw [hp,zIv (by omega) (by omega)]
  ·try simp only [W] at c4
   refine zJ<|B O<|G O<|U<|zH<|zQ O ?_
   rw [hp,zLr (by omega) (by omega)]
theorem zOc (a b:List Ix) (c:C) (f:Ix->Ix->Int) (ha:a.length<=4294967296) (hb:b.length<=4294967296) (hc:∀x,x∈a->∀y,y∈b->FnPur cfg c [vIndex x,vIndex y] (vI (f x y))):
    Pur cfg 254 [.c (.sl 4 (a.map Ix.cells)),.c (.sl 4 (b.map Ix.cells)),.c c] (vI (cmpLs f a b)):=by
 refine zT Tryz.func254 O Tryz.ntmps254 Tryz.results254 O ?_
 intro z hz
 refine B O<|G O<|U<|zI<|B O<|G O<|zY O el35<|G O<|zY O el35<|qK O ok249 (kN _ _) ⟨Y,O,Y,O,T⟩<|G O<|U<|B O<|G O<|yN O<|U<|zE O (fun c1=>?_) (fun c1=>?_)
 ·try simp only [W] at c1
  refine B O<|G O<|G O<|U<|zH<|zQ O ?_
  rw [cmpLs,if_neg c1]
 ·try simp only [W] at c1
  refine zJ<|B O<|G O<|G O<|G O<|qK O ok289 (zFl a b c f ha hb hc) ⟨Y,O,Y,O,Y,O,T⟩<|G O<|U<|zH<|zQ O ?_
  rw [cmpLs,if_pos c1]
theorem zOb (a b:List Lf) (c:C) (f:Lf->Lf->Int) (ha:a.length<=4294967296) (hb:b.length<=4294967296) (hc:∀x,x∈a->∀y,y∈b->FnPur cfg c [vLin x,vLin y] (vI (f x y))):
    Pur cfg 290 [.c (.sl 2 (a.map Lf.cells)),.c (.sl 2 (b.map Lf.cells)),.c c] (vI (cmpLs f a b)):=by
 refine zT Tryz.func290 O Tryz.ntmps290 Tryz.results290 O ?_
 intro z hz
 refine B O<|G O<|U<|zI<|B O<|G O<|zY O el63<|G O<|zY O el63<|qK O ok249 (kN _ _) ⟨Y,O,Y,O,T⟩<|G O<|U<|B O<|G O<|yN O<|U<|zE O (fun c1=>?_) (fun c1=>?_)
 ·try simp only [W] at c1
  refine B O<|G O<|G O<|U<|zH<|zQ O ?_
  rw [cmpLs,if_neg c1]
 ·try simp only [W] at c1
  refine zJ<|B O<|G O<|G O<|G O<|qK O ok299 (zFk a b c f ha hb hc) ⟨Y,O,Y,O,Y,O,T⟩<|G O<|U<|zH<|zQ O ?_
  rw [cmpLs,if_pos c1]
theorem zOd (a b:List Ex) (c:C) (f:Ex->Ex->Int) (ha:a.length<=4294967296) (hb:b.length<=4294967296) (hc:∀x,x∈a->∀y,y∈b->FnPur cfg c [vE x,vE y] (vI (f x y))):
    Pur cfg 256 [.c (.sl 13 (a.map Ex.cells)),.c (.sl 13 (b.map Ex.cells)),.c c] (vI (cmpLs f a b)):=by
 refine zT Tryz.func256 O Tryz.ntmps256 Tryz.results256 O ?_
 intro z hz
 refine B O<|G O<|U<|zI<|B O<|G O<|zY O D<|G O<|zY O D<|qK O ok249 (kN _ _) ⟨Y,O,Y,O,T⟩<|G O<|U<|B O<|G O<|yN O<|U<|zE O (fun c1=>?_) (fun c1=>?_)
 ·try simp only [W] at c1
  refine B O<|G O<|G O<|U<|zH<|zQ O ?_
  rw [cmpLs,if_neg c1]
 ·try simp only [W] at c1
  refine zJ<|B O<|G O<|G O<|G O<|qK O ok291 (zFm a b c f ha hb hc) ⟨Y,O,Y,O,Y,O,T⟩<|G O<|U<|zH<|zQ O ?_
  rw [cmpLs,if_pos c1]
theorem lin_order (a b:Int):
    Pur cfg 288 [vI a,vI b] (vI (cmpI a b)):=by
 refine zT Tryz.func288 O Tryz.ntmps288 Tryz.results288 O ?_
 intro z hz
 refine B O<|G O<|U<|zI<|zP<|B O<|G O<|G O<|yA O<|G O<|U<|zE O (fun c1=>?_) (fun c1=>?_)
 ·try simp only [W] at c1
  refine B O<|G O<|U<|zH<|zQ O ?_
  rw [cmpI_lt c1]
 ·try simp only [W] at c1
  refine B O<|G O<|G O<|zX O (yD O O O)<|G O<|U<|zE O (fun c2=>?_) (fun c2=>?_)
  ·try simp only [W] at c2
   refine B O<|G O<|U<|zH<|zQ O ?_
   rw [cmpI_gt c2]
  ·try simp only [W] at c2
   refine zJ<|B O<|G O<|U<|zH<|zQ O ?_
   rw [cmpI_eq (by omega) (by omega)]
theorem lin_Compare_1 (x y:Mono):
    Pur cfg 287 [vMono x,vMono y] (vI (cmpM x y)):=by
 refine zT Tryz.func287 O Tryz.ntmps287 Tryz.results287 O ?_
 intro z hz
 refine B O<|zZ O O (qI O O) ?_
 rintro _ _ ⟨b1,rfl,rfl⟩
 refine zZ O O (qI O O) ?_
 rintro _ _ ⟨b2,rfl,rfl⟩
 refine G O<|U<|zI<|B O<|zG O zBj<|zK one9 (J 1 O) O<|zG O zBj<|zK one9 (J 0 O) O<|zX O (zCt O O O)<|U<|zE O (fun c1=>?_) (fun c1=>?_)
 ·try simp only [W] at c1
  refine B O<|zG O zBj<|zK one9 (J 1 O) O<|zG O zBj<|zK one9 (J 0 O) O<|qK O ok250 (strings_Compare _ _) ⟨Y,O,Y,O,T⟩<|G O<|U<|zH<|zQ O ?_
  rw [cmpM,if_neg c1]
 ·try simp only [W] at c1
  refine zJ<|B O<|zG O fd101_1<|zK one2 (J 1 O) O<|zG O fd101_1<|zK one2 (J 0 O) O<|qK O ok288 (lin_order _ _) ⟨Y,O,Y,O,T⟩<|G O<|U<|zH<|zQ O ?_
  rw [cmpM,if_pos c1]
theorem zHm (a b:Lf) (ha:a.L.length<=4294967296) (hb:b.L.length<=4294967296):
    Pur cfg 253 [vLin a,vLin b] (vI (cmpLf a b)):=by
 refine zT Tryz.func253 O Tryz.ntmps253 Tryz.results253 O ?_
 intro z hz
 refine B O<|zZ O O (qI O O) ?_
 rintro _ _ ⟨b1,rfl,rfl⟩
 refine zZ O O (qI O O) ?_
 rintro _ _ ⟨b2,rfl,rfl⟩
 refine G O<|U<|B O<|zG O wU<|zK zBv (J 1 O) O<|zG O wU<|zK zBv (J 0 O) O<|qK O ok286 (zEq a.L b.L _ cmpM ha hb (fun x _ y _=>FnPur.of_pur (first:=[]) (cap:=[]) ok287 (lin_Compare_1 x y))) ⟨Y,O,Y,O,Y,O,T⟩<|G O<|U<|zI<|B O<|G O<|yN O<|U<|zE O (fun c1=>?_) (fun c1=>?_)
 ·try simp only [W] at c1
  refine B O<|G O<|G O<|U<|zH<|zQ O ?_
  rw [cmpLf,if_neg c1]
 ·try simp only [W] at c1
  refine zJ<|B O<|zG O zIp<|zK one2 (J 1 O) O<|zG O zIp<|zK one2 (J 0 O) O<|qK O ok288 (lin_order _ _) ⟨Y,O,Y,O,T⟩<|G O<|U<|zH<|zQ O ?_
  rw [cmpLf,if_pos c1]
theorem zKe (a b:Ix) (ha:a.wt<=4294967296) (hb:b.wt<=4294967296):
    Pur cfg 255 [vIndex a,vIndex b] (vI (cmpIx a b)):=by
 refine zT Tryz.func255 O Tryz.ntmps255 Tryz.results255 O ?_
 intro z hz
 have hwa:=ha
 have hwb:=hb
 unfold Ix.wt at hwa hwb
 refine B O<|zZ O O (qI O O) ?_
 rintro _ _ ⟨b1,rfl,rfl⟩
 refine zZ O O (qI O O) ?_
 rintro _ _ ⟨b2,rfl,rfl⟩
 refine G O<|U<|zI<|B O<|zG O zDk<|zK one9 (J 1 O) O<|zG O zDk<|zK one9 (J 0 O) O<|qK O ok250 (strings_Compare _ _) ⟨Y,O,Y,O,T⟩<|G O<|U<|B O<|G O<|yN O<|U<|zE O (fun c1=>?_) (fun c1=>?_)
 ·try simp only [W] at c1
  refine B O<|G O<|G O<|U<|zH<|zQ O ?_
  rw [cmpIx,if_neg c1]
 ·try simp only [W] at c1
  refine zJ<|zI<|B O<|zG O zDv<|zL kK (J 1 O) O<|zG O zDv<|zL kK (J 0 O) O<|qK O ok253 (zHm a.Lin b.Lin (by omega) (by omega)) ⟨Y,O,Y,O,T⟩<|G O<|U<|B O<|G O<|yN O<|U<|zE O (fun c2=>?_) (fun c2=>?_)
  ·try simp only [W] at c2
   refine B O<|G O<|G O<|U<|zH<|zQ O ?_
   rw [cmpIx,if_pos c1,if_neg c2]
  ·try simp only [W] at c2
   refine zJ<|B O<|zG O zAu<|zK zBa (J 1 O) O<|zG O zAu<|zK zBa (J 0 O) O<|qK O ok290 (zOb a.At b.At _ cmpLf (by omega) (by omega) (fun x hx y hy=>FnPur.of_pur (first:=[]) (cap:=[]) ok253 (zHm x y (by have:=zBz hx;omega) (by have:=zBz hy;omega)))) ⟨Y,O,Y,O,Y,O,T⟩<|G O<|U<|zH<|zQ O ?_
   rw [cmpIx,if_pos c1,if_pos c2]
theorem zLc (a b:Ty):
    Pur cfg 252 [vTy a,vTy b] (vI (cmpTy a b)):=by
 refine zT Tryz.func252 O Tryz.ntmps252 Tryz.results252 O ?_
 intro z hz
 refine B O<|zZ O O (qI O O) ?_
 rintro _ _ ⟨b1,rfl,rfl⟩
 refine zZ O O (qI O O) ?_
 rintro _ _ ⟨b2,rfl,rfl⟩
 refine G O<|U<|zI<|qT 28 mixed (by kernel_rfl) O O<|zM O O (zD O zBp O)<|zM O O (zF O one3 O (J 1 O) O)<|zM O O (zD O zBp O)<|zM O O (zF O one3 O (J 0 O) O)<|zM O O (qG O ok249 (kN _ _) ⟨Y,O,Y,O,T⟩)<|zM O O (zD O zGy O)<|zM O O (zF O one3 O (J 1 O) O)<|zM O O (zD O zGy O)<|zM O O (zF O one3 O (J 0 O) O)<|zM O O (qG O ok249 (kN _ _) ⟨Y,O,Y,O,T⟩)<|zM O O (zD O zNs O)<|zM O O (zF O one3 O (J 1 O) O)<|zM O O (zD O zNs O)<|zM O O (zF O one3 O (J 0 O) O)<|zM O O (qG O ok249 (kN _ _) ⟨Y,O,Y,O,T⟩)<|zM O O (zD O zNr O)<|zM O O (zF O one3 O (J 1 O) O)<|zM O O (zD O zNr O)<|zM O O (zF O one3 O (J 0 O) O)<|zM O O (qG O ok249 (kN _ _) ⟨Y,O,Y,O,T⟩)<|zM O O (zD O zNq O)<|zM O O (zF O one3 O (J 1 O) O)<|zM O O (zD O zNq O)<|zM O O (zF O one3 O (J 0 O) O)<|zM O O (qG O ok249 (kN _ _) ⟨Y,O,Y,O,T⟩)<|zM O O (yT O el209 zr3 O O O O)<|zM O O (qG O ok248 (cmp_Or_int [cmpI a.Kind b.Kind,cmpI a.Bits b.Bits,cmpI a.Frac b.Frac,cmpI a.Round b.Round,cmpI a.Over b.Over] (by simp)) ⟨Y,O,T⟩)<|zM O O (yQ O O)<|yM<|U<|zH<|zQ O ?_
 exact O
theorem zKg (a b:Ex) (ih:∀x,x∈a.Args->∀y,x.wt<=4294967296->y.wt<=4294967296->Pur cfg 206 [vE x,vE y] (vI (cmpE x y))) (ha:a.wt<=4294967296) (hb:b.wt<=4294967296):
    Pur cfg 206 [vE a,vE b] (vI (cmpE a b)):=by
 refine zT Tryz.func206 O Tryz.ntmps206 Tryz.results206 O ?_
 intro z hz
 obtain ⟨hLa,hIa,hAa⟩:=a.parts ha
 obtain ⟨hLb,hIb,hAb⟩:=b.parts hb
 have hwa:=Ex.wt_eq a
 have hwb:=Ex.wt_eq b
 refine B O<|zZ O O (qI O O) ?_
 rintro _ _ ⟨b1,rfl,rfl⟩
 refine zZ O O (qI O O) ?_
 rintro _ _ ⟨b2,rfl,rfl⟩
 refine G O<|U<|zI<|qT 37 mixed (by kernel_rfl) O O<|zM O O (zD O yS O)<|zM O O (zF O one3 O (J 1 O) O)<|zM O O (zD O yS O)<|zM O O (zF O one3 O (J 0 O) O)<|zM O O (qG O ok249 (kN _ _) ⟨Y,O,Y,O,T⟩)<|zM O O (zD O zBw O)<|zM O O (zF O one9 O (J 1 O) O)<|zM O O (zD O zBw O)<|zM O O (zF O one9 O (J 0 O) O)<|zM O O (qG O ok250 (strings_Compare _ _) ⟨Y,O,Y,O,T⟩)<|zM O O (zD O zGx O)<|zM O O (zD O zEo O)<|zM O O (zF O one2 O (J 1 O) O)<|zM O O (zD O zGx O)<|zM O O (zD O zEo O)<|zM O O (zF O one2 O (J 0 O) O)<|zM O O (qG O ok251 (zFy _ _) ⟨Y,O,Y,O,T⟩)<|zM O O (zD O zGx O)<|zM O O (zD O zFf O)<|zM O O (zF O one2 O (J 1 O) O)<|zM O O (zD O zGx O)<|zM O O (zD O zFf O)<|zM O O (zF O one2 O (J 0 O) O)<|zM O O (qG O ok251 (zFy _ _) ⟨Y,O,Y,O,T⟩)<|zM O O (zD O zDm O)<|zM O O (zN O qZ O (J 1 O) O)<|zM O O (zD O zDm O)<|zM O O (zN O qZ O (J 0 O) O)<|zM O O (qG O ok252 (zLc _ _) ⟨Y,O,Y,O,T⟩)<|zM O O (zD O zDw O)<|zM O O (zN O kK O (J 1 O) O)<|zM O O (zD O zDw O)<|zM O O (zN O kK O (J 0 O) O)<|zM O O (qG O ok253 (zHm a.Lin b.Lin hLa hLb) ⟨Y,O,Y,O,T⟩)<|zM O O (yT O el209 zr3 O O O O)<|zM O O (qG O ok248 (cmp_Or_int [cmpI a.Op b.Op,cmpS a.Name b.Name,cmpI a.Val.N b.Val.N,cmpI a.Val.D b.Val.D,cmpTy a.Ty b.Ty,cmpLf a.Lin b.Lin] (by simp)) ⟨Y,O,T⟩)<|zM O O (yQ O O)<|yM<|U<|zI<|B O<|G O<|yN O<|U<|zE O (fun c1=>?_) (fun c1=>?_)
 ·try simp only [W] at c1
  refine B O<|G O<|G O<|U<|zH<|zQ O ?_
  rw [cmpE_eq,if_neg (show ¬cmpHd a b=0 from c1)];rfl
 ·try simp only [W] at c1
  refine zJ<|zI<|B O<|zG O kL<|zK zAd (J 1 O) O<|zG O kL<|zK zAd (J 0 O) O<|qK O ok254 (zOc a.Idx b.Idx _ cmpIx hIa hIb (fun x hx y hy=>FnPur.of_pur (first:=[]) (cap:=[]) ok255 (zKe x y (by have:=zFw hx;omega) (by have:=zFw hy;omega)))) ⟨Y,O,Y,O,Y,O,T⟩<|G O<|U<|B O<|G O<|yN O<|U<|zE O (fun c2=>?_) (fun c2=>?_)
  ·try simp only [W] at c2
   refine B O<|G O<|G O<|U<|zH<|zQ O ?_
   rw [cmpE_eq,if_pos (show cmpHd a b=0 from c1),if_neg c2]
  ·try simp only [W] at c2
   refine zJ<|B O<|zG O kZ<|zK zAy (J 1 O) O<|zG O kZ<|zK zAy (J 0 O) O<|qK O ok256 (zOd a.Args b.Args _ cmpE hAa hAb (fun x hx y hy=>FnPur.of_pur (first:=[]) (cap:=[]) ok206 (ih x hx y (by have:=Ex.arg_wt hx;omega) (by have:=Ex.arg_wt hy;omega)))) ⟨Y,O,Y,O,Y,O,T⟩<|G O<|U<|zH<|zQ O ?_
   rw [cmpE_eq,if_pos (show cmpHd a b=0 from c1),if_pos c2]
theorem expr_Compare (a b:Ex) (ha:a.wt<=4294967296) (hb:b.wt<=4294967296):Pur cfg 206 [vE a,vE b] (vI (cmpE a b)):=by
  induction a using Ex.ind generalizing b with
  |_ a ih=>exact zKg a b (fun x hx y h1 h2=>ih x hx y h1 h2) ha hb
theorem expr_Same (a b:Ex) (ha:a.wt<=4294967296) (hb:b.wt<=4294967296):
    Pur cfg 155 [vE a,vE b] (vB (decide (a=b))):=by
 refine zT Tryz.func155 O Tryz.ntmps155 Tryz.results155 O ?_
 intro z hz
 refine B O<|zZ O O (qI O O) ?_
 rintro _ _ ⟨b1,rfl,rfl⟩
 refine zZ O O (qI O O) ?_
 rintro _ _ ⟨b2,rfl,rfl⟩
 refine G O<|U<|B O<|zL qN (J 1 O) O<|zL qN (J 0 O) O<|qK O ok206 (expr_Compare a b ha hb) ⟨Y,O,Y,O,T⟩<|L O<|G O<|U<|zH<|zQ O ?_
 exact congrArg vB (decide_eq_decide.2 (cmpE_zero a b))
end Go.W
