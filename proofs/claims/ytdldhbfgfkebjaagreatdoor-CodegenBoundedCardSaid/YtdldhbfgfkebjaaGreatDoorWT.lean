/-
  Walks: what functions of the program compute. Printed by wip/gen/mk2.py.
  Conditions: none.
-/
import Derived.Test.YtdldhbfgfkebjaaGreatDoorWE
import Derived.Test.YtdldhbfgfkebjaaGreatDoorPlain
import Derived.Test.YtdldhbfgfkebjaaGreatDoorEngZ
set_option linter.unusedSimpArgs false
set_option linter.unusedVariables false
set_option maxRecDepth 10000
namespace Go.W
open Go Go.Eng Go.Proofs Go.L41 Go.Br
attribute [local irreducible] AWP RWP TD finQ
theorem el67:elemT Tryz.prog 67=some (3,1,8):=by kernel_rfl
theorem ok239:callOk Tryz.prog 239=true:=by kernel_rfl
theorem ok263:callOk Tryz.prog 263=true:=by kernel_rfl
theorem ok264:callOk Tryz.prog 264=true:=by kernel_rfl
theorem ok265:callOk Tryz.prog 265=true:=by kernel_rfl
theorem ok266:callOk Tryz.prog 266=true:=by kernel_rfl
theorem ok267:callOk Tryz.prog 267=true:=by kernel_rfl
theorem ok268:callOk Tryz.prog 268=true:=by kernel_rfl
theorem ok269:callOk Tryz.prog 269=true:=by kernel_rfl
theorem ok270:callOk Tryz.prog 270=true:=by kernel_rfl
theorem ok271:callOk Tryz.prog 271=true:=by kernel_rfl
theorem ok287:callOk Tryz.prog 287=true:=by kernel_rfl
theorem ok289:callOk Tryz.prog 289=true:=by kernel_rfl
theorem ok290:callOk Tryz.prog 290=true:=by kernel_rfl
theorem ok291:callOk Tryz.prog 291=true:=by kernel_rfl
theorem ok292:callOk Tryz.prog 292=true:=by kernel_rfl
theorem ok293:callOk Tryz.prog 293=true:=by kernel_rfl
theorem ok294:callOk Tryz.prog 294=true:=by kernel_rfl
theorem ok295:callOk Tryz.prog 295=true:=by kernel_rfl
theorem ok301:callOk Tryz.prog 301=true:=by kernel_rfl
theorem zJl (a:Int):
    Pur cfg 287 [vI a] (vB false):=by
 refine zW Tryz.func287 O Tryz.ntmps287 Tryz.results287 O ?_
 intro z hz
 refine R O<|G O<|zA<|R O<|G O<|G O<|wL O<|G O<|zA<|zM<|zX O ?_
 exact congrArg vB (by simp)
theorem kU (a b:Int):
    Pur cfg 264 [vI a,vI b] (vI (cmpI a b)):=by
 refine zW Tryz.func264 O Tryz.ntmps264 Tryz.results264 O ?_
 intro z hz
 refine R O<|G O<|zA<|R O<|G O<|qW O ok287 (zJl a) ⟨zB,O,T⟩<|G O<|zA<|R O<|G O<|qW O ok287 (zJl b) ⟨zB,O,T⟩<|G O<|zA<|zF<|R O<|G O<|zA<|zC O (fun c1=>?_) (fun c1=>?_)
 ·exact absurd c1 (by decide)
 ·refine zH<|zF<|R O<|G O<|zA<|zC O (fun c3=>?_) (fun c3=>?_)
  ·exact absurd c3 (by decide)
  ·refine zH<|zF<|R O<|G O<|G O<|yE O<|zA<|zC O (fun c4=>?_) (fun c4=>?_)
   ·try simp only [sx] at c4
    refine R O<|G O<|zA<|zM<|zX O ?_
    rw [cmpI_lt c4]
   ·try simp only [sx] at c4
    refine zH<|zF<|R O<|G O<|G O<|v O (kA O O O)<|zA<|zC O (fun c5=>?_) (fun c5=>?_)
    ·try simp only [sx] at c5
     refine R O<|G O<|zA<|zM<|zX O ?_
     rw [cmpI_gt c5]
    ·try simp only [sx] at c5
     refine zH<|R O<|G O<|zA<|zM<|zX O ?_
     rw [cmpI_eq (by omega) (by omega)]
theorem zJm (a:Int):
    Pur cfg 289 [vI a] (vB false):=by
 refine zW Tryz.func289 O Tryz.ntmps289 Tryz.results289 O ?_
 intro z hz
 refine R O<|G O<|zA<|R O<|G O<|G O<|wL O<|G O<|zA<|zM<|zX O ?_
 exact congrArg vB (by simp)
theorem zGj (a b:Int):
    Pur cfg 266 [vI a,vI b] (vI (cmpI a b)):=by
 refine zW Tryz.func266 O Tryz.ntmps266 Tryz.results266 O ?_
 intro z hz
 refine R O<|G O<|zA<|R O<|G O<|qW O ok289 (zJm a) ⟨zB,O,T⟩<|G O<|zA<|R O<|G O<|qW O ok289 (zJm b) ⟨zB,O,T⟩<|G O<|zA<|zF<|R O<|G O<|zA<|zC O (fun c1=>?_) (fun c1=>?_)
 ·exact absurd c1 (by decide)
 ·refine zH<|zF<|R O<|G O<|zA<|zC O (fun c3=>?_) (fun c3=>?_)
  ·exact absurd c3 (by decide)
  ·refine zH<|zF<|R O<|G O<|G O<|yE O<|zA<|zC O (fun c4=>?_) (fun c4=>?_)
   ·try simp only [sx] at c4
    refine R O<|G O<|zA<|zM<|zX O ?_
    rw [cmpI_lt c4]
   ·try simp only [sx] at c4
    refine zH<|zF<|R O<|G O<|G O<|v O (kA O O O)<|zA<|zC O (fun c5=>?_) (fun c5=>?_)
    ·try simp only [sx] at c5
     refine R O<|G O<|zA<|zM<|zX O ?_
     rw [cmpI_gt c5]
    ·try simp only [sx] at c5
     refine zH<|R O<|G O<|zA<|zM<|zX O ?_
     rw [cmpI_eq (by omega) (by omega)]
theorem cmp_Or_int (l:List Int) (hl:l.length<=4294967296):
    Pur cfg 263 [.c (.sl 1 (l.map fun n=>[cI n]))] (vI (orI l)):=by
 refine zW Tryz.func263 O Tryz.ntmps263 Tryz.results263 O ?_
 intro z hz
 refine R O<|G O<|zA<|R O<|G O<|zA<|zF<|R O<|G O<|qH O el67<|G O<|zA<|zQ<|zS ⟨[(8,.c _),(3,.c _),(6,.c _),(7,.c _)],[]⟩ (Weak.mk [] ⟨zB,zB,zB,zB,T⟩ O)<|qJ 1 0 O O (Nat) (fun k=>[(8,vI k)]) (fun k=>[]) (fun k=>k<=l.length/\(orI l=orI (l.drop k))) (fun k=>l.length-k) ⟨0,⟨by omega,O⟩,Weak.mk [] ⟨zB,zB,zB,zB,T⟩ O⟩ ?_
 rintro k ⟨hk,hp⟩
 refine R O<|yE O<|zA<|zF<|zC O (fun c1=>?_) (fun c1=>?_)
 ·try simp only [sx] at c1
  obtain ⟨x,hx⟩:=qX l k (by omega)
  refine zH<|zF<|zQ<|R O<|qI O el67 (by omega) (getm (by assumption))<|zL one3 Y O<|G O<|zA<|R O<|G O<|G O<|wL O<|zA<|zC O (fun c2=>?_) (fun c2=>?_)
  ·try simp only [sx] at c2
   refine R O<|G O<|G O<|zA<|zM<|zX O ?_
   rw [hp,orI_at hx c2]
  ·try simp only [sx] at c2
   refine zH<|zI O<|qD O ⟨by omega,by omega⟩<|G O<|zA ?_
   refine ⟨k+1,⟨by omega,hp.trans (orI_next hx c2)⟩,(by omega),Weak.mk [] ⟨zB,zB,zB,zB,T⟩ O⟩
 ·try simp only [sx] at c1
  refine qL<|R O<|G O<|G O<|zA<|zM<|zX O ?_
  rw [hp,wM (by omega)];rfl
theorem zEg (a b:List Mono) (c:C) (f:Mono->Mono->Int) (ha:a.length<=4294967296) (hb:b.length<=4294967296) (hc:∀x,x∈a->∀y,y∈b->FnPur cfg c [vMono x,vMono y] (vI (f x y))):
    Pur cfg 290 [.c (.sl 2 (a.map Mono.cells)),.c (.sl 2 (b.map Mono.cells)),.c c] (vI (cmpL f a b)):=by
 refine zW Tryz.func290 O Tryz.ntmps290 Tryz.results290 O ?_
 intro z hz
 refine R O<|G O<|zA<|zF<|R O<|G O<|qH O el52<|G O<|zA<|zQ<|zS ⟨[(13,.c _),(0,.c _),(1,.c _),(2,.c _),(11,.c _),(12,.c _)],[]⟩ (Weak.mk [] ⟨zB,zB,zB,zB,zB,zB,T⟩ O)<|qJ 1 0 O O (Nat) (fun k=>[(13,vI k)]) (fun k=>[]) (fun k=>k<=a.length/\(cmpL f a b=cmpL f (a.drop k) (b.drop k))/\(k<=b.length)) (fun k=>a.length-k) ⟨0,⟨by omega,O,by omega⟩,Weak.mk [] ⟨zB,zB,zB,zB,zB,zB,T⟩ O⟩ ?_
 rintro k ⟨hk,hp,hq⟩
 refine R O<|yE O<|zA<|zF<|zC O (fun c1=>?_) (fun c1=>?_)
 ·try simp only [sx] at c1
  obtain ⟨x,hx⟩:=qX a k (by omega)
  refine zH<|zF<|zQ<|R O<|G O<|qI O el52 (by omega) (getm (by assumption))<|zP zLp Y O<|zU O O (yX O zr205) ?_
  rintro _ _ ⟨b1,rfl,rfl⟩
  refine G O<|D 0 sz205 O<|zA<|zF<|R O<|G O<|G O<|qH O el52<|v O (wG O O O)<|zA<|zC O (fun c2=>?_) (fun c2=>?_)
  ·try simp only [sx] at c2
   refine R O<|G O<|zA<|zM<|zX O ?_
   rw [hp,zMl hx (by omega)]
  ·try simp only [sx] at c2
   obtain ⟨y,hy⟩:=qX b k (by omega)
   refine zH<|R O<|G O<|G O<|qI O el52 (by omega) (getm (by assumption))<|zP zLp Y O<|zU O O (yX O zr205) ?_
   rintro _ _ ⟨b2,rfl,rfl⟩
   refine D 0 sz205 O<|zA<|R O<|G O<|zP zLp (A 1 O) O<|zP zLp (A 0 O) O<|v O (yT O O (hc _ (qB hx) _ (qB hy)) ⟨zB,O,zB,O,T⟩)<|G O<|zA<|R O<|G O<|wL O<|zA<|zC O (fun c3=>?_) (fun c3=>?_)
   ·try simp only [sx] at c3
    refine R O<|G O<|G O<|zA<|zM<|zX O ?_
    rw [hp,cmpL_ne hx hy c3]
   ·try simp only [sx] at c3
    refine zH<|zI O<|qD O ⟨by omega,by omega⟩<|G O<|zA ?_
    refine ⟨k+1,⟨by omega,hp.trans (zJo hx hy c3),by omega⟩,(by omega),Weak.mk [false,false] ⟨zB,zB,zB,zB,zB,zB,T⟩ O⟩
 ·try simp only [sx] at c1
  refine qL<|zF<|R O<|G O<|qH O el52<|G O<|qH O el52<|yE O<|zA<|zC O (fun c4=>?_) (fun c4=>?_)
  ·try simp only [sx] at c4
   refine R O<|G O<|zA<|zM<|zX O ?_
   rw [hp,zJp (by omega) (by omega)]
  ·try simp only [sx] at c4
   refine zH<|R O<|G O<|zA<|zM<|zX O ?_
   rw [hp,zMm (by omega) (by omega)]
theorem zFp (a b:List Ix) (c:C) (f:Ix->Ix->Int) (ha:a.length<=4294967296) (hb:b.length<=4294967296) (hc:∀x,x∈a->∀y,y∈b->FnPur cfg c [vIndex x,vIndex y] (vI (f x y))):
    Pur cfg 293 [.c (.sl 4 (a.map Ix.cells)),.c (.sl 4 (b.map Ix.cells)),.c c] (vI (cmpL f a b)):=by
 refine zW Tryz.func293 O Tryz.ntmps293 Tryz.results293 O ?_
 intro z hz
 refine R O<|G O<|zA<|zF<|R O<|G O<|qH O el51<|G O<|zA<|zQ<|zS ⟨[(13,.c _),(0,.c _),(1,.c _),(2,.c _),(11,.c _),(12,.c _)],[]⟩ (Weak.mk [] ⟨zB,zB,zB,zB,zB,zB,T⟩ O)<|qJ 1 0 O O (Nat) (fun k=>[(13,vI k)]) (fun k=>[]) (fun k=>k<=a.length/\(cmpL f a b=cmpL f (a.drop k) (b.drop k))/\(k<=b.length)) (fun k=>a.length-k) ⟨0,⟨by omega,O,by omega⟩,Weak.mk [] ⟨zB,zB,zB,zB,zB,zB,T⟩ O⟩ ?_
 rintro k ⟨hk,hp,hq⟩
 refine R O<|yE O<|zA<|zF<|zC O (fun c1=>?_) (fun c1=>?_)
 ·try simp only [sx] at c1
  obtain ⟨x,hx⟩:=qX a k (by omega)
  refine zH<|zF<|zQ<|R O<|G O<|qI O el51 (by omega) (getm (by assumption))<|zP zCo Y O<|zU O O (qR [none,some 2,none,some 2] O zMo O) ?_
  rintro _ _ ⟨b1,rfl,rfl⟩
  refine G O<|D 0 zMx O<|zA<|zF<|R O<|G O<|G O<|qH O el51<|v O (wG O O O)<|zA<|zC O (fun c2=>?_) (fun c2=>?_)
  ·try simp only [sx] at c2
   refine R O<|G O<|zA<|zM<|zX O ?_
   rw [hp,zMl hx (by omega)]
  ·try simp only [sx] at c2
   obtain ⟨y,hy⟩:=qX b k (by omega)
   refine zH<|R O<|G O<|G O<|qI O el51 (by omega) (getm (by assumption))<|zP zCo Y O<|zU O O (qR [none,some 2,none,some 2] O zMo O) ?_
   rintro _ _ ⟨b2,rfl,rfl⟩
   refine D 0 zMx O<|zA<|R O<|G O<|zP zCo (A 1 O) O<|zP zCo (A 0 O) O<|v O (yT O O (hc _ (qB hx) _ (qB hy)) ⟨zB,O,zB,O,T⟩)<|G O<|zA<|R O<|G O<|wL O<|zA<|zC O (fun c3=>?_) (fun c3=>?_)
   ·try simp only [sx] at c3
    refine R O<|G O<|G O<|zA<|zM<|zX O ?_
    rw [hp,cmpL_ne hx hy c3]
   ·try simp only [sx] at c3
    refine zH<|zI O<|qD O ⟨by omega,by omega⟩<|G O<|zA ?_
    refine ⟨k+1,⟨by omega,hp.trans (zJo hx hy c3),by omega⟩,(by omega),Weak.mk [false,false] ⟨zB,zB,zB,zB,zB,zB,T⟩ O⟩
 ·try simp only [sx] at c1
  refine qL<|zF<|R O<|G O<|qH O el51<|G O<|qH O el51<|yE O<|zA<|zC O (fun c4=>?_) (fun c4=>?_)
  ·try simp only [sx] at c4
   refine R O<|G O<|zA<|zM<|zX O ?_
   rw [hp,zJp (by omega) (by omega)]
  ·try simp only [sx] at c4
   refine zH<|R O<|G O<|zA<|zM<|zX O ?_
   rw [hp,zMm (by omega) (by omega)]
theorem zFo (a b:List Lf) (c:C) (f:Lf->Lf->Int) (ha:a.length<=4294967296) (hb:b.length<=4294967296) (hc:∀x,x∈a->∀y,y∈b->FnPur cfg c [vLin x,vLin y] (vI (f x y))):
    Pur cfg 301 [.c (.sl 2 (a.map Lf.cells)),.c (.sl 2 (b.map Lf.cells)),.c c] (vI (cmpL f a b)):=by
 refine zW Tryz.func301 O Tryz.ntmps301 Tryz.results301 O ?_
 intro z hz
 refine R O<|G O<|zA<|zF<|R O<|G O<|qH O zDb<|G O<|zA<|zQ<|zS ⟨[(13,.c _),(0,.c _),(1,.c _),(2,.c _),(11,.c _),(12,.c _)],[]⟩ (Weak.mk [] ⟨zB,zB,zB,zB,zB,zB,T⟩ O)<|qJ 1 0 O O (Nat) (fun k=>[(13,vI k)]) (fun k=>[]) (fun k=>k<=a.length/\(cmpL f a b=cmpL f (a.drop k) (b.drop k))/\(k<=b.length)) (fun k=>a.length-k) ⟨0,⟨by omega,O,by omega⟩,Weak.mk [] ⟨zB,zB,zB,zB,zB,zB,T⟩ O⟩ ?_
 rintro k ⟨hk,hp,hq⟩
 refine R O<|yE O<|zA<|zF<|zC O (fun c1=>?_) (fun c1=>?_)
 ·try simp only [sx] at c1
  obtain ⟨x,hx⟩:=qX a k (by omega)
  refine zH<|zF<|zQ<|R O<|G O<|qI O zDb (by omega) (getm (by assumption))<|zP zCd Y O<|zU O O (qR [none,some 2] O zr54 O) ?_
  rintro _ _ ⟨b1,rfl,rfl⟩
  refine G O<|D 0 sz54 O<|zA<|zF<|R O<|G O<|G O<|qH O zDb<|v O (wG O O O)<|zA<|zC O (fun c2=>?_) (fun c2=>?_)
  ·try simp only [sx] at c2
   refine R O<|G O<|zA<|zM<|zX O ?_
   rw [hp,zMl hx (by omega)]
  ·try simp only [sx] at c2
   obtain ⟨y,hy⟩:=qX b k (by omega)
   refine zH<|R O<|G O<|G O<|qI O zDb (by omega) (getm (by assumption))<|zP zCd Y O<|zU O O (qR [none,some 2] O zr54 O) ?_
   rintro _ _ ⟨b2,rfl,rfl⟩
   refine D 0 sz54 O<|zA<|R O<|G O<|zP zCd (A 1 O) O<|zP zCd (A 0 O) O<|v O (yT O O (hc _ (qB hx) _ (qB hy)) ⟨zB,O,zB,O,T⟩)<|G O<|zA<|R O<|G O<|wL O<|zA<|zC O (fun c3=>?_) (fun c3=>?_)
   ·try simp only [sx] at c3
    refine R O<|G O<|G O<|zA<|zM<|zX O ?_
    rw [hp,cmpL_ne hx hy c3]
   ·try simp only [sx] at c3
    refine zH<|zI O<|qD O ⟨by omega,by omega⟩<|G O<|zA ?_
    refine ⟨k+1,⟨by omega,hp.trans (zJo hx hy c3),by omega⟩,(by omega),Weak.mk [false,false] ⟨zB,zB,zB,zB,zB,zB,T⟩ O⟩
 ·try simp only [sx] at c1
  refine qL<|zF<|R O<|G O<|qH O zDb<|G O<|qH O zDb<|yE O<|zA<|zC O (fun c4=>?_) (fun c4=>?_)
  ·try simp only [sx] at c4
   refine R O<|G O<|zA<|zM<|zX O ?_
   rw [hp,zJp (by omega) (by omega)]
  ·try simp only [sx] at c4
   refine zH<|R O<|G O<|zA<|zM<|zX O ?_
   rw [hp,zMm (by omega) (by omega)]
theorem zFq (a b:List Ex) (c:C) (f:Ex->Ex->Int) (ha:a.length<=4294967296) (hb:b.length<=4294967296) (hc:∀x,x∈a->∀y,y∈b->FnPur cfg c [vE x,vE y] (vI (f x y))):
    Pur cfg 295 [.c (.sl 13 (a.map Ex.cells)),.c (.sl 13 (b.map Ex.cells)),.c c] (vI (cmpL f a b)):=by
 refine zW Tryz.func295 O Tryz.ntmps295 Tryz.results295 O ?_
 intro z hz
 refine R O<|G O<|zA<|zF<|R O<|G O<|qH O el55<|G O<|zA<|zQ<|zS ⟨[(13,.c _),(0,.c _),(1,.c _),(2,.c _),(11,.c _),(12,.c _)],[]⟩ (Weak.mk [] ⟨zB,zB,zB,zB,zB,zB,T⟩ O)<|qJ 1 0 O O (Nat) (fun k=>[(13,vI k)]) (fun k=>[]) (fun k=>k<=a.length/\(cmpL f a b=cmpL f (a.drop k) (b.drop k))/\(k<=b.length)) (fun k=>a.length-k) ⟨0,⟨by omega,O,by omega⟩,Weak.mk [] ⟨zB,zB,zB,zB,zB,zB,T⟩ O⟩ ?_
 rintro k ⟨hk,hp,hq⟩
 refine R O<|yE O<|zA<|zF<|zC O (fun c1=>?_) (fun c1=>?_)
 ·try simp only [sx] at c1
  obtain ⟨x,hx⟩:=qX a k (by omega)
  refine zH<|zF<|zQ<|R O<|G O<|qI O el55 (by omega) (zBi (by assumption))<|zP kC Y O<|zU O O (qR [none,none,none,none,none,none,none,none,none,none,some 2,some 4,some 13] O zr57 O) ?_
  rintro _ _ ⟨b1,rfl,rfl⟩
  refine G O<|D 0 sz57 O<|zA<|zF<|R O<|G O<|G O<|qH O el55<|v O (wG O O O)<|zA<|zC O (fun c2=>?_) (fun c2=>?_)
  ·try simp only [sx] at c2
   refine R O<|G O<|zA<|zM<|zX O ?_
   rw [hp,zMl hx (by omega)]
  ·try simp only [sx] at c2
   obtain ⟨y,hy⟩:=qX b k (by omega)
   refine zH<|R O<|G O<|G O<|qI O el55 (by omega) (zBi (by assumption))<|zP kC Y O<|zU O O (qR [none,none,none,none,none,none,none,none,none,none,some 2,some 4,some 13] O zr57 O) ?_
   rintro _ _ ⟨b2,rfl,rfl⟩
   refine D 0 sz57 O<|zA<|R O<|G O<|zP kC (A 1 O) O<|zP kC (A 0 O) O<|v O (yT O O (hc _ (qB hx) _ (qB hy)) ⟨zB,O,zB,O,T⟩)<|G O<|zA<|R O<|G O<|wL O<|zA<|zC O (fun c3=>?_) (fun c3=>?_)
   ·try simp only [sx] at c3
    refine R O<|G O<|G O<|zA<|zM<|zX O ?_
    rw [hp,cmpL_ne hx hy c3]
   ·try simp only [sx] at c3
    refine zH<|zI O<|qD O ⟨by omega,by omega⟩<|G O<|zA ?_
    refine ⟨k+1,⟨by omega,hp.trans (zJo hx hy c3),by omega⟩,(by omega),Weak.mk [false,false] ⟨zB,zB,zB,zB,zB,zB,T⟩ O⟩
 ·try simp only [sx] at c1
  refine qL<|zF<|R O<|G O<|qH O el55<|G O<|qH O el55<|yE O<|zA<|zC O (fun c4=>?_) (fun c4=>?_)
  ·try simp only [sx] at c4
   refine R O<|G O<|zA<|zM<|zX O ?_
   rw [hp,zJp (by omega) (by omega)]
  ·try simp only [sx] at c4
   refine zH<|R O<|G O<|zA<|zM<|zX O ?_
   rw [hp,zMm (by omega) (by omega)]
theorem zOt (a b:List Ix) (c:C) (f:Ix->Ix->Int) (ha:a.length<=4294967296) (hb:b.length<=4294967296) (hc:∀x,x∈a->∀y,y∈b->FnPur cfg c [vIndex x,vIndex y] (vI (f x y))):
    Pur cfg 269 [.c (.sl 4 (a.map Ix.cells)),.c (.sl 4 (b.map Ix.cells)),.c c] (vI (cmpLs f a b)):=by
 refine zW Tryz.func269 O Tryz.ntmps269 Tryz.results269 O ?_
 intro z hz
 refine R O<|G O<|zA<|zF<|R O<|G O<|qH O el51<|G O<|qH O el51<|qW O ok264 (kU _ _) ⟨zB,O,zB,O,T⟩<|G O<|zA<|R O<|G O<|wL O<|zA<|zC O (fun c1=>?_) (fun c1=>?_)
 ·try simp only [sx] at c1
  refine R O<|G O<|G O<|zA<|zM<|zX O ?_
  rw [cmpLs,if_neg c1]
 ·try simp only [sx] at c1
  refine zH<|R O<|G O<|G O<|G O<|qW O ok293 (zFp a b c f ha hb hc) ⟨zB,O,zB,O,zB,O,T⟩<|G O<|zA<|zM<|zX O ?_
  rw [cmpLs,if_pos c1]
theorem zOs (a b:List Lf) (c:C) (f:Lf->Lf->Int) (ha:a.length<=4294967296) (hb:b.length<=4294967296) (hc:∀x,x∈a->∀y,y∈b->FnPur cfg c [vLin x,vLin y] (vI (f x y))):
    Pur cfg 294 [.c (.sl 2 (a.map Lf.cells)),.c (.sl 2 (b.map Lf.cells)),.c c] (vI (cmpLs f a b)):=by
 refine zW Tryz.func294 O Tryz.ntmps294 Tryz.results294 O ?_
 intro z hz
 refine R O<|G O<|zA<|zF<|R O<|G O<|qH O zDb<|G O<|qH O zDb<|qW O ok264 (kU _ _) ⟨zB,O,zB,O,T⟩<|G O<|zA<|R O<|G O<|wL O<|zA<|zC O (fun c1=>?_) (fun c1=>?_)
 ·try simp only [sx] at c1
  refine R O<|G O<|G O<|zA<|zM<|zX O ?_
  rw [cmpLs,if_neg c1]
 ·try simp only [sx] at c1
  refine zH<|R O<|G O<|G O<|G O<|qW O ok301 (zFo a b c f ha hb hc) ⟨zB,O,zB,O,zB,O,T⟩<|G O<|zA<|zM<|zX O ?_
  rw [cmpLs,if_pos c1]
theorem zOu (a b:List Ex) (c:C) (f:Ex->Ex->Int) (ha:a.length<=4294967296) (hb:b.length<=4294967296) (hc:∀x,x∈a->∀y,y∈b->FnPur cfg c [vE x,vE y] (vI (f x y))):
    Pur cfg 271 [.c (.sl 13 (a.map Ex.cells)),.c (.sl 13 (b.map Ex.cells)),.c c] (vI (cmpLs f a b)):=by
 refine zW Tryz.func271 O Tryz.ntmps271 Tryz.results271 O ?_
 intro z hz
 refine R O<|G O<|zA<|zF<|R O<|G O<|qH O el55<|G O<|qH O el55<|qW O ok264 (kU _ _) ⟨zB,O,zB,O,T⟩<|G O<|zA<|R O<|G O<|wL O<|zA<|zC O (fun c1=>?_) (fun c1=>?_)
 ·try simp only [sx] at c1
  refine R O<|G O<|G O<|zA<|zM<|zX O ?_
  rw [cmpLs,if_neg c1]
 ·try simp only [sx] at c1
  refine zH<|R O<|G O<|G O<|G O<|qW O ok295 (zFq a b c f ha hb hc) ⟨zB,O,zB,O,zB,O,T⟩<|G O<|zA<|zM<|zX O ?_
  rw [cmpLs,if_pos c1]
theorem lin_order (a b:Int):
    Pur cfg 292 [vI a,vI b] (vI (cmpI a b)):=by
 refine zW Tryz.func292 O Tryz.ntmps292 Tryz.results292 O ?_
 intro z hz
 refine R O<|G O<|zA<|zF<|zQ<|R O<|G O<|G O<|yE O<|G O<|zA<|zC O (fun c1=>?_) (fun c1=>?_)
 ·try simp only [sx] at c1
  refine R O<|G O<|zA<|zM<|zX O ?_
  rw [cmpI_lt c1]
 ·try simp only [sx] at c1
  refine R O<|G O<|G O<|v O (kA O O O)<|G O<|zA<|zC O (fun c2=>?_) (fun c2=>?_)
  ·try simp only [sx] at c2
   refine R O<|G O<|zA<|zM<|zX O ?_
   rw [cmpI_gt c2]
  ·try simp only [sx] at c2
   refine zH<|R O<|G O<|zA<|zM<|zX O ?_
   rw [cmpI_eq (by omega) (by omega)]
theorem lin_Compare_1 (x y:Mono):
    Pur cfg 291 [vMono x,vMono y] (vI (cmpM x y)):=by
 refine zW Tryz.func291 O Tryz.ntmps291 Tryz.results291 O ?_
 intro z hz
 refine R O<|zU O O (qT O O) ?_
 rintro _ _ ⟨b1,rfl,rfl⟩
 refine zU O O (qT O O) ?_
 rintro _ _ ⟨b2,rfl,rfl⟩
 refine G O<|zA<|zF<|R O<|zN O zEn<|zL one9 (A 1 O) O<|zN O zEn<|zL one9 (A 0 O) O<|v O (zCf O O O)<|zA<|zC O (fun c1=>?_) (fun c1=>?_)
 ·try simp only [sx] at c1
  refine R O<|zN O zEn<|zL one9 (A 1 O) O<|zN O zEn<|zL one9 (A 0 O) O<|qW O ok265 (strings_Compare _ _) ⟨zB,O,zB,O,T⟩<|G O<|zA<|zM<|zX O ?_
  rw [cmpM,if_neg c1]
 ·try simp only [sx] at c1
  refine zH<|R O<|zN O zKk<|zL one2 (A 1 O) O<|zN O zKk<|zL one2 (A 0 O) O<|qW O ok292 (lin_order _ _) ⟨zB,O,zB,O,T⟩<|G O<|zA<|zM<|zX O ?_
  rw [cmpM,if_pos c1]
theorem zId (a b:Lf) (ha:a.L.length<=4294967296) (hb:b.L.length<=4294967296):
    Pur cfg 268 [vLin a,vLin b] (vI (cmpLf a b)):=by
 refine zW Tryz.func268 O Tryz.ntmps268 Tryz.results268 O ?_
 intro z hz
 refine R O<|zU O O (qT O O) ?_
 rintro _ _ ⟨b1,rfl,rfl⟩
 refine zU O O (qT O O) ?_
 rintro _ _ ⟨b2,rfl,rfl⟩
 refine G O<|zA<|R O<|zN O zGb<|zL zNk (A 1 O) O<|zN O zGb<|zL zNk (A 0 O) O<|qW O ok290 (zEg a.L b.L _ cmpM ha hb (fun x _ y _=>FnPur.of_pur (first:=[]) (cap:=[]) ok291 (lin_Compare_1 x y))) ⟨zB,O,zB,O,zB,O,T⟩<|G O<|zA<|zF<|R O<|G O<|wL O<|zA<|zC O (fun c1=>?_) (fun c1=>?_)
 ·try simp only [sx] at c1
  refine R O<|G O<|G O<|zA<|zM<|zX O ?_
  rw [cmpLf,if_neg c1]
 ·try simp only [sx] at c1
  refine zH<|R O<|zN O fd54_0<|zL one2 (A 1 O) O<|zN O fd54_0<|zL one2 (A 0 O) O<|qW O ok292 (lin_order _ _) ⟨zB,O,zB,O,T⟩<|G O<|zA<|zM<|zX O ?_
  rw [cmpLf,if_pos c1]
theorem zKo (a b:Ix) (ha:a.wt<=4294967296) (hb:b.wt<=4294967296):
    Pur cfg 270 [vIndex a,vIndex b] (vI (cmpIx a b)):=by
 refine zW Tryz.func270 O Tryz.ntmps270 Tryz.results270 O ?_
 intro z hz
 have hwa:=ha
 have hwb:=hb
 unfold Ix.wt at hwa hwb
 refine R O<|zU O O (qT O O) ?_
 rintro _ _ ⟨b1,rfl,rfl⟩
 refine zU O O (qT O O) ?_
 rintro _ _ ⟨b2,rfl,rfl⟩
 refine G O<|zA<|zF<|R O<|zN O zAs<|zL one9 (A 1 O) O<|zN O zAs<|zL one9 (A 0 O) O<|qW O ok265 (strings_Compare _ _) ⟨zB,O,zB,O,T⟩<|G O<|zA<|R O<|G O<|wL O<|zA<|zC O (fun c1=>?_) (fun c1=>?_)
 ·try simp only [sx] at c1
  refine R O<|G O<|G O<|zA<|zM<|zX O ?_
  rw [cmpIx,if_neg c1]
 ·try simp only [sx] at c1
  refine zH<|zF<|R O<|zN O zGd<|zP zCd (A 1 O) O<|zN O zGd<|zP zCd (A 0 O) O<|qW O ok268 (zId a.Lin b.Lin (by omega) (by omega)) ⟨zB,O,zB,O,T⟩<|G O<|zA<|R O<|G O<|wL O<|zA<|zC O (fun c2=>?_) (fun c2=>?_)
  ·try simp only [sx] at c2
   refine R O<|G O<|G O<|zA<|zM<|zX O ?_
   rw [cmpIx,if_pos c1,if_neg c2]
  ·try simp only [sx] at c2
   refine zH<|R O<|zN O zCk<|zL zEw (A 1 O) O<|zN O zCk<|zL zEw (A 0 O) O<|qW O ok294 (zOs a.At b.At _ cmpLf (by omega) (by omega) (fun x hx y hy=>FnPur.of_pur (first:=[]) (cap:=[]) ok268 (zId x y (by have:=zCu hx;omega) (by have:=zCu hy;omega)))) ⟨zB,O,zB,O,zB,O,T⟩<|G O<|zA<|zM<|zX O ?_
   rw [cmpIx,if_pos c1,if_pos c2]
theorem zLw (a b:Ty):
    Pur cfg 267 [vTy a,vTy b] (vI (cmpTy a b)):=by
 refine zW Tryz.func267 O Tryz.ntmps267 Tryz.results267 O ?_
 intro z hz
 refine R O<|zU O O (qT O O) ?_
 rintro _ _ ⟨b1,rfl,rfl⟩
 refine zU O O (qT O O) ?_
 rintro _ _ ⟨b2,rfl,rfl⟩
 refine G O<|zA<|zF<|qU 28 mixed (by kernel_rfl) O O<|zE O O (zJ O zOi O)<|zE O O (zD O one3 O (A 1 O) O)<|zE O O (zJ O zOi O)<|zE O O (zD O one3 O (A 0 O) O)<|zE O O (qY O ok264 (kU _ _) ⟨zB,O,zB,O,T⟩)<|zE O O (zJ O fd31_1 O)<|zE O O (zD O one3 O (A 1 O) O)<|zE O O (zJ O fd31_1 O)<|zE O O (zD O one3 O (A 0 O) O)<|zE O O (qY O ok264 (kU _ _) ⟨zB,O,zB,O,T⟩)<|zE O O (zJ O fd31_2 O)<|zE O O (zD O one3 O (A 1 O) O)<|zE O O (zJ O fd31_2 O)<|zE O O (zD O one3 O (A 0 O) O)<|zE O O (qY O ok264 (kU _ _) ⟨zB,O,zB,O,T⟩)<|zE O O (zJ O fd31_3 O)<|zE O O (zD O one3 O (A 1 O) O)<|zE O O (zJ O fd31_3 O)<|zE O O (zD O one3 O (A 0 O) O)<|zE O O (qY O ok264 (kU _ _) ⟨zB,O,zB,O,T⟩)<|zE O O (zJ O fd31_4 O)<|zE O O (zD O one3 O (A 1 O) O)<|zE O O (zJ O fd31_4 O)<|zE O O (zD O one3 O (A 0 O) O)<|zE O O (qY O ok264 (kU _ _) ⟨zB,O,zB,O,T⟩)<|zE O O (kF O el67 zr3 O O O O)<|zE O O (qY O ok263 (cmp_Or_int [cmpI a.Kind b.Kind,cmpI a.Bits b.Bits,cmpI a.Frac b.Frac,cmpI a.Round b.Round,cmpI a.Over b.Over] (by simp)) ⟨zB,O,T⟩)<|zE O O (kG O O)<|yM<|zA<|zM<|zX O ?_
 exact O
theorem zKp (a b:Ex) (ih:∀x,x∈a.Args->∀y,x.wt<=4294967296->y.wt<=4294967296->Pur cfg 239 [vE x,vE y] (vI (cmpE x y))) (ha:a.wt<=4294967296) (hb:b.wt<=4294967296):
    Pur cfg 239 [vE a,vE b] (vI (cmpE a b)):=by
 refine zW Tryz.func239 O Tryz.ntmps239 Tryz.results239 O ?_
 intro z hz
 obtain ⟨hLa,hIa,hAa⟩:=a.parts ha
 obtain ⟨hLb,hIb,hAb⟩:=b.parts hb
 have hwa:=Ex.wt_eq a
 have hwb:=Ex.wt_eq b
 refine R O<|zU O O (qT O O) ?_
 rintro _ _ ⟨b1,rfl,rfl⟩
 refine zU O O (qT O O) ?_
 rintro _ _ ⟨b2,rfl,rfl⟩
 refine G O<|zA<|zF<|qU 37 mixed (by kernel_rfl) O O<|zE O O (zJ O wY O)<|zE O O (zD O one3 O (A 1 O) O)<|zE O O (zJ O wY O)<|zE O O (zD O one3 O (A 0 O) O)<|zE O O (qY O ok264 (kU _ _) ⟨zB,O,zB,O,T⟩)<|zE O O (zJ O zHl O)<|zE O O (zD O one9 O (A 1 O) O)<|zE O O (zJ O zHl O)<|zE O O (zD O one9 O (A 0 O) O)<|zE O O (qY O ok265 (strings_Compare _ _) ⟨zB,O,zB,O,T⟩)<|zE O O (zJ O zOg O)<|zE O O (zJ O zJg O)<|zE O O (zD O one2 O (A 1 O) O)<|zE O O (zJ O zOg O)<|zE O O (zJ O zJg O)<|zE O O (zD O one2 O (A 0 O) O)<|zE O O (qY O ok266 (zGj _ _) ⟨zB,O,zB,O,T⟩)<|zE O O (zJ O zOg O)<|zE O O (zJ O zOh O)<|zE O O (zD O one2 O (A 1 O) O)<|zE O O (zJ O zOg O)<|zE O O (zJ O zOh O)<|zE O O (zD O one2 O (A 0 O) O)<|zE O O (qY O ok266 (zGj _ _) ⟨zB,O,zB,O,T⟩)<|zE O O (zJ O zFa O)<|zE O O (qG O yP O (A 1 O) O)<|zE O O (zJ O zFa O)<|zE O O (qG O yP O (A 0 O) O)<|zE O O (qY O ok267 (zLw _ _) ⟨zB,O,zB,O,T⟩)<|zE O O (zJ O zLk O)<|zE O O (qG O zCd O (A 1 O) O)<|zE O O (zJ O zLk O)<|zE O O (qG O zCd O (A 0 O) O)<|zE O O (qY O ok268 (zId a.Lin b.Lin hLa hLb) ⟨zB,O,zB,O,T⟩)<|zE O O (kF O el67 zr3 O O O O)<|zE O O (qY O ok263 (cmp_Or_int [cmpI a.Op b.Op,cmpS a.Name b.Name,cmpI a.Val.N b.Val.N,cmpI a.Val.D b.Val.D,cmpTy a.Ty b.Ty,cmpLf a.Lin b.Lin] (by simp)) ⟨zB,O,T⟩)<|zE O O (kG O O)<|yM<|zA<|zF<|R O<|G O<|wL O<|zA<|zC O (fun c1=>?_) (fun c1=>?_)
 ·try simp only [sx] at c1
  refine R O<|G O<|G O<|zA<|zM<|zX O ?_
  rw [cmpE_eq,if_neg (show ¬cmpHd a b=0 from c1)];rfl
 ·try simp only [sx] at c1
  refine zH<|zF<|R O<|zN O zBk<|zL zCa (A 1 O) O<|zN O zBk<|zL zCa (A 0 O) O<|qW O ok269 (zOt a.Idx b.Idx _ cmpIx hIa hIb (fun x hx y hy=>FnPur.of_pur (first:=[]) (cap:=[]) ok270 (zKo x y (by have:=zCx hx;omega) (by have:=zCx hy;omega)))) ⟨zB,O,zB,O,zB,O,T⟩<|G O<|zA<|R O<|G O<|wL O<|zA<|zC O (fun c2=>?_) (fun c2=>?_)
  ·try simp only [sx] at c2
   refine R O<|G O<|G O<|zA<|zM<|zX O ?_
   rw [cmpE_eq,if_pos (show cmpHd a b=0 from c1),if_neg c2]
  ·try simp only [sx] at c2
   refine zH<|R O<|zN O wH<|zL zAw (A 1 O) O<|zN O wH<|zL zAw (A 0 O) O<|qW O ok271 (zOu a.Args b.Args _ cmpE hAa hAb (fun x hx y hy=>FnPur.of_pur (first:=[]) (cap:=[]) ok239 (ih x hx y (by have:=Ex.arg_wt hx;omega) (by have:=Ex.arg_wt hy;omega)))) ⟨zB,O,zB,O,zB,O,T⟩<|G O<|zA<|zM<|zX O ?_
   rw [cmpE_eq,if_pos (show cmpHd a b=0 from c1),if_pos c2]
theorem expr_Compare (a b:Ex) (ha:a.wt<=4294967296) (hb:b.wt<=4294967296):Pur cfg 239 [vE a,vE b] (vI (cmpE a b)):=by
  induction a using Ex.ind generalizing b with
  |_ a ih=>exact zKp a b (fun x hx y h1 h2=>ih x hx y h1 h2) ha hb
theorem expr_Same (a b:Ex) (ha:a.wt<=4294967296) (hb:b.wt<=4294967296):
    Pur cfg 210 [vE a,vE b] (vB (decide (a=b))):=by
 refine zW Tryz.func210 O Tryz.ntmps210 Tryz.results210 O ?_
 intro z hz
 refine R O<|zU O O (qT O O) ?_
 rintro _ _ ⟨b1,rfl,rfl⟩
 refine zU O O (qT O O) ?_
 rintro _ _ ⟨b2,rfl,rfl⟩
 refine G O<|zA<|R O<|zP kC (A 1 O) O<|zP kC (A 0 O) O<|qW O ok239 (expr_Compare a b ha hb) ⟨zB,O,zB,O,T⟩<|yO O<|G O<|zA<|zM<|zX O ?_
 exact congrArg vB (decide_eq_decide.2 (cmpE_zero a b))
end Go.W
