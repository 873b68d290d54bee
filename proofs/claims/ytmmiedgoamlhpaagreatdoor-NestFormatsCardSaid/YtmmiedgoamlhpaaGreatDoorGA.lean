/-
  Walks: what functions of the program compute. Printed by wip/gen/mk2.py.
  Walks: what functions of the program compute. Printed by wip/gen/mk2.py.
  Walks: what functions of the program compute. Printed by wip/gen/mk2.py.
  Walks: what functions of the program compute. Printed by wip/gen/mk2.py.
  Walks: what functions of the program compute. Printed by wip/gen/mk2.py.
  Walks: what functions of the program compute. Printed by wip/gen/mk2.py.
  Walks: what functions of the program compute. Printed by wip/gen/mk2.py.
  Walks: what functions of the program compute. Printed by wip/gen/mk2.py.
  Conditions: none.
-/
import Derived.Test.YtmmiedgoamlhpaaGreatDoorWE
import Derived.Test.YtmmiedgoamlhpaaGreatDoorPlain
import Derived.Test.YtmmiedgoamlhpaaGreatDoorEngZ
import Derived.Test.YtmmiedgoamlhpaaGreatDoorPlain2
set_option linter.unusedSimpArgs false
set_option linter.unusedVariables false
section
set_option maxRecDepth 10000
namespace Go.W
open Go Go.Eng Go.Proofs Go.L41 Go.Br
attribute [local irreducible] AWP RWP TD finQ
theorem el55:elemT Tryz.prog 55=some (3,1,8):=by kernel_rfl
theorem ok352:callOk Tryz.prog 352=true:=by kernel_rfl
theorem ok368:callOk Tryz.prog 368=true:=by kernel_rfl
theorem ok369:callOk Tryz.prog 369=true:=by kernel_rfl
theorem ok370:callOk Tryz.prog 370=true:=by kernel_rfl
theorem ok371:callOk Tryz.prog 371=true:=by kernel_rfl
theorem ok372:callOk Tryz.prog 372=true:=by kernel_rfl
theorem ok373:callOk Tryz.prog 373=true:=by kernel_rfl
theorem ok374:callOk Tryz.prog 374=true:=by kernel_rfl
theorem ok375:callOk Tryz.prog 375=true:=by kernel_rfl
theorem ok376:callOk Tryz.prog 376=true:=by kernel_rfl
theorem ok381:callOk Tryz.prog 381=true:=by kernel_rfl
theorem ok383:callOk Tryz.prog 383=true:=by kernel_rfl
theorem ok384:callOk Tryz.prog 384=true:=by kernel_rfl
theorem ok385:callOk Tryz.prog 385=true:=by kernel_rfl
theorem ok386:callOk Tryz.prog 386=true:=by kernel_rfl
theorem ok387:callOk Tryz.prog 387=true:=by kernel_rfl
theorem ok388:callOk Tryz.prog 388=true:=by kernel_rfl
theorem ok389:callOk Tryz.prog 389=true:=by kernel_rfl
theorem ok391:callOk Tryz.prog 391=true:=by kernel_rfl
theorem zMl (a:Int):
    Pur cfg 381 [vI a] (vB false):=by
 refine zS Tryz.func381 O Tryz.ntmps381 Tryz.results381 O ?_
 intro z hz
 refine A O<|G O<|R<|A O<|G O<|G O<|kP O<|G O<|R<|zF<|zQ O ?_
 exact congrArg vB (by simp)
theorem wN (a b:Int):
    Pur cfg 369 [vI a,vI b] (vI (cmpI a b)):=by
 refine zS Tryz.func369 O Tryz.ntmps369 Tryz.results369 O ?_
 intro z hz
 refine A O<|G O<|R<|A O<|G O<|qK O ok381 (zMl a) ⟨Y,O,T⟩<|G O<|R<|A O<|G O<|qK O ok381 (zMl b) ⟨Y,O,T⟩<|G O<|R<|zK<|A O<|G O<|R<|zC O (fun c1=>?_) (fun c1=>?_)
 ·exact absurd c1 (by decide)
 ·refine zI<|zK<|A O<|G O<|R<|zC O (fun c3=>?_) (fun c3=>?_)
  ·exact absurd c3 (by decide)
  ·refine zI<|zK<|A O<|G O<|G O<|yJ O<|R<|zC O (fun c4=>?_) (fun c4=>?_)
   ·try simp only [sx] at c4
    refine A O<|G O<|R<|zF<|zQ O ?_
    rw [cmpI_lt c4]
   ·try simp only [sx] at c4
    refine zI<|zK<|A O<|G O<|G O<|zT O (yA O O O)<|R<|zC O (fun c5=>?_) (fun c5=>?_)
    ·try simp only [sx] at c5
     refine A O<|G O<|R<|zF<|zQ O ?_
     rw [cmpI_gt c5]
    ·try simp only [sx] at c5
     refine zI<|A O<|G O<|R<|zF<|zQ O ?_
     rw [cmpI_eq (by omega) (by omega)]
theorem zMm (a:Int):
    Pur cfg 383 [vI a] (vB false):=by
 refine zS Tryz.func383 O Tryz.ntmps383 Tryz.results383 O ?_
 intro z hz
 refine A O<|G O<|R<|A O<|G O<|G O<|kP O<|G O<|R<|zF<|zQ O ?_
 exact congrArg vB (by simp)
theorem zIx (a b:Int):
    Pur cfg 371 [vI a,vI b] (vI (cmpI a b)):=by
 refine zS Tryz.func371 O Tryz.ntmps371 Tryz.results371 O ?_
 intro z hz
 refine A O<|G O<|R<|A O<|G O<|qK O ok383 (zMm a) ⟨Y,O,T⟩<|G O<|R<|A O<|G O<|qK O ok383 (zMm b) ⟨Y,O,T⟩<|G O<|R<|zK<|A O<|G O<|R<|zC O (fun c1=>?_) (fun c1=>?_)
 ·exact absurd c1 (by decide)
 ·refine zI<|zK<|A O<|G O<|R<|zC O (fun c3=>?_) (fun c3=>?_)
  ·exact absurd c3 (by decide)
  ·refine zI<|zK<|A O<|G O<|G O<|yJ O<|R<|zC O (fun c4=>?_) (fun c4=>?_)
   ·try simp only [sx] at c4
    refine A O<|G O<|R<|zF<|zQ O ?_
    rw [cmpI_lt c4]
   ·try simp only [sx] at c4
    refine zI<|zK<|A O<|G O<|G O<|zT O (yA O O O)<|R<|zC O (fun c5=>?_) (fun c5=>?_)
    ·try simp only [sx] at c5
     refine A O<|G O<|R<|zF<|zQ O ?_
     rw [cmpI_gt c5]
    ·try simp only [sx] at c5
     refine zI<|A O<|G O<|R<|zF<|zQ O ?_
     rw [cmpI_eq (by omega) (by omega)]
theorem cmp_Or_int (l:List Int) (hl:l.length<=4294967296):
    Pur cfg 368 [.c (.sl 1 (l.map fun n=>[cI n]))] (vI (orI l)):=by
 refine zS Tryz.func368 O Tryz.ntmps368 Tryz.results368 O ?_
 intro z hz
 refine A O<|G O<|R<|A O<|G O<|R<|zK<|A O<|G O<|zZ O el55<|G O<|R<|zR<|zX ⟨[(8,.c _),(3,.c _),(6,.c _),(7,.c _)],[]⟩ (Weak.mk [] ⟨Y,Y,Y,Y,T⟩ O)<|qG 1 0 O O (Nat) (fun k=>[(8,vI k)]) (fun k=>[]) (fun k=>k<=l.length/\(orI l=orI (l.drop k))) (fun k=>l.length-k) ⟨0,⟨by omega,O⟩,Weak.mk [] ⟨Y,Y,Y,Y,T⟩ O⟩ ?_
 rintro k ⟨hk,hp⟩
 refine A O<|yJ O<|R<|zK<|zC O (fun c1=>?_) (fun c1=>?_)
 ·try simp only [sx] at c1
  obtain ⟨x,hx⟩:=qY l k (by omega)
  refine zI<|zK<|zR<|A O<|qE O el55 (by omega) (getm (by assumption))<|zM one3 qA O<|G O<|R<|A O<|G O<|G O<|kP O<|R<|zC O (fun c2=>?_) (fun c2=>?_)
  ·try simp only [sx] at c2
   refine A O<|G O<|G O<|R<|zF<|zQ O ?_
   rw [hp,orI_at hx c2]
  ·try simp only [sx] at c2
   refine zI<|zN O<|qI O ⟨by omega,by omega⟩<|G O<|R ?_
   refine ⟨k+1,⟨by omega,hp.trans (orI_next hx c2)⟩,(by omega),Weak.mk [] ⟨Y,Y,Y,Y,T⟩ O⟩
 ·try simp only [sx] at c1
  refine qP<|A O<|G O<|G O<|R<|zF<|zQ O ?_
  rw [hp,kW (by omega)];rfl
theorem zGg (a b:List Mono) (c:C) (f:Mono->Mono->Int) (ha:a.length<=4294967296) (hb:b.length<=4294967296) (hc:∀x,x∈a->∀y,y∈b->FnPur cfg c [vMono x,vMono y] (vI (f x y))):
    Pur cfg 384 [.c (.sl 2 (a.map Mono.cells)),.c (.sl 2 (b.map Mono.cells)),.c c] (vI (cmpL f a b)):=by
 refine zS Tryz.func384 O Tryz.ntmps384 Tryz.results384 O ?_
 intro z hz
 refine A O<|G O<|R<|zK<|A O<|G O<|zZ O el99<|G O<|R<|zR<|zX ⟨[(13,.c _),(0,.c _),(1,.c _),(2,.c _),(11,.c _),(12,.c _)],[]⟩ (Weak.mk [] ⟨Y,Y,Y,Y,Y,Y,T⟩ O)<|qG 1 0 O O (Nat) (fun k=>[(13,vI k)]) (fun k=>[]) (fun k=>k<=a.length/\(cmpL f a b=cmpL f (a.drop k) (b.drop k))/\(k<=b.length)) (fun k=>a.length-k) ⟨0,⟨by omega,O,by omega⟩,Weak.mk [] ⟨Y,Y,Y,Y,Y,Y,T⟩ O⟩ ?_
 rintro k ⟨hk,hp,hq⟩
 refine A O<|yJ O<|R<|zK<|zC O (fun c1=>?_) (fun c1=>?_)
 ·try simp only [sx] at c1
  obtain ⟨x,hx⟩:=qY a k (by omega)
  refine zI<|zK<|zR<|A O<|G O<|qE O el99 (by omega) (getm (by assumption))<|zO zTq qA O<|zU O O (yL O zr98) ?_
  rintro _ _ ⟨b1,rfl,rfl⟩
  refine G O<|rStR 0 sz98 O<|R<|zK<|A O<|G O<|G O<|zZ O el99<|zT O (wO O O O)<|R<|zC O (fun c2=>?_) (fun c2=>?_)
  ·try simp only [sx] at c2
   refine A O<|G O<|R<|zF<|zQ O ?_
   rw [hp,zPu hx (by omega)]
  ·try simp only [sx] at c2
   obtain ⟨y,hy⟩:=qY b k (by omega)
   refine zI<|A O<|G O<|G O<|qE O el99 (by omega) (getm (by assumption))<|zO zTq qA O<|zU O O (yL O zr98) ?_
   rintro _ _ ⟨b2,rfl,rfl⟩
   refine rStR 0 sz98 O<|R<|A O<|G O<|zO zTq (zD 1 O) O<|zO zTq (zD 0 O) O<|zT O (zAx O O (hc _ (zY hx) _ (zY hy)) ⟨Y,O,Y,O,T⟩)<|G O<|R<|A O<|G O<|kP O<|R<|zC O (fun c3=>?_) (fun c3=>?_)
   ·try simp only [sx] at c3
    refine A O<|G O<|G O<|R<|zF<|zQ O ?_
    rw [hp,cmpL_ne hx hy c3]
   ·try simp only [sx] at c3
    refine zI<|zN O<|qI O ⟨by omega,by omega⟩<|G O<|R ?_
    refine ⟨k+1,⟨by omega,hp.trans (zMo hx hy c3),by omega⟩,(by omega),Weak.mk [false,false] ⟨Y,Y,Y,Y,Y,Y,T⟩ O⟩
 ·try simp only [sx] at c1
  refine qP<|zK<|A O<|G O<|zZ O el99<|G O<|zZ O el99<|yJ O<|R<|zC O (fun c4=>?_) (fun c4=>?_)
  ·try simp only [sx] at c4
   refine A O<|G O<|R<|zF<|zQ O ?_
   rw [hp,zMp (by omega) (by omega)]
  ·try simp only [sx] at c4
   refine zI<|A O<|G O<|R<|zF<|zQ O ?_
   rw [hp,zPv (by omega) (by omega)]
theorem zHu (a b:List Ix) (c:C) (f:Ix->Ix->Int) (ha:a.length<=4294967296) (hb:b.length<=4294967296) (hc:∀x,x∈a->∀y,y∈b->FnPur cfg c [vIndex x,vIndex y] (vI (f x y))):
    Pur cfg 387 [.c (.sl 4 (a.map Ix.cells)),.c (.sl 4 (b.map Ix.cells)),.c c] (vI (cmpL f a b)):=by
 refine zS Tryz.func387 O Tryz.ntmps387 Tryz.results387 O ?_
 intro z hz
 refine A O<|G O<|R<|zK<|A O<|G O<|zZ O kO<|G O<|R<|zR<|zX ⟨[(13,.c _),(0,.c _),(1,.c _),(2,.c _),(11,.c _),(12,.c _)],[]⟩ (Weak.mk [] ⟨Y,Y,Y,Y,Y,Y,T⟩ O)<|qG 1 0 O O (Nat) (fun k=>[(13,vI k)]) (fun k=>[]) (fun k=>k<=a.length/\(cmpL f a b=cmpL f (a.drop k) (b.drop k))/\(k<=b.length)) (fun k=>a.length-k) ⟨0,⟨by omega,O,by omega⟩,Weak.mk [] ⟨Y,Y,Y,Y,Y,Y,T⟩ O⟩ ?_
 rintro k ⟨hk,hp,hq⟩
 refine A O<|yJ O<|R<|zK<|zC O (fun c1=>?_) (fun c1=>?_)
 ·try simp only [sx] at c1
  obtain ⟨x,hx⟩:=qY a k (by omega)
  refine zI<|zK<|zR<|A O<|G O<|qE O kO (by omega) (getm (by assumption))<|zO zDf qA O<|zU O O (qT [none,some 2,none,some 2] O zLf O) ?_
  rintro _ _ ⟨b1,rfl,rfl⟩
  refine G O<|rStR 0 sz104 O<|R<|zK<|A O<|G O<|G O<|zZ O kO<|zT O (wO O O O)<|R<|zC O (fun c2=>?_) (fun c2=>?_)
  ·try simp only [sx] at c2
   refine A O<|G O<|R<|zF<|zQ O ?_
   rw [hp,zPu hx (by omega)]
  ·try simp only [sx] at c2
   obtain ⟨y,hy⟩:=qY b k (by omega)
   refine zI<|A O<|G O<|G O<|qE O kO (by omega) (getm (by assumption))<|zO zDf qA O<|zU O O (qT [none,some 2,none,some 2] O zLf O) ?_
   rintro _ _ ⟨b2,rfl,rfl⟩
   refine rStR 0 sz104 O<|R<|A O<|G O<|zO zDf (zD 1 O) O<|zO zDf (zD 0 O) O<|zT O (zAx O O (hc _ (zY hx) _ (zY hy)) ⟨Y,O,Y,O,T⟩)<|G O<|R<|A O<|G O<|kP O<|R<|zC O (fun c3=>?_) (fun c3=>?_)
   ·try simp only [sx] at c3
    refine A O<|G O<|G O<|R<|zF<|zQ O ?_
    rw [hp,cmpL_ne hx hy c3]
   ·try simp only [sx] at c3
    refine zI<|zN O<|qI O ⟨by omega,by omega⟩<|G O<|R ?_
    refine ⟨k+1,⟨by omega,hp.trans (zMo hx hy c3),by omega⟩,(by omega),Weak.mk [false,false] ⟨Y,Y,Y,Y,Y,Y,T⟩ O⟩
 ·try simp only [sx] at c1
  refine qP<|zK<|A O<|G O<|zZ O kO<|G O<|zZ O kO<|yJ O<|R<|zC O (fun c4=>?_) (fun c4=>?_)
  ·try simp only [sx] at c4
   refine A O<|G O<|R<|zF<|zQ O ?_
   rw [hp,zMp (by omega) (by omega)]
  ·try simp only [sx] at c4
   refine zI<|A O<|G O<|R<|zF<|zQ O ?_
   rw [hp,zPv (by omega) (by omega)]
theorem zHt (a b:List Lf) (c:C) (f:Lf->Lf->Int) (ha:a.length<=4294967296) (hb:b.length<=4294967296) (hc:∀x,x∈a->∀y,y∈b->FnPur cfg c [vLin x,vLin y] (vI (f x y))):
    Pur cfg 391 [.c (.sl 2 (a.map Lf.cells)),.c (.sl 2 (b.map Lf.cells)),.c c] (vI (cmpL f a b)):=by
 refine zS Tryz.func391 O Tryz.ntmps391 Tryz.results391 O ?_
 intro z hz
 refine A O<|G O<|R<|zK<|A O<|G O<|zZ O wV<|G O<|R<|zR<|zX ⟨[(13,.c _),(0,.c _),(1,.c _),(2,.c _),(11,.c _),(12,.c _)],[]⟩ (Weak.mk [] ⟨Y,Y,Y,Y,Y,Y,T⟩ O)<|qG 1 0 O O (Nat) (fun k=>[(13,vI k)]) (fun k=>[]) (fun k=>k<=a.length/\(cmpL f a b=cmpL f (a.drop k) (b.drop k))/\(k<=b.length)) (fun k=>a.length-k) ⟨0,⟨by omega,O,by omega⟩,Weak.mk [] ⟨Y,Y,Y,Y,Y,Y,T⟩ O⟩ ?_
 rintro k ⟨hk,hp,hq⟩
 refine A O<|yJ O<|R<|zK<|zC O (fun c1=>?_) (fun c1=>?_)
 ·try simp only [sx] at c1
  obtain ⟨x,hx⟩:=qY a k (by omega)
  refine zI<|zK<|zR<|A O<|G O<|qE O wV (by omega) (getm (by assumption))<|zO kL qA O<|zU O O (qT [none,some 2] O zKm O) ?_
  rintro _ _ ⟨b1,rfl,rfl⟩
  refine G O<|rStR 0 zQt O<|R<|zK<|A O<|G O<|G O<|zZ O wV<|zT O (wO O O O)<|R<|zC O (fun c2=>?_) (fun c2=>?_)
  ·try simp only [sx] at c2
   refine A O<|G O<|R<|zF<|zQ O ?_
   rw [hp,zPu hx (by omega)]
  ·try simp only [sx] at c2
   obtain ⟨y,hy⟩:=qY b k (by omega)
   refine zI<|A O<|G O<|G O<|qE O wV (by omega) (getm (by assumption))<|zO kL qA O<|zU O O (qT [none,some 2] O zKm O) ?_
   rintro _ _ ⟨b2,rfl,rfl⟩
   refine rStR 0 zQt O<|R<|A O<|G O<|zO kL (zD 1 O) O<|zO kL (zD 0 O) O<|zT O (zAx O O (hc _ (zY hx) _ (zY hy)) ⟨Y,O,Y,O,T⟩)<|G O<|R<|A O<|G O<|kP O<|R<|zC O (fun c3=>?_) (fun c3=>?_)
   ·try simp only [sx] at c3
    refine A O<|G O<|G O<|R<|zF<|zQ O ?_
    rw [hp,cmpL_ne hx hy c3]
   ·try simp only [sx] at c3
    refine zI<|zN O<|qI O ⟨by omega,by omega⟩<|G O<|R ?_
    refine ⟨k+1,⟨by omega,hp.trans (zMo hx hy c3),by omega⟩,(by omega),Weak.mk [false,false] ⟨Y,Y,Y,Y,Y,Y,T⟩ O⟩
 ·try simp only [sx] at c1
  refine qP<|zK<|A O<|G O<|zZ O wV<|G O<|zZ O wV<|yJ O<|R<|zC O (fun c4=>?_) (fun c4=>?_)
  ·try simp only [sx] at c4
   refine A O<|G O<|R<|zF<|zQ O ?_
   rw [hp,zMp (by omega) (by omega)]
  ·try simp only [sx] at c4
   refine zI<|A O<|G O<|R<|zF<|zQ O ?_
   rw [hp,zPv (by omega) (by omega)]
theorem zHv (a b:List Ex) (c:C) (f:Ex->Ex->Int) (ha:a.length<=4294967296) (hb:b.length<=4294967296) (hc:∀x,x∈a->∀y,y∈b->FnPur cfg c [vE x,vE y] (vI (f x y))):
    Pur cfg 389 [.c (.sl 13 (a.map Ex.cells)),.c (.sl 13 (b.map Ex.cells)),.c c] (vI (cmpL f a b)):=by
 refine zS Tryz.func389 O Tryz.ntmps389 Tryz.results389 O ?_
 intro z hz
 refine A O<|G O<|R<|zK<|A O<|G O<|zZ O wE<|G O<|R<|zR<|zX ⟨[(13,.c _),(0,.c _),(1,.c _),(2,.c _),(11,.c _),(12,.c _)],[]⟩ (Weak.mk [] ⟨Y,Y,Y,Y,Y,Y,T⟩ O)<|qG 1 0 O O (Nat) (fun k=>[(13,vI k)]) (fun k=>[]) (fun k=>k<=a.length/\(cmpL f a b=cmpL f (a.drop k) (b.drop k))/\(k<=b.length)) (fun k=>a.length-k) ⟨0,⟨by omega,O,by omega⟩,Weak.mk [] ⟨Y,Y,Y,Y,Y,Y,T⟩ O⟩ ?_
 rintro k ⟨hk,hp,hq⟩
 refine A O<|yJ O<|R<|zK<|zC O (fun c1=>?_) (fun c1=>?_)
 ·try simp only [sx] at c1
  obtain ⟨x,hx⟩:=qY a k (by omega)
  refine zI<|zK<|zR<|A O<|G O<|qE O wE (by omega) (zBr (by assumption))<|zO qX qA O<|zU O O (qT [none,none,none,none,none,none,none,none,none,none,some 2,some 4,some 13] O zDx O) ?_
  rintro _ _ ⟨b1,rfl,rfl⟩
  refine G O<|rStR 0 zNb O<|R<|zK<|A O<|G O<|G O<|zZ O wE<|zT O (wO O O O)<|R<|zC O (fun c2=>?_) (fun c2=>?_)
  ·try simp only [sx] at c2
   refine A O<|G O<|R<|zF<|zQ O ?_
   rw [hp,zPu hx (by omega)]
  ·try simp only [sx] at c2
   obtain ⟨y,hy⟩:=qY b k (by omega)
   refine zI<|A O<|G O<|G O<|qE O wE (by omega) (zBr (by assumption))<|zO qX qA O<|zU O O (qT [none,none,none,none,none,none,none,none,none,none,some 2,some 4,some 13] O zDx O) ?_
   rintro _ _ ⟨b2,rfl,rfl⟩
   refine rStR 0 zNb O<|R<|A O<|G O<|zO qX (zD 1 O) O<|zO qX (zD 0 O) O<|zT O (zAx O O (hc _ (zY hx) _ (zY hy)) ⟨Y,O,Y,O,T⟩)<|G O<|R<|A O<|G O<|kP O<|R<|zC O (fun c3=>?_) (fun c3=>?_)
   ·try simp only [sx] at c3
    refine A O<|G O<|G O<|R<|zF<|zQ O ?_
    rw [hp,cmpL_ne hx hy c3]
   ·try simp only [sx] at c3
    refine zI<|zN O<|qI O ⟨by omega,by omega⟩<|G O<|R ?_
    refine ⟨k+1,⟨by omega,hp.trans (zMo hx hy c3),by omega⟩,(by omega),Weak.mk [false,false] ⟨Y,Y,Y,Y,Y,Y,T⟩ O⟩
 ·try simp only [sx] at c1
  refine qP<|zK<|A O<|G O<|zZ O wE<|G O<|zZ O wE<|yJ O<|R<|zC O (fun c4=>?_) (fun c4=>?_)
  ·try simp only [sx] at c4
   refine A O<|G O<|R<|zF<|zQ O ?_
   rw [hp,zMp (by omega) (by omega)]
  ·try simp only [sx] at c4
   refine zI<|A O<|G O<|R<|zF<|zQ O ?_
   rw [hp,zPv (by omega) (by omega)]
theorem zTc (a b:List Ix) (c:C) (f:Ix->Ix->Int) (ha:a.length<=4294967296) (hb:b.length<=4294967296) (hc:∀x,x∈a->∀y,y∈b->FnPur cfg c [vIndex x,vIndex y] (vI (f x y))):
    Pur cfg 374 [.c (.sl 4 (a.map Ix.cells)),.c (.sl 4 (b.map Ix.cells)),.c c] (vI (cmpLs f a b)):=by
 refine zS Tryz.func374 O Tryz.ntmps374 Tryz.results374 O ?_
 intro z hz
 refine A O<|G O<|R<|zK<|A O<|G O<|zZ O kO<|G O<|zZ O kO<|qK O ok369 (wN _ _) ⟨Y,O,Y,O,T⟩<|G O<|R<|A O<|G O<|kP O<|R<|zC O (fun c1=>?_) (fun c1=>?_)
 ·try simp only [sx] at c1
  refine A O<|G O<|G O<|R<|zF<|zQ O ?_
  rw [cmpLs,if_neg c1]
 ·try simp only [sx] at c1
  refine zI<|A O<|G O<|G O<|G O<|qK O ok387 (zHu a b c f ha hb hc) ⟨Y,O,Y,O,Y,O,T⟩<|G O<|R<|zF<|zQ O ?_
  rw [cmpLs,if_pos c1]
theorem zTb (a b:List Lf) (c:C) (f:Lf->Lf->Int) (ha:a.length<=4294967296) (hb:b.length<=4294967296) (hc:∀x,x∈a->∀y,y∈b->FnPur cfg c [vLin x,vLin y] (vI (f x y))):
    Pur cfg 388 [.c (.sl 2 (a.map Lf.cells)),.c (.sl 2 (b.map Lf.cells)),.c c] (vI (cmpLs f a b)):=by
 refine zS Tryz.func388 O Tryz.ntmps388 Tryz.results388 O ?_
 intro z hz
 refine A O<|G O<|R<|zK<|A O<|G O<|zZ O wV<|G O<|zZ O wV<|qK O ok369 (wN _ _) ⟨Y,O,Y,O,T⟩<|G O<|R<|A O<|G O<|kP O<|R<|zC O (fun c1=>?_) (fun c1=>?_)
 ·try simp only [sx] at c1
  refine A O<|G O<|G O<|R<|zF<|zQ O ?_
  rw [cmpLs,if_neg c1]
 ·try simp only [sx] at c1
  refine zI<|A O<|G O<|G O<|G O<|qK O ok391 (zHt a b c f ha hb hc) ⟨Y,O,Y,O,Y,O,T⟩<|G O<|R<|zF<|zQ O ?_
  rw [cmpLs,if_pos c1]
theorem zTd (a b:List Ex) (c:C) (f:Ex->Ex->Int) (ha:a.length<=4294967296) (hb:b.length<=4294967296) (hc:∀x,x∈a->∀y,y∈b->FnPur cfg c [vE x,vE y] (vI (f x y))):
    Pur cfg 376 [.c (.sl 13 (a.map Ex.cells)),.c (.sl 13 (b.map Ex.cells)),.c c] (vI (cmpLs f a b)):=by
 refine zS Tryz.func376 O Tryz.ntmps376 Tryz.results376 O ?_
 intro z hz
 refine A O<|G O<|R<|zK<|A O<|G O<|zZ O wE<|G O<|zZ O wE<|qK O ok369 (wN _ _) ⟨Y,O,Y,O,T⟩<|G O<|R<|A O<|G O<|kP O<|R<|zC O (fun c1=>?_) (fun c1=>?_)
 ·try simp only [sx] at c1
  refine A O<|G O<|G O<|R<|zF<|zQ O ?_
  rw [cmpLs,if_neg c1]
 ·try simp only [sx] at c1
  refine zI<|A O<|G O<|G O<|G O<|qK O ok389 (zHv a b c f ha hb hc) ⟨Y,O,Y,O,Y,O,T⟩<|G O<|R<|zF<|zQ O ?_
  rw [cmpLs,if_pos c1]
theorem lin_order (a b:Int):
    Pur cfg 386 [vI a,vI b] (vI (cmpI a b)):=by
 refine zS Tryz.func386 O Tryz.ntmps386 Tryz.results386 O ?_
 intro z hz
 refine A O<|G O<|R<|zK<|zR<|A O<|G O<|G O<|yJ O<|G O<|R<|zC O (fun c1=>?_) (fun c1=>?_)
 ·try simp only [sx] at c1
  refine A O<|G O<|R<|zF<|zQ O ?_
  rw [cmpI_lt c1]
 ·try simp only [sx] at c1
  refine A O<|G O<|G O<|zT O (yA O O O)<|G O<|R<|zC O (fun c2=>?_) (fun c2=>?_)
  ·try simp only [sx] at c2
   refine A O<|G O<|R<|zF<|zQ O ?_
   rw [cmpI_gt c2]
  ·try simp only [sx] at c2
   refine zI<|A O<|G O<|R<|zF<|zQ O ?_
   rw [cmpI_eq (by omega) (by omega)]
theorem lin_Compare_1 (x y:Mono):
    Pur cfg 385 [vMono x,vMono y] (vI (cmpM x y)):=by
 refine zS Tryz.func385 O Tryz.ntmps385 Tryz.results385 O ?_
 intro z hz
 refine A O<|zU O O (qN O O) ?_
 rintro _ _ ⟨b1,rfl,rfl⟩
 refine zU O O (qN O O) ?_
 rintro _ _ ⟨b2,rfl,rfl⟩
 refine G O<|R<|zK<|A O<|zH O zEb<|zM one9 (zD 1 O) O<|zH O zEb<|zM one9 (zD 0 O) O<|zT O (zAz O O O)<|R<|zC O (fun c1=>?_) (fun c1=>?_)
 ·try simp only [sx] at c1
  refine A O<|zH O zEb<|zM one9 (zD 1 O) O<|zH O zEb<|zM one9 (zD 0 O) O<|qK O ok370 (strings_Compare _ _) ⟨Y,O,Y,O,T⟩<|G O<|R<|zF<|zQ O ?_
  rw [cmpM,if_neg c1]
 ·try simp only [sx] at c1
  refine zI<|A O<|zH O fd98_1<|zM r (zD 1 O) O<|zH O fd98_1<|zM r (zD 0 O) O<|qK O ok386 (lin_order _ _) ⟨Y,O,Y,O,T⟩<|G O<|R<|zF<|zQ O ?_
  rw [cmpM,if_pos c1]
theorem zKy (a b:Lf) (ha:a.L.length<=4294967296) (hb:b.L.length<=4294967296):
    Pur cfg 373 [vLin a,vLin b] (vI (cmpLf a b)):=by
 refine zS Tryz.func373 O Tryz.ntmps373 Tryz.results373 O ?_
 intro z hz
 refine A O<|zU O O (qN O O) ?_
 rintro _ _ ⟨b1,rfl,rfl⟩
 refine zU O O (qN O O) ?_
 rintro _ _ ⟨b2,rfl,rfl⟩
 refine G O<|R<|A O<|zH O kT<|zM zBp (zD 1 O) O<|zH O kT<|zM zBp (zD 0 O) O<|qK O ok384 (zGg a.L b.L _ cmpM ha hb (fun x _ y _=>FnPur.of_pur (first:=[]) (cap:=[]) ok385 (lin_Compare_1 x y))) ⟨Y,O,Y,O,Y,O,T⟩<|G O<|R<|zK<|A O<|G O<|kP O<|R<|zC O (fun c1=>?_) (fun c1=>?_)
 ·try simp only [sx] at c1
  refine A O<|G O<|G O<|R<|zF<|zQ O ?_
  rw [cmpLf,if_neg c1]
 ·try simp only [sx] at c1
  refine zI<|A O<|zH O zCt<|zM r (zD 1 O) O<|zH O zCt<|zM r (zD 0 O) O<|qK O ok386 (lin_order _ _) ⟨Y,O,Y,O,T⟩<|G O<|R<|zF<|zQ O ?_
  rw [cmpLf,if_pos c1]
theorem zNs (a b:Ix) (ha:a.wt<=4294967296) (hb:b.wt<=4294967296):
    Pur cfg 375 [vIndex a,vIndex b] (vI (cmpIx a b)):=by
 refine zS Tryz.func375 O Tryz.ntmps375 Tryz.results375 O ?_
 intro z hz
 have hwa:=ha
 have hwb:=hb
 unfold Ix.wt at hwa hwb
 refine A O<|zU O O (qN O O) ?_
 rintro _ _ ⟨b1,rfl,rfl⟩
 refine zU O O (qN O O) ?_
 rintro _ _ ⟨b2,rfl,rfl⟩
 refine G O<|R<|zK<|A O<|zH O zAg<|zM one9 (zD 1 O) O<|zH O zAg<|zM one9 (zD 0 O) O<|qK O ok370 (strings_Compare _ _) ⟨Y,O,Y,O,T⟩<|G O<|R<|A O<|G O<|kP O<|R<|zC O (fun c1=>?_) (fun c1=>?_)
 ·try simp only [sx] at c1
  refine A O<|G O<|G O<|R<|zF<|zQ O ?_
  rw [cmpIx,if_neg c1]
 ·try simp only [sx] at c1
  refine zI<|zK<|A O<|zH O zAh<|zO kL (zD 1 O) O<|zH O zAh<|zO kL (zD 0 O) O<|qK O ok373 (zKy a.Lin b.Lin (by omega) (by omega)) ⟨Y,O,Y,O,T⟩<|G O<|R<|A O<|G O<|kP O<|R<|zC O (fun c2=>?_) (fun c2=>?_)
  ·try simp only [sx] at c2
   refine A O<|G O<|G O<|R<|zF<|zQ O ?_
   rw [cmpIx,if_pos c1,if_neg c2]
  ·try simp only [sx] at c2
   refine zI<|A O<|zH O wC<|zM zAk (zD 1 O) O<|zH O wC<|zM zAk (zD 0 O) O<|qK O ok388 (zTb a.At b.At _ cmpLf (by omega) (by omega) (fun x hx y hy=>FnPur.of_pur (first:=[]) (cap:=[]) ok373 (zKy x y (by have:=zAd hx;omega) (by have:=zAd hy;omega)))) ⟨Y,O,Y,O,Y,O,T⟩<|G O<|R<|zF<|zQ O ?_
   rw [cmpIx,if_pos c1,if_pos c2]
theorem zOx (a b:Ty):
    Pur cfg 372 [vTy a,vTy b] (vI (cmpTy a b)):=by
 refine zS Tryz.func372 O Tryz.ntmps372 Tryz.results372 O ?_
 intro z hz
 refine A O<|zU O O (qN O O) ?_
 rintro _ _ ⟨b1,rfl,rfl⟩
 refine zU O O (qN O O) ?_
 rintro _ _ ⟨b2,rfl,rfl⟩
 refine G O<|R<|zK<|qU 28 mixed (by kernel_rfl) O O<|J O O (zE O zDd O)<|J O O (zJ O one3 O (zD 1 O) O)<|J O O (zE O zDd O)<|J O O (zJ O one3 O (zD 0 O) O)<|J O O (qC O ok369 (wN _ _) ⟨Y,O,Y,O,T⟩)<|J O O (zE O zFe O)<|J O O (zJ O one3 O (zD 1 O) O)<|J O O (zE O zFe O)<|J O O (zJ O one3 O (zD 0 O) O)<|J O O (qC O ok369 (wN _ _) ⟨Y,O,Y,O,T⟩)<|J O O (zE O zFw O)<|J O O (zJ O one3 O (zD 1 O) O)<|J O O (zE O zFw O)<|J O O (zJ O one3 O (zD 0 O) O)<|J O O (qC O ok369 (wN _ _) ⟨Y,O,Y,O,T⟩)<|J O O (zE O zIo O)<|J O O (zJ O one3 O (zD 1 O) O)<|J O O (zE O zIo O)<|J O O (zJ O one3 O (zD 0 O) O)<|J O O (qC O ok369 (wN _ _) ⟨Y,O,Y,O,T⟩)<|J O O (zE O zMf O)<|J O O (zJ O one3 O (zD 1 O) O)<|J O O (zE O zMf O)<|J O O (zJ O one3 O (zD 0 O) O)<|J O O (qC O ok369 (wN _ _) ⟨Y,O,Y,O,T⟩)<|J O O (yK O el55 zr3 O O O O)<|J O O (qC O ok368 (cmp_Or_int [cmpI a.Kind b.Kind,cmpI a.Bits b.Bits,cmpI a.Frac b.Frac,cmpI a.Round b.Round,cmpI a.Over b.Over] (by simp)) ⟨Y,O,T⟩)<|J O O (qV O O)<|yO<|R<|zF<|zQ O ?_
 exact O
theorem zNt (a b:Ex) (ih:∀x,x∈a.Args->∀y,x.wt<=4294967296->y.wt<=4294967296->Pur cfg 352 [vE x,vE y] (vI (cmpE x y))) (ha:a.wt<=4294967296) (hb:b.wt<=4294967296):
    Pur cfg 352 [vE a,vE b] (vI (cmpE a b)):=by
 refine zS Tryz.func352 O Tryz.ntmps352 Tryz.results352 O ?_
 intro z hz
 obtain ⟨hLa,hIa,hAa⟩:=a.parts ha
 obtain ⟨hLb,hIb,hAb⟩:=b.parts hb
 have hwa:=Ex.wt_eq a
 have hwb:=Ex.wt_eq b
 refine A O<|zU O O (qN O O) ?_
 rintro _ _ ⟨b1,rfl,rfl⟩
 refine zU O O (qN O O) ?_
 rintro _ _ ⟨b2,rfl,rfl⟩
 refine G O<|R<|zK<|qU 37 mixed (by kernel_rfl) O O<|J O O (zE O kA O)<|J O O (zJ O one3 O (zD 1 O) O)<|J O O (zE O kA O)<|J O O (zJ O one3 O (zD 0 O) O)<|J O O (qC O ok369 (wN _ _) ⟨Y,O,Y,O,T⟩)<|J O O (zE O zBs O)<|J O O (zJ O one9 O (zD 1 O) O)<|J O O (zE O zBs O)<|J O O (zJ O one9 O (zD 0 O) O)<|J O O (qC O ok370 (strings_Compare _ _) ⟨Y,O,Y,O,T⟩)<|J O O (zE O zDm O)<|J O O (zE O zDa O)<|J O O (zJ O r O (zD 1 O) O)<|J O O (zE O zDm O)<|J O O (zE O zDa O)<|J O O (zJ O r O (zD 0 O) O)<|J O O (qC O ok371 (zIx _ _) ⟨Y,O,Y,O,T⟩)<|J O O (zE O zDm O)<|J O O (zE O zEc O)<|J O O (zJ O r O (zD 1 O) O)<|J O O (zE O zDm O)<|J O O (zE O zEc O)<|J O O (zJ O r O (zD 0 O) O)<|J O O (qC O ok371 (zIx _ _) ⟨Y,O,Y,O,T⟩)<|J O O (zE O zAo O)<|J O O (zV O yI O (zD 1 O) O)<|J O O (zE O zAo O)<|J O O (zV O yI O (zD 0 O) O)<|J O O (qC O ok372 (zOx _ _) ⟨Y,O,Y,O,T⟩)<|J O O (zE O zCs O)<|J O O (zV O kL O (zD 1 O) O)<|J O O (zE O zCs O)<|J O O (zV O kL O (zD 0 O) O)<|J O O (qC O ok373 (zKy a.Lin b.Lin hLa hLb) ⟨Y,O,Y,O,T⟩)<|J O O (yK O el55 zr3 O O O O)<|J O O (qC O ok368 (cmp_Or_int [cmpI a.Op b.Op,cmpS a.Name b.Name,cmpI a.Val.N b.Val.N,cmpI a.Val.D b.Val.D,cmpTy a.Ty b.Ty,cmpLf a.Lin b.Lin] (by simp)) ⟨Y,O,T⟩)<|J O O (qV O O)<|yO<|R<|zK<|A O<|G O<|kP O<|R<|zC O (fun c1=>?_) (fun c1=>?_)
 ·try simp only [sx] at c1
  refine A O<|G O<|G O<|R<|zF<|zQ O ?_
  rw [cmpE_eq,if_neg (show ¬cmpHd a b=0 from c1)];rfl
 ·try simp only [sx] at c1
  refine zI<|zK<|A O<|zH O yV<|zM kF (zD 1 O) O<|zH O yV<|zM kF (zD 0 O) O<|qK O ok374 (zTc a.Idx b.Idx _ cmpIx hIa hIb (fun x hx y hy=>FnPur.of_pur (first:=[]) (cap:=[]) ok375 (zNs x y (by have:=zCz hx;omega) (by have:=zCz hy;omega)))) ⟨Y,O,Y,O,Y,O,T⟩<|G O<|R<|A O<|G O<|kP O<|R<|zC O (fun c2=>?_) (fun c2=>?_)
  ·try simp only [sx] at c2
   refine A O<|G O<|G O<|R<|zF<|zQ O ?_
   rw [cmpE_eq,if_pos (show cmpHd a b=0 from c1),if_neg c2]
  ·try simp only [sx] at c2
   refine zI<|A O<|zH O yY<|zM kU (zD 1 O) O<|zH O yY<|zM kU (zD 0 O) O<|qK O ok376 (zTd a.Args b.Args _ cmpE hAa hAb (fun x hx y hy=>FnPur.of_pur (first:=[]) (cap:=[]) ok352 (ih x hx y (by have:=Ex.arg_wt hx;omega) (by have:=Ex.arg_wt hy;omega)))) ⟨Y,O,Y,O,Y,O,T⟩<|G O<|R<|zF<|zQ O ?_
   rw [cmpE_eq,if_pos (show cmpHd a b=0 from c1),if_pos c2]
theorem expr_Compare (a b:Ex) (ha:a.wt<=4294967296) (hb:b.wt<=4294967296):Pur cfg 352 [vE a,vE b] (vI (cmpE a b)):=by
  induction a using Ex.ind generalizing b with
  |_ a ih=>exact zNt a b (fun x hx y h1 h2=>ih x hx y h1 h2) ha hb
theorem expr_Same (a b:Ex) (ha:a.wt<=4294967296) (hb:b.wt<=4294967296):
    Pur cfg 311 [vE a,vE b] (vB (decide (a=b))):=by
 refine zS Tryz.func311 O Tryz.ntmps311 Tryz.results311 O ?_
 intro z hz
 refine A O<|zU O O (qN O O) ?_
 rintro _ _ ⟨b1,rfl,rfl⟩
 refine zU O O (qN O O) ?_
 rintro _ _ ⟨b2,rfl,rfl⟩
 refine G O<|R<|A O<|zO qX (zD 1 O) O<|zO qX (zD 0 O) O<|qK O ok352 (expr_Compare a b ha hb) ⟨Y,O,Y,O,T⟩<|L O<|G O<|R<|zF<|zQ O ?_
 exact congrArg vB (decide_eq_decide.2 (cmpE_zero a b))
end Go.W
end
section
set_option maxRecDepth 10000
namespace Go.W
open Go Go.Eng Go.Proofs Go.L41 Go.Br
attribute [local irreducible] AWP RWP TD finQ
theorem ok199:callOk Tryz.prog 199=true:=by kernel_rfl
theorem ok200:callOk Tryz.prog 200=true:=by kernel_rfl
theorem expr_sorted (sv:Value) (l:List ByteArray) (hl:l.length<=4294967296):
    Con cfg 137 [.c (.lit sv)] [.vec sv 9 1 (strRows l)] fun r μ'=>∃sv',r=.c (.lit sv')/\μ'=[.vec sv' 9 1 (strRows (thinB (sortB l)))]:=by
 refine zS Tryz.func137 O Tryz.ntmps137 Tryz.results137 O ?_
 intro z hz
 refine A O<|zT O (kE 1 O O)<|R<|A O<|G O<|zT O (zOo [0] O ok199 (sort_con sv l hl) ⟨Y,O,T⟩ O)<|R<|A O<|G O<|zU O O (zOg 0 O O ok200 (thin_con sv (sortB l) (by rw [zQv];exact hl)) ⟨Y,O,T⟩) ?_
 rintro _ _ ⟨sv1,rfl,rfl⟩
 refine G O<|R<|zF<|zQ O ?_
 exact ⟨_,O,O⟩
end Go.W
end
section
set_option maxRecDepth 10000
namespace Go.W
open Go Go.Eng Go.Proofs Go.L41 Go.Br
attribute [local irreducible] AWP RWP TD finQ
theorem zEi (x:Int) (hx:r64 x):
    Pur cfg 278 [vI x] (vUn x.natAbs):=by
 refine zS Tryz.func278 O Tryz.ntmps278 Tryz.results278 O ?_
 intro z hz
 refine A O<|G O<|R<|zK<|A O<|G O<|yJ O<|R<|zC O (fun c1=>?_) (fun c1=>?_)
 ·try simp only [sx] at c1
  refine A O<|G O<|zT O (wK O us2 ik188 O)<|zT O (zGy O O)<|G O<|R<|zF<|zQ O ?_
  exact congrArg (fun n=>V.c (.lit (.int .u64 n))) (magn_neg hx c1)
 ·try simp only [sx] at c1
  refine zI<|A O<|G O<|zT O (wK O us2 ik188 O)<|G O<|R<|zF<|zQ O ?_
  exact congrArg (fun n=>V.c (.lit (.int .u64 n))) (magn_pos hx (by omega))
end Go.W
end
section
set_option maxRecDepth 10000
namespace Go.W
open Go Go.Eng Go.Proofs Go.L41 Go.Br
attribute [local irreducible] AWP RWP TD finQ
end Go.W
end
section
set_option maxRecDepth 10000
namespace Go.W
open Go Go.Eng Go.Proofs Go.L41 Go.Br
attribute [local irreducible] AWP RWP TD finQ
end Go.W
end
section
set_option maxRecDepth 10000
namespace Go.W
open Go Go.Eng Go.Proofs Go.L41 Go.Br
attribute [local irreducible] AWP RWP TD finQ
end Go.W
end
section
set_option maxRecDepth 10000
namespace Go.W
open Go Go.Eng Go.Proofs Go.L41 Go.Br
attribute [local irreducible] AWP RWP TD finQ
theorem ok137:callOk Tryz.prog 137=true:=by kernel_rfl
theorem zId:oneT Tryz.prog 123=true:=by kernel_rfl
theorem sz123:(Tryz.prog.info? 123).map (·.size)=some 1:=by kernel_rfl
theorem zr123:zeroT Tryz.prog 123=some [(Value.slice none 0 0)]:=by kernel_rfl
theorem zIu (e:Ex) (he:e.wt<=1073741824):
    OwnR cfg 89 [vE e] 9 1 (strRows (indexT e)):=by
 refine zS Tryz.func89 O Tryz.ntmps89 Tryz.results89 O ?_
 intro z hz
 refine A O<|zU O O (qN O O) ?_
 rintro _ _ ⟨b1,rfl,rfl⟩
 refine zT O (kE 1 O O)<|R<|A O<|zU O O (yL O zr123) ?_
 rintro _ _ ⟨b2,rfl,rfl⟩
 refine yX _ (wI 9 1)<|R<|zK<|A O<|zO qX (zD 2 O) O<|qK O ok135 (zMg _) ⟨Y,O,T⟩<|R<|zR<|zX _ (Weak.mem [true,true,false] O)<|zTn (ps:=[10]) hz (Value) 2 O O ok196 (zLg e (by omega)) (fun _ _=>O) O (fun pre sv=>True) (fun pre sv=>[E.vec sv 9 1 (strRows (namesA pre)),E.row b2 123 [.lit sv]]) ⟨.slice none 0 0,T,O⟩ ?_ ?_
 ·intro pre x suf sv hxs hi z hz
  show AWP _ _ _ _ _ ⟨_,[E.vec sv 9 1 (strRows (namesA pre)),E.row b2 123 [.lit sv]]++_⟩
  have hlen:=namesP_len (pre:=pre++[x]) (suf:=suf) (by rw [hxs];simp)
  rw [namesA_one,List.length_append] at hlen
  have hxw:x.wt<=e.wt:=zGn e x (by rw [hxs];simp)
  refine zN O<|zU O O (qT [none,none,none,none,none,none,none,none,none,none,some 2,some 4,some 13] O zDx O) ?_
  rintro _ _ ⟨b4,rfl,rfl⟩
  refine rStR 0 zNb O<|R ?_
  intro z hz
  refine zR<|A O<|zO qX (zD 0 O) O<|qK O ok136 (expr_forms _) ⟨Y,O,T⟩<|R<|zR<|zX _ (Weak.mem [false,true,true] O)<|zTn (ps:=[13]) hz (Value) 2 O O ok198 (forms_iter x (by omega)) (fun _ _=>O) O (fun pre2 sw=>True) (fun pre2 sw=>[E.vec sw 9 1 (strRows (namesA pre++pre2.flatMap namesF)),E.row b2 123 [.lit sw]]) ⟨sv,T,(by exact zSd (by simp))⟩ ?_ ?_
  ·intro pre2 l suf2 sw hxl hi2 z hz
   show AWP _ _ _ _ _ ⟨_,[E.vec sw 9 1 (strRows (namesA pre++pre2.flatMap namesF)),E.row b2 123 [.lit sw]]++_⟩
   have hl2:=namesX_len (pre:=pre2++[l]) (suf:=suf2) (by rw [hxl];simp)
   have hfl:(namesF l).length=l.L.length:=by unfold namesF;rw [List.length_map]
   rw [namesF_one,List.length_append] at hl2
   refine zN O<|zU O O (qT [none,some 2] O zKm O) ?_
   rintro _ _ ⟨b5,rfl,rfl⟩
   refine rStR 0 zQt O<|R ?_
   intro z hz
   refine zR<|A O<|zH O kT<|zM zBp (zD 0 O) O<|zZ O el99<|G O<|R<|zR<|zX ⟨[(17,.c _),(3,.c _),(15,.c _),(16,.c _)],[_,_]⟩ (Weak.mk [false,true,true] ⟨Y,Y,Y,Y,T⟩ O)<|qG 1 2 O O (Nat×Value) (fun ⟨k,sy⟩=>[(17,vI k)]) (fun ⟨k,sy⟩=>[E.vec sy 9 1 (strRows (namesA pre++pre2.flatMap namesF++(l.L.take k).map Mono.Name)),E.row b2 123 [.lit sy]]) (fun ⟨k,sy⟩=>k<=l.L.length) (fun ⟨k,sy⟩=>l.L.length-k) ⟨⟨0,_⟩,(by omega),Weak.mk [true,true] ⟨Y,Y,Y,Y,T⟩ (by exact zSd (by simp))⟩ ?_
   rintro ⟨k,sy⟩ hk
   show AWP _ _ _ _ _ ⟨[(17,vI k)]++_,[E.vec sy 9 1 (strRows (namesA pre++pre2.flatMap namesF++(l.L.take k).map Mono.Name)),E.row b2 123 [.lit sy]]++_⟩
   refine A O<|yJ O<|R<|zK<|zC O (fun c1=>?_) (fun c1=>?_)
   ·try simp only [sx] at c1
    obtain ⟨m,hm2⟩:=qY l.L k (by omega)
    refine zI<|zK<|zR<|A O<|qE O el99 (by omega) (getm (by assumption))<|zO zTq qA O<|zU O O (yL O zr98) ?_
    rintro _ _ ⟨b6,rfl,rfl⟩
    refine rStR 0 sz98 O<|R<|zN O<|zM zId (zD 2 O) O<|zH O zEb<|zM one9 (zD 0 O) O<|zT O (yK O zBz zr9 O O O O)<|zU O O (kG 1 O zBz O O O (by have hkk:=List.length_take_le' k l.L;simp only [List.length_map,List.length_append,List.length_cons,List.length_nil];omega) (by have hkk:=List.length_take_le' k l.L;simp only [List.length_map,List.length_append,List.length_cons,List.length_nil];omega)) ?_
    rintro _ _ ⟨sv7,rfl,rfl⟩
    refine rStR 2 sz123 O<|R<|zN O<|qI O ⟨by omega,by omega⟩<|G O<|R ?_
    refine ⟨⟨k+1,_⟩,(by omega),(by show l.L.length-(k+1)<l.L.length-k;omega),Weak.mk [false,true,true] ⟨Y,Y,Y,Y,T⟩ (by exact zSd (by rw [zSb hm2];simp [strRows]))⟩
   ·try simp only [sx] at c1
    refine qP ?_
    exact zCi (τ:=⟨[],_⟩) (Weak.mk [true,true] T O) ⟨_,T,(by exact zSd (by rw [yE (l:=l.L) (by omega),namesF_one,←List.append_assoc];rfl))⟩
  ·intro sw hd2
   exact zCi (τ:=⟨[],_⟩) (Weak.mk [true,true] T O) ⟨_,T,(by exact zSd (by rw [namesA_one];rfl))⟩
 ·intro sv hd
  refine A O<|zM zId (zD 1 O) O<|zU O O (zOg 0 O O ok137 (expr_sorted sv (namesA (nodes e)) (by have:=zJj e;omega)) ⟨Y,O,T⟩) ?_
  rintro _ _ ⟨sv8,rfl,rfl⟩
  refine G O<|R<|zX _ (Weak.mem [true,false] O)<|zF<|zQ O ?_
  exact ⟨_,O,O⟩
end Go.W
end
section
set_option maxRecDepth 10000
namespace Go.W
open Go Go.Eng Go.Proofs Go.L41 Go.Br
attribute [local irreducible] AWP RWP TD finQ
theorem ok203:callOk Tryz.prog 203=true:=by kernel_rfl
theorem ref14_All_step (e:Ex) (ih:∀a,a∈e.Args->a.wt<=2000000->OwnR cfg 203 [vE a] 108 13 ((nodes a).map Ex.cells)) (he:e.wt<=2000000):
    OwnR cfg 203 [vE e] 108 13 ((nodes e).map Ex.cells):=by
 refine zS Tryz.func203 O Tryz.ntmps203 Tryz.results203 O ?_
 intro z hz
 obtain ⟨hL,hI,hA⟩:=e.parts he
 have hn:=nodes_wt e
 refine A O<|zU O O (qN O O) ?_
 rintro _ _ ⟨b1,rfl,rfl⟩
 refine zT O (kE 13 O O)<|R<|A O<|zO qX (zD 0 O) O<|zU O O (zJh O wE zDx O O O O) ?_
 rintro _ _ ⟨sv2,rfl,rfl⟩
 refine G O<|R<|zK<|A O<|G O<|R<|zR<|zX ⟨[(4,.c _),(3,.c _),(1,.c _)],[_,_]⟩ (Weak.mk [true,true] ⟨Y,Y,Y,T⟩ O)<|qG 2 1 O O (Nat×Value) (fun ⟨k,sv⟩=>[(4,vI k),(3,.c (.lit sv))]) (fun ⟨k,sv⟩=>[E.vec sv 108 13 ((e::nodesL (e.Args.take k)).map Ex.cells)]) (fun ⟨k,sv⟩=>k<=e.Args.length) (fun ⟨k,sv⟩=>e.Args.length-k) ⟨⟨0,_⟩,(by omega),Weak.mk [true,true] ⟨Y,Y,Y,T⟩ (by exact zFm (by simp [nodesL,Ex.cells_eq];rfl))⟩ ?_
 rintro ⟨k,sv⟩ hk
 show AWP _ _ _ _ _ ⟨[(4,vI k),(3,.c (.lit sv))]++_,[E.vec sv 108 13 ((e::nodesL (e.Args.take k)).map Ex.cells)]++_⟩
 refine zK<|A O<|G O<|zH O yY<|zM kU (zD 1 O) O<|zZ O wE<|yJ O<|R<|zC O (fun c1=>?_) (fun c1=>?_)
 ·try simp only [sx] at c1
  obtain ⟨x,hx⟩:=qY e.Args k (by omega)
  have hn1:=nodes_take hx
  refine zI<|zK<|zR<|zN O<|G O<|zH O yY<|zM kU (zD 1 O) O<|G O<|qE O wE (by omega) (zBr (by assumption))<|zO qX qA O<|qK O ok203 (OwnR.pur (ih x (zY hx) (by have:=Ex.arg_wt (zY hx);omega))) ⟨Y,O,T⟩<|zU O O (kG 0 O wE O O O (by simp only [List.length_map,List.length_append,List.length_cons,List.length_nil];omega) (by simp only [List.length_map,List.length_append,List.length_cons,List.length_nil];omega)) ?_
  rintro _ _ ⟨sv3,rfl,rfl⟩
  refine G O<|R<|zN O<|G O<|qI O ⟨by omega,by omega⟩<|G O<|R ?_
  refine ⟨⟨k+1,sv3⟩,(by omega),(by show e.Args.length-(k+1)<e.Args.length-k;omega),Weak.mk [true,true] ⟨Y,Y,Y,T⟩ (by exact zFm (by rw [zRy hx,←List.cons_append,List.map_append]))⟩
 ·try simp only [sx] at c1
  refine qP<|A O<|G O<|G O<|R<|zX _ (Weak.mem [true,false] O)<|zF<|zQ O ?_
  exact ⟨_,O,by rw [yE (by omega),←wJ];rfl⟩
theorem ref14_All (e:Ex) (he:e.wt<=2000000):OwnR cfg 203 [vE e] 108 13 ((nodes e).map Ex.cells):=by
  induction e using Ex.ind with
  |_ e ih=>exact ref14_All_step e ih he
end Go.W
end
