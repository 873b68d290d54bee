/-
  Walks: what functions of the program compute. Printed by wip/gen/mk2.py.
  Walks: what functions of the program compute. Printed by wip/gen/mk2.py.
  Walks: what functions of the program compute. Printed by wip/gen/mk2.py.
  Conditions: none.
-/
import Derived.Test.YtkidnhldibjiaaaGreatDoorWK
import Derived.Test.YtkidnhldibjiaaaGreatDoorPlain
import Derived.Test.YtkidnhldibjiaaaGreatDoorEngZ
import Derived.Test.YtkidnhldibjiaaaGreatDoorWP
import Derived.Test.YtkidnhldibjiaaaGreatDoorPlain2
set_option linter.unusedSimpArgs false
set_option linter.unusedVariables false
section
set_option maxRecDepth 10000
namespace Go.W
open Go Go.Eng Go.Proofs Go.L41 Go.Br
attribute [local irreducible] AWP RWP TD finQ
theorem ok146:callOk Tryz.prog 146=true:=by kernel_rfl
theorem ok195:callOk Tryz.prog 195=true:=by kernel_rfl
theorem ok196:callOk Tryz.prog 196=true:=by kernel_rfl
theorem ok197:callOk Tryz.prog 197=true:=by kernel_rfl
theorem ok198:callOk Tryz.prog 198=true:=by kernel_rfl
theorem ok199:callOk Tryz.prog 199=true:=by kernel_rfl
theorem ok200:callOk Tryz.prog 200=true:=by kernel_rfl
theorem ok201:callOk Tryz.prog 201=true:=by kernel_rfl
theorem ok202:callOk Tryz.prog 202=true:=by kernel_rfl
theorem ok203:callOk Tryz.prog 203=true:=by kernel_rfl
theorem ok240:callOk Tryz.prog 240=true:=by kernel_rfl
theorem ok242:callOk Tryz.prog 242=true:=by kernel_rfl
theorem ok243:callOk Tryz.prog 243=true:=by kernel_rfl
theorem ok244:callOk Tryz.prog 244=true:=by kernel_rfl
theorem ok245:callOk Tryz.prog 245=true:=by kernel_rfl
theorem ok246:callOk Tryz.prog 246=true:=by kernel_rfl
theorem ok247:callOk Tryz.prog 247=true:=by kernel_rfl
theorem ok248:callOk Tryz.prog 248=true:=by kernel_rfl
theorem ok285:callOk Tryz.prog 285=true:=by kernel_rfl
theorem zJd (a:Int):
    Pur cfg 240 [vI a] (vB false):=by
 refine zQ Tryz.func240 O Tryz.ntmps240 Tryz.results240 O ?_
 intro z hz
 refine G O<|Y O<|W<|G O<|Y O<|Y O<|yR O<|Y O<|W<|zJ<|zP O ?_
 exact congrArg vB (by simp)
theorem kJ (a b:Int):
    Pur cfg 196 [vI a,vI b] (vI (cmpI a b)):=by
 refine zQ Tryz.func196 O Tryz.ntmps196 Tryz.results196 O ?_
 intro z hz
 refine G O<|Y O<|W<|G O<|Y O<|qL O ok240 (zJd a) ⟨U,O,T⟩<|Y O<|W<|G O<|Y O<|qL O ok240 (zJd b) ⟨U,O,T⟩<|Y O<|W<|zG<|G O<|Y O<|W<|zF O (fun c1=>?_) (fun c1=>?_)
 ·exact absurd c1 (by decide)
 ·refine zI<|zG<|G O<|Y O<|W<|zF O (fun c3=>?_) (fun c3=>?_)
  ·exact absurd c3 (by decide)
  ·refine zI<|zG<|G O<|Y O<|Y O<|qW O<|W<|zF O (fun c4=>?_) (fun c4=>?_)
   ·try simp only [sx] at c4
    refine G O<|Y O<|W<|zJ<|zP O ?_
    rw [cmpI_lt c4]
   ·try simp only [sx] at c4
    refine zI<|zG<|G O<|Y O<|Y O<|zT O (yC O O O)<|W<|zF O (fun c5=>?_) (fun c5=>?_)
    ·try simp only [sx] at c5
     refine G O<|Y O<|W<|zJ<|zP O ?_
     rw [cmpI_gt c5]
    ·try simp only [sx] at c5
     refine zI<|G O<|Y O<|W<|zJ<|zP O ?_
     rw [cmpI_eq (by omega) (by omega)]
theorem zJe (a:Int):
    Pur cfg 242 [vI a] (vB false):=by
 refine zQ Tryz.func242 O Tryz.ntmps242 Tryz.results242 O ?_
 intro z hz
 refine G O<|Y O<|W<|G O<|Y O<|Y O<|yR O<|Y O<|W<|zJ<|zP O ?_
 exact congrArg vB (by simp)
theorem zGb (a b:Int):
    Pur cfg 198 [vI a,vI b] (vI (cmpI a b)):=by
 refine zQ Tryz.func198 O Tryz.ntmps198 Tryz.results198 O ?_
 intro z hz
 refine G O<|Y O<|W<|G O<|Y O<|qL O ok242 (zJe a) ⟨U,O,T⟩<|Y O<|W<|G O<|Y O<|qL O ok242 (zJe b) ⟨U,O,T⟩<|Y O<|W<|zG<|G O<|Y O<|W<|zF O (fun c1=>?_) (fun c1=>?_)
 ·exact absurd c1 (by decide)
 ·refine zI<|zG<|G O<|Y O<|W<|zF O (fun c3=>?_) (fun c3=>?_)
  ·exact absurd c3 (by decide)
  ·refine zI<|zG<|G O<|Y O<|Y O<|qW O<|W<|zF O (fun c4=>?_) (fun c4=>?_)
   ·try simp only [sx] at c4
    refine G O<|Y O<|W<|zJ<|zP O ?_
    rw [cmpI_lt c4]
   ·try simp only [sx] at c4
    refine zI<|zG<|G O<|Y O<|Y O<|zT O (yC O O O)<|W<|zF O (fun c5=>?_) (fun c5=>?_)
    ·try simp only [sx] at c5
     refine G O<|Y O<|W<|zJ<|zP O ?_
     rw [cmpI_gt c5]
    ·try simp only [sx] at c5
     refine zI<|G O<|Y O<|W<|zJ<|zP O ?_
     rw [cmpI_eq (by omega) (by omega)]
theorem cmp_Or_int (l:List Int) (hl:l.length<=4294967296):
    Pur cfg 195 [.c (.sl 1 (l.map fun n=>[cI n]))] (vI (orI l)):=by
 refine zQ Tryz.func195 O Tryz.ntmps195 Tryz.results195 O ?_
 intro z hz
 refine G O<|Y O<|W<|G O<|Y O<|W<|zG<|G O<|Y O<|zU O el214<|Y O<|W<|zN<|zV ⟨[(8,.c _),(3,.c _),(6,.c _),(7,.c _)],[]⟩ (Weak.mk [] ⟨U,U,U,U,T⟩ O)<|zZ 1 0 O O (Nat) (fun k=>[(8,vI k)]) (fun k=>[]) (fun k=>k<=l.length/\(orI l=orI (l.drop k))) (fun k=>l.length-k) ⟨0,⟨by omega,O⟩,Weak.mk [] ⟨U,U,U,U,T⟩ O⟩ ?_
 rintro k ⟨hk,hp⟩
 refine G O<|qW O<|W<|zG<|zF O (fun c1=>?_) (fun c1=>?_)
 ·try simp only [sx] at c1
  obtain ⟨x,hx⟩:=qO l k (by omega)
  refine zI<|zG<|zN<|G O<|zY O el214 (by omega) (getm (by assumption))<|zH one3 qA O<|Y O<|W<|G O<|Y O<|Y O<|yR O<|W<|zF O (fun c2=>?_) (fun c2=>?_)
  ·try simp only [sx] at c2
   refine G O<|Y O<|Y O<|W<|zJ<|zP O ?_
   rw [hp,orI_at hx c2]
  ·try simp only [sx] at c2
   refine zI<|zO O<|qB O ⟨by omega,by omega⟩<|Y O<|W ?_
   refine ⟨k+1,⟨by omega,hp.trans (orI_next hx c2)⟩,(by omega),Weak.mk [] ⟨U,U,U,U,T⟩ O⟩
 ·try simp only [sx] at c1
  refine qF<|G O<|Y O<|Y O<|W<|zJ<|zP O ?_
  rw [hp,yX (by omega)];rfl
theorem zEn (a b:List Mono) (c:C) (f:Mono->Mono->Int) (ha:a.length<=4294967296) (hb:b.length<=4294967296) (hc:∀x,x∈a->∀y,y∈b->FnPur cfg c [vMono x,vMono y] (vI (f x y))):
    Pur cfg 243 [.c (.sl 2 (a.map Mono.cells)),.c (.sl 2 (b.map Mono.cells)),.c c] (vI (cmpL f a b)):=by
 refine zQ Tryz.func243 O Tryz.ntmps243 Tryz.results243 O ?_
 intro z hz
 refine G O<|Y O<|W<|zG<|G O<|Y O<|zU O el38<|Y O<|W<|zN<|zV ⟨[(13,.c _),(0,.c _),(1,.c _),(2,.c _),(11,.c _),(12,.c _)],[]⟩ (Weak.mk [] ⟨U,U,U,U,U,U,T⟩ O)<|zZ 1 0 O O (Nat) (fun k=>[(13,vI k)]) (fun k=>[]) (fun k=>k<=a.length/\(cmpL f a b=cmpL f (a.drop k) (b.drop k))/\(k<=b.length)) (fun k=>a.length-k) ⟨0,⟨by omega,O,by omega⟩,Weak.mk [] ⟨U,U,U,U,U,U,T⟩ O⟩ ?_
 rintro k ⟨hk,hp,hq⟩
 refine G O<|qW O<|W<|zG<|zF O (fun c1=>?_) (fun c1=>?_)
 ·try simp only [sx] at c1
  obtain ⟨x,hx⟩:=qO a k (by omega)
  refine zI<|zG<|zN<|G O<|Y O<|zY O el38 (by omega) (getm (by assumption))<|zL zDh qA O<|zR O O (yA O zId) ?_
  rintro _ _ ⟨b1,rfl,rfl⟩
  refine Y O<|N 0 sz107 O<|W<|zG<|G O<|Y O<|Y O<|zU O el38<|zT O (kP O O O)<|W<|zF O (fun c2=>?_) (fun c2=>?_)
  ·try simp only [sx] at c2
   refine G O<|Y O<|W<|zJ<|zP O ?_
   rw [hp,zMk hx (by omega)]
  ·try simp only [sx] at c2
   obtain ⟨y,hy⟩:=qO b k (by omega)
   refine zI<|G O<|Y O<|Y O<|zY O el38 (by omega) (getm (by assumption))<|zL zDh qA O<|zR O O (yA O zId) ?_
   rintro _ _ ⟨b2,rfl,rfl⟩
   refine N 0 sz107 O<|W<|G O<|Y O<|zL zDh (J 1 O) O<|zL zDh (J 0 O) O<|zT O (kK O O (hc _ (zX hx) _ (zX hy)) ⟨U,O,U,O,T⟩)<|Y O<|W<|G O<|Y O<|yR O<|W<|zF O (fun c3=>?_) (fun c3=>?_)
   ·try simp only [sx] at c3
    refine G O<|Y O<|Y O<|W<|zJ<|zP O ?_
    rw [hp,cmpL_ne hx hy c3]
   ·try simp only [sx] at c3
    refine zI<|zO O<|qB O ⟨by omega,by omega⟩<|Y O<|W ?_
    refine ⟨k+1,⟨by omega,hp.trans (zJg hx hy c3),by omega⟩,(by omega),Weak.mk [false,false] ⟨U,U,U,U,U,U,T⟩ O⟩
 ·try simp only [sx] at c1
  refine qF<|zG<|G O<|Y O<|zU O el38<|Y O<|zU O el38<|qW O<|W<|zF O (fun c4=>?_) (fun c4=>?_)
  ·try simp only [sx] at c4
   refine G O<|Y O<|W<|zJ<|zP O ?_
   rw [hp,zJh (by omega) (by omega)]
  ·try simp only [sx] at c4
   refine zI<|G O<|Y O<|W<|zJ<|zP O ?_
   rw [hp,zMl (by omega) (by omega)]
theorem zFm (a b:List Ix) (c:C) (f:Ix->Ix->Int) (ha:a.length<=4294967296) (hb:b.length<=4294967296) (hc:∀x,x∈a->∀y,y∈b->FnPur cfg c [vIndex x,vIndex y] (vI (f x y))):
    Pur cfg 246 [.c (.sl 4 (a.map Ix.cells)),.c (.sl 4 (b.map Ix.cells)),.c c] (vI (cmpL f a b)):=by
 refine zQ Tryz.func246 O Tryz.ntmps246 Tryz.results246 O ?_
 intro z hz
 refine G O<|Y O<|W<|zG<|G O<|Y O<|zU O D<|Y O<|W<|zN<|zV ⟨[(13,.c _),(0,.c _),(1,.c _),(2,.c _),(11,.c _),(12,.c _)],[]⟩ (Weak.mk [] ⟨U,U,U,U,U,U,T⟩ O)<|zZ 1 0 O O (Nat) (fun k=>[(13,vI k)]) (fun k=>[]) (fun k=>k<=a.length/\(cmpL f a b=cmpL f (a.drop k) (b.drop k))/\(k<=b.length)) (fun k=>a.length-k) ⟨0,⟨by omega,O,by omega⟩,Weak.mk [] ⟨U,U,U,U,U,U,T⟩ O⟩ ?_
 rintro k ⟨hk,hp,hq⟩
 refine G O<|qW O<|W<|zG<|zF O (fun c1=>?_) (fun c1=>?_)
 ·try simp only [sx] at c1
  obtain ⟨x,hx⟩:=qO a k (by omega)
  refine zI<|zG<|zN<|G O<|Y O<|zY O D (by omega) (getm (by assumption))<|zL zAp qA O<|zR O O (qC [none,some 2,none,some 2] O zDi O) ?_
  rintro _ _ ⟨b1,rfl,rfl⟩
  refine Y O<|N 0 zMx O<|W<|zG<|G O<|Y O<|Y O<|zU O D<|zT O (kP O O O)<|W<|zF O (fun c2=>?_) (fun c2=>?_)
  ·try simp only [sx] at c2
   refine G O<|Y O<|W<|zJ<|zP O ?_
   rw [hp,zMk hx (by omega)]
  ·try simp only [sx] at c2
   obtain ⟨y,hy⟩:=qO b k (by omega)
   refine zI<|G O<|Y O<|Y O<|zY O D (by omega) (getm (by assumption))<|zL zAp qA O<|zR O O (qC [none,some 2,none,some 2] O zDi O) ?_
   rintro _ _ ⟨b2,rfl,rfl⟩
   refine N 0 zMx O<|W<|G O<|Y O<|zL zAp (J 1 O) O<|zL zAp (J 0 O) O<|zT O (kK O O (hc _ (zX hx) _ (zX hy)) ⟨U,O,U,O,T⟩)<|Y O<|W<|G O<|Y O<|yR O<|W<|zF O (fun c3=>?_) (fun c3=>?_)
   ·try simp only [sx] at c3
    refine G O<|Y O<|Y O<|W<|zJ<|zP O ?_
    rw [hp,cmpL_ne hx hy c3]
   ·try simp only [sx] at c3
    refine zI<|zO O<|qB O ⟨by omega,by omega⟩<|Y O<|W ?_
    refine ⟨k+1,⟨by omega,hp.trans (zJg hx hy c3),by omega⟩,(by omega),Weak.mk [false,false] ⟨U,U,U,U,U,U,T⟩ O⟩
 ·try simp only [sx] at c1
  refine qF<|zG<|G O<|Y O<|zU O D<|Y O<|zU O D<|qW O<|W<|zF O (fun c4=>?_) (fun c4=>?_)
  ·try simp only [sx] at c4
   refine G O<|Y O<|W<|zJ<|zP O ?_
   rw [hp,zJh (by omega) (by omega)]
  ·try simp only [sx] at c4
   refine zI<|G O<|Y O<|W<|zJ<|zP O ?_
   rw [hp,zMl (by omega) (by omega)]
theorem zFl (a b:List Lf) (c:C) (f:Lf->Lf->Int) (ha:a.length<=4294967296) (hb:b.length<=4294967296) (hc:∀x,x∈a->∀y,y∈b->FnPur cfg c [vLin x,vLin y] (vI (f x y))):
    Pur cfg 285 [.c (.sl 2 (a.map Lf.cells)),.c (.sl 2 (b.map Lf.cells)),.c c] (vI (cmpL f a b)):=by
 refine zQ Tryz.func285 O Tryz.ntmps285 Tryz.results285 O ?_
 intro z hz
 refine G O<|Y O<|W<|zG<|G O<|Y O<|zU O el65<|Y O<|W<|zN<|zV ⟨[(13,.c _),(0,.c _),(1,.c _),(2,.c _),(11,.c _),(12,.c _)],[]⟩ (Weak.mk [] ⟨U,U,U,U,U,U,T⟩ O)<|zZ 1 0 O O (Nat) (fun k=>[(13,vI k)]) (fun k=>[]) (fun k=>k<=a.length/\(cmpL f a b=cmpL f (a.drop k) (b.drop k))/\(k<=b.length)) (fun k=>a.length-k) ⟨0,⟨by omega,O,by omega⟩,Weak.mk [] ⟨U,U,U,U,U,U,T⟩ O⟩ ?_
 rintro k ⟨hk,hp,hq⟩
 refine G O<|qW O<|W<|zG<|zF O (fun c1=>?_) (fun c1=>?_)
 ·try simp only [sx] at c1
  obtain ⟨x,hx⟩:=qO a k (by omega)
  refine zI<|zG<|zN<|G O<|Y O<|zY O el65 (by omega) (getm (by assumption))<|zL kE qA O<|zR O O (qC [none,some 2] O zr40 O) ?_
  rintro _ _ ⟨b1,rfl,rfl⟩
  refine Y O<|N 0 sz40 O<|W<|zG<|G O<|Y O<|Y O<|zU O el65<|zT O (kP O O O)<|W<|zF O (fun c2=>?_) (fun c2=>?_)
  ·try simp only [sx] at c2
   refine G O<|Y O<|W<|zJ<|zP O ?_
   rw [hp,zMk hx (by omega)]
  ·try simp only [sx] at c2
   obtain ⟨y,hy⟩:=qO b k (by omega)
   refine zI<|G O<|Y O<|Y O<|zY O el65 (by omega) (getm (by assumption))<|zL kE qA O<|zR O O (qC [none,some 2] O zr40 O) ?_
   rintro _ _ ⟨b2,rfl,rfl⟩
   refine N 0 sz40 O<|W<|G O<|Y O<|zL kE (J 1 O) O<|zL kE (J 0 O) O<|zT O (kK O O (hc _ (zX hx) _ (zX hy)) ⟨U,O,U,O,T⟩)<|Y O<|W<|G O<|Y O<|yR O<|W<|zF O (fun c3=>?_) (fun c3=>?_)
   ·try simp only [sx] at c3
    refine G O<|Y O<|Y O<|W<|zJ<|zP O ?_
    rw [hp,cmpL_ne hx hy c3]
   ·try simp only [sx] at c3
    refine zI<|zO O<|qB O ⟨by omega,by omega⟩<|Y O<|W ?_
    refine ⟨k+1,⟨by omega,hp.trans (zJg hx hy c3),by omega⟩,(by omega),Weak.mk [false,false] ⟨U,U,U,U,U,U,T⟩ O⟩
 ·try simp only [sx] at c1
  refine qF<|zG<|G O<|Y O<|zU O el65<|Y O<|zU O el65<|qW O<|W<|zF O (fun c4=>?_) (fun c4=>?_)
  ·try simp only [sx] at c4
   refine G O<|Y O<|W<|zJ<|zP O ?_
   rw [hp,zJh (by omega) (by omega)]
  ·try simp only [sx] at c4
   refine zI<|G O<|Y O<|W<|zJ<|zP O ?_
   rw [hp,zMl (by omega) (by omega)]
theorem zFn (a b:List Ex) (c:C) (f:Ex->Ex->Int) (ha:a.length<=4294967296) (hb:b.length<=4294967296) (hc:∀x,x∈a->∀y,y∈b->FnPur cfg c [vE x,vE y] (vI (f x y))):
    Pur cfg 248 [.c (.sl 13 (a.map Ex.cells)),.c (.sl 13 (b.map Ex.cells)),.c c] (vI (cmpL f a b)):=by
 refine zQ Tryz.func248 O Tryz.ntmps248 Tryz.results248 O ?_
 intro z hz
 refine G O<|Y O<|W<|zG<|G O<|Y O<|zU O el42<|Y O<|W<|zN<|zV ⟨[(13,.c _),(0,.c _),(1,.c _),(2,.c _),(11,.c _),(12,.c _)],[]⟩ (Weak.mk [] ⟨U,U,U,U,U,U,T⟩ O)<|zZ 1 0 O O (Nat) (fun k=>[(13,vI k)]) (fun k=>[]) (fun k=>k<=a.length/\(cmpL f a b=cmpL f (a.drop k) (b.drop k))/\(k<=b.length)) (fun k=>a.length-k) ⟨0,⟨by omega,O,by omega⟩,Weak.mk [] ⟨U,U,U,U,U,U,T⟩ O⟩ ?_
 rintro k ⟨hk,hp,hq⟩
 refine G O<|qW O<|W<|zG<|zF O (fun c1=>?_) (fun c1=>?_)
 ·try simp only [sx] at c1
  obtain ⟨x,hx⟩:=qO a k (by omega)
  refine zI<|zG<|zN<|G O<|Y O<|zY O el42 (by omega) (zDt (by assumption))<|zL qY qA O<|zR O O (qC [none,none,none,none,none,none,none,none,none,none,some 2,some 4,some 13] O zr44 O) ?_
  rintro _ _ ⟨b1,rfl,rfl⟩
  refine Y O<|N 0 sz44 O<|W<|zG<|G O<|Y O<|Y O<|zU O el42<|zT O (kP O O O)<|W<|zF O (fun c2=>?_) (fun c2=>?_)
  ·try simp only [sx] at c2
   refine G O<|Y O<|W<|zJ<|zP O ?_
   rw [hp,zMk hx (by omega)]
  ·try simp only [sx] at c2
   obtain ⟨y,hy⟩:=qO b k (by omega)
   refine zI<|G O<|Y O<|Y O<|zY O el42 (by omega) (zDt (by assumption))<|zL qY qA O<|zR O O (qC [none,none,none,none,none,none,none,none,none,none,some 2,some 4,some 13] O zr44 O) ?_
   rintro _ _ ⟨b2,rfl,rfl⟩
   refine N 0 sz44 O<|W<|G O<|Y O<|zL qY (J 1 O) O<|zL qY (J 0 O) O<|zT O (kK O O (hc _ (zX hx) _ (zX hy)) ⟨U,O,U,O,T⟩)<|Y O<|W<|G O<|Y O<|yR O<|W<|zF O (fun c3=>?_) (fun c3=>?_)
   ·try simp only [sx] at c3
    refine G O<|Y O<|Y O<|W<|zJ<|zP O ?_
    rw [hp,cmpL_ne hx hy c3]
   ·try simp only [sx] at c3
    refine zI<|zO O<|qB O ⟨by omega,by omega⟩<|Y O<|W ?_
    refine ⟨k+1,⟨by omega,hp.trans (zJg hx hy c3),by omega⟩,(by omega),Weak.mk [false,false] ⟨U,U,U,U,U,U,T⟩ O⟩
 ·try simp only [sx] at c1
  refine qF<|zG<|G O<|Y O<|zU O el42<|Y O<|zU O el42<|qW O<|W<|zF O (fun c4=>?_) (fun c4=>?_)
  ·try simp only [sx] at c4
   refine G O<|Y O<|W<|zJ<|zP O ?_
   rw [hp,zJh (by omega) (by omega)]
  ·try simp only [sx] at c4
   refine zI<|G O<|Y O<|W<|zJ<|zP O ?_
   rw [hp,zMl (by omega) (by omega)]
theorem zPc (a b:List Ix) (c:C) (f:Ix->Ix->Int) (ha:a.length<=4294967296) (hb:b.length<=4294967296) (hc:∀x,x∈a->∀y,y∈b->FnPur cfg c [vIndex x,vIndex y] (vI (f x y))):
    Pur cfg 201 [.c (.sl 4 (a.map Ix.cells)),.c (.sl 4 (b.map Ix.cells)),.c c] (vI (cmpLs f a b)):=by
 refine zQ Tryz.func201 O Tryz.ntmps201 Tryz.results201 O ?_
 intro z hz
 refine G O<|Y O<|W<|zG<|G O<|Y O<|zU O D<|Y O<|zU O D<|qL O ok196 (kJ _ _) ⟨U,O,U,O,T⟩<|Y O<|W<|G O<|Y O<|yR O<|W<|zF O (fun c1=>?_) (fun c1=>?_)
 ·try simp only [sx] at c1
  refine G O<|Y O<|Y O<|W<|zJ<|zP O ?_
  rw [cmpLs,if_neg c1]
 ·try simp only [sx] at c1
  refine zI<|G O<|Y O<|Y O<|Y O<|qL O ok246 (zFm a b c f ha hb hc) ⟨U,O,U,O,U,O,T⟩<|Y O<|W<|zJ<|zP O ?_
  rw [cmpLs,if_pos c1]
theorem zPb (a b:List Lf) (c:C) (f:Lf->Lf->Int) (ha:a.length<=4294967296) (hb:b.length<=4294967296) (hc:∀x,x∈a->∀y,y∈b->FnPur cfg c [vLin x,vLin y] (vI (f x y))):
    Pur cfg 247 [.c (.sl 2 (a.map Lf.cells)),.c (.sl 2 (b.map Lf.cells)),.c c] (vI (cmpLs f a b)):=by
 refine zQ Tryz.func247 O Tryz.ntmps247 Tryz.results247 O ?_
 intro z hz
 refine G O<|Y O<|W<|zG<|G O<|Y O<|zU O el65<|Y O<|zU O el65<|qL O ok196 (kJ _ _) ⟨U,O,U,O,T⟩<|Y O<|W<|G O<|Y O<|yR O<|W<|zF O (fun c1=>?_) (fun c1=>?_)
 ·try simp only [sx] at c1
  refine G O<|Y O<|Y O<|W<|zJ<|zP O ?_
  rw [cmpLs,if_neg c1]
 ·try simp only [sx] at c1
  refine zI<|G O<|Y O<|Y O<|Y O<|qL O ok285 (zFl a b c f ha hb hc) ⟨U,O,U,O,U,O,T⟩<|Y O<|W<|zJ<|zP O ?_
  rw [cmpLs,if_pos c1]
theorem zPd (a b:List Ex) (c:C) (f:Ex->Ex->Int) (ha:a.length<=4294967296) (hb:b.length<=4294967296) (hc:∀x,x∈a->∀y,y∈b->FnPur cfg c [vE x,vE y] (vI (f x y))):
    Pur cfg 203 [.c (.sl 13 (a.map Ex.cells)),.c (.sl 13 (b.map Ex.cells)),.c c] (vI (cmpLs f a b)):=by
 refine zQ Tryz.func203 O Tryz.ntmps203 Tryz.results203 O ?_
 intro z hz
 refine G O<|Y O<|W<|zG<|G O<|Y O<|zU O el42<|Y O<|zU O el42<|qL O ok196 (kJ _ _) ⟨U,O,U,O,T⟩<|Y O<|W<|G O<|Y O<|yR O<|W<|zF O (fun c1=>?_) (fun c1=>?_)
 ·try simp only [sx] at c1
  refine G O<|Y O<|Y O<|W<|zJ<|zP O ?_
  rw [cmpLs,if_neg c1]
 ·try simp only [sx] at c1
  refine zI<|G O<|Y O<|Y O<|Y O<|qL O ok248 (zFn a b c f ha hb hc) ⟨U,O,U,O,U,O,T⟩<|Y O<|W<|zJ<|zP O ?_
  rw [cmpLs,if_pos c1]
theorem lin_order (a b:Int):
    Pur cfg 245 [vI a,vI b] (vI (cmpI a b)):=by
 refine zQ Tryz.func245 O Tryz.ntmps245 Tryz.results245 O ?_
 intro z hz
 refine G O<|Y O<|W<|zG<|zN<|G O<|Y O<|Y O<|qW O<|Y O<|W<|zF O (fun c1=>?_) (fun c1=>?_)
 ·try simp only [sx] at c1
  refine G O<|Y O<|W<|zJ<|zP O ?_
  rw [cmpI_lt c1]
 ·try simp only [sx] at c1
  refine G O<|Y O<|Y O<|zT O (yC O O O)<|Y O<|W<|zF O (fun c2=>?_) (fun c2=>?_)
  ·try simp only [sx] at c2
   refine G O<|Y O<|W<|zJ<|zP O ?_
   rw [cmpI_gt c2]
  ·try simp only [sx] at c2
   refine zI<|G O<|Y O<|W<|zJ<|zP O ?_
   rw [cmpI_eq (by omega) (by omega)]
theorem lin_Compare_1 (x y:Mono):
    Pur cfg 244 [vMono x,vMono y] (vI (cmpM x y)):=by
 refine zQ Tryz.func244 O Tryz.ntmps244 Tryz.results244 O ?_
 intro z hz
 refine G O<|zR O O (qG O O) ?_
 rintro _ _ ⟨b1,rfl,rfl⟩
 refine zR O O (qG O O) ?_
 rintro _ _ ⟨b2,rfl,rfl⟩
 refine Y O<|W<|zG<|G O<|zE O zAi<|zH one9 (J 1 O) O<|zE O zAi<|zH one9 (J 0 O) O<|zT O (zDp O O O)<|W<|zF O (fun c1=>?_) (fun c1=>?_)
 ·try simp only [sx] at c1
  refine G O<|zE O zAi<|zH one9 (J 1 O) O<|zE O zAi<|zH one9 (J 0 O) O<|qL O ok197 (strings_Compare _ _) ⟨U,O,U,O,T⟩<|Y O<|W<|zJ<|zP O ?_
  rw [cmpM,if_neg c1]
 ·try simp only [sx] at c1
  refine zI<|G O<|zE O fd107_1<|zH one2 (J 1 O) O<|zE O fd107_1<|zH one2 (J 0 O) O<|qL O ok245 (lin_order _ _) ⟨U,O,U,O,T⟩<|Y O<|W<|zJ<|zP O ?_
  rw [cmpM,if_pos c1]
theorem zHv (a b:Lf) (ha:a.L.length<=4294967296) (hb:b.L.length<=4294967296):
    Pur cfg 200 [vLin a,vLin b] (vI (cmpLf a b)):=by
 refine zQ Tryz.func200 O Tryz.ntmps200 Tryz.results200 O ?_
 intro z hz
 refine G O<|zR O O (qG O O) ?_
 rintro _ _ ⟨b1,rfl,rfl⟩
 refine zR O O (qG O O) ?_
 rintro _ _ ⟨b2,rfl,rfl⟩
 refine Y O<|W<|G O<|zE O kQ<|zH zAk (J 1 O) O<|zE O kQ<|zH zAk (J 0 O) O<|qL O ok243 (zEn a.L b.L _ cmpM ha hb (fun x _ y _=>FnPur.of_pur (first:=[]) (cap:=[]) ok244 (lin_Compare_1 x y))) ⟨U,O,U,O,U,O,T⟩<|Y O<|W<|zG<|G O<|Y O<|yR O<|W<|zF O (fun c1=>?_) (fun c1=>?_)
 ·try simp only [sx] at c1
  refine G O<|Y O<|Y O<|W<|zJ<|zP O ?_
  rw [cmpLf,if_neg c1]
 ·try simp only [sx] at c1
  refine zI<|G O<|zE O zFf<|zH one2 (J 1 O) O<|zE O zFf<|zH one2 (J 0 O) O<|qL O ok245 (lin_order _ _) ⟨U,O,U,O,T⟩<|Y O<|W<|zJ<|zP O ?_
  rw [cmpLf,if_pos c1]
theorem zKs (a b:Ix) (ha:a.wt<=4294967296) (hb:b.wt<=4294967296):
    Pur cfg 202 [vIndex a,vIndex b] (vI (cmpIx a b)):=by
 refine zQ Tryz.func202 O Tryz.ntmps202 Tryz.results202 O ?_
 intro z hz
 have hwa:=ha
 have hwb:=hb
 unfold Ix.wt at hwa hwb
 refine G O<|zR O O (qG O O) ?_
 rintro _ _ ⟨b1,rfl,rfl⟩
 refine zR O O (qG O O) ?_
 rintro _ _ ⟨b2,rfl,rfl⟩
 refine Y O<|W<|zG<|G O<|zE O wT<|zH one9 (J 1 O) O<|zE O wT<|zH one9 (J 0 O) O<|qL O ok197 (strings_Compare _ _) ⟨U,O,U,O,T⟩<|Y O<|W<|G O<|Y O<|yR O<|W<|zF O (fun c1=>?_) (fun c1=>?_)
 ·try simp only [sx] at c1
  refine G O<|Y O<|Y O<|W<|zJ<|zP O ?_
  rw [cmpIx,if_neg c1]
 ·try simp only [sx] at c1
  refine zI<|zG<|G O<|zE O zBb<|zL kE (J 1 O) O<|zE O zBb<|zL kE (J 0 O) O<|qL O ok200 (zHv a.Lin b.Lin (by omega) (by omega)) ⟨U,O,U,O,T⟩<|Y O<|W<|G O<|Y O<|yR O<|W<|zF O (fun c2=>?_) (fun c2=>?_)
  ·try simp only [sx] at c2
   refine G O<|Y O<|Y O<|W<|zJ<|zP O ?_
   rw [cmpIx,if_pos c1,if_neg c2]
  ·try simp only [sx] at c2
   refine zI<|G O<|zE O kV<|zH zAr (J 1 O) O<|zE O kV<|zH zAr (J 0 O) O<|qL O ok247 (zPb a.At b.At _ cmpLf (by omega) (by omega) (fun x hx y hy=>FnPur.of_pur (first:=[]) (cap:=[]) ok200 (zHv x y (by have:=zBg hx;omega) (by have:=zBg hy;omega)))) ⟨U,O,U,O,U,O,T⟩<|Y O<|W<|zJ<|zP O ?_
   rw [cmpIx,if_pos c1,if_pos c2]
theorem zLu (a b:Ty):
    Pur cfg 199 [vTy a,vTy b] (vI (cmpTy a b)):=by
 refine zQ Tryz.func199 O Tryz.ntmps199 Tryz.results199 O ?_
 intro z hz
 refine G O<|zR O O (qG O O) ?_
 rintro _ _ ⟨b1,rfl,rfl⟩
 refine zR O O (qG O O) ?_
 rintro _ _ ⟨b2,rfl,rfl⟩
 refine Y O<|W<|zG<|qX 28 mixed (by kernel_rfl) O O<|zM O O (zD O zEh O)<|zM O O (zK O one3 O (J 1 O) O)<|zM O O (zD O zEh O)<|zM O O (zK O one3 O (J 0 O) O)<|zM O O (qI O ok196 (kJ _ _) ⟨U,O,U,O,T⟩)<|zM O O (zD O zHh O)<|zM O O (zK O one3 O (J 1 O) O)<|zM O O (zD O zHh O)<|zM O O (zK O one3 O (J 0 O) O)<|zM O O (qI O ok196 (kJ _ _) ⟨U,O,U,O,T⟩)<|zM O O (zD O zOn O)<|zM O O (zK O one3 O (J 1 O) O)<|zM O O (zD O zOn O)<|zM O O (zK O one3 O (J 0 O) O)<|zM O O (qI O ok196 (kJ _ _) ⟨U,O,U,O,T⟩)<|zM O O (zD O zOm O)<|zM O O (zK O one3 O (J 1 O) O)<|zM O O (zD O zOm O)<|zM O O (zK O one3 O (J 0 O) O)<|zM O O (qI O ok196 (kJ _ _) ⟨U,O,U,O,T⟩)<|zM O O (zD O zOl O)<|zM O O (zK O one3 O (J 1 O) O)<|zM O O (zD O zOl O)<|zM O O (zK O one3 O (J 0 O) O)<|zM O O (qI O ok196 (kJ _ _) ⟨U,O,U,O,T⟩)<|zM O O (wJ O el214 zr3 O O O O)<|zM O O (qI O ok195 (cmp_Or_int [cmpI a.Kind b.Kind,cmpI a.Bits b.Bits,cmpI a.Frac b.Frac,cmpI a.Round b.Round,cmpI a.Over b.Over] (by simp)) ⟨U,O,T⟩)<|zM O O (yV O O)<|yW<|W<|zJ<|zP O ?_
 exact O
theorem zKt (a b:Ex) (ih:∀x,x∈a.Args->∀y,x.wt<=4294967296->y.wt<=4294967296->Pur cfg 146 [vE x,vE y] (vI (cmpE x y))) (ha:a.wt<=4294967296) (hb:b.wt<=4294967296):
    Pur cfg 146 [vE a,vE b] (vI (cmpE a b)):=by
 refine zQ Tryz.func146 O Tryz.ntmps146 Tryz.results146 O ?_
 intro z hz
 obtain ⟨hLa,hIa,hAa⟩:=a.parts ha
 obtain ⟨hLb,hIb,hAb⟩:=b.parts hb
 have hwa:=Ex.wt_eq a
 have hwb:=Ex.wt_eq b
 refine G O<|zR O O (qG O O) ?_
 rintro _ _ ⟨b1,rfl,rfl⟩
 refine zR O O (qG O O) ?_
 rintro _ _ ⟨b2,rfl,rfl⟩
 refine Y O<|W<|zG<|qX 37 mixed (by kernel_rfl) O O<|zM O O (zD O kA O)<|zM O O (zK O one3 O (J 1 O) O)<|zM O O (zD O kA O)<|zM O O (zK O one3 O (J 0 O) O)<|zM O O (qI O ok196 (kJ _ _) ⟨U,O,U,O,T⟩)<|zM O O (zD O zFe O)<|zM O O (zK O one9 O (J 1 O) O)<|zM O O (zD O zFe O)<|zM O O (zK O one9 O (J 0 O) O)<|zM O O (qI O ok197 (strings_Compare _ _) ⟨U,O,U,O,T⟩)<|zM O O (zD O zHg O)<|zM O O (zD O zEi O)<|zM O O (zK O one2 O (J 1 O) O)<|zM O O (zD O zHg O)<|zM O O (zD O zEi O)<|zM O O (zK O one2 O (J 0 O) O)<|zM O O (qI O ok198 (zGb _ _) ⟨U,O,U,O,T⟩)<|zM O O (zD O zHg O)<|zM O O (zD O zFg O)<|zM O O (zK O one2 O (J 1 O) O)<|zM O O (zD O zHg O)<|zM O O (zD O zFg O)<|zM O O (zK O one2 O (J 0 O) O)<|zM O O (qI O ok198 (zGb _ _) ⟨U,O,U,O,T⟩)<|zM O O (zD O zEg O)<|zM O O (zW O yB O (J 1 O) O)<|zM O O (zD O zEg O)<|zM O O (zW O yB O (J 0 O) O)<|zM O O (qI O ok199 (zLu _ _) ⟨U,O,U,O,T⟩)<|zM O O (zD O zCp O)<|zM O O (zW O kE O (J 1 O) O)<|zM O O (zD O zCp O)<|zM O O (zW O kE O (J 0 O) O)<|zM O O (qI O ok200 (zHv a.Lin b.Lin hLa hLb) ⟨U,O,U,O,T⟩)<|zM O O (wJ O el214 zr3 O O O O)<|zM O O (qI O ok195 (cmp_Or_int [cmpI a.Op b.Op,cmpS a.Name b.Name,cmpI a.Val.N b.Val.N,cmpI a.Val.D b.Val.D,cmpTy a.Ty b.Ty,cmpLf a.Lin b.Lin] (by simp)) ⟨U,O,T⟩)<|zM O O (yV O O)<|yW<|W<|zG<|G O<|Y O<|yR O<|W<|zF O (fun c1=>?_) (fun c1=>?_)
 ·try simp only [sx] at c1
  refine G O<|Y O<|Y O<|W<|zJ<|zP O ?_
  rw [cmpE_eq,if_neg (show ¬cmpHd a b=0 from c1)];rfl
 ·try simp only [sx] at c1
  refine zI<|zG<|G O<|zE O yZ<|zH wO (J 1 O) O<|zE O yZ<|zH wO (J 0 O) O<|qL O ok201 (zPc a.Idx b.Idx _ cmpIx hIa hIb (fun x hx y hy=>FnPur.of_pur (first:=[]) (cap:=[]) ok202 (zKs x y (by have:=zEf hx;omega) (by have:=zEf hy;omega)))) ⟨U,O,U,O,U,O,T⟩<|Y O<|W<|G O<|Y O<|yR O<|W<|zF O (fun c2=>?_) (fun c2=>?_)
  ·try simp only [sx] at c2
   refine G O<|Y O<|Y O<|W<|zJ<|zP O ?_
   rw [cmpE_eq,if_pos (show cmpHd a b=0 from c1),if_neg c2]
  ·try simp only [sx] at c2
   refine zI<|G O<|zE O kI<|zH zAf (J 1 O) O<|zE O kI<|zH zAf (J 0 O) O<|qL O ok203 (zPd a.Args b.Args _ cmpE hAa hAb (fun x hx y hy=>FnPur.of_pur (first:=[]) (cap:=[]) ok146 (ih x hx y (by have:=Ex.arg_wt hx;omega) (by have:=Ex.arg_wt hy;omega)))) ⟨U,O,U,O,U,O,T⟩<|Y O<|W<|zJ<|zP O ?_
   rw [cmpE_eq,if_pos (show cmpHd a b=0 from c1),if_pos c2]
theorem expr_Compare (a b:Ex) (ha:a.wt<=4294967296) (hb:b.wt<=4294967296):Pur cfg 146 [vE a,vE b] (vI (cmpE a b)):=by
  induction a using Ex.ind generalizing b with
  |_ a ih=>exact zKt a b (fun x hx y h1 h2=>ih x hx y h1 h2) ha hb
theorem zOs (a b:Ex) (ha:a.wt<=4294967296) (hb:b.wt<=4294967296):
    Pur cfg 76 [vE a,vE b] (vB (decide (a=b))):=by
 refine zQ Tryz.func76 O Tryz.ntmps76 Tryz.results76 O ?_
 intro z hz
 refine G O<|zR O O (qG O O) ?_
 rintro _ _ ⟨b1,rfl,rfl⟩
 refine zR O O (qG O O) ?_
 rintro _ _ ⟨b2,rfl,rfl⟩
 refine Y O<|W<|G O<|zL qY (J 1 O) O<|zL qY (J 0 O) O<|qL O ok146 (expr_Compare a b ha hb) ⟨U,O,U,O,T⟩<|yD O<|Y O<|W<|zJ<|zP O ?_
 exact congrArg vB (decide_eq_decide.2 (cmpE_zero a b))
end Go.W
end
section
set_option maxRecDepth 10000
namespace Go.W
open Go Go.Eng Go.Proofs Go.L41 Go.Br
attribute [local irreducible] AWP RWP TD finQ
theorem fd101_1:fieldT Tryz.prog 101 1=some (2,4):=by kernel_rfl
theorem one4:oneT Tryz.prog 4=true:=by kernel_rfl
end Go.W
end
section
set_option maxRecDepth 10000
namespace Go.W
open Go Go.Eng Go.Proofs Go.L41 Go.Br
attribute [local irreducible] AWP RWP TD finQ
theorem ok238:callOk Tryz.prog 238=true:=by kernel_rfl
theorem ok239:callOk Tryz.prog 239=true:=by kernel_rfl
theorem expr_sorted (sv:Value) (l:List ByteArray) (hl:l.length<=4294967296):
    Con cfg 194 [.c (.lit sv)] [.vec sv 9 1 (strRows l)] fun r μ'=>∃sv',r=.c (.lit sv')/\μ'=[.vec sv' 9 1 (strRows (thinB (sortB l)))]:=by
 refine zQ Tryz.func194 O Tryz.ntmps194 Tryz.results194 O ?_
 intro z hz
 refine G O<|zT O (yL 1 O O)<|W<|G O<|Y O<|zT O (yN [0] O ok238 (sort_con sv l hl) ⟨U,O,T⟩ O)<|W<|G O<|Y O<|zR O O (zLf 0 O O ok239 (thin_con sv (sortB l) (by rw [sortB_len];exact hl)) ⟨U,O,T⟩) ?_
 rintro _ _ ⟨sv1,rfl,rfl⟩
 refine Y O<|W<|zJ<|zP O ?_
 exact ⟨_,O,O⟩
end Go.W
end
