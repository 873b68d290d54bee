/-
  Walks: what functions of the program compute. Printed by wip/gen/mk2.py.
  Walks: what functions of the program compute. Printed by wip/gen/mk2.py.
  Walks: what functions of the program compute. Printed by wip/gen/mk2.py.
  Conditions: none.
-/
import Derived.Test.YtkidnhldibjiaaaGreatDoorWK
import Derived.Test.YtkidnhldibjiaaaGreatDoorPlain
import Derived.Test.YtkidnhldibjiaaaGreatDoorEngZ
import Derived.Test.YtkidnhldibjiaaaGreatDoorWP
import Derived.Test.YtkidnhldibjiaaaGreatDoorPlain2
set_option linter.unusedSimpArgs false
set_option linter.unusedVariables false
section
set_option maxRecDepth 10000
namespace Go.W
open Go Go.Eng Go.Proofs Go.L41 Go.Br
attribute [local irreducible] AWP RWP TD finQ
theorem ok146:callOk Tryz.prog 146=true:=by kernel_rfl
theorem ok195:callOk Tryz.prog 195=true:=by kernel_rfl
theorem ok196:callOk Tryz.prog 196=true:=by kernel_rfl
theorem ok197:callOk Tryz.prog 197=true:=by kernel_rfl
theorem ok198:callOk Tryz.prog 198=true:=by kernel_rfl
theorem ok199:callOk Tryz.prog 199=true:=by kernel_rfl
theorem ok200:callOk Tryz.prog 200=true:=by kernel_rfl
theorem ok201:callOk Tryz.prog 201=true:=by kernel_rfl
theorem ok202:callOk Tryz.prog 202=true:=by kernel_rfl
theorem ok203:callOk Tryz.prog 203=true:=by kernel_rfl
theorem ok240:callOk Tryz.prog 240=true:=by kernel_rfl
theorem ok242:callOk Tryz.prog 242=true:=by kernel_rfl
theorem ok243:callOk Tryz.prog 243=true:=by kernel_rfl
theorem ok244:callOk Tryz.prog 244=true:=by kernel_rfl
theorem ok245:callOk Tryz.prog 245=true:=by kernel_rfl
theorem ok246:callOk Tryz.prog 246=true:=by kernel_rfl
theorem ok247:callOk Tryz.prog 247=true:=by kernel_rfl
theorem ok248:callOk Tryz.prog 248=true:=by kernel_rfl
theorem ok285:callOk Tryz.prog 285=true:=by kernel_rfl
theorem zJn (a:Int):
    Pur cfg 240 [vI a] (vB false):=by
 refine zR Tryz.func240 O Tryz.ntmps240 Tryz.results240 O ?_
 intro z hz
 refine G O<|Y O<|W<|G O<|Y O<|Y O<|yR O<|Y O<|W<|zJ<|zP O ?_
 exact congrArg vB (by simp)
theorem kP (a b:Int):
    Pur cfg 196 [vI a,vI b] (vI (cmpI a b)):=by
 refine zR Tryz.func196 O Tryz.ntmps196 Tryz.results196 O ?_
 intro z hz
 refine G O<|Y O<|W<|G O<|Y O<|qK O ok240 (zJn a) ⟨U,O,T⟩<|Y O<|W<|G O<|Y O<|qK O ok240 (zJn b) ⟨U,O,T⟩<|Y O<|W<|zG<|G O<|Y O<|W<|zE O (fun c1=>?_) (fun c1=>?_)
 ·exact absurd c1 (by decide)
 ·refine zI<|zG<|G O<|Y O<|W<|zE O (fun c3=>?_) (fun c3=>?_)
  ·exact absurd c3 (by decide)
  ·refine zI<|zG<|G O<|Y O<|Y O<|qW O<|W<|zE O (fun c4=>?_) (fun c4=>?_)
   ·try simp only [sx] at c4
    refine G O<|Y O<|W<|zJ<|zP O ?_
    rw [cmpI_lt c4]
   ·try simp only [sx] at c4
    refine zI<|zG<|G O<|Y O<|Y O<|zX O (yF O O O)<|W<|zE O (fun c5=>?_) (fun c5=>?_)
    ·try simp only [sx] at c5
     refine G O<|Y O<|W<|zJ<|zP O ?_
     rw [cmpI_gt c5]
    ·try simp only [sx] at c5
     refine zI<|G O<|Y O<|W<|zJ<|zP O ?_
     rw [cmpI_eq (by omega) (by omega)]
theorem zJo (a:Int):
    Pur cfg 242 [vI a] (vB false):=by
 refine zR Tryz.func242 O Tryz.ntmps242 Tryz.results242 O ?_
 intro z hz
 refine G O<|Y O<|W<|G O<|Y O<|Y O<|yR O<|Y O<|W<|zJ<|zP O ?_
 exact congrArg vB (by simp)
theorem zGj (a b:Int):
    Pur cfg 198 [vI a,vI b] (vI (cmpI a b)):=by
 refine zR Tryz.func198 O Tryz.ntmps198 Tryz.results198 O ?_
 intro z hz
 refine G O<|Y O<|W<|G O<|Y O<|qK O ok242 (zJo a) ⟨U,O,T⟩<|Y O<|W<|G O<|Y O<|qK O ok242 (zJo b) ⟨U,O,T⟩<|Y O<|W<|zG<|G O<|Y O<|W<|zE O (fun c1=>?_) (fun c1=>?_)
 ·exact absurd c1 (by decide)
 ·refine zI<|zG<|G O<|Y O<|W<|zE O (fun c3=>?_) (fun c3=>?_)
  ·exact absurd c3 (by decide)
  ·refine zI<|zG<|G O<|Y O<|Y O<|qW O<|W<|zE O (fun c4=>?_) (fun c4=>?_)
   ·try simp only [sx] at c4
    refine G O<|Y O<|W<|zJ<|zP O ?_
    rw [cmpI_lt c4]
   ·try simp only [sx] at c4
    refine zI<|zG<|G O<|Y O<|Y O<|zX O (yF O O O)<|W<|zE O (fun c5=>?_) (fun c5=>?_)
    ·try simp only [sx] at c5
     refine G O<|Y O<|W<|zJ<|zP O ?_
     rw [cmpI_gt c5]
    ·try simp only [sx] at c5
     refine zI<|G O<|Y O<|W<|zJ<|zP O ?_
     rw [cmpI_eq (by omega) (by omega)]
theorem cmp_Or_int (l:List Int) (hl:l.length<=4294967296):
    Pur cfg 195 [.c (.sl 1 (l.map fun n=>[cI n]))] (vI (orI l)):=by
 refine zR Tryz.func195 O Tryz.ntmps195 Tryz.results195 O ?_
 intro z hz
 refine G O<|Y O<|W<|G O<|Y O<|W<|zG<|G O<|Y O<|zV O el214<|Y O<|W<|zN<|zU ⟨[(8,.c _),(3,.c _),(6,.c _),(7,.c _)],[]⟩ (Weak.mk [] ⟨U,U,U,U,T⟩ O)<|qA 1 0 O O (Nat) (fun k=>[(8,vI k)]) (fun k=>[]) (fun k=>k<=l.length/\(orI l=orI (l.drop k))) (fun k=>l.length-k) ⟨0,⟨by omega,O⟩,Weak.mk [] ⟨U,U,U,U,T⟩ O⟩ ?_
 rintro k ⟨hk,hp⟩
 refine G O<|qW O<|W<|zG<|zE O (fun c1=>?_) (fun c1=>?_)
 ·try simp only [sx] at c1
  obtain ⟨x,hx⟩:=qP l k (by omega)
  refine zI<|zG<|zN<|G O<|zZ O el214 (by omega) (getm (by assumption))<|zH one3 zY O<|Y O<|W<|G O<|Y O<|Y O<|yR O<|W<|zE O (fun c2=>?_) (fun c2=>?_)
  ·try simp only [sx] at c2
   refine G O<|Y O<|Y O<|W<|zJ<|zP O ?_
   rw [hp,orI_at hx c2]
  ·try simp only [sx] at c2
   refine zI<|zO O<|qB O ⟨by omega,by omega⟩<|Y O<|W ?_
   refine ⟨k+1,⟨by omega,hp.trans (orI_next hx c2)⟩,(by omega),Weak.mk [] ⟨U,U,U,U,T⟩ O⟩
 ·try simp only [sx] at c1
  refine qE<|G O<|Y O<|Y O<|W<|zJ<|zP O ?_
  rw [hp,kB (by omega)];rfl
theorem zEv (a b:List Mono) (c:C) (f:Mono->Mono->Int) (ha:a.length<=4294967296) (hb:b.length<=4294967296) (hc:∀x,x∈a->∀y,y∈b->FnPur cfg c [vMono x,vMono y] (vI (f x y))):
    Pur cfg 243 [.c (.sl 2 (a.map Mono.cells)),.c (.sl 2 (b.map Mono.cells)),.c c] (vI (cmpL f a b)):=by
 refine zR Tryz.func243 O Tryz.ntmps243 Tryz.results243 O ?_
 intro z hz
 refine G O<|Y O<|W<|zG<|G O<|Y O<|zV O el38<|Y O<|W<|zN<|zU ⟨[(13,.c _),(0,.c _),(1,.c _),(2,.c _),(11,.c _),(12,.c _)],[]⟩ (Weak.mk [] ⟨U,U,U,U,U,U,T⟩ O)<|qA 1 0 O O (Nat) (fun k=>[(13,vI k)]) (fun k=>[]) (fun k=>k<=a.length/\(cmpL f a b=cmpL f (a.drop k) (b.drop k))/\(k<=b.length)) (fun k=>a.length-k) ⟨0,⟨by omega,O,by omega⟩,Weak.mk [] ⟨U,U,U,U,U,U,T⟩ O⟩ ?_
 rintro k ⟨hk,hp,hq⟩
 refine G O<|qW O<|W<|zG<|zE O (fun c1=>?_) (fun c1=>?_)
 ·try simp only [sx] at c1
  obtain ⟨x,hx⟩:=qP a k (by omega)
  refine zI<|zG<|zN<|G O<|Y O<|zZ O el38 (by omega) (getm (by assumption))<|zL zDo zY O<|zS O O (yB O zIo) ?_
  rintro _ _ ⟨b1,rfl,rfl⟩
  refine Y O<|N 0 sz107 O<|W<|zG<|G O<|Y O<|Y O<|zV O el38<|zX O (kX O O O)<|W<|zE O (fun c2=>?_) (fun c2=>?_)
  ·try simp only [sx] at c2
   refine G O<|Y O<|W<|zJ<|zP O ?_
   rw [hp,zNa hx (by omega)]
  ·try simp only [sx] at c2
   obtain ⟨y,hy⟩:=qP b k (by omega)
   refine zI<|G O<|Y O<|Y O<|zZ O el38 (by omega) (getm (by assumption))<|zL zDo zY O<|zS O O (yB O zIo) ?_
   rintro _ _ ⟨b2,rfl,rfl⟩
   refine N 0 sz107 O<|W<|G O<|Y O<|zL zDo (J 1 O) O<|zL zDo (J 0 O) O<|zX O (kS O O (hc _ (zW hx) _ (zW hy)) ⟨U,O,U,O,T⟩)<|Y O<|W<|G O<|Y O<|yR O<|W<|zE O (fun c3=>?_) (fun c3=>?_)
   ·try simp only [sx] at c3
    refine G O<|Y O<|Y O<|W<|zJ<|zP O ?_
    rw [hp,cmpL_ne hx hy c3]
   ·try simp only [sx] at c3
    refine zI<|zO O<|qB O ⟨by omega,by omega⟩<|Y O<|W ?_
    refine ⟨k+1,⟨by omega,hp.trans (zJq hx hy c3),by omega⟩,(by omega),Weak.mk [false,false] ⟨U,U,U,U,U,U,T⟩ O⟩
 ·try simp only [sx] at c1
  refine qE<|zG<|G O<|Y O<|zV O el38<|Y O<|zV O el38<|qW O<|W<|zE O (fun c4=>?_) (fun c4=>?_)
  ·try simp only [sx] at c4
   refine G O<|Y O<|W<|zJ<|zP O ?_
   rw [hp,zJr (by omega) (by omega)]
  ·try simp only [sx] at c4
   refine zI<|G O<|Y O<|W<|zJ<|zP O ?_
   rw [hp,zNb (by omega) (by omega)]
theorem zFs (a b:List Ix) (c:C) (f:Ix->Ix->Int) (ha:a.length<=4294967296) (hb:b.length<=4294967296) (hc:∀x,x∈a->∀y,y∈b->FnPur cfg c [vIndex x,vIndex y] (vI (f x y))):
    Pur cfg 246 [.c (.sl 4 (a.map Ix.cells)),.c (.sl 4 (b.map Ix.cells)),.c c] (vI (cmpL f a b)):=by
 refine zR Tryz.func246 O Tryz.ntmps246 Tryz.results246 O ?_
 intro z hz
 refine G O<|Y O<|W<|zG<|G O<|Y O<|zV O el41<|Y O<|W<|zN<|zU ⟨[(13,.c _),(0,.c _),(1,.c _),(2,.c _),(11,.c _),(12,.c _)],[]⟩ (Weak.mk [] ⟨U,U,U,U,U,U,T⟩ O)<|qA 1 0 O O (Nat) (fun k=>[(13,vI k)]) (fun k=>[]) (fun k=>k<=a.length/\(cmpL f a b=cmpL f (a.drop k) (b.drop k))/\(k<=b.length)) (fun k=>a.length-k) ⟨0,⟨by omega,O,by omega⟩,Weak.mk [] ⟨U,U,U,U,U,U,T⟩ O⟩ ?_
 rintro k ⟨hk,hp,hq⟩
 refine G O<|qW O<|W<|zG<|zE O (fun c1=>?_) (fun c1=>?_)
 ·try simp only [sx] at c1
  obtain ⟨x,hx⟩:=qP a k (by omega)
  refine zI<|zG<|zN<|G O<|Y O<|zZ O el41 (by omega) (getm (by assumption))<|zL zAx zY O<|zS O O (qD [none,some 2,none,some 2] O zDp O) ?_
  rintro _ _ ⟨b1,rfl,rfl⟩
  refine Y O<|N 0 zNp O<|W<|zG<|G O<|Y O<|Y O<|zV O el41<|zX O (kX O O O)<|W<|zE O (fun c2=>?_) (fun c2=>?_)
  ·try simp only [sx] at c2
   refine G O<|Y O<|W<|zJ<|zP O ?_
   rw [hp,zNa hx (by omega)]
  ·try simp only [sx] at c2
   obtain ⟨y,hy⟩:=qP b k (by omega)
   refine zI<|G O<|Y O<|Y O<|zZ O el41 (by omega) (getm (by assumption))<|zL zAx zY O<|zS O O (qD [none,some 2,none,some 2] O zDp O) ?_
   rintro _ _ ⟨b2,rfl,rfl⟩
   refine N 0 zNp O<|W<|G O<|Y O<|zL zAx (J 1 O) O<|zL zAx (J 0 O) O<|zX O (kS O O (hc _ (zW hx) _ (zW hy)) ⟨U,O,U,O,T⟩)<|Y O<|W<|G O<|Y O<|yR O<|W<|zE O (fun c3=>?_) (fun c3=>?_)
   ·try simp only [sx] at c3
    refine G O<|Y O<|Y O<|W<|zJ<|zP O ?_
    rw [hp,cmpL_ne hx hy c3]
   ·try simp only [sx] at c3
    refine zI<|zO O<|qB O ⟨by omega,by omega⟩<|Y O<|W ?_
    refine ⟨k+1,⟨by omega,hp.trans (zJq hx hy c3),by omega⟩,(by omega),Weak.mk [false,false] ⟨U,U,U,U,U,U,T⟩ O⟩
 ·try simp only [sx] at c1
  refine qE<|zG<|G O<|Y O<|zV O el41<|Y O<|zV O el41<|qW O<|W<|zE O (fun c4=>?_) (fun c4=>?_)
  ·try simp only [sx] at c4
   refine G O<|Y O<|W<|zJ<|zP O ?_
   rw [hp,zJr (by omega) (by omega)]
  ·try simp only [sx] at c4
   refine zI<|G O<|Y O<|W<|zJ<|zP O ?_
   rw [hp,zNb (by omega) (by omega)]
theorem zFr (a b:List Lf) (c:C) (f:Lf->Lf->Int) (ha:a.length<=4294967296) (hb:b.length<=4294967296) (hc:∀x,x∈a->∀y,y∈b->FnPur cfg c [vLin x,vLin y] (vI (f x y))):
    Pur cfg 285 [.c (.sl 2 (a.map Lf.cells)),.c (.sl 2 (b.map Lf.cells)),.c c] (vI (cmpL f a b)):=by
 refine zR Tryz.func285 O Tryz.ntmps285 Tryz.results285 O ?_
 intro z hz
 refine G O<|Y O<|W<|zG<|G O<|Y O<|zV O el65<|Y O<|W<|zN<|zU ⟨[(13,.c _),(0,.c _),(1,.c _),(2,.c _),(11,.c _),(12,.c _)],[]⟩ (Weak.mk [] ⟨U,U,U,U,U,U,T⟩ O)<|qA 1 0 O O (Nat) (fun k=>[(13,vI k)]) (fun k=>[]) (fun k=>k<=a.length/\(cmpL f a b=cmpL f (a.drop k) (b.drop k))/\(k<=b.length)) (fun k=>a.length-k) ⟨0,⟨by omega,O,by omega⟩,Weak.mk [] ⟨U,U,U,U,U,U,T⟩ O⟩ ?_
 rintro k ⟨hk,hp,hq⟩
 refine G O<|qW O<|W<|zG<|zE O (fun c1=>?_) (fun c1=>?_)
 ·try simp only [sx] at c1
  obtain ⟨x,hx⟩:=qP a k (by omega)
  refine zI<|zG<|zN<|G O<|Y O<|zZ O el65 (by omega) (getm (by assumption))<|zL kF zY O<|zS O O (qD [none,some 2] O zr40 O) ?_
  rintro _ _ ⟨b1,rfl,rfl⟩
  refine Y O<|N 0 sz40 O<|W<|zG<|G O<|Y O<|Y O<|zV O el65<|zX O (kX O O O)<|W<|zE O (fun c2=>?_) (fun c2=>?_)
  ·try simp only [sx] at c2
   refine G O<|Y O<|W<|zJ<|zP O ?_
   rw [hp,zNa hx (by omega)]
  ·try simp only [sx] at c2
   obtain ⟨y,hy⟩:=qP b k (by omega)
   refine zI<|G O<|Y O<|Y O<|zZ O el65 (by omega) (getm (by assumption))<|zL kF zY O<|zS O O (qD [none,some 2] O zr40 O) ?_
   rintro _ _ ⟨b2,rfl,rfl⟩
   refine N 0 sz40 O<|W<|G O<|Y O<|zL kF (J 1 O) O<|zL kF (J 0 O) O<|zX O (kS O O (hc _ (zW hx) _ (zW hy)) ⟨U,O,U,O,T⟩)<|Y O<|W<|G O<|Y O<|yR O<|W<|zE O (fun c3=>?_) (fun c3=>?_)
   ·try simp only [sx] at c3
    refine G O<|Y O<|Y O<|W<|zJ<|zP O ?_
    rw [hp,cmpL_ne hx hy c3]
   ·try simp only [sx] at c3
    refine zI<|zO O<|qB O ⟨by omega,by omega⟩<|Y O<|W ?_
    refine ⟨k+1,⟨by omega,hp.trans (zJq hx hy c3),by omega⟩,(by omega),Weak.mk [false,false] ⟨U,U,U,U,U,U,T⟩ O⟩
 ·try simp only [sx] at c1
  refine qE<|zG<|G O<|Y O<|zV O el65<|Y O<|zV O el65<|qW O<|W<|zE O (fun c4=>?_) (fun c4=>?_)
  ·try simp only [sx] at c4
   refine G O<|Y O<|W<|zJ<|zP O ?_
   rw [hp,zJr (by omega) (by omega)]
  ·try simp only [sx] at c4
   refine zI<|G O<|Y O<|W<|zJ<|zP O ?_
   rw [hp,zNb (by omega) (by omega)]
theorem zFt (a b:List Ex) (c:C) (f:Ex->Ex->Int) (ha:a.length<=4294967296) (hb:b.length<=4294967296) (hc:∀x,x∈a->∀y,y∈b->FnPur cfg c [vE x,vE y] (vI (f x y))):
    Pur cfg 248 [.c (.sl 13 (a.map Ex.cells)),.c (.sl 13 (b.map Ex.cells)),.c c] (vI (cmpL f a b)):=by
 refine zR Tryz.func248 O Tryz.ntmps248 Tryz.results248 O ?_
 intro z hz
 refine G O<|Y O<|W<|zG<|G O<|Y O<|zV O el42<|Y O<|W<|zN<|zU ⟨[(13,.c _),(0,.c _),(1,.c _),(2,.c _),(11,.c _),(12,.c _)],[]⟩ (Weak.mk [] ⟨U,U,U,U,U,U,T⟩ O)<|qA 1 0 O O (Nat) (fun k=>[(13,vI k)]) (fun k=>[]) (fun k=>k<=a.length/\(cmpL f a b=cmpL f (a.drop k) (b.drop k))/\(k<=b.length)) (fun k=>a.length-k) ⟨0,⟨by omega,O,by omega⟩,Weak.mk [] ⟨U,U,U,U,U,U,T⟩ O⟩ ?_
 rintro k ⟨hk,hp,hq⟩
 refine G O<|qW O<|W<|zG<|zE O (fun c1=>?_) (fun c1=>?_)
 ·try simp only [sx] at c1
  obtain ⟨x,hx⟩:=qP a k (by omega)
  refine zI<|zG<|zN<|G O<|Y O<|zZ O el42 (by omega) (zBr (by assumption))<|zL qZ zY O<|zS O O (qD [none,none,none,none,none,none,none,none,none,none,some 2,some 4,some 13] O zr44 O) ?_
  rintro _ _ ⟨b1,rfl,rfl⟩
  refine Y O<|N 0 sz44 O<|W<|zG<|G O<|Y O<|Y O<|zV O el42<|zX O (kX O O O)<|W<|zE O (fun c2=>?_) (fun c2=>?_)
  ·try simp only [sx] at c2
   refine G O<|Y O<|W<|zJ<|zP O ?_
   rw [hp,zNa hx (by omega)]
  ·try simp only [sx] at c2
   obtain ⟨y,hy⟩:=qP b k (by omega)
   refine zI<|G O<|Y O<|Y O<|zZ O el42 (by omega) (zBr (by assumption))<|zL qZ zY O<|zS O O (qD [none,none,none,none,none,none,none,none,none,none,some 2,some 4,some 13] O zr44 O) ?_
   rintro _ _ ⟨b2,rfl,rfl⟩
   refine N 0 sz44 O<|W<|G O<|Y O<|zL qZ (J 1 O) O<|zL qZ (J 0 O) O<|zX O (kS O O (hc _ (zW hx) _ (zW hy)) ⟨U,O,U,O,T⟩)<|Y O<|W<|G O<|Y O<|yR O<|W<|zE O (fun c3=>?_) (fun c3=>?_)
   ·try simp only [sx] at c3
    refine G O<|Y O<|Y O<|W<|zJ<|zP O ?_
    rw [hp,cmpL_ne hx hy c3]
   ·try simp only [sx] at c3
    refine zI<|zO O<|qB O ⟨by omega,by omega⟩<|Y O<|W ?_
    refine ⟨k+1,⟨by omega,hp.trans (zJq hx hy c3),by omega⟩,(by omega),Weak.mk [false,false] ⟨U,U,U,U,U,U,T⟩ O⟩
 ·try simp only [sx] at c1
  refine qE<|zG<|G O<|Y O<|zV O el42<|Y O<|zV O el42<|qW O<|W<|zE O (fun c4=>?_) (fun c4=>?_)
  ·try simp only [sx] at c4
   refine G O<|Y O<|W<|zJ<|zP O ?_
   rw [hp,zJr (by omega) (by omega)]
  ·try simp only [sx] at c4
   refine zI<|G O<|Y O<|W<|zJ<|zP O ?_
   rw [hp,zNb (by omega) (by omega)]
theorem zQa (a b:List Ix) (c:C) (f:Ix->Ix->Int) (ha:a.length<=4294967296) (hb:b.length<=4294967296) (hc:∀x,x∈a->∀y,y∈b->FnPur cfg c [vIndex x,vIndex y] (vI (f x y))):
    Pur cfg 201 [.c (.sl 4 (a.map Ix.cells)),.c (.sl 4 (b.map Ix.cells)),.c c] (vI (cmpLs f a b)):=by
 refine zR Tryz.func201 O Tryz.ntmps201 Tryz.results201 O ?_
 intro z hz
 refine G O<|Y O<|W<|zG<|G O<|Y O<|zV O el41<|Y O<|zV O el41<|qK O ok196 (kP _ _) ⟨U,O,U,O,T⟩<|Y O<|W<|G O<|Y O<|yR O<|W<|zE O (fun c1=>?_) (fun c1=>?_)
 ·try simp only [sx] at c1
  refine G O<|Y O<|Y O<|W<|zJ<|zP O ?_
  rw [cmpLs,if_neg c1]
 ·try simp only [sx] at c1
  refine zI<|G O<|Y O<|Y O<|Y O<|qK O ok246 (zFs a b c f ha hb hc) ⟨U,O,U,O,U,O,T⟩<|Y O<|W<|zJ<|zP O ?_
  rw [cmpLs,if_pos c1]
theorem zPz (a b:List Lf) (c:C) (f:Lf->Lf->Int) (ha:a.length<=4294967296) (hb:b.length<=4294967296) (hc:∀x,x∈a->∀y,y∈b->FnPur cfg c [vLin x,vLin y] (vI (f x y))):
    Pur cfg 247 [.c (.sl 2 (a.map Lf.cells)),.c (.sl 2 (b.map Lf.cells)),.c c] (vI (cmpLs f a b)):=by
 refine zR Tryz.func247 O Tryz.ntmps247 Tryz.results247 O ?_
 intro z hz
 refine G O<|Y O<|W<|zG<|G O<|Y O<|zV O el65<|Y O<|zV O el65<|qK O ok196 (kP _ _) ⟨U,O,U,O,T⟩<|Y O<|W<|G O<|Y O<|yR O<|W<|zE O (fun c1=>?_) (fun c1=>?_)
 ·try simp only [sx] at c1
  refine G O<|Y O<|Y O<|W<|zJ<|zP O ?_
  rw [cmpLs,if_neg c1]
 ·try simp only [sx] at c1
  refine zI<|G O<|Y O<|Y O<|Y O<|qK O ok285 (zFr a b c f ha hb hc) ⟨U,O,U,O,U,O,T⟩<|Y O<|W<|zJ<|zP O ?_
  rw [cmpLs,if_pos c1]
theorem zQb (a b:List Ex) (c:C) (f:Ex->Ex->Int) (ha:a.length<=4294967296) (hb:b.length<=4294967296) (hc:∀x,x∈a->∀y,y∈b->FnPur cfg c [vE x,vE y] (vI (f x y))):
    Pur cfg 203 [.c (.sl 13 (a.map Ex.cells)),.c (.sl 13 (b.map Ex.cells)),.c c] (vI (cmpLs f a b)):=by
 refine zR Tryz.func203 O Tryz.ntmps203 Tryz.results203 O ?_
 intro z hz
 refine G O<|Y O<|W<|zG<|G O<|Y O<|zV O el42<|Y O<|zV O el42<|qK O ok196 (kP _ _) ⟨U,O,U,O,T⟩<|Y O<|W<|G O<|Y O<|yR O<|W<|zE O (fun c1=>?_) (fun c1=>?_)
 ·try simp only [sx] at c1
  refine G O<|Y O<|Y O<|W<|zJ<|zP O ?_
  rw [cmpLs,if_neg c1]
 ·try simp only [sx] at c1
  refine zI<|G O<|Y O<|Y O<|Y O<|qK O ok248 (zFt a b c f ha hb hc) ⟨U,O,U,O,U,O,T⟩<|Y O<|W<|zJ<|zP O ?_
  rw [cmpLs,if_pos c1]
theorem lin_order (a b:Int):
    Pur cfg 245 [vI a,vI b] (vI (cmpI a b)):=by
 refine zR Tryz.func245 O Tryz.ntmps245 Tryz.results245 O ?_
 intro z hz
 refine G O<|Y O<|W<|zG<|zN<|G O<|Y O<|Y O<|qW O<|Y O<|W<|zE O (fun c1=>?_) (fun c1=>?_)
 ·try simp only [sx] at c1
  refine G O<|Y O<|W<|zJ<|zP O ?_
  rw [cmpI_lt c1]
 ·try simp only [sx] at c1
  refine G O<|Y O<|Y O<|zX O (yF O O O)<|Y O<|W<|zE O (fun c2=>?_) (fun c2=>?_)
  ·try simp only [sx] at c2
   refine G O<|Y O<|W<|zJ<|zP O ?_
   rw [cmpI_gt c2]
  ·try simp only [sx] at c2
   refine zI<|G O<|Y O<|W<|zJ<|zP O ?_
   rw [cmpI_eq (by omega) (by omega)]
theorem lin_Compare_1 (x y:Mono):
    Pur cfg 244 [vMono x,vMono y] (vI (cmpM x y)):=by
 refine zR Tryz.func244 O Tryz.ntmps244 Tryz.results244 O ?_
 intro z hz
 refine G O<|zS O O (qG O O) ?_
 rintro _ _ ⟨b1,rfl,rfl⟩
 refine zS O O (qG O O) ?_
 rintro _ _ ⟨b2,rfl,rfl⟩
 refine Y O<|W<|zG<|G O<|zD O zAk<|zH one9 (J 1 O) O<|zD O zAk<|zH one9 (J 0 O) O<|zX O (zCz O O O)<|W<|zE O (fun c1=>?_) (fun c1=>?_)
 ·try simp only [sx] at c1
  refine G O<|zD O zAk<|zH one9 (J 1 O) O<|zD O zAk<|zH one9 (J 0 O) O<|qK O ok197 (strings_Compare _ _) ⟨U,O,U,O,T⟩<|Y O<|W<|zJ<|zP O ?_
  rw [cmpM,if_neg c1]
 ·try simp only [sx] at c1
  refine zI<|G O<|zD O fd107_1<|zH one2 (J 1 O) O<|zD O fd107_1<|zH one2 (J 0 O) O<|qK O ok245 (lin_order _ _) ⟨U,O,U,O,T⟩<|Y O<|W<|zJ<|zP O ?_
  rw [cmpM,if_pos c1]
theorem zIf (a b:Lf) (ha:a.L.length<=4294967296) (hb:b.L.length<=4294967296):
    Pur cfg 200 [vLin a,vLin b] (vI (cmpLf a b)):=by
 refine zR Tryz.func200 O Tryz.ntmps200 Tryz.results200 O ?_
 intro z hz
 refine G O<|zS O O (qG O O) ?_
 rintro _ _ ⟨b1,rfl,rfl⟩
 refine zS O O (qG O O) ?_
 rintro _ _ ⟨b2,rfl,rfl⟩
 refine Y O<|W<|G O<|zD O kR<|zH zAm (J 1 O) O<|zD O kR<|zH zAm (J 0 O) O<|qK O ok243 (zEv a.L b.L _ cmpM ha hb (fun x _ y _=>FnPur.of_pur (first:=[]) (cap:=[]) ok244 (lin_Compare_1 x y))) ⟨U,O,U,O,U,O,T⟩<|Y O<|W<|zG<|G O<|Y O<|yR O<|W<|zE O (fun c1=>?_) (fun c1=>?_)
 ·try simp only [sx] at c1
  refine G O<|Y O<|Y O<|W<|zJ<|zP O ?_
  rw [cmpLf,if_neg c1]
 ·try simp only [sx] at c1
  refine zI<|G O<|zD O zFn<|zH one2 (J 1 O) O<|zD O zFn<|zH one2 (J 0 O) O<|qK O ok245 (lin_order _ _) ⟨U,O,U,O,T⟩<|Y O<|W<|zJ<|zP O ?_
  rw [cmpLf,if_pos c1]
theorem zLe (a b:Ix) (ha:a.wt<=4294967296) (hb:b.wt<=4294967296):
    Pur cfg 202 [vIndex a,vIndex b] (vI (cmpIx a b)):=by
 refine zR Tryz.func202 O Tryz.ntmps202 Tryz.results202 O ?_
 intro z hz
 have hwa:=ha
 have hwb:=hb
 unfold Ix.wt at hwa hwb
 refine G O<|zS O O (qG O O) ?_
 rintro _ _ ⟨b1,rfl,rfl⟩
 refine zS O O (qG O O) ?_
 rintro _ _ ⟨b2,rfl,rfl⟩
 refine Y O<|W<|zG<|G O<|zD O wX<|zH one9 (J 1 O) O<|zD O wX<|zH one9 (J 0 O) O<|qK O ok197 (strings_Compare _ _) ⟨U,O,U,O,T⟩<|Y O<|W<|G O<|Y O<|yR O<|W<|zE O (fun c1=>?_) (fun c1=>?_)
 ·try simp only [sx] at c1
  refine G O<|Y O<|Y O<|W<|zJ<|zP O ?_
  rw [cmpIx,if_neg c1]
 ·try simp only [sx] at c1
  refine zI<|zG<|G O<|zD O zAz<|zL kF (J 1 O) O<|zD O zAz<|zL kF (J 0 O) O<|qK O ok200 (zIf a.Lin b.Lin (by omega) (by omega)) ⟨U,O,U,O,T⟩<|Y O<|W<|G O<|Y O<|yR O<|W<|zE O (fun c2=>?_) (fun c2=>?_)
  ·try simp only [sx] at c2
   refine G O<|Y O<|Y O<|W<|zJ<|zP O ?_
   rw [cmpIx,if_pos c1,if_neg c2]
  ·try simp only [sx] at c2
   refine zI<|G O<|zD O kW<|zH zAr (J 1 O) O<|zD O kW<|zH zAr (J 0 O) O<|qK O ok247 (zPz a.At b.At _ cmpLf (by omega) (by omega) (fun x hx y hy=>FnPur.of_pur (first:=[]) (cap:=[]) ok200 (zIf x y (by have:=zAt hx;omega) (by have:=zAt hy;omega)))) ⟨U,O,U,O,U,O,T⟩<|Y O<|W<|zJ<|zP O ?_
   rw [cmpIx,if_pos c1,if_pos c2]
theorem zMi (a b:Ty):
    Pur cfg 199 [vTy a,vTy b] (vI (cmpTy a b)):=by
 refine zR Tryz.func199 O Tryz.ntmps199 Tryz.results199 O ?_
 intro z hz
 refine G O<|zS O O (qG O O) ?_
 rintro _ _ ⟨b1,rfl,rfl⟩
 refine zS O O (qG O O) ?_
 rintro _ _ ⟨b2,rfl,rfl⟩
 refine Y O<|W<|zG<|qY 28 mixed (by kernel_rfl) O O<|zM O O (zF O zEn O)<|zM O O (zK O one3 O (J 1 O) O)<|zM O O (zF O zEn O)<|zM O O (zK O one3 O (J 0 O) O)<|zM O O (qH O ok196 (kP _ _) ⟨U,O,U,O,T⟩)<|zM O O (zF O zHr O)<|zM O O (zK O one3 O (J 1 O) O)<|zM O O (zF O zHr O)<|zM O O (zK O one3 O (J 0 O) O)<|zM O O (qH O ok196 (kP _ _) ⟨U,O,U,O,T⟩)<|zM O O (zF O zPm O)<|zM O O (zK O one3 O (J 1 O) O)<|zM O O (zF O zPm O)<|zM O O (zK O one3 O (J 0 O) O)<|zM O O (qH O ok196 (kP _ _) ⟨U,O,U,O,T⟩)<|zM O O (zF O zPl O)<|zM O O (zK O one3 O (J 1 O) O)<|zM O O (zF O zPl O)<|zM O O (zK O one3 O (J 0 O) O)<|zM O O (qH O ok196 (kP _ _) ⟨U,O,U,O,T⟩)<|zM O O (zF O zPk O)<|zM O O (zK O one3 O (J 1 O) O)<|zM O O (zF O zPk O)<|zM O O (zK O one3 O (J 0 O) O)<|zM O O (qH O ok196 (kP _ _) ⟨U,O,U,O,T⟩)<|zM O O (wN O el214 zr3 O O O O)<|zM O O (qH O ok195 (cmp_Or_int [cmpI a.Kind b.Kind,cmpI a.Bits b.Bits,cmpI a.Frac b.Frac,cmpI a.Round b.Round,cmpI a.Over b.Over] (by simp)) ⟨U,O,T⟩)<|zM O O (yV O O)<|yT<|W<|zJ<|zP O ?_
 exact O
theorem zLf (a b:Ex) (ih:∀x,x∈a.Args->∀y,x.wt<=4294967296->y.wt<=4294967296->Pur cfg 146 [vE x,vE y] (vI (cmpE x y))) (ha:a.wt<=4294967296) (hb:b.wt<=4294967296):
    Pur cfg 146 [vE a,vE b] (vI (cmpE a b)):=by
 refine zR Tryz.func146 O Tryz.ntmps146 Tryz.results146 O ?_
 intro z hz
 obtain ⟨hLa,hIa,hAa⟩:=a.parts ha
 obtain ⟨hLb,hIb,hAb⟩:=b.parts hb
 have hwa:=Ex.wt_eq a
 have hwb:=Ex.wt_eq b
 refine G O<|zS O O (qG O O) ?_
 rintro _ _ ⟨b1,rfl,rfl⟩
 refine zS O O (qG O O) ?_
 rintro _ _ ⟨b2,rfl,rfl⟩
 refine Y O<|W<|zG<|qY 37 mixed (by kernel_rfl) O O<|zM O O (zF O yY O)<|zM O O (zK O one3 O (J 1 O) O)<|zM O O (zF O yY O)<|zM O O (zK O one3 O (J 0 O) O)<|zM O O (qH O ok196 (kP _ _) ⟨U,O,U,O,T⟩)<|zM O O (zF O zFm O)<|zM O O (zK O one9 O (J 1 O) O)<|zM O O (zF O zFm O)<|zM O O (zK O one9 O (J 0 O) O)<|zM O O (qH O ok197 (strings_Compare _ _) ⟨U,O,U,O,T⟩)<|zM O O (zF O zHq O)<|zM O O (zF O zEo O)<|zM O O (zK O one2 O (J 1 O) O)<|zM O O (zF O zHq O)<|zM O O (zF O zEo O)<|zM O O (zK O one2 O (J 0 O) O)<|zM O O (qH O ok198 (zGj _ _) ⟨U,O,U,O,T⟩)<|zM O O (zF O zHq O)<|zM O O (zF O zFo O)<|zM O O (zK O one2 O (J 1 O) O)<|zM O O (zF O zHq O)<|zM O O (zF O zFo O)<|zM O O (zK O one2 O (J 0 O) O)<|zM O O (qH O ok198 (zGj _ _) ⟨U,O,U,O,T⟩)<|zM O O (zF O zEm O)<|zM O O (zT O yD O (J 1 O) O)<|zM O O (zF O zEm O)<|zM O O (zT O yD O (J 0 O) O)<|zM O O (qH O ok199 (zMi _ _) ⟨U,O,U,O,T⟩)<|zM O O (zF O zCo O)<|zM O O (zT O kF O (J 1 O) O)<|zM O O (zF O zCo O)<|zM O O (zT O kF O (J 0 O) O)<|zM O O (qH O ok200 (zIf a.Lin b.Lin hLa hLb) ⟨U,O,U,O,T⟩)<|zM O O (wN O el214 zr3 O O O O)<|zM O O (qH O ok195 (cmp_Or_int [cmpI a.Op b.Op,cmpS a.Name b.Name,cmpI a.Val.N b.Val.N,cmpI a.Val.D b.Val.D,cmpTy a.Ty b.Ty,cmpLf a.Lin b.Lin] (by simp)) ⟨U,O,T⟩)<|zM O O (yV O O)<|yT<|W<|zG<|G O<|Y O<|yR O<|W<|zE O (fun c1=>?_) (fun c1=>?_)
 ·try simp only [sx] at c1
  refine G O<|Y O<|Y O<|W<|zJ<|zP O ?_
  rw [cmpE_eq,if_neg (show ¬cmpHd a b=0 from c1)];rfl
 ·try simp only [sx] at c1
  refine zI<|zG<|G O<|zD O kC<|zH wK (J 1 O) O<|zD O kC<|zH wK (J 0 O) O<|qK O ok201 (zQa a.Idx b.Idx _ cmpIx hIa hIb (fun x hx y hy=>FnPur.of_pur (first:=[]) (cap:=[]) ok202 (zLe x y (by have:=zDl hx;omega) (by have:=zDl hy;omega)))) ⟨U,O,U,O,U,O,T⟩<|Y O<|W<|G O<|Y O<|yR O<|W<|zE O (fun c2=>?_) (fun c2=>?_)
  ·try simp only [sx] at c2
   refine G O<|Y O<|Y O<|W<|zJ<|zP O ?_
   rw [cmpE_eq,if_pos (show cmpHd a b=0 from c1),if_neg c2]
  ·try simp only [sx] at c2
   refine zI<|G O<|zD O kG<|zH wS (J 1 O) O<|zD O kG<|zH wS (J 0 O) O<|qK O ok203 (zQb a.Args b.Args _ cmpE hAa hAb (fun x hx y hy=>FnPur.of_pur (first:=[]) (cap:=[]) ok146 (ih x hx y (by have:=Ex.arg_wt hx;omega) (by have:=Ex.arg_wt hy;omega)))) ⟨U,O,U,O,U,O,T⟩<|Y O<|W<|zJ<|zP O ?_
   rw [cmpE_eq,if_pos (show cmpHd a b=0 from c1),if_pos c2]
theorem expr_Compare (a b:Ex) (ha:a.wt<=4294967296) (hb:b.wt<=4294967296):Pur cfg 146 [vE a,vE b] (vI (cmpE a b)):=by
  induction a using Ex.ind generalizing b with
  |_ a ih=>exact zLf a b (fun x hx y h1 h2=>ih x hx y h1 h2) ha hb
theorem zPr (a b:Ex) (ha:a.wt<=4294967296) (hb:b.wt<=4294967296):
    Pur cfg 76 [vE a,vE b] (vB (decide (a=b))):=by
 refine zR Tryz.func76 O Tryz.ntmps76 Tryz.results76 O ?_
 intro z hz
 refine G O<|zS O O (qG O O) ?_
 rintro _ _ ⟨b1,rfl,rfl⟩
 refine zS O O (qG O O) ?_
 rintro _ _ ⟨b2,rfl,rfl⟩
 refine Y O<|W<|G O<|zL qZ (J 1 O) O<|zL qZ (J 0 O) O<|qK O ok146 (expr_Compare a b ha hb) ⟨U,O,U,O,T⟩<|yG O<|Y O<|W<|zJ<|zP O ?_
 exact congrArg vB (decide_eq_decide.2 (cmpE_zero a b))
end Go.W
end
section
set_option maxRecDepth 10000
namespace Go.W
open Go Go.Eng Go.Proofs Go.L41 Go.Br
attribute [local irreducible] AWP RWP TD finQ
theorem fd101_1:fieldT Tryz.prog 101 1=some (2,4):=by kernel_rfl
theorem ok100:callOk Tryz.prog 100=true:=by kernel_rfl
theorem one4:oneT Tryz.prog 4=true:=by kernel_rfl
theorem base_Axes (a b:List Ax) (ha:a.length<=4294967296) (hx0:∀x,x∈a->x.Size.L.length<=6000000000000):
    Pur cfg 100 [.c (.sl 3 (a.map Ax.cells)),.c (.sl 3 (b.map Ax.cells))] (vB (decide (a=b))):=by
 refine zR Tryz.func100 O Tryz.ntmps100 Tryz.results100 O ?_
 intro z hz
 refine G O<|Y O<|W<|zG<|G O<|Y O<|zV O D<|Y O<|zV O D<|yR O<|W<|zE O (fun c1=>?_) (fun c1=>?_)
 ·try simp only [sx] at c1
  refine G O<|Y O<|W<|zJ<|zP O ?_
  rw [yI (fun h=>c1 (by rw [h]))]
 ·try simp only [sx] at c1
  refine zI<|zG<|G O<|Y O<|W<|zN<|zU ⟨[(5,.c _),(0,.c _),(1,.c _)],[]⟩ (Weak.mk [] ⟨U,U,U,T⟩ O)<|qA 1 0 O O (Nat) (fun k=>[(5,vI k)]) (fun k=>[]) (fun k=>k<=a.length/\(a.take k=b.take k)) (fun k=>a.length-k) ⟨0,⟨by omega,O⟩,Weak.mk [] ⟨U,U,U,T⟩ O⟩ ?_
  rintro k ⟨hk,hp⟩
  refine zG<|G O<|Y O<|Y O<|zV O D<|qW O<|W<|zE O (fun c2=>?_) (fun c2=>?_)
  ·try simp only [sx] at c2
   obtain ⟨x,hx⟩:=qP a k (by omega)
   obtain ⟨y,hy⟩:=qP b k (by omega)
   refine zI<|zG<|zN<|zG<|qY 25 mixed (by kernel_rfl) O O<|zM O O (zQ O O)<|zM O O (zQ O O)<|zM O O (qJ O D O O (by omega) (getm hx))<|zM O O (qQ O zAj O)<|zM O O (zK O one9 O zY O)<|zM O O (zQ O O)<|zM O O (zQ O O)<|zM O O (qJ O D O O (by omega) (getm hy))<|zM O O (qQ O zAj O)<|zM O O (zK O one9 O zY O)<|zM O O (zCz O O O)<|zM O O (zQ O O)<|qC [] O O O O gv1 T (fun g6_11=>zQ O O) O<|qC [] O O O O gv1 T (fun g6_11=>zQ O O) O<|qC [(29,_),(30,_)] O O O O gv1 ⟨O,O,O,O,T⟩ (fun g6_11=>qJ O D O O (by omega) (getm hx)) O<|qC [(31,_)] O O O O gv1 ⟨O,O,T⟩ (fun g6_11=>qQ O zDm O) O<|qC [(32,_)] O O O O gv1 ⟨O,O,T⟩ (fun g6_11=>zT O kF O zY O) O<|qC [] O O O O gv1 T (fun g6_11=>zQ O O) O<|qC [] O O O O gv1 T (fun g6_11=>zQ O O) O<|qC [(34,_),(35,_)] O O O O gv1 ⟨O,O,O,O,T⟩ (fun g6_11=>qJ O D O O (by omega) (getm hy)) O<|qC [(36,_)] O O O O gv1 ⟨O,O,T⟩ (fun g6_11=>qQ O zDm O) O<|qC [(37,_)] O O O O gv1 ⟨O,O,T⟩ (fun g6_11=>zT O kF O zY O) O<|qC [(33,_),(38,_)] O O O O gv1 ⟨O,O,O,O,T⟩ (fun g6_11=>qH O ok34 (zNc x.Size y.Size (hx0 x (zW hx))) ⟨U,O,U,O,T⟩) O<|qC [(39,_)] O O O O gv1 ⟨O,O,T⟩ (fun g6_11=>wB O O) O<|zM O O (zBw O O O O (fun h=>(lzf h)))<|yT<|W<|zE O (fun c3=>?_) (fun c3=>?_)
   ·have hne:=ax_ne c3
    refine G O<|Y O<|W<|zJ<|zP O ?_
    rw [yI (zEj hx hy hne)]
   ·have heq:=ax_yes' c3
    refine zI<|zO O<|Y O<|qB O ⟨by omega,by omega⟩<|Y O<|W ?_
    refine ⟨k+1,⟨by omega,zBh hx hy hp heq⟩,(by omega),Weak.mk [] ⟨U,U,U,T⟩ O⟩
  ·try simp only [sx] at c2
   refine qE<|G O<|Y O<|W<|zJ<|zP O ?_
   rw [wA (zDb hp (by omega) (by omega))]
end Go.W
end
section
set_option maxRecDepth 10000
namespace Go.W
open Go Go.Eng Go.Proofs Go.L41 Go.Br
attribute [local irreducible] AWP RWP TD finQ
theorem ok238:callOk Tryz.prog 238=true:=by kernel_rfl
theorem ok239:callOk Tryz.prog 239=true:=by kernel_rfl
theorem expr_sorted (sv:Value) (l:List ByteArray) (hl:l.length<=4294967296):
    Con cfg 194 [.c (.lit sv)] [.vec sv 9 1 (strRows l)] fun r μ'=>∃sv',r=.c (.lit sv')/\μ'=[.vec sv' 9 1 (strRows (thinB (sortB l)))]:=by
 refine zR Tryz.func194 O Tryz.ntmps194 Tryz.results194 O ?_
 intro z hz
 refine G O<|zX O (yA 1 O O)<|W<|G O<|Y O<|zX O (yQ [0] O ok238 (sort_con sv l hl) ⟨U,O,T⟩ O)<|W<|G O<|Y O<|zS O O (zBi 0 O O ok239 (thin_con sv (sortB l) (by rw [sortB_len];exact hl)) ⟨U,O,T⟩) ?_
 rintro _ _ ⟨sv1,rfl,rfl⟩
 refine Y O<|W<|zJ<|zP O ?_
 exact ⟨_,O,O⟩
end Go.W
end
