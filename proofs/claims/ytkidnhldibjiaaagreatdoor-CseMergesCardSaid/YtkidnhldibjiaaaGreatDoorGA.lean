/-
  Walks: what functions of the program compute. Printed by wip/gen/mk2.py.
  Walks: what functions of the program compute. Printed by wip/gen/mk2.py.
  Walks: what functions of the program compute. Printed by wip/gen/mk2.py.
  Conditions: none.
-/
import Derived.Test.YtkidnhldibjiaaaGreatDoorWK
import Derived.Test.YtkidnhldibjiaaaGreatDoorPlain
import Derived.Test.YtkidnhldibjiaaaGreatDoorEngZ
import Derived.Test.YtkidnhldibjiaaaGreatDoorWP
import Derived.Test.YtkidnhldibjiaaaGreatDoorPlain2
set_option linter.unusedSimpArgs false
set_option linter.unusedVariables false
section
set_option maxRecDepth 10000
namespace Go.W
open Go Go.Eng Go.Proofs Go.L41 Go.Br
attribute [local irreducible] AWP RWP TD finQ
theorem ok146:callOk Tryz.prog 146=true:=by kernel_rfl
theorem ok195:callOk Tryz.prog 195=true:=by kernel_rfl
theorem ok196:callOk Tryz.prog 196=true:=by kernel_rfl
theorem ok197:callOk Tryz.prog 197=true:=by kernel_rfl
theorem ok198:callOk Tryz.prog 198=true:=by kernel_rfl
theorem ok199:callOk Tryz.prog 199=true:=by kernel_rfl
theorem ok200:callOk Tryz.prog 200=true:=by kernel_rfl
theorem ok201:callOk Tryz.prog 201=true:=by kernel_rfl
theorem ok202:callOk Tryz.prog 202=true:=by kernel_rfl
theorem ok203:callOk Tryz.prog 203=true:=by kernel_rfl
theorem ok240:callOk Tryz.prog 240=true:=by kernel_rfl
theorem ok242:callOk Tryz.prog 242=true:=by kernel_rfl
theorem ok243:callOk Tryz.prog 243=true:=by kernel_rfl
theorem ok244:callOk Tryz.prog 244=true:=by kernel_rfl
theorem ok245:callOk Tryz.prog 245=true:=by kernel_rfl
theorem ok246:callOk Tryz.prog 246=true:=by kernel_rfl
theorem ok247:callOk Tryz.prog 247=true:=by kernel_rfl
theorem ok248:callOk Tryz.prog 248=true:=by kernel_rfl
theorem ok285:callOk Tryz.prog 285=true:=by kernel_rfl
theorem zJs (a:Int):
    Pur cfg 240 [vI a] (vB false):=by
 refine zS Tryz.func240 O Tryz.ntmps240 Tryz.results240 O ?_
 intro z hz
 refine G O<|Y O<|W<|G O<|Y O<|Y O<|yO O<|Y O<|W<|zK<|zP O ?_
 exact congrArg vB (by simp)
theorem kS (a b:Int):
    Pur cfg 196 [vI a,vI b] (vI (cmpI a b)):=by
 refine zS Tryz.func196 O Tryz.ntmps196 Tryz.results196 O ?_
 intro z hz
 refine G O<|Y O<|W<|G O<|Y O<|qK O ok240 (zJs a) ⟨U,O,T⟩<|Y O<|W<|G O<|Y O<|qK O ok240 (zJs b) ⟨U,O,T⟩<|Y O<|W<|zH<|G O<|Y O<|W<|zF O (fun c1=>?_) (fun c1=>?_)
 ·exact absurd c1 (by decide)
 ·refine zJ<|zH<|G O<|Y O<|W<|zF O (fun c3=>?_) (fun c3=>?_)
  ·exact absurd c3 (by decide)
  ·refine zJ<|zH<|G O<|Y O<|Y O<|qW O<|W<|zF O (fun c4=>?_) (fun c4=>?_)
   ·try simp only [sx] at c4
    refine G O<|Y O<|W<|zK<|zP O ?_
    rw [cmpI_lt c4]
   ·try simp only [sx] at c4
    refine zJ<|zH<|G O<|Y O<|Y O<|qC O (yG O O O)<|W<|zF O (fun c5=>?_) (fun c5=>?_)
    ·try simp only [sx] at c5
     refine G O<|Y O<|W<|zK<|zP O ?_
     rw [cmpI_gt c5]
    ·try simp only [sx] at c5
     refine zJ<|G O<|Y O<|W<|zK<|zP O ?_
     rw [cmpI_eq (by omega) (by omega)]
theorem zJt (a:Int):
    Pur cfg 242 [vI a] (vB false):=by
 refine zS Tryz.func242 O Tryz.ntmps242 Tryz.results242 O ?_
 intro z hz
 refine G O<|Y O<|W<|G O<|Y O<|Y O<|yO O<|Y O<|W<|zK<|zP O ?_
 exact congrArg vB (by simp)
theorem zGl (a b:Int):
    Pur cfg 198 [vI a,vI b] (vI (cmpI a b)):=by
 refine zS Tryz.func198 O Tryz.ntmps198 Tryz.results198 O ?_
 intro z hz
 refine G O<|Y O<|W<|G O<|Y O<|qK O ok242 (zJt a) ⟨U,O,T⟩<|Y O<|W<|G O<|Y O<|qK O ok242 (zJt b) ⟨U,O,T⟩<|Y O<|W<|zH<|G O<|Y O<|W<|zF O (fun c1=>?_) (fun c1=>?_)
 ·exact absurd c1 (by decide)
 ·refine zJ<|zH<|G O<|Y O<|W<|zF O (fun c3=>?_) (fun c3=>?_)
  ·exact absurd c3 (by decide)
  ·refine zJ<|zH<|G O<|Y O<|Y O<|qW O<|W<|zF O (fun c4=>?_) (fun c4=>?_)
   ·try simp only [sx] at c4
    refine G O<|Y O<|W<|zK<|zP O ?_
    rw [cmpI_lt c4]
   ·try simp only [sx] at c4
    refine zJ<|zH<|G O<|Y O<|Y O<|qC O (yG O O O)<|W<|zF O (fun c5=>?_) (fun c5=>?_)
    ·try simp only [sx] at c5
     refine G O<|Y O<|W<|zK<|zP O ?_
     rw [cmpI_gt c5]
    ·try simp only [sx] at c5
     refine zJ<|G O<|Y O<|W<|zK<|zP O ?_
     rw [cmpI_eq (by omega) (by omega)]
theorem cmp_Or_int (l:List Int) (hl:l.length<=4294967296):
    Pur cfg 195 [.c (.sl 1 (l.map fun n=>[cI n]))] (vI (orI l)):=by
 refine zS Tryz.func195 O Tryz.ntmps195 Tryz.results195 O ?_
 intro z hz
 refine G O<|Y O<|W<|G O<|Y O<|W<|zH<|G O<|Y O<|zT O el214<|Y O<|W<|zN<|zV ⟨[(8,.c _),(3,.c _),(6,.c _),(7,.c _)],[]⟩ (Weak.mk [] ⟨U,U,U,U,T⟩ O)<|zY 1 0 O O (Nat) (fun k=>[(8,vI k)]) (fun k=>[]) (fun k=>k<=l.length/\(orI l=orI (l.drop k))) (fun k=>l.length-k) ⟨0,⟨by omega,O⟩,Weak.mk [] ⟨U,U,U,U,T⟩ O⟩ ?_
 rintro k ⟨hk,hp⟩
 refine G O<|qW O<|W<|zH<|zF O (fun c1=>?_) (fun c1=>?_)
 ·try simp only [sx] at c1
  obtain ⟨x,hx⟩:=qO l k (by omega)
  refine zJ<|zH<|zN<|G O<|zZ O el214 (by omega) (getm (by assumption))<|zI one3 zX O<|Y O<|W<|G O<|Y O<|Y O<|yO O<|W<|zF O (fun c2=>?_) (fun c2=>?_)
  ·try simp only [sx] at c2
   refine G O<|Y O<|Y O<|W<|zK<|zP O ?_
   rw [hp,orI_at hx c2]
  ·try simp only [sx] at c2
   refine zJ<|zO O<|qB O ⟨by omega,by omega⟩<|Y O<|W ?_
   refine ⟨k+1,⟨by omega,hp.trans (orI_next hx c2)⟩,(by omega),Weak.mk [] ⟨U,U,U,U,T⟩ O⟩
 ·try simp only [sx] at c1
  refine qF<|G O<|Y O<|Y O<|W<|zK<|zP O ?_
  rw [hp,yY (by omega)];rfl
theorem zFb (a b:List Mono) (c:C) (f:Mono->Mono->Int) (ha:a.length<=4294967296) (hb:b.length<=4294967296) (hc:∀x,x∈a->∀y,y∈b->FnPur cfg c [vMono x,vMono y] (vI (f x y))):
    Pur cfg 243 [.c (.sl 2 (a.map Mono.cells)),.c (.sl 2 (b.map Mono.cells)),.c c] (vI (cmpL f a b)):=by
 refine zS Tryz.func243 O Tryz.ntmps243 Tryz.results243 O ?_
 intro z hz
 refine G O<|Y O<|W<|zH<|G O<|Y O<|zT O q<|Y O<|W<|zN<|zV ⟨[(13,.c _),(0,.c _),(1,.c _),(2,.c _),(11,.c _),(12,.c _)],[]⟩ (Weak.mk [] ⟨U,U,U,U,U,U,T⟩ O)<|zY 1 0 O O (Nat) (fun k=>[(13,vI k)]) (fun k=>[]) (fun k=>k<=a.length/\(cmpL f a b=cmpL f (a.drop k) (b.drop k))/\(k<=b.length)) (fun k=>a.length-k) ⟨0,⟨by omega,O,by omega⟩,Weak.mk [] ⟨U,U,U,U,U,U,T⟩ O⟩ ?_
 rintro k ⟨hk,hp,hq⟩
 refine G O<|qW O<|W<|zH<|zF O (fun c1=>?_) (fun c1=>?_)
 ·try simp only [sx] at c1
  obtain ⟨x,hx⟩:=qO a k (by omega)
  refine zJ<|zH<|zN<|G O<|Y O<|zZ O q (by omega) (getm (by assumption))<|zL zDw zX O<|zU O O (yE O zIs) ?_
  rintro _ _ ⟨b1,rfl,rfl⟩
  refine Y O<|N 0 sz107 O<|W<|zH<|G O<|Y O<|Y O<|zT O q<|qC O (kQ O O O)<|W<|zF O (fun c2=>?_) (fun c2=>?_)
  ·try simp only [sx] at c2
   refine G O<|Y O<|W<|zK<|zP O ?_
   rw [hp,zNb hx (by omega)]
  ·try simp only [sx] at c2
   obtain ⟨y,hy⟩:=qO b k (by omega)
   refine zJ<|G O<|Y O<|Y O<|zZ O q (by omega) (getm (by assumption))<|zL zDw zX O<|zU O O (yE O zIs) ?_
   rintro _ _ ⟨b2,rfl,rfl⟩
   refine N 0 sz107 O<|W<|G O<|Y O<|zL zDw (J 1 O) O<|zL zDw (J 0 O) O<|qC O (kV O O (hc _ (zW hx) _ (zW hy)) ⟨U,O,U,O,T⟩)<|Y O<|W<|G O<|Y O<|yO O<|W<|zF O (fun c3=>?_) (fun c3=>?_)
   ·try simp only [sx] at c3
    refine G O<|Y O<|Y O<|W<|zK<|zP O ?_
    rw [hp,cmpL_ne hx hy c3]
   ·try simp only [sx] at c3
    refine zJ<|zO O<|qB O ⟨by omega,by omega⟩<|Y O<|W ?_
    refine ⟨k+1,⟨by omega,hp.trans (zJv hx hy c3),by omega⟩,(by omega),Weak.mk [false,false] ⟨U,U,U,U,U,U,T⟩ O⟩
 ·try simp only [sx] at c1
  refine qF<|zH<|G O<|Y O<|zT O q<|Y O<|zT O q<|qW O<|W<|zF O (fun c4=>?_) (fun c4=>?_)
  ·try simp only [sx] at c4
   refine G O<|Y O<|W<|zK<|zP O ?_
   rw [hp,zJw (by omega) (by omega)]
  ·try simp only [sx] at c4
   refine zJ<|G O<|Y O<|W<|zK<|zP O ?_
   rw [hp,zNc (by omega) (by omega)]
theorem zFv (a b:List Ix) (c:C) (f:Ix->Ix->Int) (ha:a.length<=4294967296) (hb:b.length<=4294967296) (hc:∀x,x∈a->∀y,y∈b->FnPur cfg c [vIndex x,vIndex y] (vI (f x y))):
    Pur cfg 246 [.c (.sl 4 (a.map Ix.cells)),.c (.sl 4 (b.map Ix.cells)),.c c] (vI (cmpL f a b)):=by
 refine zS Tryz.func246 O Tryz.ntmps246 Tryz.results246 O ?_
 intro z hz
 refine G O<|Y O<|W<|zH<|G O<|Y O<|zT O D<|Y O<|W<|zN<|zV ⟨[(13,.c _),(0,.c _),(1,.c _),(2,.c _),(11,.c _),(12,.c _)],[]⟩ (Weak.mk [] ⟨U,U,U,U,U,U,T⟩ O)<|zY 1 0 O O (Nat) (fun k=>[(13,vI k)]) (fun k=>[]) (fun k=>k<=a.length/\(cmpL f a b=cmpL f (a.drop k) (b.drop k))/\(k<=b.length)) (fun k=>a.length-k) ⟨0,⟨by omega,O,by omega⟩,Weak.mk [] ⟨U,U,U,U,U,U,T⟩ O⟩ ?_
 rintro k ⟨hk,hp,hq⟩
 refine G O<|qW O<|W<|zH<|zF O (fun c1=>?_) (fun c1=>?_)
 ·try simp only [sx] at c1
  obtain ⟨x,hx⟩:=qO a k (by omega)
  refine zJ<|zH<|zN<|G O<|Y O<|zZ O D (by omega) (getm (by assumption))<|zL wQ zX O<|zU O O (qD [none,some 2,none,some 2] O zBx O) ?_
  rintro _ _ ⟨b1,rfl,rfl⟩
  refine Y O<|N 0 zIa O<|W<|zH<|G O<|Y O<|Y O<|zT O D<|qC O (kQ O O O)<|W<|zF O (fun c2=>?_) (fun c2=>?_)
  ·try simp only [sx] at c2
   refine G O<|Y O<|W<|zK<|zP O ?_
   rw [hp,zNb hx (by omega)]
  ·try simp only [sx] at c2
   obtain ⟨y,hy⟩:=qO b k (by omega)
   refine zJ<|G O<|Y O<|Y O<|zZ O D (by omega) (getm (by assumption))<|zL wQ zX O<|zU O O (qD [none,some 2,none,some 2] O zBx O) ?_
   rintro _ _ ⟨b2,rfl,rfl⟩
   refine N 0 zIa O<|W<|G O<|Y O<|zL wQ (J 1 O) O<|zL wQ (J 0 O) O<|qC O (kV O O (hc _ (zW hx) _ (zW hy)) ⟨U,O,U,O,T⟩)<|Y O<|W<|G O<|Y O<|yO O<|W<|zF O (fun c3=>?_) (fun c3=>?_)
   ·try simp only [sx] at c3
    refine G O<|Y O<|Y O<|W<|zK<|zP O ?_
    rw [hp,cmpL_ne hx hy c3]
   ·try simp only [sx] at c3
    refine zJ<|zO O<|qB O ⟨by omega,by omega⟩<|Y O<|W ?_
    refine ⟨k+1,⟨by omega,hp.trans (zJv hx hy c3),by omega⟩,(by omega),Weak.mk [false,false] ⟨U,U,U,U,U,U,T⟩ O⟩
 ·try simp only [sx] at c1
  refine qF<|zH<|G O<|Y O<|zT O D<|Y O<|zT O D<|qW O<|W<|zF O (fun c4=>?_) (fun c4=>?_)
  ·try simp only [sx] at c4
   refine G O<|Y O<|W<|zK<|zP O ?_
   rw [hp,zJw (by omega) (by omega)]
  ·try simp only [sx] at c4
   refine zJ<|G O<|Y O<|W<|zK<|zP O ?_
   rw [hp,zNc (by omega) (by omega)]
theorem zFu (a b:List Lf) (c:C) (f:Lf->Lf->Int) (ha:a.length<=4294967296) (hb:b.length<=4294967296) (hc:∀x,x∈a->∀y,y∈b->FnPur cfg c [vLin x,vLin y] (vI (f x y))):
    Pur cfg 285 [.c (.sl 2 (a.map Lf.cells)),.c (.sl 2 (b.map Lf.cells)),.c c] (vI (cmpL f a b)):=by
 refine zS Tryz.func285 O Tryz.ntmps285 Tryz.results285 O ?_
 intro z hz
 refine G O<|Y O<|W<|zH<|G O<|Y O<|zT O el65<|Y O<|W<|zN<|zV ⟨[(13,.c _),(0,.c _),(1,.c _),(2,.c _),(11,.c _),(12,.c _)],[]⟩ (Weak.mk [] ⟨U,U,U,U,U,U,T⟩ O)<|zY 1 0 O O (Nat) (fun k=>[(13,vI k)]) (fun k=>[]) (fun k=>k<=a.length/\(cmpL f a b=cmpL f (a.drop k) (b.drop k))/\(k<=b.length)) (fun k=>a.length-k) ⟨0,⟨by omega,O,by omega⟩,Weak.mk [] ⟨U,U,U,U,U,U,T⟩ O⟩ ?_
 rintro k ⟨hk,hp,hq⟩
 refine G O<|qW O<|W<|zH<|zF O (fun c1=>?_) (fun c1=>?_)
 ·try simp only [sx] at c1
  obtain ⟨x,hx⟩:=qO a k (by omega)
  refine zJ<|zH<|zN<|G O<|Y O<|zZ O el65 (by omega) (getm (by assumption))<|zL kA zX O<|zU O O (qD [none,some 2] O zr40 O) ?_
  rintro _ _ ⟨b1,rfl,rfl⟩
  refine Y O<|N 0 sz40 O<|W<|zH<|G O<|Y O<|Y O<|zT O el65<|qC O (kQ O O O)<|W<|zF O (fun c2=>?_) (fun c2=>?_)
  ·try simp only [sx] at c2
   refine G O<|Y O<|W<|zK<|zP O ?_
   rw [hp,zNb hx (by omega)]
  ·try simp only [sx] at c2
   obtain ⟨y,hy⟩:=qO b k (by omega)
   refine zJ<|G O<|Y O<|Y O<|zZ O el65 (by omega) (getm (by assumption))<|zL kA zX O<|zU O O (qD [none,some 2] O zr40 O) ?_
   rintro _ _ ⟨b2,rfl,rfl⟩
   refine N 0 sz40 O<|W<|G O<|Y O<|zL kA (J 1 O) O<|zL kA (J 0 O) O<|qC O (kV O O (hc _ (zW hx) _ (zW hy)) ⟨U,O,U,O,T⟩)<|Y O<|W<|G O<|Y O<|yO O<|W<|zF O (fun c3=>?_) (fun c3=>?_)
   ·try simp only [sx] at c3
    refine G O<|Y O<|Y O<|W<|zK<|zP O ?_
    rw [hp,cmpL_ne hx hy c3]
   ·try simp only [sx] at c3
    refine zJ<|zO O<|qB O ⟨by omega,by omega⟩<|Y O<|W ?_
    refine ⟨k+1,⟨by omega,hp.trans (zJv hx hy c3),by omega⟩,(by omega),Weak.mk [false,false] ⟨U,U,U,U,U,U,T⟩ O⟩
 ·try simp only [sx] at c1
  refine qF<|zH<|G O<|Y O<|zT O el65<|Y O<|zT O el65<|qW O<|W<|zF O (fun c4=>?_) (fun c4=>?_)
  ·try simp only [sx] at c4
   refine G O<|Y O<|W<|zK<|zP O ?_
   rw [hp,zJw (by omega) (by omega)]
  ·try simp only [sx] at c4
   refine zJ<|G O<|Y O<|W<|zK<|zP O ?_
   rw [hp,zNc (by omega) (by omega)]
theorem zFw (a b:List Ex) (c:C) (f:Ex->Ex->Int) (ha:a.length<=4294967296) (hb:b.length<=4294967296) (hc:∀x,x∈a->∀y,y∈b->FnPur cfg c [vE x,vE y] (vI (f x y))):
    Pur cfg 248 [.c (.sl 13 (a.map Ex.cells)),.c (.sl 13 (b.map Ex.cells)),.c c] (vI (cmpL f a b)):=by
 refine zS Tryz.func248 O Tryz.ntmps248 Tryz.results248 O ?_
 intro z hz
 refine G O<|Y O<|W<|zH<|G O<|Y O<|zT O el42<|Y O<|W<|zN<|zV ⟨[(13,.c _),(0,.c _),(1,.c _),(2,.c _),(11,.c _),(12,.c _)],[]⟩ (Weak.mk [] ⟨U,U,U,U,U,U,T⟩ O)<|zY 1 0 O O (Nat) (fun k=>[(13,vI k)]) (fun k=>[]) (fun k=>k<=a.length/\(cmpL f a b=cmpL f (a.drop k) (b.drop k))/\(k<=b.length)) (fun k=>a.length-k) ⟨0,⟨by omega,O,by omega⟩,Weak.mk [] ⟨U,U,U,U,U,U,T⟩ O⟩ ?_
 rintro k ⟨hk,hp,hq⟩
 refine G O<|qW O<|W<|zH<|zF O (fun c1=>?_) (fun c1=>?_)
 ·try simp only [sx] at c1
  obtain ⟨x,hx⟩:=qO a k (by omega)
  refine zJ<|zH<|zN<|G O<|Y O<|zZ O el42 (by omega) (zDa (by assumption))<|zL qZ zX O<|zU O O (qD [none,none,none,none,none,none,none,none,none,none,some 2,some 4,some 13] O zr44 O) ?_
  rintro _ _ ⟨b1,rfl,rfl⟩
  refine Y O<|N 0 sz44 O<|W<|zH<|G O<|Y O<|Y O<|zT O el42<|qC O (kQ O O O)<|W<|zF O (fun c2=>?_) (fun c2=>?_)
  ·try simp only [sx] at c2
   refine G O<|Y O<|W<|zK<|zP O ?_
   rw [hp,zNb hx (by omega)]
  ·try simp only [sx] at c2
   obtain ⟨y,hy⟩:=qO b k (by omega)
   refine zJ<|G O<|Y O<|Y O<|zZ O el42 (by omega) (zDa (by assumption))<|zL qZ zX O<|zU O O (qD [none,none,none,none,none,none,none,none,none,none,some 2,some 4,some 13] O zr44 O) ?_
   rintro _ _ ⟨b2,rfl,rfl⟩
   refine N 0 sz44 O<|W<|G O<|Y O<|zL qZ (J 1 O) O<|zL qZ (J 0 O) O<|qC O (kV O O (hc _ (zW hx) _ (zW hy)) ⟨U,O,U,O,T⟩)<|Y O<|W<|G O<|Y O<|yO O<|W<|zF O (fun c3=>?_) (fun c3=>?_)
   ·try simp only [sx] at c3
    refine G O<|Y O<|Y O<|W<|zK<|zP O ?_
    rw [hp,cmpL_ne hx hy c3]
   ·try simp only [sx] at c3
    refine zJ<|zO O<|qB O ⟨by omega,by omega⟩<|Y O<|W ?_
    refine ⟨k+1,⟨by omega,hp.trans (zJv hx hy c3),by omega⟩,(by omega),Weak.mk [false,false] ⟨U,U,U,U,U,U,T⟩ O⟩
 ·try simp only [sx] at c1
  refine qF<|zH<|G O<|Y O<|zT O el42<|Y O<|zT O el42<|qW O<|W<|zF O (fun c4=>?_) (fun c4=>?_)
  ·try simp only [sx] at c4
   refine G O<|Y O<|W<|zK<|zP O ?_
   rw [hp,zJw (by omega) (by omega)]
  ·try simp only [sx] at c4
   refine zJ<|G O<|Y O<|W<|zK<|zP O ?_
   rw [hp,zNc (by omega) (by omega)]
theorem zPy (a b:List Ix) (c:C) (f:Ix->Ix->Int) (ha:a.length<=4294967296) (hb:b.length<=4294967296) (hc:∀x,x∈a->∀y,y∈b->FnPur cfg c [vIndex x,vIndex y] (vI (f x y))):
    Pur cfg 201 [.c (.sl 4 (a.map Ix.cells)),.c (.sl 4 (b.map Ix.cells)),.c c] (vI (cmpLs f a b)):=by
 refine zS Tryz.func201 O Tryz.ntmps201 Tryz.results201 O ?_
 intro z hz
 refine G O<|Y O<|W<|zH<|G O<|Y O<|zT O D<|Y O<|zT O D<|qK O ok196 (kS _ _) ⟨U,O,U,O,T⟩<|Y O<|W<|G O<|Y O<|yO O<|W<|zF O (fun c1=>?_) (fun c1=>?_)
 ·try simp only [sx] at c1
  refine G O<|Y O<|Y O<|W<|zK<|zP O ?_
  rw [cmpLs,if_neg c1]
 ·try simp only [sx] at c1
  refine zJ<|G O<|Y O<|Y O<|Y O<|qK O ok246 (zFv a b c f ha hb hc) ⟨U,O,U,O,U,O,T⟩<|Y O<|W<|zK<|zP O ?_
  rw [cmpLs,if_pos c1]
theorem zPx (a b:List Lf) (c:C) (f:Lf->Lf->Int) (ha:a.length<=4294967296) (hb:b.length<=4294967296) (hc:∀x,x∈a->∀y,y∈b->FnPur cfg c [vLin x,vLin y] (vI (f x y))):
    Pur cfg 247 [.c (.sl 2 (a.map Lf.cells)),.c (.sl 2 (b.map Lf.cells)),.c c] (vI (cmpLs f a b)):=by
 refine zS Tryz.func247 O Tryz.ntmps247 Tryz.results247 O ?_
 intro z hz
 refine G O<|Y O<|W<|zH<|G O<|Y O<|zT O el65<|Y O<|zT O el65<|qK O ok196 (kS _ _) ⟨U,O,U,O,T⟩<|Y O<|W<|G O<|Y O<|yO O<|W<|zF O (fun c1=>?_) (fun c1=>?_)
 ·try simp only [sx] at c1
  refine G O<|Y O<|Y O<|W<|zK<|zP O ?_
  rw [cmpLs,if_neg c1]
 ·try simp only [sx] at c1
  refine zJ<|G O<|Y O<|Y O<|Y O<|qK O ok285 (zFu a b c f ha hb hc) ⟨U,O,U,O,U,O,T⟩<|Y O<|W<|zK<|zP O ?_
  rw [cmpLs,if_pos c1]
theorem zPz (a b:List Ex) (c:C) (f:Ex->Ex->Int) (ha:a.length<=4294967296) (hb:b.length<=4294967296) (hc:∀x,x∈a->∀y,y∈b->FnPur cfg c [vE x,vE y] (vI (f x y))):
    Pur cfg 203 [.c (.sl 13 (a.map Ex.cells)),.c (.sl 13 (b.map Ex.cells)),.c c] (vI (cmpLs f a b)):=by
 refine zS Tryz.func203 O Tryz.ntmps203 Tryz.results203 O ?_
 intro z hz
 refine G O<|Y O<|W<|zH<|G O<|Y O<|zT O el42<|Y O<|zT O el42<|qK O ok196 (kS _ _) ⟨U,O,U,O,T⟩<|Y O<|W<|G O<|Y O<|yO O<|W<|zF O (fun c1=>?_) (fun c1=>?_)
 ·try simp only [sx] at c1
  refine G O<|Y O<|Y O<|W<|zK<|zP O ?_
  rw [cmpLs,if_neg c1]
 ·try simp only [sx] at c1
  refine zJ<|G O<|Y O<|Y O<|Y O<|qK O ok248 (zFw a b c f ha hb hc) ⟨U,O,U,O,U,O,T⟩<|Y O<|W<|zK<|zP O ?_
  rw [cmpLs,if_pos c1]
theorem lin_order (a b:Int):
    Pur cfg 245 [vI a,vI b] (vI (cmpI a b)):=by
 refine zS Tryz.func245 O Tryz.ntmps245 Tryz.results245 O ?_
 intro z hz
 refine G O<|Y O<|W<|zH<|zN<|G O<|Y O<|Y O<|qW O<|Y O<|W<|zF O (fun c1=>?_) (fun c1=>?_)
 ·try simp only [sx] at c1
  refine G O<|Y O<|W<|zK<|zP O ?_
  rw [cmpI_lt c1]
 ·try simp only [sx] at c1
  refine G O<|Y O<|Y O<|qC O (yG O O O)<|Y O<|W<|zF O (fun c2=>?_) (fun c2=>?_)
  ·try simp only [sx] at c2
   refine G O<|Y O<|W<|zK<|zP O ?_
   rw [cmpI_gt c2]
  ·try simp only [sx] at c2
   refine zJ<|G O<|Y O<|W<|zK<|zP O ?_
   rw [cmpI_eq (by omega) (by omega)]
theorem lin_Compare_1 (x y:Mono):
    Pur cfg 244 [vMono x,vMono y] (vI (cmpM x y)):=by
 refine zS Tryz.func244 O Tryz.ntmps244 Tryz.results244 O ?_
 intro z hz
 refine G O<|zU O O (qI O O) ?_
 rintro _ _ ⟨b1,rfl,rfl⟩
 refine zU O O (qI O O) ?_
 rintro _ _ ⟨b2,rfl,rfl⟩
 refine Y O<|W<|zH<|G O<|zE O zAh<|zI one9 (J 1 O) O<|zE O zAh<|zI one9 (J 0 O) O<|qC O (zAs O O O)<|W<|zF O (fun c1=>?_) (fun c1=>?_)
 ·try simp only [sx] at c1
  refine G O<|zE O zAh<|zI one9 (J 1 O) O<|zE O zAh<|zI one9 (J 0 O) O<|qK O ok197 (strings_Compare _ _) ⟨U,O,U,O,T⟩<|Y O<|W<|zK<|zP O ?_
  rw [cmpM,if_neg c1]
 ·try simp only [sx] at c1
  refine zJ<|G O<|zE O zIm<|zI one2 (J 1 O) O<|zE O zIm<|zI one2 (J 0 O) O<|qK O ok245 (lin_order _ _) ⟨U,O,U,O,T⟩<|Y O<|W<|zK<|zP O ?_
  rw [cmpM,if_pos c1]
theorem zIj (a b:Lf) (ha:a.L.length<=4294967296) (hb:b.L.length<=4294967296):
    Pur cfg 200 [vLin a,vLin b] (vI (cmpLf a b)):=by
 refine zS Tryz.func200 O Tryz.ntmps200 Tryz.results200 O ?_
 intro z hz
 refine G O<|zU O O (qI O O) ?_
 rintro _ _ ⟨b1,rfl,rfl⟩
 refine zU O O (qI O O) ?_
 rintro _ _ ⟨b2,rfl,rfl⟩
 refine Y O<|W<|G O<|zE O kH<|zI wW (J 1 O) O<|zE O kH<|zI wW (J 0 O) O<|qK O ok243 (zFb a.L b.L _ cmpM ha hb (fun x _ y _=>FnPur.of_pur (first:=[]) (cap:=[]) ok244 (lin_Compare_1 x y))) ⟨U,O,U,O,U,O,T⟩<|Y O<|W<|zH<|G O<|Y O<|yO O<|W<|zF O (fun c1=>?_) (fun c1=>?_)
 ·try simp only [sx] at c1
  refine G O<|Y O<|Y O<|W<|zK<|zP O ?_
  rw [cmpLf,if_neg c1]
 ·try simp only [sx] at c1
  refine zJ<|G O<|zE O zEb<|zI one2 (J 1 O) O<|zE O zEb<|zI one2 (J 0 O) O<|qK O ok245 (lin_order _ _) ⟨U,O,U,O,T⟩<|Y O<|W<|zK<|zP O ?_
  rw [cmpLf,if_pos c1]
theorem zLi (a b:Ix) (ha:a.wt<=4294967296) (hb:b.wt<=4294967296):
    Pur cfg 202 [vIndex a,vIndex b] (vI (cmpIx a b)):=by
 refine zS Tryz.func202 O Tryz.ntmps202 Tryz.results202 O ?_
 intro z hz
 have hwa:=ha
 have hwb:=hb
 unfold Ix.wt at hwa hwb
 refine G O<|zU O O (qI O O) ?_
 rintro _ _ ⟨b1,rfl,rfl⟩
 refine zU O O (qI O O) ?_
 rintro _ _ ⟨b2,rfl,rfl⟩
 refine Y O<|W<|zH<|G O<|zE O wD<|zI one9 (J 1 O) O<|zE O wD<|zI one9 (J 0 O) O<|qK O ok197 (strings_Compare _ _) ⟨U,O,U,O,T⟩<|Y O<|W<|G O<|Y O<|yO O<|W<|zF O (fun c1=>?_) (fun c1=>?_)
 ·try simp only [sx] at c1
  refine G O<|Y O<|Y O<|W<|zK<|zP O ?_
  rw [cmpIx,if_neg c1]
 ·try simp only [sx] at c1
  refine zJ<|zH<|G O<|zE O zAx<|zL kA (J 1 O) O<|zE O zAx<|zL kA (J 0 O) O<|qK O ok200 (zIj a.Lin b.Lin (by omega) (by omega)) ⟨U,O,U,O,T⟩<|Y O<|W<|G O<|Y O<|yO O<|W<|zF O (fun c2=>?_) (fun c2=>?_)
  ·try simp only [sx] at c2
   refine G O<|Y O<|Y O<|W<|zK<|zP O ?_
   rw [cmpIx,if_pos c1,if_neg c2]
  ·try simp only [sx] at c2
   refine zJ<|G O<|zE O kO<|zI zAg (J 1 O) O<|zE O kO<|zI zAg (J 0 O) O<|qK O ok247 (zPx a.At b.At _ cmpLf (by omega) (by omega) (fun x hx y hy=>FnPur.of_pur (first:=[]) (cap:=[]) ok200 (zIj x y (by have:=zAn hx;omega) (by have:=zAn hy;omega)))) ⟨U,O,U,O,U,O,T⟩<|Y O<|W<|zK<|zP O ?_
   rw [cmpIx,if_pos c1,if_pos c2]
theorem zMl (a b:Ty):
    Pur cfg 199 [vTy a,vTy b] (vI (cmpTy a b)):=by
 refine zS Tryz.func199 O Tryz.ntmps199 Tryz.results199 O ?_
 intro z hz
 refine G O<|zU O O (qI O O) ?_
 rintro _ _ ⟨b1,rfl,rfl⟩
 refine zU O O (qI O O) ?_
 rintro _ _ ⟨b2,rfl,rfl⟩
 refine Y O<|W<|zH<|qS 28 mixed (by kernel_rfl) O O<|zM O O (zD O zEu O)<|zM O O (zG O one3 O (J 1 O) O)<|zM O O (zD O zEu O)<|zM O O (zG O one3 O (J 0 O) O)<|zM O O (qG O ok196 (kS _ _) ⟨U,O,U,O,T⟩)<|zM O O (zD O zHu O)<|zM O O (zG O one3 O (J 1 O) O)<|zM O O (zD O zHu O)<|zM O O (zG O one3 O (J 0 O) O)<|zM O O (qG O ok196 (kS _ _) ⟨U,O,U,O,T⟩)<|zM O O (zD O zPk O)<|zM O O (zG O one3 O (J 1 O) O)<|zM O O (zD O zPk O)<|zM O O (zG O one3 O (J 0 O) O)<|zM O O (qG O ok196 (kS _ _) ⟨U,O,U,O,T⟩)<|zM O O (zD O zPj O)<|zM O O (zG O one3 O (J 1 O) O)<|zM O O (zD O zPj O)<|zM O O (zG O one3 O (J 0 O) O)<|zM O O (qG O ok196 (kS _ _) ⟨U,O,U,O,T⟩)<|zM O O (zD O zPi O)<|zM O O (zG O one3 O (J 1 O) O)<|zM O O (zD O zPi O)<|zM O O (zG O one3 O (J 0 O) O)<|zM O O (qG O ok196 (kS _ _) ⟨U,O,U,O,T⟩)<|zM O O (wK O el214 zr3 O O O O)<|zM O O (qG O ok195 (cmp_Or_int [cmpI a.Kind b.Kind,cmpI a.Bits b.Bits,cmpI a.Frac b.Frac,cmpI a.Round b.Round,cmpI a.Over b.Over] (by simp)) ⟨U,O,T⟩)<|zM O O (yT O O)<|yJ<|W<|zK<|zP O ?_
 exact O
theorem zLj (a b:Ex) (ih:∀x,x∈a.Args->∀y,x.wt<=4294967296->y.wt<=4294967296->Pur cfg 146 [vE x,vE y] (vI (cmpE x y))) (ha:a.wt<=4294967296) (hb:b.wt<=4294967296):
    Pur cfg 146 [vE a,vE b] (vI (cmpE a b)):=by
 refine zS Tryz.func146 O Tryz.ntmps146 Tryz.results146 O ?_
 intro z hz
 obtain ⟨hLa,hIa,hAa⟩:=a.parts ha
 obtain ⟨hLb,hIb,hAb⟩:=b.parts hb
 have hwa:=Ex.wt_eq a
 have hwb:=Ex.wt_eq b
 refine G O<|zU O O (qI O O) ?_
 rintro _ _ ⟨b1,rfl,rfl⟩
 refine zU O O (qI O O) ?_
 rintro _ _ ⟨b2,rfl,rfl⟩
 refine Y O<|W<|zH<|qS 37 mixed (by kernel_rfl) O O<|zM O O (zD O kC O)<|zM O O (zG O one3 O (J 1 O) O)<|zM O O (zD O kC O)<|zM O O (zG O one3 O (J 0 O) O)<|zM O O (qG O ok196 (kS _ _) ⟨U,O,U,O,T⟩)<|zM O O (zD O zDe O)<|zM O O (zG O one9 O (J 1 O) O)<|zM O O (zD O zDe O)<|zM O O (zG O one9 O (J 0 O) O)<|zM O O (qG O ok197 (strings_Compare _ _) ⟨U,O,U,O,T⟩)<|zM O O (zD O zFr O)<|zM O O (zD O zEv O)<|zM O O (zG O one2 O (J 1 O) O)<|zM O O (zD O zFr O)<|zM O O (zD O zEv O)<|zM O O (zG O one2 O (J 0 O) O)<|zM O O (qG O ok198 (zGl _ _) ⟨U,O,U,O,T⟩)<|zM O O (zD O zFr O)<|zM O O (zD O zFs O)<|zM O O (zG O one2 O (J 1 O) O)<|zM O O (zD O zFr O)<|zM O O (zD O zFs O)<|zM O O (zG O one2 O (J 0 O) O)<|zM O O (qG O ok198 (zGl _ _) ⟨U,O,U,O,T⟩)<|zM O O (zD O zDt O)<|zM O O (zR O yB O (J 1 O) O)<|zM O O (zD O zDt O)<|zM O O (zR O yB O (J 0 O) O)<|zM O O (qG O ok199 (zMl _ _) ⟨U,O,U,O,T⟩)<|zM O O (zD O zCc O)<|zM O O (zR O kA O (J 1 O) O)<|zM O O (zD O zCc O)<|zM O O (zR O kA O (J 0 O) O)<|zM O O (qG O ok200 (zIj a.Lin b.Lin hLa hLb) ⟨U,O,U,O,T⟩)<|zM O O (wK O el214 zr3 O O O O)<|zM O O (qG O ok195 (cmp_Or_int [cmpI a.Op b.Op,cmpS a.Name b.Name,cmpI a.Val.N b.Val.N,cmpI a.Val.D b.Val.D,cmpTy a.Ty b.Ty,cmpLf a.Lin b.Lin] (by simp)) ⟨U,O,T⟩)<|zM O O (yT O O)<|yJ<|W<|zH<|G O<|Y O<|yO O<|W<|zF O (fun c1=>?_) (fun c1=>?_)
 ·try simp only [sx] at c1
  refine G O<|Y O<|Y O<|W<|zK<|zP O ?_
  rw [cmpE_eq,if_neg (show ¬cmpHd a b=0 from c1)];rfl
 ·try simp only [sx] at c1
  refine zJ<|zH<|G O<|zE O yV<|zI wE (J 1 O) O<|zE O yV<|zI wE (J 0 O) O<|qK O ok201 (zPy a.Idx b.Idx _ cmpIx hIa hIb (fun x hx y hy=>FnPur.of_pur (first:=[]) (cap:=[]) ok202 (zLi x y (by have:=zCv hx;omega) (by have:=zCv hy;omega)))) ⟨U,O,U,O,U,O,T⟩<|Y O<|W<|G O<|Y O<|yO O<|W<|zF O (fun c2=>?_) (fun c2=>?_)
  ·try simp only [sx] at c2
   refine G O<|Y O<|Y O<|W<|zK<|zP O ?_
   rw [cmpE_eq,if_pos (show cmpHd a b=0 from c1),if_neg c2]
  ·try simp only [sx] at c2
   refine zJ<|G O<|zE O kB<|zI wT (J 1 O) O<|zE O kB<|zI wT (J 0 O) O<|qK O ok203 (zPz a.Args b.Args _ cmpE hAa hAb (fun x hx y hy=>FnPur.of_pur (first:=[]) (cap:=[]) ok146 (ih x hx y (by have:=Ex.arg_wt hx;omega) (by have:=Ex.arg_wt hy;omega)))) ⟨U,O,U,O,U,O,T⟩<|Y O<|W<|zK<|zP O ?_
   rw [cmpE_eq,if_pos (show cmpHd a b=0 from c1),if_pos c2]
theorem expr_Compare (a b:Ex) (ha:a.wt<=4294967296) (hb:b.wt<=4294967296):Pur cfg 146 [vE a,vE b] (vI (cmpE a b)):=by
  induction a using Ex.ind generalizing b with
  |_ a ih=>exact zLj a b (fun x hx y h1 h2=>ih x hx y h1 h2) ha hb
theorem zPp (a b:Ex) (ha:a.wt<=4294967296) (hb:b.wt<=4294967296):
    Pur cfg 76 [vE a,vE b] (vB (decide (a=b))):=by
 refine zS Tryz.func76 O Tryz.ntmps76 Tryz.results76 O ?_
 intro z hz
 refine G O<|zU O O (qI O O) ?_
 rintro _ _ ⟨b1,rfl,rfl⟩
 refine zU O O (qI O O) ?_
 rintro _ _ ⟨b2,rfl,rfl⟩
 refine Y O<|W<|G O<|zL qZ (J 1 O) O<|zL qZ (J 0 O) O<|qK O ok146 (expr_Compare a b ha hb) ⟨U,O,U,O,T⟩<|yH O<|Y O<|W<|zK<|zP O ?_
 exact congrArg vB (decide_eq_decide.2 (cmpE_zero a b))
end Go.W
end
section
set_option maxRecDepth 10000
namespace Go.W
open Go Go.Eng Go.Proofs Go.L41 Go.Br
attribute [local irreducible] AWP RWP TD finQ
theorem fd101_1:fieldT Tryz.prog 101 1=some (2,4):=by kernel_rfl
theorem ok42:callOk Tryz.prog 42=true:=by kernel_rfl
theorem ok43:callOk Tryz.prog 43=true:=by kernel_rfl
theorem ok45:callOk Tryz.prog 45=true:=by kernel_rfl
theorem ok99:callOk Tryz.prog 99=true:=by kernel_rfl
theorem ok100:callOk Tryz.prog 100=true:=by kernel_rfl
theorem one4:oneT Tryz.prog 4=true:=by kernel_rfl
theorem base_Con (a b:Cn) (ha:a.Lin.L.length<=5864062014805):
    Pur cfg 99 [vCn a,vCn b] (vB (decide (a=b))):=by
 refine zS Tryz.func99 O Tryz.ntmps99 Tryz.results99 O ?_
 intro z hz
 refine G O<|zU O O (qI O O) ?_
 rintro _ _ ⟨b1,rfl,rfl⟩
 refine zU O O (qI O O) ?_
 rintro _ _ ⟨b2,rfl,rfl⟩
 refine Y O<|W<|G O<|zE O fd101_1<|zI one4 (J 1 O) O<|zE O fd101_1<|zI one4 (J 0 O) O<|qC O (det_beql O un4 O O)<|Y O<|rL0 O (fun g1_5=>zD O zLh O) O<|rL1 11 O (fun g1_5=>zR O kA O (J 1 O) O) O<|rL0 O (fun g1_5=>zD O zLh O) O<|rL1 13 O (fun g1_5=>zR O kA O (J 0 O) O) O<|rLz [(12,_),(14,_)] O gv1 ⟨O,O,O,O,T⟩ (fun g1_5=>qG O ok34 (zHh a.Lin b.Lin (by omega)) ⟨U,O,U,O,T⟩) O<|yZ O (fun h=>h)<|Y O<|W<|zK<|zP O ?_
 exact congrArg vB (cn_eq a b)
theorem base_Cons (a b:List Cn) (ha:a.length<=4294967296) (hx0:∀x,x∈a->x.Lin.L.length<=5864062014805):
    Pur cfg 43 [.c (.sl 3 (a.map Cn.cells)),.c (.sl 3 (b.map Cn.cells))] (vB (decide (a=b))):=by
 refine zS Tryz.func43 O Tryz.ntmps43 Tryz.results43 O ?_
 intro z hz
 refine G O<|Y O<|W<|zH<|G O<|Y O<|zT O el23<|Y O<|zT O el23<|yO O<|W<|zF O (fun c1=>?_) (fun c1=>?_)
 ·try simp only [sx] at c1
  refine G O<|Y O<|W<|zK<|zP O ?_
  rw [yA (fun h=>c1 (by rw [h]))]
 ·try simp only [sx] at c1
  refine zJ<|zH<|G O<|Y O<|W<|zN<|zV ⟨[(5,.c _),(0,.c _),(1,.c _)],[]⟩ (Weak.mk [] ⟨U,U,U,T⟩ O)<|zY 1 0 O O (Nat) (fun k=>[(5,vI k)]) (fun k=>[]) (fun k=>k<=a.length/\(a.take k=b.take k)) (fun k=>a.length-k) ⟨0,⟨by omega,O⟩,Weak.mk [] ⟨U,U,U,T⟩ O⟩ ?_
  rintro k ⟨hk,hp⟩
  refine zH<|G O<|Y O<|Y O<|zT O el23<|qW O<|W<|zF O (fun c2=>?_) (fun c2=>?_)
  ·try simp only [sx] at c2
   obtain ⟨x,hx⟩:=qO a k (by omega)
   obtain ⟨y,hy⟩:=qO b k (by omega)
   refine zJ<|zH<|zN<|zH<|qS 10 mixed (by kernel_rfl) O O<|zM O O (zQ O O)<|zM O O (zQ O O)<|zM O O (qE O el23 O O (by omega) (getm (by assumption)))<|zM O O (zR O agg101 O zX O)<|zM O O (zQ O O)<|zM O O (zQ O O)<|zM O O (qE O el23 O O (by omega) (getm (by assumption)))<|zM O O (zR O agg101 O zX O)<|zM O O (qG O ok99 (base_Con x y (hx0 x (zW hx))) ⟨U,O,U,O,T⟩)<|zM O O (kF O O)<|yJ<|W<|zF O (fun c3=>?_) (fun c3=>?_)
   ·try simp only [sx] at c3
    refine G O<|Y O<|W<|zK<|zP O ?_
    rw [yA (zBg hx hy c3)]
   ·try simp only [sx] at c3
    refine zJ<|zO O<|Y O<|qB O ⟨by omega,by omega⟩<|Y O<|W ?_
    refine ⟨k+1,⟨by omega,wI hx hy hp c3⟩,(by omega),Weak.mk [] ⟨U,U,U,T⟩ O⟩
  ·try simp only [sx] at c2
   refine qF<|G O<|Y O<|W<|zK<|zP O ?_
   rw [kR (zAo hp (by omega) (by omega))]
theorem base_Axes (a b:List Ax) (ha:a.length<=4294967296) (hx0:∀x,x∈a->x.Size.L.length<=6000000000000):
    Pur cfg 100 [.c (.sl 3 (a.map Ax.cells)),.c (.sl 3 (b.map Ax.cells))] (vB (decide (a=b))):=by
 refine zS Tryz.func100 O Tryz.ntmps100 Tryz.results100 O ?_
 intro z hz
 refine G O<|Y O<|W<|zH<|G O<|Y O<|zT O el61<|Y O<|zT O el61<|yO O<|W<|zF O (fun c1=>?_) (fun c1=>?_)
 ·try simp only [sx] at c1
  refine G O<|Y O<|W<|zK<|zP O ?_
  rw [yA (fun h=>c1 (by rw [h]))]
 ·try simp only [sx] at c1
  refine zJ<|zH<|G O<|Y O<|W<|zN<|zV ⟨[(5,.c _),(0,.c _),(1,.c _)],[]⟩ (Weak.mk [] ⟨U,U,U,T⟩ O)<|zY 1 0 O O (Nat) (fun k=>[(5,vI k)]) (fun k=>[]) (fun k=>k<=a.length/\(a.take k=b.take k)) (fun k=>a.length-k) ⟨0,⟨by omega,O⟩,Weak.mk [] ⟨U,U,U,T⟩ O⟩ ?_
  rintro k ⟨hk,hp⟩
  refine zH<|G O<|Y O<|Y O<|zT O el61<|qW O<|W<|zF O (fun c2=>?_) (fun c2=>?_)
  ·try simp only [sx] at c2
   obtain ⟨x,hx⟩:=qO a k (by omega)
   obtain ⟨y,hy⟩:=qO b k (by omega)
   refine zJ<|zH<|zN<|zH<|qS 25 mixed (by kernel_rfl) O O<|zM O O (zQ O O)<|zM O O (zQ O O)<|zM O O (qE O el61 O O (by omega) (getm hx))<|zM O O (qN O zBe O)<|zM O O (zG O one9 O zX O)<|zM O O (zQ O O)<|zM O O (zQ O O)<|zM O O (qE O el61 O O (by omega) (getm hy))<|zM O O (qN O zBe O)<|zM O O (zG O one9 O zX O)<|zM O O (zAs O O O)<|zM O O (zQ O O)<|qA [] O O O O gv1 T (fun g6_11=>zQ O O) O<|qA [] O O O O gv1 T (fun g6_11=>zQ O O) O<|qA [(29,_),(30,_)] O O O O gv1 ⟨O,O,O,O,T⟩ (fun g6_11=>qE O el61 O O (by omega) (getm hx)) O<|qA [(31,_)] O O O O gv1 ⟨O,O,T⟩ (fun g6_11=>qN O zCg O) O<|qA [(32,_)] O O O O gv1 ⟨O,O,T⟩ (fun g6_11=>zR O kA O zX O) O<|qA [] O O O O gv1 T (fun g6_11=>zQ O O) O<|qA [] O O O O gv1 T (fun g6_11=>zQ O O) O<|qA [(34,_),(35,_)] O O O O gv1 ⟨O,O,O,O,T⟩ (fun g6_11=>qE O el61 O O (by omega) (getm hy)) O<|qA [(36,_)] O O O O gv1 ⟨O,O,T⟩ (fun g6_11=>qN O zCg O) O<|qA [(37,_)] O O O O gv1 ⟨O,O,T⟩ (fun g6_11=>zR O kA O zX O) O<|qA [(33,_),(38,_)] O O O O gv1 ⟨O,O,O,O,T⟩ (fun g6_11=>qG O ok34 (zHh x.Size y.Size (hx0 x (zW hx))) ⟨U,O,U,O,T⟩) O<|qA [(39,_)] O O O O gv1 ⟨O,O,T⟩ (fun g6_11=>kF O O) O<|zM O O (zBu O O O O (fun h=>(lzf h)))<|yJ<|W<|zF O (fun c3=>?_) (fun c3=>?_)
   ·have hne:=ax_ne c3
    refine G O<|Y O<|W<|zK<|zP O ?_
    rw [yA (zBg hx hy hne)]
   ·have heq:=ax_yes' c3
    refine zJ<|zO O<|Y O<|qB O ⟨by omega,by omega⟩<|Y O<|W ?_
    refine ⟨k+1,⟨by omega,wI hx hy hp heq⟩,(by omega),Weak.mk [] ⟨U,U,U,T⟩ O⟩
  ·try simp only [sx] at c2
   refine qF<|G O<|Y O<|W<|zK<|zP O ?_
   rw [kR (zAo hp (by omega) (by omega))]
theorem base_Def (a b:Df) (h1:a.Dims.length<=4294967296) (h2:a.Red.length<=4294967296) (h3:∀x,x∈a.Dims->x.Size.L.length<=6000000000000) (h4:∀x,x∈a.Red->x.Size.L.length<=6000000000000) (h5:a.Body.wt<=6000000000000):
    Pur cfg 45 [vDf a,vDf b] (vB (decide (a=b))):=by
 refine zS Tryz.func45 O Tryz.ntmps45 Tryz.results45 O ?_
 intro z hz
 refine G O<|zU O O (qI O O) ?_
 rintro _ _ ⟨b1,rfl,rfl⟩
 refine zU O O (qI O O) ?_
 rintro _ _ ⟨b2,rfl,rfl⟩
 refine Y O<|W<|G O<|zE O zDd<|zI one9 (J 1 O) O<|zE O zDd<|zI one9 (J 0 O) O<|kM O<|Y O<|rL0 O (fun g1_5=>zD O zFq O) O<|rL1 11 O (fun g1_5=>zR O yB O (J 1 O) O) O<|rL0 O (fun g1_5=>zD O zFq O) O<|rL1 13 O (fun g1_5=>zR O yB O (J 0 O) O) O<|rLz [(12,_),(14,_)] O gv1 ⟨O,O,O,O,T⟩ (fun g1_5=>zJq O fl37 O O O) O<|yZ O (fun h=>h)<|Y O<|rL0 O (fun g1_12=>zD O zFp O) O<|rL1 18 O (fun g1_12=>zG O one3 O (J 1 O) O) O<|rL0 O (fun g1_12=>zD O zFp O) O<|rL1 20 O (fun g1_12=>zG O one3 O (J 0 O) O) O<|rLz [(19,_),(21,_)] O gv1 ⟨O,O,O,O,T⟩ (fun g1_12=>yM O O O) O<|yZ O (fun h=>h)<|Y O<|rL0 O (fun g1_19=>zD O zAm O) O<|rL1 25 O (fun g1_19=>zG O kP O (J 1 O) O) O<|rL0 O (fun g1_19=>zD O zAm O) O<|rL1 27 O (fun g1_19=>zG O kP O (J 0 O) O) O<|rLz [(26,_),(28,_)] O gv1 ⟨O,O,O,O,T⟩ (fun g1_19=>qG O ok100 (base_Axes a.Dims b.Dims h1 h3) ⟨U,O,U,O,T⟩) O<|yZ O (fun h=>h)<|Y O<|rL0 O (fun g1_26=>zD O zAd O) O<|rL1 32 O (fun g1_26=>zG O kP O (J 1 O) O) O<|rL0 O (fun g1_26=>zD O zAd O) O<|rL1 34 O (fun g1_26=>zG O kP O (J 0 O) O) O<|rLz [(33,_),(35,_)] O gv1 ⟨O,O,O,O,T⟩ (fun g1_26=>qG O ok100 (base_Axes a.Red b.Red h2 h4) ⟨U,O,U,O,T⟩) O<|yZ O (fun h=>h)<|Y O<|rL0 O (fun g1_33=>zD O zAw O) O<|rL1 39 O (fun g1_33=>zR O qZ O (J 1 O) O) O<|rL0 O (fun g1_33=>zD O zAw O) O<|rL1 41 O (fun g1_33=>zR O qZ O (J 0 O) O) O<|rLz [(40,_),(42,_)] O gv1 ⟨O,O,O,O,T⟩ (fun g1_33=>qG O ok12 (zKa a.Body b.Body h5) ⟨U,O,U,O,T⟩) O<|yZ O (fun h=>h)<|Y O<|W<|zK<|zP O ?_
 exact congrArg vB (df_eq a b)
theorem base_ProgF (p q:Pg) (hP:p.Ok):
    Pur cfg 15 [vPg p,vPg q] (vB (decide (p=q))):=by
 refine zS Tryz.func15 O Tryz.ntmps15 Tryz.results15 O ?_
 intro z hz
 have hpp:=hP.params
 have hpd:=hP.defs
 refine G O<|zU O O (qI O O) ?_
 rintro _ _ ⟨b1,rfl,rfl⟩
 refine zU O O (qI O O) ?_
 rintro _ _ ⟨b2,rfl,rfl⟩
 refine Y O<|W<|zH<|G O<|zE O zCa<|zI zAu (J 1 O) O<|zE O zCa<|zI zAu (J 0 O) O<|qK O ok42 (zMg p.Sizes q.Sizes (Nat.le_trans hP.sizes (by decide))) ⟨U,O,U,O,T⟩<|wF O<|Y O<|rL0 O (fun g1_6=>zD O zGi O) O<|rL1 14 O (fun g1_6=>zG O one23 O (J 1 O) O) O<|rL0 O (fun g1_6=>zD O zGi O) O<|rL1 16 O (fun g1_6=>zG O one23 O (J 0 O) O) O<|rLz [(15,_),(17,_)] O gv1 ⟨O,O,O,O,T⟩ (fun g1_6=>qG O ok43 (base_Cons p.Where q.Where hP.wh hP.whs) ⟨U,O,U,O,T⟩) O<|rL1 18 O (fun g1_6=>kF O O) O<|r_or O (fun h=>(lzf h))<|Y O<|rL0 O (fun g1_14=>zD O zEc O) O<|rL1 22 O (fun g1_14=>zG O zAu O (J 1 O) O) O<|rL0 O (fun g1_14=>zD O zEc O) O<|rL1 24 O (fun g1_14=>zG O zAu O (J 0 O) O) O<|rLz [(23,_),(25,_)] O gv1 ⟨O,O,O,O,T⟩ (fun g1_14=>qG O ok42 (zMg p.Outs q.Outs (Nat.le_trans hP.outs (by decide))) ⟨U,O,U,O,T⟩) O<|rL1 26 O (fun g1_14=>kF O O) O<|r_or O (fun h=>(lzf h))<|Y O<|rL0 O (fun g1_22=>zD O wZ O) O<|rL1 30 O (fun g1_22=>zG O zCf O (J 1 O) O) O<|rL1 31 O (fun g1_22=>qP O el24 O) O<|rL0 O (fun g1_22=>zD O wZ O) O<|rL1 33 O (fun g1_22=>zG O zCf O (J 0 O) O) O<|rL1 34 O (fun g1_22=>qP O el24 O) O<|rLz [(32,_),(35,_)] O gv1 ⟨O,O,O,O,T⟩ (fun g1_22=>wA O O O) O<|r_or O (fun h=>(lzf h))<|Y O<|rL0 O (fun g1_31=>zD O yK O) O<|rL1 39 O (fun g1_31=>zG O kU O (J 1 O) O) O<|rL1 40 O (fun g1_31=>qP O el25 O) O<|rL0 O (fun g1_31=>zD O yK O) O<|rL1 42 O (fun g1_31=>zG O kU O (J 0 O) O) O<|rL1 43 O (fun g1_31=>qP O el25 O) O<|rLz [(41,_),(44,_)] O gv1 ⟨O,O,O,O,T⟩ (fun g1_31=>wA O O O) O<|r_or O (fun h=>(lzf h))<|W<|zF O (fun c1=>?_) (fun c1=>?_)
 ·have hne:=pr_t c1
  refine G O<|Y O<|W<|zK<|zP O ?_
  rw [yA hne]
 ·obtain ⟨k1,k2,k3,k4,k5⟩:=pr_f c1
  refine zJ<|zH<|G O<|Y O<|W<|zN<|zV ⟨[(5,.c _),(2,.c _),(3,.c _)],[_,_]⟩ (Weak.mk [true,true] ⟨U,U,U,T⟩ O)<|zY 1 0 O O (Nat) (fun k=>[(5,vI k)]) (fun k=>[]) (fun k=>k<=p.Params.length/\(p.Params.take k=q.Params.take k)) (fun k=>p.Params.length-k) ⟨0,⟨by omega,O⟩,Weak.mk [true,true] ⟨U,U,U,T⟩ O⟩ ?_
  rintro k ⟨hk,hp⟩
  refine zH<|G O<|Y O<|zE O wZ<|zI zCf (J 1 O) O<|zT O el24<|qW O<|W<|zF O (fun c2=>?_) (fun c2=>?_)
  ·try simp only [sx] at c2
   obtain ⟨x,hx⟩:=qO p.Params k (by omega)
   obtain ⟨y,hy⟩:=qO q.Params k (by omega)
   refine zJ<|zH<|zN<|zH<|qS 44 mixed (by kernel_rfl) O O<|zM O O (zD O wZ O)<|zM O O (zG O zCf O (J 1 O) O)<|zM O O (zQ O O)<|zM O O (qE O el24 O O (by omega) (getm hx))<|zM O O (qN O zMb O)<|zM O O (zG O one9 O zX O)<|zM O O (zD O wZ O)<|zM O O (zG O zCf O (J 0 O) O)<|zM O O (zQ O O)<|zM O O (qE O el24 O O (by omega) (getm hy))<|zM O O (qN O zMb O)<|zM O O (zG O one9 O zX O)<|zM O O (zAs O O O)<|zM O O (zQ O O)<|qA [] O O O O gv1 T (fun g6_13=>zD O wZ O) O<|qA [(68,_)] O O O O gv1 ⟨O,O,T⟩ (fun g6_13=>zG O zCf O (J 1 O) O) O<|qA [] O O O O gv1 T (fun g6_13=>zQ O O) O<|qA [(69,_),(70,_)] O O O O gv1 ⟨O,O,O,O,T⟩ (fun g6_13=>qE O el24 O O (by omega) (getm hx)) O<|qA [(71,_)] O O O O gv1 ⟨O,O,T⟩ (fun g6_13=>qN O fd67_1 O) O<|qA [(72,_)] O O O O gv1 ⟨O,O,T⟩ (fun g6_13=>zR O yB O zX O) O<|qA [] O O O O gv1 T (fun g6_13=>zD O wZ O) O<|qA [(74,_)] O O O O gv1 ⟨O,O,T⟩ (fun g6_13=>zG O zCf O (J 0 O) O) O<|qA [] O O O O gv1 T (fun g6_13=>zQ O O) O<|qA [(75,_),(76,_)] O O O O gv1 ⟨O,O,O,O,T⟩ (fun g6_13=>qE O el24 O O (by omega) (getm hy)) O<|qA [(77,_)] O O O O gv1 ⟨O,O,T⟩ (fun g6_13=>qN O fd67_1 O) O<|qA [(78,_)] O O O O gv1 ⟨O,O,T⟩ (fun g6_13=>zR O yB O zX O) O<|qA [(73,_),(79,_)] O O O O gv1 ⟨O,O,O,O,T⟩ (fun g6_13=>zAl O fl37 O O O) O<|zM O O (zBu O O O O (fun h=>(lzf h)))<|zM O O (zQ O O)<|qA [] O O O O gv1 T (fun g6_28=>zD O wZ O) O<|qA [(83,_)] O O O O gv1 ⟨O,O,T⟩ (fun g6_28=>zG O zCf O (J 1 O) O) O<|qA [] O O O O gv1 T (fun g6_28=>zQ O O) O<|qA [(84,_),(85,_)] O O O O gv1 ⟨O,O,O,O,T⟩ (fun g6_28=>qE O el24 O O (by omega) (getm hx)) O<|qA [(86,_)] O O O O gv1 ⟨O,O,T⟩ (fun g6_28=>qN O zFo O) O<|qA [(87,_)] O O O O gv1 ⟨O,O,T⟩ (fun g6_28=>zG O zAg O zX O) O<|qA [] O O O O gv1 T (fun g6_28=>zD O wZ O) O<|qA [(89,_)] O O O O gv1 ⟨O,O,T⟩ (fun g6_28=>zG O zCf O (J 0 O) O) O<|qA [] O O O O gv1 T (fun g6_28=>zQ O O) O<|qA [(90,_),(91,_)] O O O O gv1 ⟨O,O,O,O,T⟩ (fun g6_28=>qE O el24 O O (by omega) (getm hy)) O<|qA [(92,_)] O O O O gv1 ⟨O,O,T⟩ (fun g6_28=>qN O zFo O) O<|qA [(93,_)] O O O O gv1 ⟨O,O,T⟩ (fun g6_28=>zG O zAg O zX O) O<|qA [(88,_),(94,_)] O O O O gv1 ⟨O,O,O,O,T⟩ (fun g6_28=>qG O ok44 (base_LinsF x.Dims y.Dims (Nat.le_trans (hP.ps x (zW hx)).1 (by decide)) (fun l hl=>Nat.le_trans ((hP.ps x (zW hx)).2 l hl) (by decide))) ⟨U,O,U,O,T⟩) O<|qA [(95,_)] O O O O gv1 ⟨O,O,T⟩ (fun g6_28=>kF O O) O<|zM O O (zBu O O O O (fun h=>(lzf h)))<|yJ<|W<|zF O (fun c3=>?_) (fun c3=>?_)
   ·have hne:=pm_t c3
    refine G O<|Y O<|W<|zK<|zP O ?_
    rw [yA (fun h=>zBg hx hy hne (by rw [h]))]
   ·have heq:=pm_f c3
    refine zJ<|zO O<|Y O<|qB O ⟨by omega,by omega⟩<|Y O<|W ?_
    refine ⟨k+1,⟨by omega,wI hx hy hp heq⟩,(by omega),Weak.mk [true,true] ⟨U,U,U,T⟩ O⟩
  ·try simp only [sx] at c2
   have hPe:=zAo hp (by omega) k4
   refine qF<|zH<|G O<|Y O<|W<|zN<|zV ⟨[(6,.c _),(2,.c _),(3,.c _)],[_,_]⟩ (Weak.mk [true,true] ⟨U,U,U,T⟩ O)<|zY 1 0 O O (Nat) (fun k=>[(6,vI k)]) (fun k=>[]) (fun k=>k<=p.Defs.length/\(p.Defs.take k=q.Defs.take k)) (fun k=>p.Defs.length-k) ⟨0,⟨by omega,O⟩,Weak.mk [true,true] ⟨U,U,U,T⟩ O⟩ ?_
   rintro k ⟨hk,hq⟩
   refine zH<|G O<|Y O<|zE O yK<|zI kU (J 1 O) O<|zT O el25<|qW O<|W<|zF O (fun c4=>?_) (fun c4=>?_)
   ·try simp only [sx] at c4
    obtain ⟨x,hx⟩:=qO p.Defs k (by omega)
    obtain ⟨y,hy⟩:=qO q.Defs k (by omega)
    refine zJ<|zH<|zN<|zH<|qS 12 mixed (by kernel_rfl) O O<|zM O O (zD O yK O)<|zM O O (zG O kU O (J 1 O) O)<|zM O O (zQ O O)<|zM O O (qE O el25 O O (by omega) (getm hx))<|zM O O (zR O wP O zX O)<|zM O O (zD O yK O)<|zM O O (zG O kU O (J 0 O) O)<|zM O O (zQ O O)<|zM O O (qE O el25 O O (by omega) (getm hy))<|zM O O (zR O wP O zX O)<|zM O O (qG O ok45 (base_Def x y (by have:=(hP.ds x (zW hx)).1;omega) (by have:=(hP.ds x (zW hx)).2.1;omega) (fun a ha=>Nat.le_trans ((hP.ds x (zW hx)).2.2.1 a ha) (by decide)) (fun a ha=>Nat.le_trans ((hP.ds x (zW hx)).2.2.2.1 a ha) (by decide)) (Nat.le_trans (hP.ds x (zW hx)).2.2.2.2 (by decide))) ⟨U,O,U,O,T⟩)<|zM O O (kF O O)<|yJ<|W<|zF O (fun c5=>?_) (fun c5=>?_)
    ·try simp only [sx] at c5
     refine G O<|Y O<|W<|zK<|zP O ?_
     rw [yA (fun h=>zBg hx hy c5 (by rw [h]))]
    ·try simp only [sx] at c5
     refine zJ<|zO O<|Y O<|qB O ⟨by omega,by omega⟩<|Y O<|W ?_
     refine ⟨k+1,⟨by omega,wI hx hy hq c5⟩,(by omega),Weak.mk [true,true] ⟨U,U,U,T⟩ O⟩
   ·try simp only [sx] at c4
    refine qF<|G O<|Y O<|W<|zK<|zP O ?_
    rw [kR (pg_yes k1 k2 k3 hPe (zAo hq (by omega) k5))]
end Go.W
end
section
set_option maxRecDepth 10000
namespace Go.W
open Go Go.Eng Go.Proofs Go.L41 Go.Br
attribute [local irreducible] AWP RWP TD finQ
theorem ok238:callOk Tryz.prog 238=true:=by kernel_rfl
theorem ok239:callOk Tryz.prog 239=true:=by kernel_rfl
theorem expr_sorted (sv:Value) (l:List ByteArray) (hl:l.length<=4294967296):
    Con cfg 194 [.c (.lit sv)] [.vec sv 9 1 (strRows l)] fun r μ'=>∃sv',r=.c (.lit sv')/\μ'=[.vec sv' 9 1 (strRows (thinB (sortB l)))]:=by
 refine zS Tryz.func194 O Tryz.ntmps194 Tryz.results194 O ?_
 intro z hz
 refine G O<|qC O (yN 1 O O)<|W<|G O<|Y O<|qC O (yS [0] O ok238 (sort_con sv l hl) ⟨U,O,T⟩ O)<|W<|G O<|Y O<|zU O O (zLw 0 O O ok239 (thin_con sv (sortB l) (by rw [sortB_len];exact hl)) ⟨U,O,T⟩) ?_
 rintro _ _ ⟨sv1,rfl,rfl⟩
 refine Y O<|W<|zK<|zP O ?_
 exact ⟨_,O,O⟩
end Go.W
end
