/-
  Walks: what functions of the program compute. Printed by wip/gen/mk2.py.
  Walks: what functions of the program compute. Printed by wip/gen/mk2.py.
  Walks: what functions of the program compute. Printed by wip/gen/mk2.py.
  Conditions: none.
-/
import Derived.Test.YtkidnhldibjiaaaGreatDoorWK
import Derived.Test.YtkidnhldibjiaaaGreatDoorPlain
import Derived.Test.YtkidnhldibjiaaaGreatDoorEngZ
import Derived.Test.YtkidnhldibjiaaaGreatDoorWP
import Derived.Test.YtkidnhldibjiaaaGreatDoorPlain2
set_option linter.unusedSimpArgs false
set_option linter.unusedVariables false
section
set_option maxRecDepth 10000
namespace Go.W
open Go Go.Eng Go.Proofs Go.L41 Go.Br
attribute [local irreducible] AWP RWP TD finQ
theorem ok146:callOk Tryz.prog 146=true:=by kernel_rfl
theorem ok195:callOk Tryz.prog 195=true:=by kernel_rfl
theorem ok196:callOk Tryz.prog 196=true:=by kernel_rfl
theorem ok197:callOk Tryz.prog 197=true:=by kernel_rfl
theorem ok198:callOk Tryz.prog 198=true:=by kernel_rfl
theorem ok199:callOk Tryz.prog 199=true:=by kernel_rfl
theorem ok200:callOk Tryz.prog 200=true:=by kernel_rfl
theorem ok201:callOk Tryz.prog 201=true:=by kernel_rfl
theorem ok202:callOk Tryz.prog 202=true:=by kernel_rfl
theorem ok203:callOk Tryz.prog 203=true:=by kernel_rfl
theorem ok240:callOk Tryz.prog 240=true:=by kernel_rfl
theorem ok242:callOk Tryz.prog 242=true:=by kernel_rfl
theorem ok243:callOk Tryz.prog 243=true:=by kernel_rfl
theorem ok244:callOk Tryz.prog 244=true:=by kernel_rfl
theorem ok245:callOk Tryz.prog 245=true:=by kernel_rfl
theorem ok246:callOk Tryz.prog 246=true:=by kernel_rfl
theorem ok247:callOk Tryz.prog 247=true:=by kernel_rfl
theorem ok248:callOk Tryz.prog 248=true:=by kernel_rfl
theorem ok285:callOk Tryz.prog 285=true:=by kernel_rfl
theorem zJy (a:Int):
    Pur cfg 240 [vI a] (vB false):=by
 refine zS Tryz.func240 O Tryz.ntmps240 Tryz.results240 O ?_
 intro z hz
 refine G O<|Y O<|W<|G O<|Y O<|Y O<|yP O<|Y O<|W<|zL<|zP O ?_
 exact congrArg vB (by simp)
theorem kV (a b:Int):
    Pur cfg 196 [vI a,vI b] (vI (cmpI a b)):=by
 refine zS Tryz.func196 O Tryz.ntmps196 Tryz.results196 O ?_
 intro z hz
 refine G O<|Y O<|W<|G O<|Y O<|qK O ok240 (zJy a) ⟨U,O,T⟩<|Y O<|W<|G O<|Y O<|qK O ok240 (zJy b) ⟨U,O,T⟩<|Y O<|W<|zG<|G O<|Y O<|W<|zF O (fun c1=>?_) (fun c1=>?_)
 ·exact absurd c1 (by decide)
 ·refine zJ<|zG<|G O<|Y O<|W<|zF O (fun c3=>?_) (fun c3=>?_)
  ·exact absurd c3 (by decide)
  ·refine zJ<|zG<|G O<|Y O<|Y O<|qY O<|W<|zF O (fun c4=>?_) (fun c4=>?_)
   ·try simp only [sx] at c4
    refine G O<|Y O<|W<|zL<|zP O ?_
    rw [cmpI_lt c4]
   ·try simp only [sx] at c4
    refine zJ<|zG<|G O<|Y O<|Y O<|qA O (yI O O O)<|W<|zF O (fun c5=>?_) (fun c5=>?_)
    ·try simp only [sx] at c5
     refine G O<|Y O<|W<|zL<|zP O ?_
     rw [cmpI_gt c5]
    ·try simp only [sx] at c5
     refine zJ<|G O<|Y O<|W<|zL<|zP O ?_
     rw [cmpI_eq (by omega) (by omega)]
theorem zJz (a:Int):
    Pur cfg 242 [vI a] (vB false):=by
 refine zS Tryz.func242 O Tryz.ntmps242 Tryz.results242 O ?_
 intro z hz
 refine G O<|Y O<|W<|G O<|Y O<|Y O<|yP O<|Y O<|W<|zL<|zP O ?_
 exact congrArg vB (by simp)
theorem zGr (a b:Int):
    Pur cfg 198 [vI a,vI b] (vI (cmpI a b)):=by
 refine zS Tryz.func198 O Tryz.ntmps198 Tryz.results198 O ?_
 intro z hz
 refine G O<|Y O<|W<|G O<|Y O<|qK O ok242 (zJz a) ⟨U,O,T⟩<|Y O<|W<|G O<|Y O<|qK O ok242 (zJz b) ⟨U,O,T⟩<|Y O<|W<|zG<|G O<|Y O<|W<|zF O (fun c1=>?_) (fun c1=>?_)
 ·exact absurd c1 (by decide)
 ·refine zJ<|zG<|G O<|Y O<|W<|zF O (fun c3=>?_) (fun c3=>?_)
  ·exact absurd c3 (by decide)
  ·refine zJ<|zG<|G O<|Y O<|Y O<|qY O<|W<|zF O (fun c4=>?_) (fun c4=>?_)
   ·try simp only [sx] at c4
    refine G O<|Y O<|W<|zL<|zP O ?_
    rw [cmpI_lt c4]
   ·try simp only [sx] at c4
    refine zJ<|zG<|G O<|Y O<|Y O<|qA O (yI O O O)<|W<|zF O (fun c5=>?_) (fun c5=>?_)
    ·try simp only [sx] at c5
     refine G O<|Y O<|W<|zL<|zP O ?_
     rw [cmpI_gt c5]
    ·try simp only [sx] at c5
     refine zJ<|G O<|Y O<|W<|zL<|zP O ?_
     rw [cmpI_eq (by omega) (by omega)]
theorem cmp_Or_int (l:List Int) (hl:l.length<=4294967296):
    Pur cfg 195 [.c (.sl 1 (l.map fun n=>[cI n]))] (vI (orI l)):=by
 refine zS Tryz.func195 O Tryz.ntmps195 Tryz.results195 O ?_
 intro z hz
 refine G O<|Y O<|W<|G O<|Y O<|W<|zG<|G O<|Y O<|zV O el214<|Y O<|W<|zN<|zU ⟨[(8,.c _),(3,.c _),(6,.c _),(7,.c _)],[]⟩ (Weak.mk [] ⟨U,U,U,U,T⟩ O)<|zY 1 0 O O (Nat) (fun k=>[(8,vI k)]) (fun k=>[]) (fun k=>k<=l.length/\(orI l=orI (l.drop k))) (fun k=>l.length-k) ⟨0,⟨by omega,O⟩,Weak.mk [] ⟨U,U,U,U,T⟩ O⟩ ?_
 rintro k ⟨hk,hp⟩
 refine G O<|qY O<|W<|zG<|zF O (fun c1=>?_) (fun c1=>?_)
 ·try simp only [sx] at c1
  obtain ⟨x,hx⟩:=qP l k (by omega)
  refine zJ<|zG<|zN<|G O<|zZ O el214 (by omega) (getm (by assumption))<|zH one3 zX O<|Y O<|W<|G O<|Y O<|Y O<|yP O<|W<|zF O (fun c2=>?_) (fun c2=>?_)
  ·try simp only [sx] at c2
   refine G O<|Y O<|Y O<|W<|zL<|zP O ?_
   rw [hp,orI_at hx c2]
  ·try simp only [sx] at c2
   refine zJ<|zO O<|qB O ⟨by omega,by omega⟩<|Y O<|W ?_
   refine ⟨k+1,⟨by omega,hp.trans (orI_next hx c2)⟩,(by omega),Weak.mk [] ⟨U,U,U,U,T⟩ O⟩
 ·try simp only [sx] at c1
  refine qE<|G O<|Y O<|Y O<|W<|zL<|zP O ?_
  rw [hp,kD (by omega)];rfl
theorem zFj (a b:List Mono) (c:C) (f:Mono->Mono->Int) (ha:a.length<=4294967296) (hb:b.length<=4294967296) (hc:∀x,x∈a->∀y,y∈b->FnPur cfg c [vMono x,vMono y] (vI (f x y))):
    Pur cfg 243 [.c (.sl 2 (a.map Mono.cells)),.c (.sl 2 (b.map Mono.cells)),.c c] (vI (cmpL f a b)):=by
 refine zS Tryz.func243 O Tryz.ntmps243 Tryz.results243 O ?_
 intro z hz
 refine G O<|Y O<|W<|zG<|G O<|Y O<|zV O el38<|Y O<|W<|zN<|zU ⟨[(13,.c _),(0,.c _),(1,.c _),(2,.c _),(11,.c _),(12,.c _)],[]⟩ (Weak.mk [] ⟨U,U,U,U,U,U,T⟩ O)<|zY 1 0 O O (Nat) (fun k=>[(13,vI k)]) (fun k=>[]) (fun k=>k<=a.length/\(cmpL f a b=cmpL f (a.drop k) (b.drop k))/\(k<=b.length)) (fun k=>a.length-k) ⟨0,⟨by omega,O,by omega⟩,Weak.mk [] ⟨U,U,U,U,U,U,T⟩ O⟩ ?_
 rintro k ⟨hk,hp,hq⟩
 refine G O<|qY O<|W<|zG<|zF O (fun c1=>?_) (fun c1=>?_)
 ·try simp only [sx] at c1
  obtain ⟨x,hx⟩:=qP a k (by omega)
  refine zJ<|zG<|zN<|G O<|Y O<|zZ O el38 (by omega) (getm (by assumption))<|zK zDx zX O<|zT O O (yD O zIx) ?_
  rintro _ _ ⟨b1,rfl,rfl⟩
  refine Y O<|N 0 sz107 O<|W<|zG<|G O<|Y O<|Y O<|zV O el38<|qA O (wE O O O)<|W<|zF O (fun c2=>?_) (fun c2=>?_)
  ·try simp only [sx] at c2
   refine G O<|Y O<|W<|zL<|zP O ?_
   rw [hp,zNu hx (by omega)]
  ·try simp only [sx] at c2
   obtain ⟨y,hy⟩:=qP b k (by omega)
   refine zJ<|G O<|Y O<|Y O<|zZ O el38 (by omega) (getm (by assumption))<|zK zDx zX O<|zT O O (yD O zIx) ?_
   rintro _ _ ⟨b2,rfl,rfl⟩
   refine N 0 sz107 O<|W<|G O<|Y O<|zK zDx (J 1 O) O<|zK zDx (J 0 O) O<|qA O (kZ O O (hc _ (zW hx) _ (zW hy)) ⟨U,O,U,O,T⟩)<|Y O<|W<|G O<|Y O<|yP O<|W<|zF O (fun c3=>?_) (fun c3=>?_)
   ·try simp only [sx] at c3
    refine G O<|Y O<|Y O<|W<|zL<|zP O ?_
    rw [hp,cmpL_ne hx hy c3]
   ·try simp only [sx] at c3
    refine zJ<|zO O<|qB O ⟨by omega,by omega⟩<|Y O<|W ?_
    refine ⟨k+1,⟨by omega,hp.trans (zKb hx hy c3),by omega⟩,(by omega),Weak.mk [false,false] ⟨U,U,U,U,U,U,T⟩ O⟩
 ·try simp only [sx] at c1
  refine qE<|zG<|G O<|Y O<|zV O el38<|Y O<|zV O el38<|qY O<|W<|zF O (fun c4=>?_) (fun c4=>?_)
  ·try simp only [sx] at c4
   refine G O<|Y O<|W<|zL<|zP O ?_
   rw [hp,zKc (by omega) (by omega)]
  ·try simp only [sx] at c4
   refine zJ<|G O<|Y O<|W<|zL<|zP O ?_
   rw [hp,zNv (by omega) (by omega)]
theorem zGb (a b:List Ix) (c:C) (f:Ix->Ix->Int) (ha:a.length<=4294967296) (hb:b.length<=4294967296) (hc:∀x,x∈a->∀y,y∈b->FnPur cfg c [vIndex x,vIndex y] (vI (f x y))):
    Pur cfg 246 [.c (.sl 4 (a.map Ix.cells)),.c (.sl 4 (b.map Ix.cells)),.c c] (vI (cmpL f a b)):=by
 refine zS Tryz.func246 O Tryz.ntmps246 Tryz.results246 O ?_
 intro z hz
 refine G O<|Y O<|W<|zG<|G O<|Y O<|zV O el41<|Y O<|W<|zN<|zU ⟨[(13,.c _),(0,.c _),(1,.c _),(2,.c _),(11,.c _),(12,.c _)],[]⟩ (Weak.mk [] ⟨U,U,U,U,U,U,T⟩ O)<|zY 1 0 O O (Nat) (fun k=>[(13,vI k)]) (fun k=>[]) (fun k=>k<=a.length/\(cmpL f a b=cmpL f (a.drop k) (b.drop k))/\(k<=b.length)) (fun k=>a.length-k) ⟨0,⟨by omega,O,by omega⟩,Weak.mk [] ⟨U,U,U,U,U,U,T⟩ O⟩ ?_
 rintro k ⟨hk,hp,hq⟩
 refine G O<|qY O<|W<|zG<|zF O (fun c1=>?_) (fun c1=>?_)
 ·try simp only [sx] at c1
  obtain ⟨x,hx⟩:=qP a k (by omega)
  refine zJ<|zG<|zN<|G O<|Y O<|zZ O el41 (by omega) (getm (by assumption))<|zK zBf zX O<|zT O O (qD [none,some 2,none,some 2] O zDc O) ?_
  rintro _ _ ⟨b1,rfl,rfl⟩
  refine Y O<|N 0 zOj O<|W<|zG<|G O<|Y O<|Y O<|zV O el41<|qA O (wE O O O)<|W<|zF O (fun c2=>?_) (fun c2=>?_)
  ·try simp only [sx] at c2
   refine G O<|Y O<|W<|zL<|zP O ?_
   rw [hp,zNu hx (by omega)]
  ·try simp only [sx] at c2
   obtain ⟨y,hy⟩:=qP b k (by omega)
   refine zJ<|G O<|Y O<|Y O<|zZ O el41 (by omega) (getm (by assumption))<|zK zBf zX O<|zT O O (qD [none,some 2,none,some 2] O zDc O) ?_
   rintro _ _ ⟨b2,rfl,rfl⟩
   refine N 0 zOj O<|W<|G O<|Y O<|zK zBf (J 1 O) O<|zK zBf (J 0 O) O<|qA O (kZ O O (hc _ (zW hx) _ (zW hy)) ⟨U,O,U,O,T⟩)<|Y O<|W<|G O<|Y O<|yP O<|W<|zF O (fun c3=>?_) (fun c3=>?_)
   ·try simp only [sx] at c3
    refine G O<|Y O<|Y O<|W<|zL<|zP O ?_
    rw [hp,cmpL_ne hx hy c3]
   ·try simp only [sx] at c3
    refine zJ<|zO O<|qB O ⟨by omega,by omega⟩<|Y O<|W ?_
    refine ⟨k+1,⟨by omega,hp.trans (zKb hx hy c3),by omega⟩,(by omega),Weak.mk [false,false] ⟨U,U,U,U,U,U,T⟩ O⟩
 ·try simp only [sx] at c1
  refine qE<|zG<|G O<|Y O<|zV O el41<|Y O<|zV O el41<|qY O<|W<|zF O (fun c4=>?_) (fun c4=>?_)
  ·try simp only [sx] at c4
   refine G O<|Y O<|W<|zL<|zP O ?_
   rw [hp,zKc (by omega) (by omega)]
  ·try simp only [sx] at c4
   refine zJ<|G O<|Y O<|W<|zL<|zP O ?_
   rw [hp,zNv (by omega) (by omega)]
theorem zGa (a b:List Lf) (c:C) (f:Lf->Lf->Int) (ha:a.length<=4294967296) (hb:b.length<=4294967296) (hc:∀x,x∈a->∀y,y∈b->FnPur cfg c [vLin x,vLin y] (vI (f x y))):
    Pur cfg 285 [.c (.sl 2 (a.map Lf.cells)),.c (.sl 2 (b.map Lf.cells)),.c c] (vI (cmpL f a b)):=by
 refine zS Tryz.func285 O Tryz.ntmps285 Tryz.results285 O ?_
 intro z hz
 refine G O<|Y O<|W<|zG<|G O<|Y O<|zV O el65<|Y O<|W<|zN<|zU ⟨[(13,.c _),(0,.c _),(1,.c _),(2,.c _),(11,.c _),(12,.c _)],[]⟩ (Weak.mk [] ⟨U,U,U,U,U,U,T⟩ O)<|zY 1 0 O O (Nat) (fun k=>[(13,vI k)]) (fun k=>[]) (fun k=>k<=a.length/\(cmpL f a b=cmpL f (a.drop k) (b.drop k))/\(k<=b.length)) (fun k=>a.length-k) ⟨0,⟨by omega,O,by omega⟩,Weak.mk [] ⟨U,U,U,U,U,U,T⟩ O⟩ ?_
 rintro k ⟨hk,hp,hq⟩
 refine G O<|qY O<|W<|zG<|zF O (fun c1=>?_) (fun c1=>?_)
 ·try simp only [sx] at c1
  obtain ⟨x,hx⟩:=qP a k (by omega)
  refine zJ<|zG<|zN<|G O<|Y O<|zZ O el65 (by omega) (getm (by assumption))<|zK kG zX O<|zT O O (qD [none,some 2] O zr40 O) ?_
  rintro _ _ ⟨b1,rfl,rfl⟩
  refine Y O<|N 0 sz40 O<|W<|zG<|G O<|Y O<|Y O<|zV O el65<|qA O (wE O O O)<|W<|zF O (fun c2=>?_) (fun c2=>?_)
  ·try simp only [sx] at c2
   refine G O<|Y O<|W<|zL<|zP O ?_
   rw [hp,zNu hx (by omega)]
  ·try simp only [sx] at c2
   obtain ⟨y,hy⟩:=qP b k (by omega)
   refine zJ<|G O<|Y O<|Y O<|zZ O el65 (by omega) (getm (by assumption))<|zK kG zX O<|zT O O (qD [none,some 2] O zr40 O) ?_
   rintro _ _ ⟨b2,rfl,rfl⟩
   refine N 0 sz40 O<|W<|G O<|Y O<|zK kG (J 1 O) O<|zK kG (J 0 O) O<|qA O (kZ O O (hc _ (zW hx) _ (zW hy)) ⟨U,O,U,O,T⟩)<|Y O<|W<|G O<|Y O<|yP O<|W<|zF O (fun c3=>?_) (fun c3=>?_)
   ·try simp only [sx] at c3
    refine G O<|Y O<|Y O<|W<|zL<|zP O ?_
    rw [hp,cmpL_ne hx hy c3]
   ·try simp only [sx] at c3
    refine zJ<|zO O<|qB O ⟨by omega,by omega⟩<|Y O<|W ?_
    refine ⟨k+1,⟨by omega,hp.trans (zKb hx hy c3),by omega⟩,(by omega),Weak.mk [false,false] ⟨U,U,U,U,U,U,T⟩ O⟩
 ·try simp only [sx] at c1
  refine qE<|zG<|G O<|Y O<|zV O el65<|Y O<|zV O el65<|qY O<|W<|zF O (fun c4=>?_) (fun c4=>?_)
  ·try simp only [sx] at c4
   refine G O<|Y O<|W<|zL<|zP O ?_
   rw [hp,zKc (by omega) (by omega)]
  ·try simp only [sx] at c4
   refine zJ<|G O<|Y O<|W<|zL<|zP O ?_
   rw [hp,zNv (by omega) (by omega)]
theorem zGc (a b:List Ex) (c:C) (f:Ex->Ex->Int) (ha:a.length<=4294967296) (hb:b.length<=4294967296) (hc:∀x,x∈a->∀y,y∈b->FnPur cfg c [vE x,vE y] (vI (f x y))):
    Pur cfg 248 [.c (.sl 13 (a.map Ex.cells)),.c (.sl 13 (b.map Ex.cells)),.c c] (vI (cmpL f a b)):=by
 refine zS Tryz.func248 O Tryz.ntmps248 Tryz.results248 O ?_
 intro z hz
 refine G O<|Y O<|W<|zG<|G O<|Y O<|zV O el42<|Y O<|W<|zN<|zU ⟨[(13,.c _),(0,.c _),(1,.c _),(2,.c _),(11,.c _),(12,.c _)],[]⟩ (Weak.mk [] ⟨U,U,U,U,U,U,T⟩ O)<|zY 1 0 O O (Nat) (fun k=>[(13,vI k)]) (fun k=>[]) (fun k=>k<=a.length/\(cmpL f a b=cmpL f (a.drop k) (b.drop k))/\(k<=b.length)) (fun k=>a.length-k) ⟨0,⟨by omega,O,by omega⟩,Weak.mk [] ⟨U,U,U,U,U,U,T⟩ O⟩ ?_
 rintro k ⟨hk,hp,hq⟩
 refine G O<|qY O<|W<|zG<|zF O (fun c1=>?_) (fun c1=>?_)
 ·try simp only [sx] at c1
  obtain ⟨x,hx⟩:=qP a k (by omega)
  refine zJ<|zG<|zN<|G O<|Y O<|zZ O el42 (by omega) (zBj (by assumption))<|zK qX zX O<|zT O O (qD [none,none,none,none,none,none,none,none,none,none,some 2,some 4,some 13] O zr44 O) ?_
  rintro _ _ ⟨b1,rfl,rfl⟩
  refine Y O<|N 0 sz44 O<|W<|zG<|G O<|Y O<|Y O<|zV O el42<|qA O (wE O O O)<|W<|zF O (fun c2=>?_) (fun c2=>?_)
  ·try simp only [sx] at c2
   refine G O<|Y O<|W<|zL<|zP O ?_
   rw [hp,zNu hx (by omega)]
  ·try simp only [sx] at c2
   obtain ⟨y,hy⟩:=qP b k (by omega)
   refine zJ<|G O<|Y O<|Y O<|zZ O el42 (by omega) (zBj (by assumption))<|zK qX zX O<|zT O O (qD [none,none,none,none,none,none,none,none,none,none,some 2,some 4,some 13] O zr44 O) ?_
   rintro _ _ ⟨b2,rfl,rfl⟩
   refine N 0 sz44 O<|W<|G O<|Y O<|zK qX (J 1 O) O<|zK qX (J 0 O) O<|qA O (kZ O O (hc _ (zW hx) _ (zW hy)) ⟨U,O,U,O,T⟩)<|Y O<|W<|G O<|Y O<|yP O<|W<|zF O (fun c3=>?_) (fun c3=>?_)
   ·try simp only [sx] at c3
    refine G O<|Y O<|Y O<|W<|zL<|zP O ?_
    rw [hp,cmpL_ne hx hy c3]
   ·try simp only [sx] at c3
    refine zJ<|zO O<|qB O ⟨by omega,by omega⟩<|Y O<|W ?_
    refine ⟨k+1,⟨by omega,hp.trans (zKb hx hy c3),by omega⟩,(by omega),Weak.mk [false,false] ⟨U,U,U,U,U,U,T⟩ O⟩
 ·try simp only [sx] at c1
  refine qE<|zG<|G O<|Y O<|zV O el42<|Y O<|zV O el42<|qY O<|W<|zF O (fun c4=>?_) (fun c4=>?_)
  ·try simp only [sx] at c4
   refine G O<|Y O<|W<|zL<|zP O ?_
   rw [hp,zKc (by omega) (by omega)]
  ·try simp only [sx] at c4
   refine zJ<|G O<|Y O<|W<|zL<|zP O ?_
   rw [hp,zNv (by omega) (by omega)]
theorem zQx (a b:List Ix) (c:C) (f:Ix->Ix->Int) (ha:a.length<=4294967296) (hb:b.length<=4294967296) (hc:∀x,x∈a->∀y,y∈b->FnPur cfg c [vIndex x,vIndex y] (vI (f x y))):
    Pur cfg 201 [.c (.sl 4 (a.map Ix.cells)),.c (.sl 4 (b.map Ix.cells)),.c c] (vI (cmpLs f a b)):=by
 refine zS Tryz.func201 O Tryz.ntmps201 Tryz.results201 O ?_
 intro z hz
 refine G O<|Y O<|W<|zG<|G O<|Y O<|zV O el41<|Y O<|zV O el41<|qK O ok196 (kV _ _) ⟨U,O,U,O,T⟩<|Y O<|W<|G O<|Y O<|yP O<|W<|zF O (fun c1=>?_) (fun c1=>?_)
 ·try simp only [sx] at c1
  refine G O<|Y O<|Y O<|W<|zL<|zP O ?_
  rw [cmpLs,if_neg c1]
 ·try simp only [sx] at c1
  refine zJ<|G O<|Y O<|Y O<|Y O<|qK O ok246 (zGb a b c f ha hb hc) ⟨U,O,U,O,U,O,T⟩<|Y O<|W<|zL<|zP O ?_
  rw [cmpLs,if_pos c1]
theorem zQw (a b:List Lf) (c:C) (f:Lf->Lf->Int) (ha:a.length<=4294967296) (hb:b.length<=4294967296) (hc:∀x,x∈a->∀y,y∈b->FnPur cfg c [vLin x,vLin y] (vI (f x y))):
    Pur cfg 247 [.c (.sl 2 (a.map Lf.cells)),.c (.sl 2 (b.map Lf.cells)),.c c] (vI (cmpLs f a b)):=by
 refine zS Tryz.func247 O Tryz.ntmps247 Tryz.results247 O ?_
 intro z hz
 refine G O<|Y O<|W<|zG<|G O<|Y O<|zV O el65<|Y O<|zV O el65<|qK O ok196 (kV _ _) ⟨U,O,U,O,T⟩<|Y O<|W<|G O<|Y O<|yP O<|W<|zF O (fun c1=>?_) (fun c1=>?_)
 ·try simp only [sx] at c1
  refine G O<|Y O<|Y O<|W<|zL<|zP O ?_
  rw [cmpLs,if_neg c1]
 ·try simp only [sx] at c1
  refine zJ<|G O<|Y O<|Y O<|Y O<|qK O ok285 (zGa a b c f ha hb hc) ⟨U,O,U,O,U,O,T⟩<|Y O<|W<|zL<|zP O ?_
  rw [cmpLs,if_pos c1]
theorem zQy (a b:List Ex) (c:C) (f:Ex->Ex->Int) (ha:a.length<=4294967296) (hb:b.length<=4294967296) (hc:∀x,x∈a->∀y,y∈b->FnPur cfg c [vE x,vE y] (vI (f x y))):
    Pur cfg 203 [.c (.sl 13 (a.map Ex.cells)),.c (.sl 13 (b.map Ex.cells)),.c c] (vI (cmpLs f a b)):=by
 refine zS Tryz.func203 O Tryz.ntmps203 Tryz.results203 O ?_
 intro z hz
 refine G O<|Y O<|W<|zG<|G O<|Y O<|zV O el42<|Y O<|zV O el42<|qK O ok196 (kV _ _) ⟨U,O,U,O,T⟩<|Y O<|W<|G O<|Y O<|yP O<|W<|zF O (fun c1=>?_) (fun c1=>?_)
 ·try simp only [sx] at c1
  refine G O<|Y O<|Y O<|W<|zL<|zP O ?_
  rw [cmpLs,if_neg c1]
 ·try simp only [sx] at c1
  refine zJ<|G O<|Y O<|Y O<|Y O<|qK O ok248 (zGc a b c f ha hb hc) ⟨U,O,U,O,U,O,T⟩<|Y O<|W<|zL<|zP O ?_
  rw [cmpLs,if_pos c1]
theorem lin_order (a b:Int):
    Pur cfg 245 [vI a,vI b] (vI (cmpI a b)):=by
 refine zS Tryz.func245 O Tryz.ntmps245 Tryz.results245 O ?_
 intro z hz
 refine G O<|Y O<|W<|zG<|zN<|G O<|Y O<|Y O<|qY O<|Y O<|W<|zF O (fun c1=>?_) (fun c1=>?_)
 ·try simp only [sx] at c1
  refine G O<|Y O<|W<|zL<|zP O ?_
  rw [cmpI_lt c1]
 ·try simp only [sx] at c1
  refine G O<|Y O<|Y O<|qA O (yI O O O)<|Y O<|W<|zF O (fun c2=>?_) (fun c2=>?_)
  ·try simp only [sx] at c2
   refine G O<|Y O<|W<|zL<|zP O ?_
   rw [cmpI_gt c2]
  ·try simp only [sx] at c2
   refine zJ<|G O<|Y O<|W<|zL<|zP O ?_
   rw [cmpI_eq (by omega) (by omega)]
theorem lin_Compare_1 (x y:Mono):
    Pur cfg 244 [vMono x,vMono y] (vI (cmpM x y)):=by
 refine zS Tryz.func244 O Tryz.ntmps244 Tryz.results244 O ?_
 intro z hz
 refine G O<|zT O O (qI O O) ?_
 rintro _ _ ⟨b1,rfl,rfl⟩
 refine zT O O (qI O O) ?_
 rintro _ _ ⟨b2,rfl,rfl⟩
 refine Y O<|W<|zG<|G O<|zE O zAp<|zH one9 (J 1 O) O<|zE O zAp<|zH one9 (J 0 O) O<|qA O (zCd O O O)<|W<|zF O (fun c1=>?_) (fun c1=>?_)
 ·try simp only [sx] at c1
  refine G O<|zE O zAp<|zH one9 (J 1 O) O<|zE O zAp<|zH one9 (J 0 O) O<|qK O ok197 (strings_Compare _ _) ⟨U,O,U,O,T⟩<|Y O<|W<|zL<|zP O ?_
  rw [cmpM,if_neg c1]
 ·try simp only [sx] at c1
  refine zJ<|G O<|zE O fd107_1<|zH one2 (J 1 O) O<|zE O fd107_1<|zH one2 (J 0 O) O<|qK O ok245 (lin_order _ _) ⟨U,O,U,O,T⟩<|Y O<|W<|zL<|zP O ?_
  rw [cmpM,if_pos c1]
theorem zIo (a b:Lf) (ha:a.L.length<=4294967296) (hb:b.L.length<=4294967296):
    Pur cfg 200 [vLin a,vLin b] (vI (cmpLf a b)):=by
 refine zS Tryz.func200 O Tryz.ntmps200 Tryz.results200 O ?_
 intro z hz
 refine G O<|zT O O (qI O O) ?_
 rintro _ _ ⟨b1,rfl,rfl⟩
 refine zT O O (qI O O) ?_
 rintro _ _ ⟨b2,rfl,rfl⟩
 refine Y O<|W<|G O<|zE O kY<|zH zAs (J 1 O) O<|zE O kY<|zH zAs (J 0 O) O<|qK O ok243 (zFj a.L b.L _ cmpM ha hb (fun x _ y _=>FnPur.of_pur (first:=[]) (cap:=[]) ok244 (lin_Compare_1 x y))) ⟨U,O,U,O,U,O,T⟩<|Y O<|W<|zG<|G O<|Y O<|yP O<|W<|zF O (fun c1=>?_) (fun c1=>?_)
 ·try simp only [sx] at c1
  refine G O<|Y O<|Y O<|W<|zL<|zP O ?_
  rw [cmpLf,if_neg c1]
 ·try simp only [sx] at c1
  refine zJ<|G O<|zE O zFw<|zH one2 (J 1 O) O<|zE O zFw<|zH one2 (J 0 O) O<|qK O ok245 (lin_order _ _) ⟨U,O,U,O,T⟩<|Y O<|W<|zL<|zP O ?_
  rw [cmpLf,if_pos c1]
theorem zLu (a b:Ix) (ha:a.wt<=4294967296) (hb:b.wt<=4294967296):
    Pur cfg 202 [vIndex a,vIndex b] (vI (cmpIx a b)):=by
 refine zS Tryz.func202 O Tryz.ntmps202 Tryz.results202 O ?_
 intro z hz
 have hwa:=ha
 have hwb:=hb
 unfold Ix.wt at hwa hwb
 refine G O<|zT O O (qI O O) ?_
 rintro _ _ ⟨b1,rfl,rfl⟩
 refine zT O O (qI O O) ?_
 rintro _ _ ⟨b2,rfl,rfl⟩
 refine Y O<|W<|zG<|G O<|zE O zAd<|zH one9 (J 1 O) O<|zE O zAd<|zH one9 (J 0 O) O<|qK O ok197 (strings_Compare _ _) ⟨U,O,U,O,T⟩<|Y O<|W<|G O<|Y O<|yP O<|W<|zF O (fun c1=>?_) (fun c1=>?_)
 ·try simp only [sx] at c1
  refine G O<|Y O<|Y O<|W<|zL<|zP O ?_
  rw [cmpIx,if_neg c1]
 ·try simp only [sx] at c1
  refine zJ<|zG<|G O<|zE O zBh<|zK kG (J 1 O) O<|zE O zBh<|zK kG (J 0 O) O<|qK O ok200 (zIo a.Lin b.Lin (by omega) (by omega)) ⟨U,O,U,O,T⟩<|Y O<|W<|G O<|Y O<|yP O<|W<|zF O (fun c2=>?_) (fun c2=>?_)
  ·try simp only [sx] at c2
   refine G O<|Y O<|Y O<|W<|zL<|zP O ?_
   rw [cmpIx,if_pos c1,if_neg c2]
  ·try simp only [sx] at c2
   refine zJ<|G O<|zE O wD<|zH zAr (J 1 O) O<|zE O wD<|zH zAr (J 0 O) O<|qK O ok247 (zQw a.At b.At _ cmpLf (by omega) (by omega) (fun x hx y hy=>FnPur.of_pur (first:=[]) (cap:=[]) ok200 (zIo x y (by have:=zBa hx;omega) (by have:=zBa hy;omega)))) ⟨U,O,U,O,U,O,T⟩<|Y O<|W<|zL<|zP O ?_
   rw [cmpIx,if_pos c1,if_pos c2]
theorem zNb (a b:Ty):
    Pur cfg 199 [vTy a,vTy b] (vI (cmpTy a b)):=by
 refine zS Tryz.func199 O Tryz.ntmps199 Tryz.results199 O ?_
 intro z hz
 refine G O<|zT O O (qI O O) ?_
 rintro _ _ ⟨b1,rfl,rfl⟩
 refine zT O O (qI O O) ?_
 rintro _ _ ⟨b2,rfl,rfl⟩
 refine Y O<|W<|zG<|qW 28 mixed (by kernel_rfl) O O<|zM O O (zD O zEz O)<|zM O O (zI O one3 O (J 1 O) O)<|zM O O (zD O zEz O)<|zM O O (zI O one3 O (J 0 O) O)<|zM O O (qG O ok196 (kV _ _) ⟨U,O,U,O,T⟩)<|zM O O (zD O zIa O)<|zM O O (zI O one3 O (J 1 O) O)<|zM O O (zD O zIa O)<|zM O O (zI O one3 O (J 0 O) O)<|zM O O (qG O ok196 (kV _ _) ⟨U,O,U,O,T⟩)<|zM O O (zD O zQh O)<|zM O O (zI O one3 O (J 1 O) O)<|zM O O (zD O zQh O)<|zM O O (zI O one3 O (J 0 O) O)<|zM O O (qG O ok196 (kV _ _) ⟨U,O,U,O,T⟩)<|zM O O (zD O zQg O)<|zM O O (zI O one3 O (J 1 O) O)<|zM O O (zD O zQg O)<|zM O O (zI O one3 O (J 0 O) O)<|zM O O (qG O ok196 (kV _ _) ⟨U,O,U,O,T⟩)<|zM O O (zD O zQf O)<|zM O O (zI O one3 O (J 1 O) O)<|zM O O (zD O zQf O)<|zM O O (zI O one3 O (J 0 O) O)<|zM O O (qG O ok196 (kV _ _) ⟨U,O,U,O,T⟩)<|zM O O (wH O el214 zr3 O O O O)<|zM O O (qG O ok195 (cmp_Or_int [cmpI a.Kind b.Kind,cmpI a.Bits b.Bits,cmpI a.Frac b.Frac,cmpI a.Round b.Round,cmpI a.Over b.Over] (by simp)) ⟨U,O,T⟩)<|zM O O (kA O O)<|yN<|W<|zL<|zP O ?_
 exact O
theorem zLv (a b:Ex) (ih:∀x,x∈a.Args->∀y,x.wt<=4294967296->y.wt<=4294967296->Pur cfg 146 [vE x,vE y] (vI (cmpE x y))) (ha:a.wt<=4294967296) (hb:b.wt<=4294967296):
    Pur cfg 146 [vE a,vE b] (vI (cmpE a b)):=by
 refine zS Tryz.func146 O Tryz.ntmps146 Tryz.results146 O ?_
 intro z hz
 obtain ⟨hLa,hIa,hAa⟩:=a.parts ha
 obtain ⟨hLb,hIb,hAb⟩:=b.parts hb
 have hwa:=Ex.wt_eq a
 have hwb:=Ex.wt_eq b
 refine G O<|zT O O (qI O O) ?_
 rintro _ _ ⟨b1,rfl,rfl⟩
 refine zT O O (qI O O) ?_
 rintro _ _ ⟨b2,rfl,rfl⟩
 refine Y O<|W<|zG<|qW 37 mixed (by kernel_rfl) O O<|zM O O (zD O yZ O)<|zM O O (zI O one3 O (J 1 O) O)<|zM O O (zD O yZ O)<|zM O O (zI O one3 O (J 0 O) O)<|zM O O (qG O ok196 (kV _ _) ⟨U,O,U,O,T⟩)<|zM O O (zD O zFv O)<|zM O O (zI O one9 O (J 1 O) O)<|zM O O (zD O zFv O)<|zM O O (zI O one9 O (J 0 O) O)<|zM O O (qG O ok197 (strings_Compare _ _) ⟨U,O,U,O,T⟩)<|zM O O (zD O zHz O)<|zM O O (zD O zFa O)<|zM O O (zI O one2 O (J 1 O) O)<|zM O O (zD O zHz O)<|zM O O (zD O zFa O)<|zM O O (zI O one2 O (J 0 O) O)<|zM O O (qG O ok198 (zGr _ _) ⟨U,O,U,O,T⟩)<|zM O O (zD O zHz O)<|zM O O (zD O zFx O)<|zM O O (zI O one2 O (J 1 O) O)<|zM O O (zD O zHz O)<|zM O O (zD O zFx O)<|zM O O (zI O one2 O (J 0 O) O)<|zM O O (qG O ok198 (zGr _ _) ⟨U,O,U,O,T⟩)<|zM O O (zD O zEy O)<|zM O O (zR O yF O (J 1 O) O)<|zM O O (zD O zEy O)<|zM O O (zR O yF O (J 0 O) O)<|zM O O (qG O ok199 (zNb _ _) ⟨U,O,U,O,T⟩)<|zM O O (zD O zCv O)<|zM O O (zR O kG O (J 1 O) O)<|zM O O (zD O zCv O)<|zM O O (zR O kG O (J 0 O) O)<|zM O O (qG O ok200 (zIo a.Lin b.Lin hLa hLb) ⟨U,O,U,O,T⟩)<|zM O O (wH O el214 zr3 O O O O)<|zM O O (qG O ok195 (cmp_Or_int [cmpI a.Op b.Op,cmpS a.Name b.Name,cmpI a.Val.N b.Val.N,cmpI a.Val.D b.Val.D,cmpTy a.Ty b.Ty,cmpLf a.Lin b.Lin] (by simp)) ⟨U,O,T⟩)<|zM O O (kA O O)<|yN<|W<|zG<|G O<|Y O<|yP O<|W<|zF O (fun c1=>?_) (fun c1=>?_)
 ·try simp only [sx] at c1
  refine G O<|Y O<|Y O<|W<|zL<|zP O ?_
  rw [cmpE_eq,if_neg (show ¬cmpHd a b=0 from c1)];rfl
 ·try simp only [sx] at c1
  refine zJ<|zG<|G O<|zE O kC<|zH wN (J 1 O) O<|zE O kC<|zH wN (J 0 O) O<|qK O ok201 (zQx a.Idx b.Idx _ cmpIx hIa hIb (fun x hx y hy=>FnPur.of_pur (first:=[]) (cap:=[]) ok202 (zLu x y (by have:=zDs hx;omega) (by have:=zDs hy;omega)))) ⟨U,O,U,O,U,O,T⟩<|Y O<|W<|G O<|Y O<|yP O<|W<|zF O (fun c2=>?_) (fun c2=>?_)
  ·try simp only [sx] at c2
   refine G O<|Y O<|Y O<|W<|zL<|zP O ?_
   rw [cmpE_eq,if_pos (show cmpHd a b=0 from c1),if_neg c2]
  ·try simp only [sx] at c2
   refine zJ<|G O<|zE O kE<|zH wR (J 1 O) O<|zE O kE<|zH wR (J 0 O) O<|qK O ok203 (zQy a.Args b.Args _ cmpE hAa hAb (fun x hx y hy=>FnPur.of_pur (first:=[]) (cap:=[]) ok146 (ih x hx y (by have:=Ex.arg_wt hx;omega) (by have:=Ex.arg_wt hy;omega)))) ⟨U,O,U,O,U,O,T⟩<|Y O<|W<|zL<|zP O ?_
   rw [cmpE_eq,if_pos (show cmpHd a b=0 from c1),if_pos c2]
theorem expr_Compare (a b:Ex) (ha:a.wt<=4294967296) (hb:b.wt<=4294967296):Pur cfg 146 [vE a,vE b] (vI (cmpE a b)):=by
  induction a using Ex.ind generalizing b with
  |_ a ih=>exact zLv a b (fun x hx y h1 h2=>ih x hx y h1 h2) ha hb
theorem zQm (a b:Ex) (ha:a.wt<=4294967296) (hb:b.wt<=4294967296):
    Pur cfg 76 [vE a,vE b] (vB (decide (a=b))):=by
 refine zS Tryz.func76 O Tryz.ntmps76 Tryz.results76 O ?_
 intro z hz
 refine G O<|zT O O (qI O O) ?_
 rintro _ _ ⟨b1,rfl,rfl⟩
 refine zT O O (qI O O) ?_
 rintro _ _ ⟨b2,rfl,rfl⟩
 refine Y O<|W<|G O<|zK qX (J 1 O) O<|zK qX (J 0 O) O<|qK O ok146 (expr_Compare a b ha hb) ⟨U,O,U,O,T⟩<|yJ O<|Y O<|W<|zL<|zP O ?_
 exact congrArg vB (decide_eq_decide.2 (cmpE_zero a b))
end Go.W
end
section
set_option maxRecDepth 10000
namespace Go.W
open Go Go.Eng Go.Proofs Go.L41 Go.Br
attribute [local irreducible] AWP RWP TD finQ
theorem fd101_1:fieldT Tryz.prog 101 1=some (2,4):=by kernel_rfl
theorem ok42:callOk Tryz.prog 42=true:=by kernel_rfl
theorem ok43:callOk Tryz.prog 43=true:=by kernel_rfl
theorem ok45:callOk Tryz.prog 45=true:=by kernel_rfl
theorem ok99:callOk Tryz.prog 99=true:=by kernel_rfl
theorem ok100:callOk Tryz.prog 100=true:=by kernel_rfl
theorem one4:oneT Tryz.prog 4=true:=by kernel_rfl
theorem base_Con (a b:Cn) (ha:a.Lin.L.length<=5864062014805):
    Pur cfg 99 [vCn a,vCn b] (vB (decide (a=b))):=by
 refine zS Tryz.func99 O Tryz.ntmps99 Tryz.results99 O ?_
 intro z hz
 refine G O<|zT O O (qI O O) ?_
 rintro _ _ ⟨b1,rfl,rfl⟩
 refine zT O O (qI O O) ?_
 rintro _ _ ⟨b2,rfl,rfl⟩
 refine Y O<|W<|G O<|zE O fd101_1<|zH one4 (J 1 O) O<|zE O fd101_1<|zH one4 (J 0 O) O<|qA O (det_beql O un4 O O)<|Y O<|rL0 O (fun g1_5=>zD O zLt O) O<|rL1 11 O (fun g1_5=>zR O kG O (J 1 O) O) O<|rL0 O (fun g1_5=>zD O zLt O) O<|rL1 13 O (fun g1_5=>zR O kG O (J 0 O) O) O<|rLz [(12,_),(14,_)] O gv1 ⟨O,O,O,O,T⟩ (fun g1_5=>qG O ok34 (zKg a.Lin b.Lin (by omega)) ⟨U,O,U,O,T⟩) O<|yY O (fun h=>h)<|Y O<|W<|zL<|zP O ?_
 exact congrArg vB (cn_eq a b)
theorem base_Cons (a b:List Cn) (ha:a.length<=4294967296) (hx0:∀x,x∈a->x.Lin.L.length<=5864062014805):
    Pur cfg 43 [.c (.sl 3 (a.map Cn.cells)),.c (.sl 3 (b.map Cn.cells))] (vB (decide (a=b))):=by
 refine zS Tryz.func43 O Tryz.ntmps43 Tryz.results43 O ?_
 intro z hz
 refine G O<|Y O<|W<|zG<|G O<|Y O<|zV O el23<|Y O<|zV O el23<|yP O<|W<|zF O (fun c1=>?_) (fun c1=>?_)
 ·try simp only [sx] at c1
  refine G O<|Y O<|W<|zL<|zP O ?_
  rw [yA (fun h=>c1 (by rw [h]))]
 ·try simp only [sx] at c1
  refine zJ<|zG<|G O<|Y O<|W<|zN<|zU ⟨[(5,.c _),(0,.c _),(1,.c _)],[]⟩ (Weak.mk [] ⟨U,U,U,T⟩ O)<|zY 1 0 O O (Nat) (fun k=>[(5,vI k)]) (fun k=>[]) (fun k=>k<=a.length/\(a.take k=b.take k)) (fun k=>a.length-k) ⟨0,⟨by omega,O⟩,Weak.mk [] ⟨U,U,U,T⟩ O⟩ ?_
  rintro k ⟨hk,hp⟩
  refine zG<|G O<|Y O<|Y O<|zV O el23<|qY O<|W<|zF O (fun c2=>?_) (fun c2=>?_)
  ·try simp only [sx] at c2
   obtain ⟨x,hx⟩:=qP a k (by omega)
   obtain ⟨y,hy⟩:=qP b k (by omega)
   refine zJ<|zG<|zN<|zG<|qW 10 mixed (by kernel_rfl) O O<|zM O O (zQ O O)<|zM O O (zQ O O)<|zM O O (qH O el23 O O (by omega) (getm (by assumption)))<|zM O O (zR O agg101 O zX O)<|zM O O (zQ O O)<|zM O O (zQ O O)<|zM O O (qH O el23 O O (by omega) (getm (by assumption)))<|zM O O (zR O agg101 O zX O)<|zM O O (qG O ok99 (base_Con x y (hx0 x (zW hx))) ⟨U,O,U,O,T⟩)<|zM O O (kS O O)<|yN<|W<|zF O (fun c3=>?_) (fun c3=>?_)
   ·try simp only [sx] at c3
    refine G O<|Y O<|W<|zL<|zP O ?_
    rw [yA (zBi hx hy c3)]
   ·try simp only [sx] at c3
    refine zJ<|zO O<|Y O<|qB O ⟨by omega,by omega⟩<|Y O<|W ?_
    refine ⟨k+1,⟨by omega,wM hx hy hp c3⟩,(by omega),Weak.mk [] ⟨U,U,U,T⟩ O⟩
  ·try simp only [sx] at c2
   refine qE<|G O<|Y O<|W<|zL<|zP O ?_
   rw [kU (zAm hp (by omega) (by omega))]
theorem zKh (a b:List Ax) (ha:a.length<=4294967296) (hx0:∀x,x∈a->x.Size.L.length<=6000000000000):
    Pur cfg 100 [.c (.sl 3 (a.map Ax.cells)),.c (.sl 3 (b.map Ax.cells))] (vB (decide (a=b))):=by
 refine zS Tryz.func100 O Tryz.ntmps100 Tryz.results100 O ?_
 intro z hz
 refine G O<|Y O<|W<|zG<|G O<|Y O<|zV O D<|Y O<|zV O D<|yP O<|W<|zF O (fun c1=>?_) (fun c1=>?_)
 ·try simp only [sx] at c1
  refine G O<|Y O<|W<|zL<|zP O ?_
  rw [yA (fun h=>c1 (by rw [h]))]
 ·try simp only [sx] at c1
  refine zJ<|zG<|G O<|Y O<|W<|zN<|zU ⟨[(5,.c _),(0,.c _),(1,.c _)],[]⟩ (Weak.mk [] ⟨U,U,U,T⟩ O)<|zY 1 0 O O (Nat) (fun k=>[(5,vI k)]) (fun k=>[]) (fun k=>k<=a.length/\(a.take k=b.take k)) (fun k=>a.length-k) ⟨0,⟨by omega,O⟩,Weak.mk [] ⟨U,U,U,T⟩ O⟩ ?_
  rintro k ⟨hk,hp⟩
  refine zG<|G O<|Y O<|Y O<|zV O D<|qY O<|W<|zF O (fun c2=>?_) (fun c2=>?_)
  ·try simp only [sx] at c2
   obtain ⟨x,hx⟩:=qP a k (by omega)
   obtain ⟨y,hy⟩:=qP b k (by omega)
   refine zJ<|zG<|zN<|zG<|qW 25 mixed (by kernel_rfl) O O<|zM O O (zQ O O)<|zM O O (zQ O O)<|zM O O (qH O D O O (by omega) (getm hx))<|zM O O (qN O zAj O)<|zM O O (zI O one9 O zX O)<|zM O O (zQ O O)<|zM O O (zQ O O)<|zM O O (qH O D O O (by omega) (getm hy))<|zM O O (qN O zAj O)<|zM O O (zI O one9 O zX O)<|zM O O (zCd O O O)<|zM O O (zQ O O)<|qC [] O O O O gv1 T (fun g6_11=>zQ O O) O<|qC [] O O O O gv1 T (fun g6_11=>zQ O O) O<|qC [(29,_),(30,_)] O O O O gv1 ⟨O,O,O,O,T⟩ (fun g6_11=>qH O D O O (by omega) (getm hx)) O<|qC [(31,_)] O O O O gv1 ⟨O,O,T⟩ (fun g6_11=>qN O zDu O) O<|qC [(32,_)] O O O O gv1 ⟨O,O,T⟩ (fun g6_11=>zR O kG O zX O) O<|qC [] O O O O gv1 T (fun g6_11=>zQ O O) O<|qC [] O O O O gv1 T (fun g6_11=>zQ O O) O<|qC [(34,_),(35,_)] O O O O gv1 ⟨O,O,O,O,T⟩ (fun g6_11=>qH O D O O (by omega) (getm hy)) O<|qC [(36,_)] O O O O gv1 ⟨O,O,T⟩ (fun g6_11=>qN O zDu O) O<|qC [(37,_)] O O O O gv1 ⟨O,O,T⟩ (fun g6_11=>zR O kG O zX O) O<|qC [(33,_),(38,_)] O O O O gv1 ⟨O,O,O,O,T⟩ (fun g6_11=>qG O ok34 (zKg x.Size y.Size (hx0 x (zW hx))) ⟨U,O,U,O,T⟩) O<|qC [(39,_)] O O O O gv1 ⟨O,O,T⟩ (fun g6_11=>kS O O) O<|zM O O (zBx O O O O (fun h=>(lzf h)))<|yN<|W<|zF O (fun c3=>?_) (fun c3=>?_)
   ·have hne:=ax_ne c3
    refine G O<|Y O<|W<|zL<|zP O ?_
    rw [yA (zBi hx hy hne)]
   ·have heq:=ax_yes' c3
    refine zJ<|zO O<|Y O<|qB O ⟨by omega,by omega⟩<|Y O<|W ?_
    refine ⟨k+1,⟨by omega,wM hx hy hp heq⟩,(by omega),Weak.mk [] ⟨U,U,U,T⟩ O⟩
  ·try simp only [sx] at c2
   refine qE<|G O<|Y O<|W<|zL<|zP O ?_
   rw [kU (zAm hp (by omega) (by omega))]
theorem base_Def (a b:Df) (h1:a.Dims.length<=4294967296) (h2:a.Red.length<=4294967296) (h3:∀x,x∈a.Dims->x.Size.L.length<=6000000000000) (h4:∀x,x∈a.Red->x.Size.L.length<=6000000000000) (h5:a.Body.wt<=6000000000000):
    Pur cfg 45 [vDf a,vDf b] (vB (decide (a=b))):=by
 refine zS Tryz.func45 O Tryz.ntmps45 Tryz.results45 O ?_
 intro z hz
 refine G O<|zT O O (qI O O) ?_
 rintro _ _ ⟨b1,rfl,rfl⟩
 refine zT O O (qI O O) ?_
 rintro _ _ ⟨b2,rfl,rfl⟩
 refine Y O<|W<|G O<|zE O zDt<|zH one9 (J 1 O) O<|zE O zDt<|zH one9 (J 0 O) O<|kP O<|Y O<|rL0 O (fun g1_5=>zD O zHy O) O<|rL1 11 O (fun g1_5=>zR O yF O (J 1 O) O) O<|rL0 O (fun g1_5=>zD O zHy O) O<|rL1 13 O (fun g1_5=>zR O yF O (J 0 O) O) O<|rLz [(12,_),(14,_)] O gv1 ⟨O,O,O,O,T⟩ (fun g1_5=>zNt O fl37 O O O) O<|yY O (fun h=>h)<|Y O<|rL0 O (fun g1_12=>zD O zHx O) O<|rL1 18 O (fun g1_12=>zI O one3 O (J 1 O) O) O<|rL0 O (fun g1_12=>zD O zHx O) O<|rL1 20 O (fun g1_12=>zI O one3 O (J 0 O) O) O<|rLz [(19,_),(21,_)] O gv1 ⟨O,O,O,O,T⟩ (fun g1_12=>yL O O O) O<|yY O (fun h=>h)<|Y O<|rL0 O (fun g1_19=>zD O zAh O) O<|rL1 25 O (fun g1_19=>zI O kM O (J 1 O) O) O<|rL0 O (fun g1_19=>zD O zAh O) O<|rL1 27 O (fun g1_19=>zI O kM O (J 0 O) O) O<|rLz [(26,_),(28,_)] O gv1 ⟨O,O,O,O,T⟩ (fun g1_19=>qG O ok100 (zKh a.Dims b.Dims h1 h3) ⟨U,O,U,O,T⟩) O<|yY O (fun h=>h)<|Y O<|rL0 O (fun g1_26=>zD O wY O) O<|rL1 32 O (fun g1_26=>zI O kM O (J 1 O) O) O<|rL0 O (fun g1_26=>zD O wY O) O<|rL1 34 O (fun g1_26=>zI O kM O (J 0 O) O) O<|rLz [(33,_),(35,_)] O gv1 ⟨O,O,O,O,T⟩ (fun g1_26=>qG O ok100 (zKh a.Red b.Red h2 h4) ⟨U,O,U,O,T⟩) O<|yY O (fun h=>h)<|Y O<|rL0 O (fun g1_33=>zD O zAq O) O<|rL1 39 O (fun g1_33=>zR O qX O (J 1 O) O) O<|rL0 O (fun g1_33=>zD O zAq O) O<|rL1 41 O (fun g1_33=>zR O qX O (J 0 O) O) O<|rLz [(40,_),(42,_)] O gv1 ⟨O,O,O,O,T⟩ (fun g1_33=>qG O ok12 (zFe a.Body b.Body h5) ⟨U,O,U,O,T⟩) O<|yY O (fun h=>h)<|Y O<|W<|zL<|zP O ?_
 exact congrArg vB (df_eq a b)
theorem base_ProgF (p q:Pg) (hP:p.Ok):
    Pur cfg 15 [vPg p,vPg q] (vB (decide (p=q))):=by
 refine zS Tryz.func15 O Tryz.ntmps15 Tryz.results15 O ?_
 intro z hz
 have hpp:=hP.params
 have hpd:=hP.defs
 refine G O<|zT O O (qI O O) ?_
 rintro _ _ ⟨b1,rfl,rfl⟩
 refine zT O O (qI O O) ?_
 rintro _ _ ⟨b2,rfl,rfl⟩
 refine Y O<|W<|zG<|G O<|zE O zBw<|zH zAu (J 1 O) O<|zE O zBw<|zH zAu (J 0 O) O<|qK O ok42 (zMv p.Sizes q.Sizes (Nat.le_trans hP.sizes (by decide))) ⟨U,O,U,O,T⟩<|wK O<|Y O<|rL0 O (fun g1_6=>zD O zGo O) O<|rL1 14 O (fun g1_6=>zI O one23 O (J 1 O) O) O<|rL0 O (fun g1_6=>zD O zGo O) O<|rL1 16 O (fun g1_6=>zI O one23 O (J 0 O) O) O<|rLz [(15,_),(17,_)] O gv1 ⟨O,O,O,O,T⟩ (fun g1_6=>qG O ok43 (base_Cons p.Where q.Where hP.wh hP.whs) ⟨U,O,U,O,T⟩) O<|rL1 18 O (fun g1_6=>kS O O) O<|r_or O (fun h=>(lzf h))<|Y O<|rL0 O (fun g1_14=>zD O zFb O) O<|rL1 22 O (fun g1_14=>zI O zAu O (J 1 O) O) O<|rL0 O (fun g1_14=>zD O zFb O) O<|rL1 24 O (fun g1_14=>zI O zAu O (J 0 O) O) O<|rLz [(23,_),(25,_)] O gv1 ⟨O,O,O,O,T⟩ (fun g1_14=>qG O ok42 (zMv p.Outs q.Outs (Nat.le_trans hP.outs (by decide))) ⟨U,O,U,O,T⟩) O<|rL1 26 O (fun g1_14=>kS O O) O<|r_or O (fun h=>(lzf h))<|Y O<|rL0 O (fun g1_22=>zD O wS O) O<|rL1 30 O (fun g1_22=>zI O zCa O (J 1 O) O) O<|rL1 31 O (fun g1_22=>qU O el24 O) O<|rL0 O (fun g1_22=>zD O wS O) O<|rL1 33 O (fun g1_22=>zI O zCa O (J 0 O) O) O<|rL1 34 O (fun g1_22=>qU O el24 O) O<|rLz [(32,_),(35,_)] O gv1 ⟨O,O,O,O,T⟩ (fun g1_22=>wX O O O) O<|r_or O (fun h=>(lzf h))<|Y O<|rL0 O (fun g1_31=>zD O yK O) O<|rL1 39 O (fun g1_31=>zI O kO O (J 1 O) O) O<|rL1 40 O (fun g1_31=>qU O el25 O) O<|rL0 O (fun g1_31=>zD O yK O) O<|rL1 42 O (fun g1_31=>zI O kO O (J 0 O) O) O<|rL1 43 O (fun g1_31=>qU O el25 O) O<|rLz [(41,_),(44,_)] O gv1 ⟨O,O,O,O,T⟩ (fun g1_31=>wX O O O) O<|r_or O (fun h=>(lzf h))<|W<|zF O (fun c1=>?_) (fun c1=>?_)
 ·have hne:=pr_t c1
  refine G O<|Y O<|W<|zL<|zP O ?_
  rw [yA hne]
 ·obtain ⟨k1,k2,k3,k4,k5⟩:=pr_f c1
  refine zJ<|zG<|G O<|Y O<|W<|zN<|zU ⟨[(5,.c _),(2,.c _),(3,.c _)],[_,_]⟩ (Weak.mk [true,true] ⟨U,U,U,T⟩ O)<|zY 1 0 O O (Nat) (fun k=>[(5,vI k)]) (fun k=>[]) (fun k=>k<=p.Params.length/\(p.Params.take k=q.Params.take k)) (fun k=>p.Params.length-k) ⟨0,⟨by omega,O⟩,Weak.mk [true,true] ⟨U,U,U,T⟩ O⟩ ?_
  rintro k ⟨hk,hp⟩
  refine zG<|G O<|Y O<|zE O wS<|zH zCa (J 1 O) O<|zV O el24<|qY O<|W<|zF O (fun c2=>?_) (fun c2=>?_)
  ·try simp only [sx] at c2
   obtain ⟨x,hx⟩:=qP p.Params k (by omega)
   obtain ⟨y,hy⟩:=qP q.Params k (by omega)
   refine zJ<|zG<|zN<|zG<|qW 44 mixed (by kernel_rfl) O O<|zM O O (zD O wS O)<|zM O O (zI O zCa O (J 1 O) O)<|zM O O (zQ O O)<|zM O O (qH O el24 O O (by omega) (getm hx))<|zM O O (qN O zJv O)<|zM O O (zI O one9 O zX O)<|zM O O (zD O wS O)<|zM O O (zI O zCa O (J 0 O) O)<|zM O O (zQ O O)<|zM O O (qH O el24 O O (by omega) (getm hy))<|zM O O (qN O zJv O)<|zM O O (zI O one9 O zX O)<|zM O O (zCd O O O)<|zM O O (zQ O O)<|qC [] O O O O gv1 T (fun g6_13=>zD O wS O) O<|qC [(68,_)] O O O O gv1 ⟨O,O,T⟩ (fun g6_13=>zI O zCa O (J 1 O) O) O<|qC [] O O O O gv1 T (fun g6_13=>zQ O O) O<|qC [(69,_),(70,_)] O O O O gv1 ⟨O,O,O,O,T⟩ (fun g6_13=>qH O el24 O O (by omega) (getm hx)) O<|qC [(71,_)] O O O O gv1 ⟨O,O,T⟩ (fun g6_13=>qN O fd67_1 O) O<|qC [(72,_)] O O O O gv1 ⟨O,O,T⟩ (fun g6_13=>zR O yF O zX O) O<|qC [] O O O O gv1 T (fun g6_13=>zD O wS O) O<|qC [(74,_)] O O O O gv1 ⟨O,O,T⟩ (fun g6_13=>zI O zCa O (J 0 O) O) O<|qC [] O O O O gv1 T (fun g6_13=>zQ O O) O<|qC [(75,_),(76,_)] O O O O gv1 ⟨O,O,O,O,T⟩ (fun g6_13=>qH O el24 O O (by omega) (getm hy)) O<|qC [(77,_)] O O O O gv1 ⟨O,O,T⟩ (fun g6_13=>qN O fd67_1 O) O<|qC [(78,_)] O O O O gv1 ⟨O,O,T⟩ (fun g6_13=>zR O yF O zX O) O<|qC [(73,_),(79,_)] O O O O gv1 ⟨O,O,O,O,T⟩ (fun g6_13=>zBd O fl37 O O O) O<|zM O O (zBx O O O O (fun h=>(lzf h)))<|zM O O (zQ O O)<|qC [] O O O O gv1 T (fun g6_28=>zD O wS O) O<|qC [(83,_)] O O O O gv1 ⟨O,O,T⟩ (fun g6_28=>zI O zCa O (J 1 O) O) O<|qC [] O O O O gv1 T (fun g6_28=>zQ O O) O<|qC [(84,_),(85,_)] O O O O gv1 ⟨O,O,O,O,T⟩ (fun g6_28=>qH O el24 O O (by omega) (getm hx)) O<|qC [(86,_)] O O O O gv1 ⟨O,O,T⟩ (fun g6_28=>qN O zFu O) O<|qC [(87,_)] O O O O gv1 ⟨O,O,T⟩ (fun g6_28=>zI O zAr O zX O) O<|qC [] O O O O gv1 T (fun g6_28=>zD O wS O) O<|qC [(89,_)] O O O O gv1 ⟨O,O,T⟩ (fun g6_28=>zI O zCa O (J 0 O) O) O<|qC [] O O O O gv1 T (fun g6_28=>zQ O O) O<|qC [(90,_),(91,_)] O O O O gv1 ⟨O,O,O,O,T⟩ (fun g6_28=>qH O el24 O O (by omega) (getm hy)) O<|qC [(92,_)] O O O O gv1 ⟨O,O,T⟩ (fun g6_28=>qN O zFu O) O<|qC [(93,_)] O O O O gv1 ⟨O,O,T⟩ (fun g6_28=>zI O zAr O zX O) O<|qC [(88,_),(94,_)] O O O O gv1 ⟨O,O,O,O,T⟩ (fun g6_28=>qG O ok44 (base_LinsF x.Dims y.Dims (Nat.le_trans (hP.ps x (zW hx)).1 (by decide)) (fun l hl=>Nat.le_trans ((hP.ps x (zW hx)).2 l hl) (by decide))) ⟨U,O,U,O,T⟩) O<|qC [(95,_)] O O O O gv1 ⟨O,O,T⟩ (fun g6_28=>kS O O) O<|zM O O (zBx O O O O (fun h=>(lzf h)))<|yN<|W<|zF O (fun c3=>?_) (fun c3=>?_)
   ·have hne:=pm_t c3
    refine G O<|Y O<|W<|zL<|zP O ?_
    rw [yA (fun h=>zBi hx hy hne (by rw [h]))]
   ·have heq:=pm_f c3
    refine zJ<|zO O<|Y O<|qB O ⟨by omega,by omega⟩<|Y O<|W ?_
    refine ⟨k+1,⟨by omega,wM hx hy hp heq⟩,(by omega),Weak.mk [true,true] ⟨U,U,U,T⟩ O⟩
  ·try simp only [sx] at c2
   have hPe:=zAm hp (by omega) k4
   refine qE<|zG<|G O<|Y O<|W<|zN<|zU ⟨[(6,.c _),(2,.c _),(3,.c _)],[_,_]⟩ (Weak.mk [true,true] ⟨U,U,U,T⟩ O)<|zY 1 0 O O (Nat) (fun k=>[(6,vI k)]) (fun k=>[]) (fun k=>k<=p.Defs.length/\(p.Defs.take k=q.Defs.take k)) (fun k=>p.Defs.length-k) ⟨0,⟨by omega,O⟩,Weak.mk [true,true] ⟨U,U,U,T⟩ O⟩ ?_
   rintro k ⟨hk,hq⟩
   refine zG<|G O<|Y O<|zE O yK<|zH kO (J 1 O) O<|zV O el25<|qY O<|W<|zF O (fun c4=>?_) (fun c4=>?_)
   ·try simp only [sx] at c4
    obtain ⟨x,hx⟩:=qP p.Defs k (by omega)
    obtain ⟨y,hy⟩:=qP q.Defs k (by omega)
    refine zJ<|zG<|zN<|zG<|qW 12 mixed (by kernel_rfl) O O<|zM O O (zD O yK O)<|zM O O (zI O kO O (J 1 O) O)<|zM O O (zQ O O)<|zM O O (qH O el25 O O (by omega) (getm hx))<|zM O O (zR O kX O zX O)<|zM O O (zD O yK O)<|zM O O (zI O kO O (J 0 O) O)<|zM O O (zQ O O)<|zM O O (qH O el25 O O (by omega) (getm hy))<|zM O O (zR O kX O zX O)<|zM O O (qG O ok45 (base_Def x y (by have:=(hP.ds x (zW hx)).1;omega) (by have:=(hP.ds x (zW hx)).2.1;omega) (fun a ha=>Nat.le_trans ((hP.ds x (zW hx)).2.2.1 a ha) (by decide)) (fun a ha=>Nat.le_trans ((hP.ds x (zW hx)).2.2.2.1 a ha) (by decide)) (Nat.le_trans (hP.ds x (zW hx)).2.2.2.2 (by decide))) ⟨U,O,U,O,T⟩)<|zM O O (kS O O)<|yN<|W<|zF O (fun c5=>?_) (fun c5=>?_)
    ·try simp only [sx] at c5
     refine G O<|Y O<|W<|zL<|zP O ?_
     rw [yA (fun h=>zBi hx hy c5 (by rw [h]))]
    ·try simp only [sx] at c5
     refine zJ<|zO O<|Y O<|qB O ⟨by omega,by omega⟩<|Y O<|W ?_
     refine ⟨k+1,⟨by omega,wM hx hy hq c5⟩,(by omega),Weak.mk [true,true] ⟨U,U,U,T⟩ O⟩
   ·try simp only [sx] at c4
    refine qE<|G O<|Y O<|W<|zL<|zP O ?_
    rw [kU (pg_yes k1 k2 k3 hPe (zAm hq (by omega) k5))]
end Go.W
end
section
set_option maxRecDepth 10000
namespace Go.W
open Go Go.Eng Go.Proofs Go.L41 Go.Br
attribute [local irreducible] AWP RWP TD finQ
theorem ok238:callOk Tryz.prog 238=true:=by kernel_rfl
theorem ok239:callOk Tryz.prog 239=true:=by kernel_rfl
theorem expr_sorted (sv:Value) (l:List ByteArray) (hl:l.length<=4294967296):
    Con cfg 194 [.c (.lit sv)] [.vec sv 9 1 (strRows l)] fun r μ'=>∃sv',r=.c (.lit sv')/\μ'=[.vec sv' 9 1 (strRows (thinB (sortB l)))]:=by
 refine zS Tryz.func194 O Tryz.ntmps194 Tryz.results194 O ?_
 intro z hz
 refine G O<|qA O (yE 1 O O)<|W<|G O<|Y O<|qA O (yS [0] O ok238 (sort_con sv l hl) ⟨U,O,T⟩ O)<|W<|G O<|Y O<|zT O O (zBq 0 O O ok239 (thin_con sv (sortB l) (by rw [sortB_len];exact hl)) ⟨U,O,T⟩) ?_
 rintro _ _ ⟨sv1,rfl,rfl⟩
 refine Y O<|W<|zL<|zP O ?_
 exact ⟨_,O,O⟩
end Go.W
end
