/-
  Walks: what functions of the program compute. Printed by wip/gen/mk2.py.
  Walks: what functions of the program compute. Printed by wip/gen/mk2.py.
  Walks: what functions of the program compute. Printed by wip/gen/mk2.py.
  Conditions: none.
-/
import Derived.Test.YtgfomfnjionbeaaGreatDoorWK
import Derived.Test.YtgfomfnjionbeaaGreatDoorPlain
import Derived.Test.YtgfomfnjionbeaaGreatDoorEngZ
import Derived.Test.YtgfomfnjionbeaaGreatDoorWP
import Derived.Test.YtgfomfnjionbeaaGreatDoorPlain2
set_option linter.unusedSimpArgs false
set_option linter.unusedVariables false
section
set_option maxRecDepth 10000
namespace Go.W
open Go Go.Eng Go.Proofs Go.L41 Go.Br
attribute [local irreducible] AWP RWP TD finQ
theorem ok135:callOk Tryz.prog 135=true:=by kernel_rfl
theorem ok299:callOk Tryz.prog 299=true:=by kernel_rfl
theorem ok307:callOk Tryz.prog 307=true:=by kernel_rfl
theorem ok308:callOk Tryz.prog 308=true:=by kernel_rfl
theorem ok309:callOk Tryz.prog 309=true:=by kernel_rfl
theorem ok310:callOk Tryz.prog 310=true:=by kernel_rfl
theorem ok311:callOk Tryz.prog 311=true:=by kernel_rfl
theorem ok312:callOk Tryz.prog 312=true:=by kernel_rfl
theorem ok313:callOk Tryz.prog 313=true:=by kernel_rfl
theorem ok314:callOk Tryz.prog 314=true:=by kernel_rfl
theorem ok316:callOk Tryz.prog 316=true:=by kernel_rfl
theorem ok317:callOk Tryz.prog 317=true:=by kernel_rfl
theorem ok318:callOk Tryz.prog 318=true:=by kernel_rfl
theorem ok319:callOk Tryz.prog 319=true:=by kernel_rfl
theorem ok320:callOk Tryz.prog 320=true:=by kernel_rfl
theorem ok321:callOk Tryz.prog 321=true:=by kernel_rfl
theorem ok322:callOk Tryz.prog 322=true:=by kernel_rfl
theorem ok323:callOk Tryz.prog 323=true:=by kernel_rfl
theorem ok324:callOk Tryz.prog 324=true:=by kernel_rfl
theorem zLd (a:Int):
    Pur cfg 316 [vI a] (vB false):=by
 refine zW Tryz.func316 O Tryz.ntmps316 Tryz.results316 O ?_
 intro z hz
 refine Y O<|G O<|zA<|Y O<|G O<|G O<|yM O<|G O<|zA<|zG<|zV O ?_
 exact congrArg vB (by simp)
theorem kZ (a b:Int):
    Pur cfg 308 [vI a,vI b] (vI (cmpI a b)):=by
 refine zW Tryz.func308 O Tryz.ntmps308 Tryz.results308 O ?_
 intro z hz
 refine Y O<|G O<|zA<|Y O<|G O<|qK O ok316 (zLd a) ⟨zB,O,T⟩<|G O<|zA<|Y O<|G O<|qK O ok316 (zLd b) ⟨zB,O,T⟩<|G O<|zA<|zH<|Y O<|G O<|zA<|zE O (fun c1=>?_) (fun c1=>?_)
 ·exact absurd c1 (by decide)
 ·exact o7
theorem zLe (a:Int):
    Pur cfg 317 [vI a] (vB false):=by
 refine zW Tryz.func317 O Tryz.ntmps317 Tryz.results317 O ?_
 intro z hz
 refine Y O<|G O<|zA<|Y O<|G O<|G O<|yM O<|G O<|zA<|zG<|zV O ?_
 exact congrArg vB (by simp)
theorem zIf (a b:Int):
    Pur cfg 309 [vI a,vI b] (vI (cmpI a b)):=by
 refine zW Tryz.func309 O Tryz.ntmps309 Tryz.results309 O ?_
 intro z hz
 refine Y O<|G O<|zA<|Y O<|G O<|qK O ok317 (zLe a) ⟨zB,O,T⟩<|G O<|zA<|Y O<|G O<|qK O ok317 (zLe b) ⟨zB,O,T⟩<|G O<|zA<|zH<|Y O<|G O<|zA<|zE O (fun c1=>?_) (fun c1=>?_)
 ·exact absurd c1 (by decide)
 ·exact o7
theorem cmp_Or_int (l:List Int) (hl:l.length<=4294967296):
    Pur cfg 307 [.c (.sl 1 (l.map fun n=>[cI n]))] (vI (orI l)):=by
 refine zW Tryz.func307 O Tryz.ntmps307 Tryz.results307 O ?_
 intro z hz
 refine Y O<|G O<|zA<|Y O<|G O<|zA<|zH<|Y O<|G O<|qB O el46<|G O<|zA<|zT<|zU ⟨[(8,.c _),(3,.c _),(6,.c _),(7,.c _)],[]⟩ (Weak.mk [] ⟨zB,zB,zB,zB,T⟩ O)<|qJ 1 0 O O (Nat) (fun k=>[(8,vI k)]) (fun k=>[]) (fun k=>k<=l.length/\(orI l=orI (l.drop k))) (fun k=>l.length-k) ⟨0,⟨by omega,O⟩,Weak.mk [] ⟨zB,zB,zB,zB,T⟩ O⟩ ?_
 rintro k ⟨hk,hp⟩
 refine Y O<|yB O<|zA<|zH<|zE O (fun c1=>?_) (fun c1=>?_)
 ·try simp only [sx] at c1
  obtain ⟨x,hx⟩:=yD l k (by omega)
  refine zF<|zH<|zT<|Y O<|qD O el46 (by omega) (getm (by assumption))<|zI one3 qH O<|G O<|zA<|Y O<|G O<|G O<|yM O<|zA<|zE O (fun c2=>?_) (fun c2=>?_)
  ·try simp only [sx] at c2
   refine Y O<|G O<|G O<|zA<|zG<|zV O ?_
   rw [hp,orI_at hx c2]
  ·try simp only [sx] at c2
   refine zF<|zP O<|qM O ⟨by omega,by omega⟩<|G O<|zA ?_
   refine ⟨k+1,⟨by omega,hp.trans (orI_next hx c2)⟩,(by omega),Weak.mk [] ⟨zB,zB,zB,zB,T⟩ O⟩
 ·try simp only [sx] at c1
  refine qP<|Y O<|G O<|G O<|zA<|zG<|zV O ?_
  rw [hp,kV (by omega)];rfl
theorem zFr (a b:List Mono) (c:C) (f:Mono->Mono->Int) (ha:a.length<=4294967296) (hb:b.length<=4294967296) (hc:∀x,x∈a->∀y,y∈b->FnPur cfg c [vMono x,vMono y] (vI (f x y))):
    Pur cfg 318 [.c (.sl 2 (a.map Mono.cells)),.c (.sl 2 (b.map Mono.cells)),.c c] (vI (cmpL f a b)):=by
 refine zW Tryz.func318 O Tryz.ntmps318 Tryz.results318 O ?_
 intro z hz
 refine Y O<|G O<|zA<|zH<|Y O<|G O<|qB O U<|G O<|zA<|zT<|zU ⟨[(13,.c _),(0,.c _),(1,.c _),(2,.c _),(11,.c _),(12,.c _)],[]⟩ (Weak.mk [] ⟨zB,zB,zB,zB,zB,zB,T⟩ O)<|qJ 1 0 O O (Nat) (fun k=>[(13,vI k)]) (fun k=>[]) (fun k=>k<=a.length/\(cmpL f a b=cmpL f (a.drop k) (b.drop k))/\(k<=b.length)) (fun k=>a.length-k) ⟨0,⟨by omega,O,by omega⟩,Weak.mk [] ⟨zB,zB,zB,zB,zB,zB,T⟩ O⟩ ?_
 rintro k ⟨hk,hp,hq⟩
 refine Y O<|yB O<|zA<|zH<|zE O (fun c1=>?_) (fun c1=>?_)
 ·try simp only [sx] at c1
  obtain ⟨x,hx⟩:=yD a k (by omega)
  refine zF<|zH<|zT<|Y O<|G O<|qD O U (by omega) (getm (by assumption))<|zM zEf qH O<|zZ O O (qX O zEr) ?_
  rintro _ _ ⟨b1,rfl,rfl⟩
  refine G O<|D 0 sz139 O<|zA<|zH<|Y O<|G O<|G O<|qB O U<|zR O (wT O O O)<|zA<|zE O (fun c2=>?_) (fun c2=>?_)
  ·exact v19
  ·try simp only [sx] at c2
   obtain ⟨y,hy⟩:=yD b k (by omega)
   refine zF<|Y O<|G O<|G O<|qD O U (by omega) (getm (by assumption))<|zM zEf qH O<|zZ O O (qX O zEr) ?_
   rintro _ _ ⟨b2,rfl,rfl⟩
   refine D 0 sz139 O<|zA<|Y O<|G O<|zM zEf (J 1 O) O<|zM zEf (J 0 O) O<|zR O (kP O O (hc _ (qC hx) _ (qC hy)) ⟨zB,O,zB,O,T⟩)<|G O<|zA<|Y O<|G O<|yM O<|zA<|zE O (fun c3=>?_) (fun c3=>?_)
   ·exact v16
   ·exact o6
 ·try simp only [sx] at c1
  refine qP<|zH<|Y O<|G O<|qB O U<|G O<|qB O U<|yB O<|zA<|zE O (fun c4=>?_) (fun c4=>?_)
  ·exact v13
  ·exact j9
theorem zHa (a b:List Ix) (c:C) (f:Ix->Ix->Int) (ha:a.length<=4294967296) (hb:b.length<=4294967296) (hc:∀x,x∈a->∀y,y∈b->FnPur cfg c [vIndex x,vIndex y] (vI (f x y))):
    Pur cfg 321 [.c (.sl 4 (a.map Ix.cells)),.c (.sl 4 (b.map Ix.cells)),.c c] (vI (cmpL f a b)):=by
 refine zW Tryz.func321 O Tryz.ntmps321 Tryz.results321 O ?_
 intro z hz
 refine Y O<|G O<|zA<|zH<|Y O<|G O<|qB O el52<|G O<|zA<|zT<|zU ⟨[(13,.c _),(0,.c _),(1,.c _),(2,.c _),(11,.c _),(12,.c _)],[]⟩ (Weak.mk [] ⟨zB,zB,zB,zB,zB,zB,T⟩ O)<|qJ 1 0 O O (Nat) (fun k=>[(13,vI k)]) (fun k=>[]) (fun k=>k<=a.length/\(cmpL f a b=cmpL f (a.drop k) (b.drop k))/\(k<=b.length)) (fun k=>a.length-k) ⟨0,⟨by omega,O,by omega⟩,Weak.mk [] ⟨zB,zB,zB,zB,zB,zB,T⟩ O⟩ ?_
 rintro k ⟨hk,hp,hq⟩
 refine Y O<|yB O<|zA<|zH<|zE O (fun c1=>?_) (fun c1=>?_)
 ·try simp only [sx] at c1
  obtain ⟨x,hx⟩:=yD a k (by omega)
  refine zF<|zH<|zT<|Y O<|G O<|qD O el52 (by omega) (getm (by assumption))<|zM zLp qH O<|zZ O O (qF [none,some 2,none,some 2] O zr93 O) ?_
  rintro _ _ ⟨b1,rfl,rfl⟩
  refine G O<|D 0 sz93 O<|zA<|zH<|Y O<|G O<|G O<|qB O el52<|zR O (wT O O O)<|zA<|zE O (fun c2=>?_) (fun c2=>?_)
  ·exact v19
  ·try simp only [sx] at c2
   obtain ⟨y,hy⟩:=yD b k (by omega)
   refine zF<|Y O<|G O<|G O<|qD O el52 (by omega) (getm (by assumption))<|zM zLp qH O<|zZ O O (qF [none,some 2,none,some 2] O zr93 O) ?_
   rintro _ _ ⟨b2,rfl,rfl⟩
   refine D 0 sz93 O<|zA<|Y O<|G O<|zM zLp (J 1 O) O<|zM zLp (J 0 O) O<|zR O (kP O O (hc _ (qC hx) _ (qC hy)) ⟨zB,O,zB,O,T⟩)<|G O<|zA<|Y O<|G O<|yM O<|zA<|zE O (fun c3=>?_) (fun c3=>?_)
   ·exact v16
   ·exact o6
 ·try simp only [sx] at c1
  refine qP<|zH<|Y O<|G O<|qB O el52<|G O<|qB O el52<|yB O<|zA<|zE O (fun c4=>?_) (fun c4=>?_)
  ·exact v13
  ·exact j9
theorem zGz (a b:List Lf) (c:C) (f:Lf->Lf->Int) (ha:a.length<=4294967296) (hb:b.length<=4294967296) (hc:∀x,x∈a->∀y,y∈b->FnPur cfg c [vLin x,vLin y] (vI (f x y))):
    Pur cfg 324 [.c (.sl 2 (a.map Lf.cells)),.c (.sl 2 (b.map Lf.cells)),.c c] (vI (cmpL f a b)):=by
 refine zW Tryz.func324 O Tryz.ntmps324 Tryz.results324 O ?_
 intro z hz
 refine Y O<|G O<|zA<|zH<|Y O<|G O<|qB O el72<|G O<|zA<|zT<|zU ⟨[(13,.c _),(0,.c _),(1,.c _),(2,.c _),(11,.c _),(12,.c _)],[]⟩ (Weak.mk [] ⟨zB,zB,zB,zB,zB,zB,T⟩ O)<|qJ 1 0 O O (Nat) (fun k=>[(13,vI k)]) (fun k=>[]) (fun k=>k<=a.length/\(cmpL f a b=cmpL f (a.drop k) (b.drop k))/\(k<=b.length)) (fun k=>a.length-k) ⟨0,⟨by omega,O,by omega⟩,Weak.mk [] ⟨zB,zB,zB,zB,zB,zB,T⟩ O⟩ ?_
 rintro k ⟨hk,hp,hq⟩
 refine Y O<|yB O<|zA<|zH<|zE O (fun c1=>?_) (fun c1=>?_)
 ·try simp only [sx] at c1
  obtain ⟨x,hx⟩:=yD a k (by omega)
  refine zF<|zH<|zT<|Y O<|G O<|qD O el72 (by omega) (getm (by assumption))<|zM kE qH O<|zZ O O (qF [none,some 2] O W O) ?_
  rintro _ _ ⟨b1,rfl,rfl⟩
  refine G O<|D 0 sz59 O<|zA<|zH<|Y O<|G O<|G O<|qB O el72<|zR O (wT O O O)<|zA<|zE O (fun c2=>?_) (fun c2=>?_)
  ·exact v19
  ·try simp only [sx] at c2
   obtain ⟨y,hy⟩:=yD b k (by omega)
   refine zF<|Y O<|G O<|G O<|qD O el72 (by omega) (getm (by assumption))<|zM kE qH O<|zZ O O (qF [none,some 2] O W O) ?_
   rintro _ _ ⟨b2,rfl,rfl⟩
   refine D 0 sz59 O<|zA<|Y O<|G O<|zM kE (J 1 O) O<|zM kE (J 0 O) O<|zR O (kP O O (hc _ (qC hx) _ (qC hy)) ⟨zB,O,zB,O,T⟩)<|G O<|zA<|Y O<|G O<|yM O<|zA<|zE O (fun c3=>?_) (fun c3=>?_)
   ·exact v16
   ·exact o6
 ·try simp only [sx] at c1
  refine qP<|zH<|Y O<|G O<|qB O el72<|G O<|qB O el72<|yB O<|zA<|zE O (fun c4=>?_) (fun c4=>?_)
  ·exact v13
  ·exact j9
theorem zHb (a b:List Ex) (c:C) (f:Ex->Ex->Int) (ha:a.length<=4294967296) (hb:b.length<=4294967296) (hc:∀x,x∈a->∀y,y∈b->FnPur cfg c [vE x,vE y] (vI (f x y))):
    Pur cfg 323 [.c (.sl 13 (a.map Ex.cells)),.c (.sl 13 (b.map Ex.cells)),.c c] (vI (cmpL f a b)):=by
 refine zW Tryz.func323 O Tryz.ntmps323 Tryz.results323 O ?_
 intro z hz
 refine Y O<|G O<|zA<|zH<|Y O<|G O<|qB O el60<|G O<|zA<|zT<|zU ⟨[(13,.c _),(0,.c _),(1,.c _),(2,.c _),(11,.c _),(12,.c _)],[]⟩ (Weak.mk [] ⟨zB,zB,zB,zB,zB,zB,T⟩ O)<|qJ 1 0 O O (Nat) (fun k=>[(13,vI k)]) (fun k=>[]) (fun k=>k<=a.length/\(cmpL f a b=cmpL f (a.drop k) (b.drop k))/\(k<=b.length)) (fun k=>a.length-k) ⟨0,⟨by omega,O,by omega⟩,Weak.mk [] ⟨zB,zB,zB,zB,zB,zB,T⟩ O⟩ ?_
 rintro k ⟨hk,hp,hq⟩
 refine Y O<|yB O<|zA<|zH<|zE O (fun c1=>?_) (fun c1=>?_)
 ·try simp only [sx] at c1
  obtain ⟨x,hx⟩:=yD a k (by omega)
  refine zF<|zH<|zT<|Y O<|G O<|qD O el60 (by omega) (getmE (by assumption))<|zM kD qH O<|zZ O O (qF [none,none,none,none,none,none,none,none,none,none,some 2,some 4,some 13] O zr62 O) ?_
  rintro _ _ ⟨b1,rfl,rfl⟩
  refine G O<|D 0 sz62 O<|zA<|zH<|Y O<|G O<|G O<|qB O el60<|zR O (wT O O O)<|zA<|zE O (fun c2=>?_) (fun c2=>?_)
  ·exact v19
  ·try simp only [sx] at c2
   obtain ⟨y,hy⟩:=yD b k (by omega)
   refine zF<|Y O<|G O<|G O<|qD O el60 (by omega) (getmE (by assumption))<|zM kD qH O<|zZ O O (qF [none,none,none,none,none,none,none,none,none,none,some 2,some 4,some 13] O zr62 O) ?_
   rintro _ _ ⟨b2,rfl,rfl⟩
   refine D 0 sz62 O<|zA<|Y O<|G O<|zM kD (J 1 O) O<|zM kD (J 0 O) O<|zR O (kP O O (hc _ (qC hx) _ (qC hy)) ⟨zB,O,zB,O,T⟩)<|G O<|zA<|Y O<|G O<|yM O<|zA<|zE O (fun c3=>?_) (fun c3=>?_)
   ·exact v16
   ·exact o6
 ·try simp only [sx] at c1
  refine qP<|zH<|Y O<|G O<|qB O el60<|G O<|qB O el60<|yB O<|zA<|zE O (fun c4=>?_) (fun c4=>?_)
  ·exact v13
  ·exact j9
theorem zQi (a b:List Ix) (c:C) (f:Ix->Ix->Int) (ha:a.length<=4294967296) (hb:b.length<=4294967296) (hc:∀x,x∈a->∀y,y∈b->FnPur cfg c [vIndex x,vIndex y] (vI (f x y))):
    Pur cfg 312 [.c (.sl 4 (a.map Ix.cells)),.c (.sl 4 (b.map Ix.cells)),.c c] (vI (cmpLs f a b)):=by
 refine zW Tryz.func312 O Tryz.ntmps312 Tryz.results312 O ?_
 intro z hz
 refine Y O<|G O<|zA<|zH<|Y O<|G O<|qB O el52<|G O<|qB O el52<|qK O ok308 (kZ _ _) ⟨zB,O,zB,O,T⟩<|G O<|zA<|Y O<|G O<|yM O<|zA<|zE O (fun c1=>?_) (fun c1=>?_)
 ·try simp only [sx] at c1
  refine Y O<|G O<|G O<|zA<|zG<|zV O ?_
  rw [cmpLs,if_neg c1]
 ·try simp only [sx] at c1
  refine zF<|Y O<|G O<|G O<|G O<|qK O ok321 (zHa a b c f ha hb hc) ⟨zB,O,zB,O,zB,O,T⟩<|G O<|zA<|zG<|zV O ?_
  rw [cmpLs,if_pos c1]
theorem zQh (a b:List Lf) (c:C) (f:Lf->Lf->Int) (ha:a.length<=4294967296) (hb:b.length<=4294967296) (hc:∀x,x∈a->∀y,y∈b->FnPur cfg c [vLin x,vLin y] (vI (f x y))):
    Pur cfg 322 [.c (.sl 2 (a.map Lf.cells)),.c (.sl 2 (b.map Lf.cells)),.c c] (vI (cmpLs f a b)):=by
 refine zW Tryz.func322 O Tryz.ntmps322 Tryz.results322 O ?_
 intro z hz
 refine Y O<|G O<|zA<|zH<|Y O<|G O<|qB O el72<|G O<|qB O el72<|qK O ok308 (kZ _ _) ⟨zB,O,zB,O,T⟩<|G O<|zA<|Y O<|G O<|yM O<|zA<|zE O (fun c1=>?_) (fun c1=>?_)
 ·try simp only [sx] at c1
  refine Y O<|G O<|G O<|zA<|zG<|zV O ?_
  rw [cmpLs,if_neg c1]
 ·try simp only [sx] at c1
  refine zF<|Y O<|G O<|G O<|G O<|qK O ok324 (zGz a b c f ha hb hc) ⟨zB,O,zB,O,zB,O,T⟩<|G O<|zA<|zG<|zV O ?_
  rw [cmpLs,if_pos c1]
theorem zQj (a b:List Ex) (c:C) (f:Ex->Ex->Int) (ha:a.length<=4294967296) (hb:b.length<=4294967296) (hc:∀x,x∈a->∀y,y∈b->FnPur cfg c [vE x,vE y] (vI (f x y))):
    Pur cfg 314 [.c (.sl 13 (a.map Ex.cells)),.c (.sl 13 (b.map Ex.cells)),.c c] (vI (cmpLs f a b)):=by
 refine zW Tryz.func314 O Tryz.ntmps314 Tryz.results314 O ?_
 intro z hz
 refine Y O<|G O<|zA<|zH<|Y O<|G O<|qB O el60<|G O<|qB O el60<|qK O ok308 (kZ _ _) ⟨zB,O,zB,O,T⟩<|G O<|zA<|Y O<|G O<|yM O<|zA<|zE O (fun c1=>?_) (fun c1=>?_)
 ·try simp only [sx] at c1
  refine Y O<|G O<|G O<|zA<|zG<|zV O ?_
  rw [cmpLs,if_neg c1]
 ·try simp only [sx] at c1
  refine zF<|Y O<|G O<|G O<|G O<|qK O ok323 (zHb a b c f ha hb hc) ⟨zB,O,zB,O,zB,O,T⟩<|G O<|zA<|zG<|zV O ?_
  rw [cmpLs,if_pos c1]
theorem lin_order (a b:Int):
    Pur cfg 320 [vI a,vI b] (vI (cmpI a b)):=by
 refine zW Tryz.func320 O Tryz.ntmps320 Tryz.results320 O ?_
 intro z hz
 refine Y O<|G O<|zA<|zH<|zT<|Y O<|G O<|G O<|yB O<|G O<|zA<|zE O (fun c1=>?_) (fun c1=>?_)
 ·try simp only [sx] at c1
  refine Y O<|G O<|zA<|zG<|zV O ?_
  rw [cmpI_lt c1]
 ·try simp only [sx] at c1
  refine Y O<|G O<|G O<|zR O (yU O O O)<|G O<|zA<|zE O (fun c2=>?_) (fun c2=>?_)
  ·try simp only [sx] at c2
   refine Y O<|G O<|zA<|zG<|zV O ?_
   rw [cmpI_gt c2]
  ·try simp only [sx] at c2
   refine zF<|Y O<|G O<|zA<|zG<|zV O ?_
   rw [cmpI_eq (by omega) (by omega)]
theorem lin_Compare_1 (x y:Mono):
    Pur cfg 319 [vMono x,vMono y] (vI (cmpM x y)):=by
 refine zW Tryz.func319 O Tryz.ntmps319 Tryz.results319 O ?_
 intro z hz
 refine Y O<|zZ O O (qO O O) ?_
 rintro _ _ ⟨b1,rfl,rfl⟩
 refine zZ O O (qO O O) ?_
 rintro _ _ ⟨b2,rfl,rfl⟩
 refine G O<|zA<|zH<|Y O<|zD O wS<|zI one9 (J 1 O) O<|zD O wS<|zI one9 (J 0 O) O<|zR O (zLb O O O)<|zA<|zE O (fun c1=>?_) (fun c1=>?_)
 ·try simp only [sx] at c1
  refine Y O<|zD O wS<|zI one9 (J 1 O) O<|zD O wS<|zI one9 (J 0 O) O<|qK O ok135 (strings_Compare _ _) ⟨zB,O,zB,O,T⟩<|G O<|zA<|zG<|zV O ?_
  rw [cmpM,if_neg c1]
 ·try simp only [sx] at c1
  refine zF<|Y O<|zD O zEb<|zI one2 (J 1 O) O<|zD O zEb<|zI one2 (J 0 O) O<|qK O ok320 (lin_order _ _) ⟨zB,O,zB,O,T⟩<|G O<|zA<|zG<|zV O ?_
  rw [cmpM,if_pos c1]
theorem zJo (a b:Lf) (ha:a.L.length<=4294967296) (hb:b.L.length<=4294967296):
    Pur cfg 311 [vLin a,vLin b] (vI (cmpLf a b)):=by
 refine zW Tryz.func311 O Tryz.ntmps311 Tryz.results311 O ?_
 intro z hz
 refine Y O<|zZ O O (qO O O) ?_
 rintro _ _ ⟨b1,rfl,rfl⟩
 refine zZ O O (qO O O) ?_
 rintro _ _ ⟨b2,rfl,rfl⟩
 refine G O<|zA<|Y O<|zD O zAe<|zI zEg (J 1 O) O<|zD O zAe<|zI zEg (J 0 O) O<|qK O ok318 (zFr a.L b.L _ cmpM ha hb (fun x _ y _=>FnPur.of_pur (first:=[]) (cap:=[]) ok319 (lin_Compare_1 x y))) ⟨zB,O,zB,O,zB,O,T⟩<|G O<|zA<|zH<|Y O<|G O<|yM O<|zA<|zE O (fun c1=>?_) (fun c1=>?_)
 ·try simp only [sx] at c1
  refine Y O<|G O<|G O<|zA<|zG<|zV O ?_
  rw [cmpLf,if_neg c1]
 ·try simp only [sx] at c1
  refine zF<|Y O<|zD O zFk<|zI one2 (J 1 O) O<|zD O zFk<|zI one2 (J 0 O) O<|qK O ok320 (lin_order _ _) ⟨zB,O,zB,O,T⟩<|G O<|zA<|zG<|zV O ?_
  rw [cmpLf,if_pos c1]
theorem zMq (a b:Ix) (ha:a.wt<=4294967296) (hb:b.wt<=4294967296):
    Pur cfg 313 [vIndex a,vIndex b] (vI (cmpIx a b)):=by
 refine zW Tryz.func313 O Tryz.ntmps313 Tryz.results313 O ?_
 intro z hz
 have hwa:=ha
 have hwb:=hb
 unfold Ix.wt at hwa hwb
 refine Y O<|zZ O O (qO O O) ?_
 rintro _ _ ⟨b1,rfl,rfl⟩
 refine zZ O O (qO O O) ?_
 rintro _ _ ⟨b2,rfl,rfl⟩
 refine G O<|zA<|zH<|Y O<|zD O zJd<|zI one9 (J 1 O) O<|zD O zJd<|zI one9 (J 0 O) O<|qK O ok135 (strings_Compare _ _) ⟨zB,O,zB,O,T⟩<|G O<|zA<|Y O<|G O<|yM O<|zA<|zE O (fun c1=>?_) (fun c1=>?_)
 ·try simp only [sx] at c1
  refine Y O<|G O<|G O<|zA<|zG<|zV O ?_
  rw [cmpIx,if_neg c1]
 ·try simp only [sx] at c1
  refine zF<|zH<|Y O<|zD O zEl<|zM kE (J 1 O) O<|zD O zEl<|zM kE (J 0 O) O<|qK O ok311 (zJo a.Lin b.Lin (by omega) (by omega)) ⟨zB,O,zB,O,T⟩<|G O<|zA<|Y O<|G O<|yM O<|zA<|zE O (fun c2=>?_) (fun c2=>?_)
  ·try simp only [sx] at c2
   refine Y O<|G O<|G O<|zA<|zG<|zV O ?_
   rw [cmpIx,if_pos c1,if_neg c2]
  ·try simp only [sx] at c2
   refine zF<|Y O<|zD O zBj<|zI zEt (J 1 O) O<|zD O zBj<|zI zEt (J 0 O) O<|qK O ok322 (zQh a.At b.At _ cmpLf (by omega) (by omega) (fun x hx y hy=>FnPur.of_pur (first:=[]) (cap:=[]) ok311 (zJo x y (by have:=zCo hx;omega) (by have:=zCo hy;omega)))) ⟨zB,O,zB,O,zB,O,T⟩<|G O<|zA<|zG<|zV O ?_
   rw [cmpIx,if_pos c1,if_pos c2]
theorem zNr (a b:Ty):
    Pur cfg 310 [vTy a,vTy b] (vI (cmpTy a b)):=by
 refine zW Tryz.func310 O Tryz.ntmps310 Tryz.results310 O ?_
 intro z hz
 refine Y O<|zZ O O (qO O O) ?_
 rintro _ _ ⟨b1,rfl,rfl⟩
 refine zZ O O (qO O O) ?_
 rintro _ _ ⟨b2,rfl,rfl⟩
 refine G O<|zA<|zH<|yL 28 mixed (by kernel_rfl) O O<|zQ O O (zJ O zKw O)<|zQ O O (zK O one3 O (J 1 O) O)<|zQ O O (zJ O zKw O)<|zQ O O (zK O one3 O (J 0 O) O)<|zQ O O (qR O ok308 (kZ _ _) ⟨zB,O,zB,O,T⟩)<|zQ O O (zJ O fd56_1 O)<|zQ O O (zK O one3 O (J 1 O) O)<|zQ O O (zJ O fd56_1 O)<|zQ O O (zK O one3 O (J 0 O) O)<|zQ O O (qR O ok308 (kZ _ _) ⟨zB,O,zB,O,T⟩)<|zQ O O (zJ O fd56_2 O)<|zQ O O (zK O one3 O (J 1 O) O)<|zQ O O (zJ O fd56_2 O)<|zQ O O (zK O one3 O (J 0 O) O)<|zQ O O (qR O ok308 (kZ _ _) ⟨zB,O,zB,O,T⟩)<|zQ O O (zJ O fd56_3 O)<|zQ O O (zK O one3 O (J 1 O) O)<|zQ O O (zJ O fd56_3 O)<|zQ O O (zK O one3 O (J 0 O) O)<|zQ O O (qR O ok308 (kZ _ _) ⟨zB,O,zB,O,T⟩)<|zQ O O (zJ O fd56_4 O)<|zQ O O (zK O one3 O (J 1 O) O)<|zQ O O (zJ O fd56_4 O)<|zQ O O (zK O one3 O (J 0 O) O)<|zQ O O (qR O ok308 (kZ _ _) ⟨zB,O,zB,O,T⟩)<|zQ O O (qS O el46 zr3 O O O O)<|zQ O O (qR O ok307 (cmp_Or_int [cmpI a.Kind b.Kind,cmpI a.Bits b.Bits,cmpI a.Frac b.Frac,cmpI a.Round b.Round,cmpI a.Over b.Over] (by simp)) ⟨zB,O,T⟩)<|zQ O O (yV O O)<|kL<|zA<|zG<|zV O ?_
 exact O
theorem zMs (a b:Ex) (ih:∀x,x∈a.Args->∀y,x.wt<=4294967296->y.wt<=4294967296->Pur cfg 299 [vE x,vE y] (vI (cmpE x y))) (ha:a.wt<=4294967296) (hb:b.wt<=4294967296):
    Pur cfg 299 [vE a,vE b] (vI (cmpE a b)):=by
 refine zW Tryz.func299 O Tryz.ntmps299 Tryz.results299 O ?_
 intro z hz
 obtain ⟨hLa,hIa,hAa⟩:=a.parts ha
 obtain ⟨hLb,hIb,hAb⟩:=b.parts hb
 have hwa:=Ex.wt_eq a
 have hwb:=Ex.wt_eq b
 refine Y O<|zZ O O (qO O O) ?_
 rintro _ _ ⟨b1,rfl,rfl⟩
 refine zZ O O (qO O O) ?_
 rintro _ _ ⟨b2,rfl,rfl⟩
 refine G O<|zA<|zH<|yL 37 mixed (by kernel_rfl) O O<|zQ O O (zJ O zAw O)<|zQ O O (zK O one3 O (J 1 O) O)<|zQ O O (zJ O zAw O)<|zQ O O (zK O one3 O (J 0 O) O)<|zQ O O (qR O ok308 (kZ _ _) ⟨zB,O,zB,O,T⟩)<|zQ O O (zJ O zNj O)<|zQ O O (zK O one9 O (J 1 O) O)<|zQ O O (zJ O zNj O)<|zQ O O (zK O one9 O (J 0 O) O)<|zQ O O (qR O ok135 (strings_Compare _ _) ⟨zB,O,zB,O,T⟩)<|zQ O O (zJ O fd62_2 O)<|zQ O O (zJ O zPx O)<|zQ O O (zK O one2 O (J 1 O) O)<|zQ O O (zJ O fd62_2 O)<|zQ O O (zJ O zPx O)<|zQ O O (zK O one2 O (J 0 O) O)<|zQ O O (qR O ok309 (zIf _ _) ⟨zB,O,zB,O,T⟩)<|zQ O O (zJ O fd62_2 O)<|zQ O O (zJ O zPw O)<|zQ O O (zK O one2 O (J 1 O) O)<|zQ O O (zJ O fd62_2 O)<|zQ O O (zJ O zPw O)<|zQ O O (zK O one2 O (J 0 O) O)<|zQ O O (qR O ok309 (zIf _ _) ⟨zB,O,zB,O,T⟩)<|zQ O O (zJ O zKv O)<|zQ O O (qA O qZ O (J 1 O) O)<|zQ O O (zJ O zKv O)<|zQ O O (qA O qZ O (J 0 O) O)<|zQ O O (qR O ok310 (zNr _ _) ⟨zB,O,zB,O,T⟩)<|zQ O O (zJ O zGp O)<|zQ O O (qA O kE O (J 1 O) O)<|zQ O O (zJ O zGp O)<|zQ O O (qA O kE O (J 0 O) O)<|zQ O O (qR O ok311 (zJo a.Lin b.Lin hLa hLb) ⟨zB,O,zB,O,T⟩)<|zQ O O (qS O el46 zr3 O O O O)<|zQ O O (qR O ok307 (cmp_Or_int [cmpI a.Op b.Op,cmpS a.Name b.Name,cmpI a.Val.N b.Val.N,cmpI a.Val.D b.Val.D,cmpTy a.Ty b.Ty,cmpLf a.Lin b.Lin] (by simp)) ⟨zB,O,T⟩)<|zQ O O (yV O O)<|kL<|zA<|zH<|Y O<|G O<|yM O<|zA<|zE O (fun c1=>?_) (fun c1=>?_)
 ·try simp only [sx] at c1
  refine Y O<|G O<|G O<|zA<|zG<|zV O ?_
  rw [cmpE_eq,if_neg (show ¬cmpHd a b=0 from c1)];rfl
 ·try simp only [sx] at c1
  refine zF<|zH<|Y O<|zD O zAt<|zI zBr (J 1 O) O<|zD O zAt<|zI zBr (J 0 O) O<|qK O ok312 (zQi a.Idx b.Idx _ cmpIx hIa hIb (fun x hx y hy=>FnPur.of_pur (first:=[]) (cap:=[]) ok313 (zMq x y (by have:=zDb hx;omega) (by have:=zDb hy;omega)))) ⟨zB,O,zB,O,zB,O,T⟩<|G O<|zA<|Y O<|G O<|yM O<|zA<|zE O (fun c2=>?_) (fun c2=>?_)
  ·try simp only [sx] at c2
   refine Y O<|G O<|G O<|zA<|zG<|zV O ?_
   rw [cmpE_eq,if_pos (show cmpHd a b=0 from c1),if_neg c2]
  ·try simp only [sx] at c2
   refine zF<|Y O<|zD O zCf<|zI zIw (J 1 O) O<|zD O zCf<|zI zIw (J 0 O) O<|qK O ok314 (zQj a.Args b.Args _ cmpE hAa hAb (fun x hx y hy=>FnPur.of_pur (first:=[]) (cap:=[]) ok299 (ih x hx y (by have:=Ex.arg_wt hx;omega) (by have:=Ex.arg_wt hy;omega)))) ⟨zB,O,zB,O,zB,O,T⟩<|G O<|zA<|zG<|zV O ?_
   rw [cmpE_eq,if_pos (show cmpHd a b=0 from c1),if_pos c2]
theorem expr_Compare (a b:Ex) (ha:a.wt<=4294967296) (hb:b.wt<=4294967296):Pur cfg 299 [vE a,vE b] (vI (cmpE a b)):=by
  induction a using Ex.ind generalizing b with
  |_ a ih=>exact zMs a b (fun x hx y h1 h2=>ih x hx y h1 h2) ha hb
theorem expr_Same (a b:Ex) (ha:a.wt<=4294967296) (hb:b.wt<=4294967296):
    Pur cfg 278 [vE a,vE b] (vB (decide (a=b))):=by
 refine zW Tryz.func278 O Tryz.ntmps278 Tryz.results278 O ?_
 intro z hz
 refine Y O<|zZ O O (qO O O) ?_
 rintro _ _ ⟨b1,rfl,rfl⟩
 refine zZ O O (qO O O) ?_
 rintro _ _ ⟨b2,rfl,rfl⟩
 refine G O<|zA<|Y O<|zM kD (J 1 O) O<|zM kD (J 0 O) O<|qK O ok299 (expr_Compare a b ha hb) ⟨zB,O,zB,O,T⟩<|yX O<|G O<|zA<|zG<|zV O ?_
 exact congrArg vB (decide_eq_decide.2 (cmpE_zero a b))
end Go.W
end
section
set_option maxRecDepth 10000
namespace Go.W
open Go Go.Eng Go.Proofs Go.L41 Go.Br
attribute [local irreducible] AWP RWP TD finQ
end Go.W
end
section
set_option maxRecDepth 10000
namespace Go.W
open Go Go.Eng Go.Proofs Go.L41 Go.Br
attribute [local irreducible] AWP RWP TD finQ
end Go.W
end
