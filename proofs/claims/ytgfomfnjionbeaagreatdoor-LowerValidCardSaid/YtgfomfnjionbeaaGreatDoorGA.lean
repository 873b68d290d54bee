/-
  What functions compute.
  What functions compute.
  What functions compute.
  Conditions: none.
-/
import Derived.Test.YtgfomfnjionbeaaGreatDoorWK
import Derived.Test.YtgfomfnjionbeaaGreatDoorPlain
import Derived.Test.YtgfomfnjionbeaaGreatDoorEngZ
import Derived.Test.YtgfomfnjionbeaaGreatDoorWP
import Derived.Test.YtgfomfnjionbeaaGreatDoorPlain2
set_option linter.unusedSimpArgs false
set_option linter.unusedVariables false
section
set_option maxRecDepth 10000
namespace Go.W
open Go Go.Eng Go.Proofs Go.L41 Go.Br
attribute [local irreducible] AWP RWP TD fQ
theorem ok135:bA Tryz.prog 135=true:=by kernel_rfl
theorem ok299:bA Tryz.prog 299=true:=by kernel_rfl
theorem ok307:bA Tryz.prog 307=true:=by kernel_rfl
theorem ok308:bA Tryz.prog 308=true:=by kernel_rfl
theorem ok309:bA Tryz.prog 309=true:=by kernel_rfl
theorem ok310:bA Tryz.prog 310=true:=by kernel_rfl
theorem ok311:bA Tryz.prog 311=true:=by kernel_rfl
theorem ok312:bA Tryz.prog 312=true:=by kernel_rfl
theorem ok313:bA Tryz.prog 313=true:=by kernel_rfl
theorem ok314:bA Tryz.prog 314=true:=by kernel_rfl
theorem ok316:bA Tryz.prog 316=true:=by kernel_rfl
theorem ok317:bA Tryz.prog 317=true:=by kernel_rfl
theorem ok318:bA Tryz.prog 318=true:=by kernel_rfl
theorem ok319:bA Tryz.prog 319=true:=by kernel_rfl
theorem ok320:bA Tryz.prog 320=true:=by kernel_rfl
theorem ok321:bA Tryz.prog 321=true:=by kernel_rfl
theorem ok322:bA Tryz.prog 322=true:=by kernel_rfl
theorem ok323:bA Tryz.prog 323=true:=by kernel_rfl
theorem ok324:bA Tryz.prog 324=true:=by kernel_rfl
theorem zNf (a:Int):
    Pur cfg 316 [vI a] (vB false):=by
 refine zV Tryz.func316 O Tryz.ntmps316 Tryz.results316 O ?_
 intro z hz
 refine Y O<|G O<|zA<|Y O<|G O<|G O<|yN O<|G O<|zA<|zJ<|zT O ?_
 exact congrArg vB uG
theorem wK (a b:Int):
    Pur cfg 308 [vI a,vI b] (vI (jI a b)):=by
 refine zV Tryz.func308 O Tryz.ntmps308 Tryz.results308 O ?_
 intro z hz
 refine Y O<|G O<|zA<|Y O<|G O<|qJ O ok316 (zNf a) ⟨zB,O,T⟩<|G O<|zA<|Y O<|G O<|qJ O ok316 (zNf b) ⟨zB,O,T⟩<|G O<|zA<|zH<|Y O<|G O<|zA<|zE O (fun c1=>?_) (fun c1=>?_)
 ·exact absurd c1 uA
 ·exact m5
theorem zNg (a:Int):
    Pur cfg 317 [vI a] (vB false):=by
 refine zV Tryz.func317 O Tryz.ntmps317 Tryz.results317 O ?_
 intro z hz
 refine Y O<|G O<|zA<|Y O<|G O<|G O<|yN O<|G O<|zA<|zJ<|zT O ?_
 exact congrArg vB uG
theorem zJt (a b:Int):
    Pur cfg 309 [vI a,vI b] (vI (jI a b)):=by
 refine zV Tryz.func309 O Tryz.ntmps309 Tryz.results309 O ?_
 intro z hz
 refine Y O<|G O<|zA<|Y O<|G O<|qJ O ok317 (zNg a) ⟨zB,O,T⟩<|G O<|zA<|Y O<|G O<|qJ O ok317 (zNg b) ⟨zB,O,T⟩<|G O<|zA<|zH<|Y O<|G O<|zA<|zE O (fun c1=>?_) (fun c1=>?_)
 ·exact absurd c1 uA
 ·exact m5
theorem cmp_Or_int (l:List Int) (hl:l.length<=4294967296):
    Pur cfg 307 [.c (.sl 1 (l.map fun n=>[cI n]))] (vI (orI l)):=by
 refine zV Tryz.func307 O Tryz.ntmps307 Tryz.results307 O ?_
 intro z hz
 refine Y O<|G O<|zA<|Y O<|G O<|zA<|zH<|Y O<|G O<|qB O el46<|G O<|zA<|zR<|zU ⟨[(8,.c _),(3,.c _),(6,.c _),(7,.c _)],[]⟩ (Weak.mk [] ⟨zB,zB,zB,zB,T⟩ O)<|qF 1 0 O O (Nat) (fun k=>[(8,vI k)]) (fun k=>[]) (fun k=>k<=l.length/\(orI l=orI (l.drop k))) (fun k=>l.length-k) ⟨0,⟨zC,O⟩,Weak.mk [] ⟨zB,zB,zB,zB,T⟩ O⟩ ?_
 rintro k ⟨hk,hp⟩
 refine Y O<|yA O<|zA<|zH<|zE O (fun c1=>?_) (fun c1=>?_)
 ·try simp only [sx] at c1
  obtain ⟨x,hx⟩:=qV l k zC
  refine zI<|zH<|zR<|Y O<|qE O el46 zC (getm uD)<|zG one3 qD O<|G O<|zA<|Y O<|G O<|G O<|yN O<|zA<|zE O (fun c2=>?_) (fun c2=>?_)
  ·try simp only [sx] at c2
   refine Y O<|G O<|G O<|zA<|zJ<|zT O ?_
   rw [hp,orI_at hx c2]
  ·try simp only [sx] at c2
   refine zI<|zO O<|qH O ⟨zC,zC⟩<|G O<|zA ?_
   refine ⟨k+1,⟨zC,hp.trans (orI_next hx c2)⟩,zC,Weak.mk [] ⟨zB,zB,zB,zB,T⟩ O⟩
 ·try simp only [sx] at c1
  refine qM<|Y O<|G O<|G O<|zA<|zJ<|zT O ?_
  rw [hp,kJ zC];rfl
theorem zHe (a b:List Mono) (c:C) (f:Mono->Mono->Int) (ha:a.length<=4294967296) (hb:b.length<=4294967296) (hc:∀x,x∈a->∀y,y∈b->FnPur cfg c [sH x,sH y] (vI (f x y))):
    Pur cfg 318 [.c (.sl 2 (a.map Mono.cells)),.c (.sl 2 (b.map Mono.cells)),.c c] (vI (jK f a b)):=by
 refine zV Tryz.func318 O Tryz.ntmps318 Tryz.results318 O ?_
 intro z hz
 refine Y O<|G O<|zA<|zH<|Y O<|G O<|qB O U<|G O<|zA<|zR<|zU ⟨[(13,.c _),(0,.c _),(1,.c _),(2,.c _),(11,.c _),(12,.c _)],[]⟩ (Weak.mk [] ⟨zB,zB,zB,zB,zB,zB,T⟩ O)<|qF 1 0 O O (Nat) (fun k=>[(13,vI k)]) (fun k=>[]) (fun k=>k<=a.length/\(jK f a b=jK f (a.drop k) (b.drop k))/\(k<=b.length)) (fun k=>a.length-k) ⟨0,⟨zC,O,zC⟩,Weak.mk [] ⟨zB,zB,zB,zB,zB,zB,T⟩ O⟩ ?_
 rintro k ⟨hk,hp,hq⟩
 refine Y O<|yA O<|zA<|zH<|zE O (fun c1=>?_) (fun c1=>?_)
 ·try simp only [sx] at c1
  obtain ⟨x,hx⟩:=qV a k zC
  refine zI<|zH<|zR<|Y O<|G O<|qE O U zC (getm uD)<|zM zEf qD O<|zY O O (yC O zGb) ?_
  rintro _ _ ⟨b1,rfl,rfl⟩
  refine G O<|D 0 sz139 O<|zA<|zH<|Y O<|G O<|G O<|qB O U<|zW O (wQ O O O)<|zA<|zE O (fun c2=>?_) (fun c2=>?_)
  ·exact v35
  ·try simp only [sx] at c2
   obtain ⟨y,hy⟩:=qV b k zC
   refine zI<|Y O<|G O<|G O<|qE O U zC (getm uD)<|zM zEf qD O<|zY O O (yC O zGb) ?_
   rintro _ _ ⟨b2,rfl,rfl⟩
   refine D 0 sz139 O<|zA<|Y O<|G O<|zM zEf (J 1 O) O<|zM zEf (J 0 O) O<|zW O (kX O O (hc _ (qC hx) _ (qC hy)) ⟨zB,O,zB,O,T⟩)<|G O<|zA<|Y O<|G O<|yN O<|zA<|zE O (fun c3=>?_) (fun c3=>?_)
   ·exact v29
   ·exact n8
 ·try simp only [sx] at c1
  refine qM<|zH<|Y O<|G O<|qB O U<|G O<|qB O U<|yA O<|zA<|zE O (fun c4=>?_) (fun c4=>?_)
  ·exact v28
  ·exact v20
theorem zIo (a b:List Ix) (c:C) (f:Ix->Ix->Int) (ha:a.length<=4294967296) (hb:b.length<=4294967296) (hc:∀x,x∈a->∀y,y∈b->FnPur cfg c [jN x,jN y] (vI (f x y))):
    Pur cfg 321 [.c (.sl 4 (a.map Ix.cells)),.c (.sl 4 (b.map Ix.cells)),.c c] (vI (jK f a b)):=by
 refine zV Tryz.func321 O Tryz.ntmps321 Tryz.results321 O ?_
 intro z hz
 refine Y O<|G O<|zA<|zH<|Y O<|G O<|qB O N<|G O<|zA<|zR<|zU ⟨[(13,.c _),(0,.c _),(1,.c _),(2,.c _),(11,.c _),(12,.c _)],[]⟩ (Weak.mk [] ⟨zB,zB,zB,zB,zB,zB,T⟩ O)<|qF 1 0 O O (Nat) (fun k=>[(13,vI k)]) (fun k=>[]) (fun k=>k<=a.length/\(jK f a b=jK f (a.drop k) (b.drop k))/\(k<=b.length)) (fun k=>a.length-k) ⟨0,⟨zC,O,zC⟩,Weak.mk [] ⟨zB,zB,zB,zB,zB,zB,T⟩ O⟩ ?_
 rintro k ⟨hk,hp,hq⟩
 refine Y O<|yA O<|zA<|zH<|zE O (fun c1=>?_) (fun c1=>?_)
 ·try simp only [sx] at c1
  obtain ⟨x,hx⟩:=qV a k zC
  refine zI<|zH<|zR<|Y O<|G O<|qE O N zC (getm uD)<|zM zJx qD O<|zY O O (qG [none,some 2,none,some 2] O zr93 O) ?_
  rintro _ _ ⟨b1,rfl,rfl⟩
  refine G O<|D 0 sz93 O<|zA<|zH<|Y O<|G O<|G O<|qB O N<|zW O (wQ O O O)<|zA<|zE O (fun c2=>?_) (fun c2=>?_)
  ·exact v35
  ·try simp only [sx] at c2
   obtain ⟨y,hy⟩:=qV b k zC
   refine zI<|Y O<|G O<|G O<|qE O N zC (getm uD)<|zM zJx qD O<|zY O O (qG [none,some 2,none,some 2] O zr93 O) ?_
   rintro _ _ ⟨b2,rfl,rfl⟩
   refine D 0 sz93 O<|zA<|Y O<|G O<|zM zJx (J 1 O) O<|zM zJx (J 0 O) O<|zW O (kX O O (hc _ (qC hx) _ (qC hy)) ⟨zB,O,zB,O,T⟩)<|G O<|zA<|Y O<|G O<|yN O<|zA<|zE O (fun c3=>?_) (fun c3=>?_)
   ·exact v29
   ·exact n8
 ·try simp only [sx] at c1
  refine qM<|zH<|Y O<|G O<|qB O N<|G O<|qB O N<|yA O<|zA<|zE O (fun c4=>?_) (fun c4=>?_)
  ·exact v28
  ·exact v20
theorem zIn (a b:List Lf) (c:C) (f:Lf->Lf->Int) (ha:a.length<=4294967296) (hb:b.length<=4294967296) (hc:∀x,x∈a->∀y,y∈b->FnPur cfg c [dP x,dP y] (vI (f x y))):
    Pur cfg 324 [.c (.sl 2 (a.map Lf.cells)),.c (.sl 2 (b.map Lf.cells)),.c c] (vI (jK f a b)):=by
 refine zV Tryz.func324 O Tryz.ntmps324 Tryz.results324 O ?_
 intro z hz
 refine Y O<|G O<|zA<|zH<|Y O<|G O<|qB O el72<|G O<|zA<|zR<|zU ⟨[(13,.c _),(0,.c _),(1,.c _),(2,.c _),(11,.c _),(12,.c _)],[]⟩ (Weak.mk [] ⟨zB,zB,zB,zB,zB,zB,T⟩ O)<|qF 1 0 O O (Nat) (fun k=>[(13,vI k)]) (fun k=>[]) (fun k=>k<=a.length/\(jK f a b=jK f (a.drop k) (b.drop k))/\(k<=b.length)) (fun k=>a.length-k) ⟨0,⟨zC,O,zC⟩,Weak.mk [] ⟨zB,zB,zB,zB,zB,zB,T⟩ O⟩ ?_
 rintro k ⟨hk,hp,hq⟩
 refine Y O<|yA O<|zA<|zH<|zE O (fun c1=>?_) (fun c1=>?_)
 ·try simp only [sx] at c1
  obtain ⟨x,hx⟩:=qV a k zC
  refine zI<|zH<|zR<|Y O<|G O<|qE O el72 zC (getm uD)<|zM kD qD O<|zY O O (qG [none,some 2] O zr59 O) ?_
  rintro _ _ ⟨b1,rfl,rfl⟩
  refine G O<|D 0 sz59 O<|zA<|zH<|Y O<|G O<|G O<|qB O el72<|zW O (wQ O O O)<|zA<|zE O (fun c2=>?_) (fun c2=>?_)
  ·exact v35
  ·try simp only [sx] at c2
   obtain ⟨y,hy⟩:=qV b k zC
   refine zI<|Y O<|G O<|G O<|qE O el72 zC (getm uD)<|zM kD qD O<|zY O O (qG [none,some 2] O zr59 O) ?_
   rintro _ _ ⟨b2,rfl,rfl⟩
   refine D 0 sz59 O<|zA<|Y O<|G O<|zM kD (J 1 O) O<|zM kD (J 0 O) O<|zW O (kX O O (hc _ (qC hx) _ (qC hy)) ⟨zB,O,zB,O,T⟩)<|G O<|zA<|Y O<|G O<|yN O<|zA<|zE O (fun c3=>?_) (fun c3=>?_)
   ·exact v29
   ·exact n8
 ·try simp only [sx] at c1
  refine qM<|zH<|Y O<|G O<|qB O el72<|G O<|qB O el72<|yA O<|zA<|zE O (fun c4=>?_) (fun c4=>?_)
  ·exact v28
  ·exact v20
theorem zIp (a b:List Ex) (c:C) (f:Ex->Ex->Int) (ha:a.length<=4294967296) (hb:b.length<=4294967296) (hc:∀x,x∈a->∀y,y∈b->FnPur cfg c [vE x,vE y] (vI (f x y))):
    Pur cfg 323 [.c (.sl 13 (a.map Ex.cells)),.c (.sl 13 (b.map Ex.cells)),.c c] (vI (jK f a b)):=by
 refine zV Tryz.func323 O Tryz.ntmps323 Tryz.results323 O ?_
 intro z hz
 refine Y O<|G O<|zA<|zH<|Y O<|G O<|qB O el60<|G O<|zA<|zR<|zU ⟨[(13,.c _),(0,.c _),(1,.c _),(2,.c _),(11,.c _),(12,.c _)],[]⟩ (Weak.mk [] ⟨zB,zB,zB,zB,zB,zB,T⟩ O)<|qF 1 0 O O (Nat) (fun k=>[(13,vI k)]) (fun k=>[]) (fun k=>k<=a.length/\(jK f a b=jK f (a.drop k) (b.drop k))/\(k<=b.length)) (fun k=>a.length-k) ⟨0,⟨zC,O,zC⟩,Weak.mk [] ⟨zB,zB,zB,zB,zB,zB,T⟩ O⟩ ?_
 rintro k ⟨hk,hp,hq⟩
 refine Y O<|yA O<|zA<|zH<|zE O (fun c1=>?_) (fun c1=>?_)
 ·try simp only [sx] at c1
  obtain ⟨x,hx⟩:=qV a k zC
  refine zI<|zH<|zR<|Y O<|G O<|qE O el60 zC (zGh uD)<|zM yU qD O<|zY O O (qG [none,none,none,none,none,none,none,none,none,none,some 2,some 4,some 13] O zr62 O) ?_
  rintro _ _ ⟨b1,rfl,rfl⟩
  refine G O<|D 0 sz62 O<|zA<|zH<|Y O<|G O<|G O<|qB O el60<|zW O (wQ O O O)<|zA<|zE O (fun c2=>?_) (fun c2=>?_)
  ·exact v35
  ·try simp only [sx] at c2
   obtain ⟨y,hy⟩:=qV b k zC
   refine zI<|Y O<|G O<|G O<|qE O el60 zC (zGh uD)<|zM yU qD O<|zY O O (qG [none,none,none,none,none,none,none,none,none,none,some 2,some 4,some 13] O zr62 O) ?_
   rintro _ _ ⟨b2,rfl,rfl⟩
   refine D 0 sz62 O<|zA<|Y O<|G O<|zM yU (J 1 O) O<|zM yU (J 0 O) O<|zW O (kX O O (hc _ (qC hx) _ (qC hy)) ⟨zB,O,zB,O,T⟩)<|G O<|zA<|Y O<|G O<|yN O<|zA<|zE O (fun c3=>?_) (fun c3=>?_)
   ·exact v29
   ·exact n8
 ·try simp only [sx] at c1
  refine qM<|zH<|Y O<|G O<|qB O el60<|G O<|qB O el60<|yA O<|zA<|zE O (fun c4=>?_) (fun c4=>?_)
  ·exact v28
  ·exact v20
theorem zUc (a b:List Ix) (c:C) (f:Ix->Ix->Int) (ha:a.length<=4294967296) (hb:b.length<=4294967296) (hc:∀x,x∈a->∀y,y∈b->FnPur cfg c [jN x,jN y] (vI (f x y))):
    Pur cfg 312 [.c (.sl 4 (a.map Ix.cells)),.c (.sl 4 (b.map Ix.cells)),.c c] (vI (lI f a b)):=by
 refine zV Tryz.func312 O Tryz.ntmps312 Tryz.results312 O ?_
 intro z hz
 refine Y O<|G O<|zA<|zH<|Y O<|G O<|qB O N<|G O<|qB O N<|qJ O ok308 (wK _ _) ⟨zB,O,zB,O,T⟩<|G O<|zA<|Y O<|G O<|yN O<|zA<|zE O (fun c1=>?_) (fun c1=>?_)
 ·try simp only [sx] at c1
  refine Y O<|G O<|G O<|zA<|zJ<|zT O ?_
  rw [lI,if_neg c1]
 ·try simp only [sx] at c1
  refine zI<|Y O<|G O<|G O<|G O<|qJ O ok321 (zIo a b c f ha hb hc) ⟨zB,O,zB,O,zB,O,T⟩<|G O<|zA<|zJ<|zT O ?_
  rw [lI,if_pos c1]
theorem zUb (a b:List Lf) (c:C) (f:Lf->Lf->Int) (ha:a.length<=4294967296) (hb:b.length<=4294967296) (hc:∀x,x∈a->∀y,y∈b->FnPur cfg c [dP x,dP y] (vI (f x y))):
    Pur cfg 322 [.c (.sl 2 (a.map Lf.cells)),.c (.sl 2 (b.map Lf.cells)),.c c] (vI (lI f a b)):=by
 refine zV Tryz.func322 O Tryz.ntmps322 Tryz.results322 O ?_
 intro z hz
 refine Y O<|G O<|zA<|zH<|Y O<|G O<|qB O el72<|G O<|qB O el72<|qJ O ok308 (wK _ _) ⟨zB,O,zB,O,T⟩<|G O<|zA<|Y O<|G O<|yN O<|zA<|zE O (fun c1=>?_) (fun c1=>?_)
 ·try simp only [sx] at c1
  refine Y O<|G O<|G O<|zA<|zJ<|zT O ?_
  rw [lI,if_neg c1]
 ·try simp only [sx] at c1
  refine zI<|Y O<|G O<|G O<|G O<|qJ O ok324 (zIn a b c f ha hb hc) ⟨zB,O,zB,O,zB,O,T⟩<|G O<|zA<|zJ<|zT O ?_
  rw [lI,if_pos c1]
theorem zUd (a b:List Ex) (c:C) (f:Ex->Ex->Int) (ha:a.length<=4294967296) (hb:b.length<=4294967296) (hc:∀x,x∈a->∀y,y∈b->FnPur cfg c [vE x,vE y] (vI (f x y))):
    Pur cfg 314 [.c (.sl 13 (a.map Ex.cells)),.c (.sl 13 (b.map Ex.cells)),.c c] (vI (lI f a b)):=by
 refine zV Tryz.func314 O Tryz.ntmps314 Tryz.results314 O ?_
 intro z hz
 refine Y O<|G O<|zA<|zH<|Y O<|G O<|qB O el60<|G O<|qB O el60<|qJ O ok308 (wK _ _) ⟨zB,O,zB,O,T⟩<|G O<|zA<|Y O<|G O<|yN O<|zA<|zE O (fun c1=>?_) (fun c1=>?_)
 ·try simp only [sx] at c1
  refine Y O<|G O<|G O<|zA<|zJ<|zT O ?_
  rw [lI,if_neg c1]
 ·try simp only [sx] at c1
  refine zI<|Y O<|G O<|G O<|G O<|qJ O ok323 (zIp a b c f ha hb hc) ⟨zB,O,zB,O,zB,O,T⟩<|G O<|zA<|zJ<|zT O ?_
  rw [lI,if_pos c1]
theorem lin_order (a b:Int):
    Pur cfg 320 [vI a,vI b] (vI (jI a b)):=by
 refine zV Tryz.func320 O Tryz.ntmps320 Tryz.results320 O ?_
 intro z hz
 refine Y O<|G O<|zA<|zH<|zR<|Y O<|G O<|G O<|yA O<|G O<|zA<|zE O (fun c1=>?_) (fun c1=>?_)
 ·try simp only [sx] at c1
  refine Y O<|G O<|zA<|zJ<|zT O ?_
  rw [cmpI_lt c1]
 ·try simp only [sx] at c1
  refine Y O<|G O<|G O<|zW O (yF O O O)<|G O<|zA<|zE O (fun c2=>?_) (fun c2=>?_)
  ·try simp only [sx] at c2
   refine Y O<|G O<|zA<|zJ<|zT O ?_
   rw [cmpI_gt c2]
  ·try simp only [sx] at c2
   refine zI<|Y O<|G O<|zA<|zJ<|zT O ?_
   rw [cmpI_eq zC zC]
theorem lin_Compare_1 (x y:Mono):
    Pur cfg 319 [sH x,sH y] (vI (tB x y)):=by
 refine zV Tryz.func319 O Tryz.ntmps319 Tryz.results319 O ?_
 intro z hz
 refine Y O<|zY O O (qL O O) ?_
 rintro _ _ ⟨b1,rfl,rfl⟩
 refine zY O O (qL O O) ?_
 rintro _ _ ⟨b2,rfl,rfl⟩
 refine G O<|zA<|zH<|Y O<|zD O wV<|zG one9 (J 1 O) O<|zD O wV<|zG one9 (J 0 O) O<|zW O (zEt O O O)<|zA<|zE O (fun c1=>?_) (fun c1=>?_)
 ·try simp only [sx] at c1
  refine Y O<|zD O wV<|zG one9 (J 1 O) O<|zD O wV<|zG one9 (J 0 O) O<|qJ O ok135 (strings_Compare _ _) ⟨zB,O,zB,O,T⟩<|G O<|zA<|zJ<|zT O ?_
  rw [tB,if_neg c1]
 ·try simp only [sx] at c1
  refine zI<|Y O<|zD O zEi<|zG W (J 1 O) O<|zD O zEi<|zG W (J 0 O) O<|qJ O ok320 (lin_order _ _) ⟨zB,O,zB,O,T⟩<|G O<|zA<|zJ<|zT O ?_
  rw [tB,if_pos c1]
theorem zLm (a b:Lf) (ha:a.L.length<=4294967296) (hb:b.L.length<=4294967296):
    Pur cfg 311 [dP a,dP b] (vI (mX a b)):=by
 refine zV Tryz.func311 O Tryz.ntmps311 Tryz.results311 O ?_
 intro z hz
 refine Y O<|zY O O (qL O O) ?_
 rintro _ _ ⟨b1,rfl,rfl⟩
 refine zY O O (qL O O) ?_
 rintro _ _ ⟨b2,rfl,rfl⟩
 refine G O<|zA<|Y O<|zD O wC<|zG zBe (J 1 O) O<|zD O wC<|zG zBe (J 0 O) O<|qJ O ok318 (zHe a.L b.L _ tB ha hb (fun x _ y _=>FnPur.of_pur (first:=[]) (cap:=[]) ok319 (lin_Compare_1 x y))) ⟨zB,O,zB,O,zB,O,T⟩<|G O<|zA<|zH<|Y O<|G O<|yN O<|zA<|zE O (fun c1=>?_) (fun c1=>?_)
 ·try simp only [sx] at c1
  refine Y O<|G O<|G O<|zA<|zJ<|zT O ?_
  rw [mX,if_neg c1]
 ·try simp only [sx] at c1
  refine zI<|Y O<|zD O zEd<|zG W (J 1 O) O<|zD O zEd<|zG W (J 0 O) O<|qJ O ok320 (lin_order _ _) ⟨zB,O,zB,O,T⟩<|G O<|zA<|zJ<|zT O ?_
  rw [mX,if_pos c1]
theorem zOy (a b:Ix) (ha:a.wt<=4294967296) (hb:b.wt<=4294967296):
    Pur cfg 313 [jN a,jN b] (vI (mY a b)):=by
 refine zV Tryz.func313 O Tryz.ntmps313 Tryz.results313 O ?_
 intro z hz
 have hwa:=ha
 have hwb:=hb
 unfold Ix.wt at hwa hwb
 refine Y O<|zY O O (qL O O) ?_
 rintro _ _ ⟨b1,rfl,rfl⟩
 refine zY O O (qL O O) ?_
 rintro _ _ ⟨b2,rfl,rfl⟩
 refine G O<|zA<|zH<|Y O<|zD O zDm<|zG one9 (J 1 O) O<|zD O zDm<|zG one9 (J 0 O) O<|qJ O ok135 (strings_Compare _ _) ⟨zB,O,zB,O,T⟩<|G O<|zA<|Y O<|G O<|yN O<|zA<|zE O (fun c1=>?_) (fun c1=>?_)
 ·try simp only [sx] at c1
  refine Y O<|G O<|G O<|zA<|zJ<|zT O ?_
  rw [mY,if_neg c1]
 ·try simp only [sx] at c1
  refine zI<|zH<|Y O<|zD O zCi<|zM kD (J 1 O) O<|zD O zCi<|zM kD (J 0 O) O<|qJ O ok311 (zLm a.Lin b.Lin zC zC) ⟨zB,O,zB,O,T⟩<|G O<|zA<|Y O<|G O<|yN O<|zA<|zE O (fun c2=>?_) (fun c2=>?_)
  ·try simp only [sx] at c2
   refine Y O<|G O<|G O<|zA<|zJ<|zT O ?_
   rw [mY,if_pos c1,if_neg c2]
  ·try simp only [sx] at c2
   refine zI<|Y O<|zD O zAg<|zG zCg (J 1 O) O<|zD O zAg<|zG zCg (J 0 O) O<|qJ O ok322 (zUb a.At b.At _ mX zC zC (fun x hx y hy=>FnPur.of_pur (first:=[]) (cap:=[]) ok311 (zLm x y (by have:=zBz hx;omega) (by have:=zBz hy;omega)))) ⟨zB,O,zB,O,zB,O,T⟩<|G O<|zA<|zJ<|zT O ?_
   rw [mY,if_pos c1,if_pos c2]
theorem zQo (a b:Ty):
    Pur cfg 310 [vTy a,vTy b] (vI (vJ a b)):=by
 refine zV Tryz.func310 O Tryz.ntmps310 Tryz.results310 O ?_
 intro z hz
 refine Y O<|zY O O (qL O O) ?_
 rintro _ _ ⟨b1,rfl,rfl⟩
 refine zY O O (qL O O) ?_
 rintro _ _ ⟨b2,rfl,rfl⟩
 refine G O<|zA<|zH<|yE 28 mixed uC O O<|zN O O (zF O zFq O)<|zN O O (zK O one3 O (J 1 O) O)<|zN O O (zF O zFq O)<|zN O O (zK O one3 O (J 0 O) O)<|zN O O (qS O ok308 (wK _ _) ⟨zB,O,zB,O,T⟩)<|zN O O (zF O zLb O)<|zN O O (zK O one3 O (J 1 O) O)<|zN O O (zF O zLb O)<|zN O O (zK O one3 O (J 0 O) O)<|zN O O (qS O ok308 (wK _ _) ⟨zB,O,zB,O,T⟩)<|zN O O (zF O zQb O)<|zN O O (zK O one3 O (J 1 O) O)<|zN O O (zF O zQb O)<|zN O O (zK O one3 O (J 0 O) O)<|zN O O (qS O ok308 (wK _ _) ⟨zB,O,zB,O,T⟩)<|zN O O (zF O zTp O)<|zN O O (zK O one3 O (J 1 O) O)<|zN O O (zF O zTp O)<|zN O O (zK O one3 O (J 0 O) O)<|zN O O (qS O ok308 (wK _ _) ⟨zB,O,zB,O,T⟩)<|zN O O (zF O zTo O)<|zN O O (zK O one3 O (J 1 O) O)<|zN O O (zF O zTo O)<|zN O O (zK O one3 O (J 0 O) O)<|zN O O (qS O ok308 (wK _ _) ⟨zB,O,zB,O,T⟩)<|zN O O (wL O el46 zr3 O O O O)<|zN O O (qS O ok307 (cmp_Or_int [jI a.Kind b.Kind,jI a.Bits b.Bits,jI a.Frac b.Frac,jI a.Round b.Round,jI a.Over b.Over] uG) ⟨zB,O,T⟩)<|zN O O (yL O O)<|kE<|zA<|zJ<|zT O ?_
 exact O
theorem zPa (a b:Ex) (ih:∀x,x∈a.Args->∀y,x.wt<=4294967296->y.wt<=4294967296->Pur cfg 299 [vE x,vE y] (vI (sA x y))) (ha:a.wt<=4294967296) (hb:b.wt<=4294967296):
    Pur cfg 299 [vE a,vE b] (vI (sA a b)):=by
 refine zV Tryz.func299 O Tryz.ntmps299 Tryz.results299 O ?_
 intro z hz
 obtain ⟨hLa,hIa,hAa⟩:=a.parts ha
 obtain ⟨hLb,hIb,hAb⟩:=b.parts hb
 have hwa:=Ex.wt_eq a
 have hwb:=Ex.wt_eq b
 refine Y O<|zY O O (qL O O) ?_
 rintro _ _ ⟨b1,rfl,rfl⟩
 refine zY O O (qL O O) ?_
 rintro _ _ ⟨b2,rfl,rfl⟩
 refine G O<|zA<|zH<|yE 37 mixed uC O O<|zN O O (zF O wE O)<|zN O O (zK O one3 O (J 1 O) O)<|zN O O (zF O wE O)<|zN O O (zK O one3 O (J 0 O) O)<|zN O O (qS O ok308 (wK _ _) ⟨zB,O,zB,O,T⟩)<|zN O O (zF O zFp O)<|zN O O (zK O one9 O (J 1 O) O)<|zN O O (zF O zFp O)<|zN O O (zK O one9 O (J 0 O) O)<|zN O O (qS O ok135 (strings_Compare _ _) ⟨zB,O,zB,O,T⟩)<|zN O O (zF O zLa O)<|zN O O (zF O zGv O)<|zN O O (zK O W O (J 1 O) O)<|zN O O (zF O zLa O)<|zN O O (zF O zGv O)<|zN O O (zK O W O (J 0 O) O)<|zN O O (qS O ok309 (zJt _ _) ⟨zB,O,zB,O,T⟩)<|zN O O (zF O zLa O)<|zN O O (zF O zIe O)<|zN O O (zK O W O (J 1 O) O)<|zN O O (zF O zLa O)<|zN O O (zF O zIe O)<|zN O O (zK O W O (J 0 O) O)<|zN O O (qS O ok309 (zJt _ _) ⟨zB,O,zB,O,T⟩)<|zN O O (zF O zEo O)<|zN O O (qA O qZ O (J 1 O) O)<|zN O O (zF O zEo O)<|zN O O (qA O qZ O (J 0 O) O)<|zN O O (qS O ok310 (zQo _ _) ⟨zB,O,zB,O,T⟩)<|zN O O (zF O zDi O)<|zN O O (qA O kD O (J 1 O) O)<|zN O O (zF O zDi O)<|zN O O (qA O kD O (J 0 O) O)<|zN O O (qS O ok311 (zLm a.Lin b.Lin hLa hLb) ⟨zB,O,zB,O,T⟩)<|zN O O (wL O el46 zr3 O O O O)<|zN O O (qS O ok307 (cmp_Or_int [jI a.Op b.Op,rZ a.Name b.Name,jI a.Val.N b.Val.N,jI a.Val.D b.Val.D,vJ a.Ty b.Ty,mX a.Lin b.Lin] uG) ⟨zB,O,T⟩)<|zN O O (yL O O)<|kE<|zA<|zH<|Y O<|G O<|yN O<|zA<|zE O (fun c1=>?_) (fun c1=>?_)
 ·try simp only [sx] at c1
  refine Y O<|G O<|G O<|zA<|zJ<|zT O ?_
  rw [cmpE_eq,if_neg (show ¬pL a b=0 from c1)];rfl
 ·try simp only [sx] at c1
  refine zI<|zH<|Y O<|zD O kQ<|zG wG (J 1 O) O<|zD O kQ<|zG wG (J 0 O) O<|qJ O ok312 (zUc a.Idx b.Idx _ mY hIa hIb (fun x hx y hy=>FnPur.of_pur (first:=[]) (cap:=[]) ok313 (zOy x y (by have:=zCh hx;omega) (by have:=zCh hy;omega)))) ⟨zB,O,zB,O,zB,O,T⟩<|G O<|zA<|Y O<|G O<|yN O<|zA<|zE O (fun c2=>?_) (fun c2=>?_)
  ·try simp only [sx] at c2
   refine Y O<|G O<|G O<|zA<|zJ<|zT O ?_
   rw [cmpE_eq,if_pos (show pL a b=0 from c1),if_neg c2]
  ·try simp only [sx] at c2
   refine zI<|Y O<|zD O wP<|zG zBy (J 1 O) O<|zD O wP<|zG zBy (J 0 O) O<|qJ O ok314 (zUd a.Args b.Args _ sA hAa hAb (fun x hx y hy=>FnPur.of_pur (first:=[]) (cap:=[]) ok299 (ih x hx y (by have:=Ex.arg_wt hx;omega) (by have:=Ex.arg_wt hy;omega)))) ⟨zB,O,zB,O,zB,O,T⟩<|G O<|zA<|zJ<|zT O ?_
   rw [cmpE_eq,if_pos (show pL a b=0 from c1),if_pos c2]
theorem expr_Compare (a b:Ex) (ha:a.wt<=4294967296) (hb:b.wt<=4294967296):Pur cfg 299 [vE a,vE b] (vI (sA a b)):=by
  induction a using Ex.ind generalizing b with
  |_ a ih=>exact zPa a b (fun x hx y h1 h2=>ih x hx y h1 h2) ha hb
theorem expr_Same (a b:Ex) (ha:a.wt<=4294967296) (hb:b.wt<=4294967296):
    Pur cfg 278 [vE a,vE b] (vB (decide (a=b))):=by
 refine zV Tryz.func278 O Tryz.ntmps278 Tryz.results278 O ?_
 intro z hz
 refine Y O<|zY O O (qL O O) ?_
 rintro _ _ ⟨b1,rfl,rfl⟩
 refine zY O O (qL O O) ?_
 rintro _ _ ⟨b2,rfl,rfl⟩
 refine G O<|zA<|Y O<|zM yU (J 1 O) O<|zM yU (J 0 O) O<|qJ O ok299 (expr_Compare a b ha hb) ⟨zB,O,zB,O,T⟩<|yJ O<|G O<|zA<|zJ<|zT O ?_
 exact congrArg vB (decide_eq_decide.2 (cmpE_zero a b))
end Go.W
end
section
set_option maxRecDepth 10000
namespace Go.W
open Go Go.Eng Go.Proofs Go.L41 Go.Br
attribute [local irreducible] AWP RWP TD fQ
end Go.W
end
section
set_option maxRecDepth 10000
namespace Go.W
open Go Go.Eng Go.Proofs Go.L41 Go.Br
attribute [local irreducible] AWP RWP TD fQ
end Go.W
end
