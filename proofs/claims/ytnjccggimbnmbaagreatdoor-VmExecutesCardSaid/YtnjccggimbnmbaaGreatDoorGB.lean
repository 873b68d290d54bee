/-
  What functions compute.
  What functions compute.
  What functions compute.
  What functions compute.
  What functions compute.
  What functions compute.
  What functions compute.
  What functions compute.
  Conditions: none.
-/
import Derived.Test.YtnjccggimbnmbaaGreatDoorGW
import Derived.Test.YtnjccggimbnmbaaGreatDoorPlain
import Derived.Test.YtnjccggimbnmbaaGreatDoorEngZ
import Derived.Test.YtnjccggimbnmbaaGreatDoorPlain2
set_option linter.unusedSimpArgs false
set_option linter.unusedVariables false
section
set_option maxRecDepth 10000
namespace Go.W
open Go Go.Eng Go.Proofs Go.L41 Go.Br
attribute [local irreducible] AWP RWP TD fT
theorem v:dK Tryz.prog 44=some (3,1,8):=by kernel_rfl
theorem ok244:bA Tryz.prog 244=true:=by kernel_rfl
theorem ok265:bA Tryz.prog 265=true:=by kernel_rfl
theorem ok266:bA Tryz.prog 266=true:=by kernel_rfl
theorem ok267:bA Tryz.prog 267=true:=by kernel_rfl
theorem ok268:bA Tryz.prog 268=true:=by kernel_rfl
theorem ok269:bA Tryz.prog 269=true:=by kernel_rfl
theorem ok270:bA Tryz.prog 270=true:=by kernel_rfl
theorem ok271:bA Tryz.prog 271=true:=by kernel_rfl
theorem ok272:bA Tryz.prog 272=true:=by kernel_rfl
theorem ok273:bA Tryz.prog 273=true:=by kernel_rfl
theorem ok291:bA Tryz.prog 291=true:=by kernel_rfl
theorem ok293:bA Tryz.prog 293=true:=by kernel_rfl
theorem ok294:bA Tryz.prog 294=true:=by kernel_rfl
theorem ok295:bA Tryz.prog 295=true:=by kernel_rfl
theorem ok296:bA Tryz.prog 296=true:=by kernel_rfl
theorem ok297:bA Tryz.prog 297=true:=by kernel_rfl
theorem ok298:bA Tryz.prog 298=true:=by kernel_rfl
theorem ok299:bA Tryz.prog 299=true:=by kernel_rfl
theorem ok303:bA Tryz.prog 303=true:=by kernel_rfl
theorem zNf (a:Int):
    Pur cfg 291 [vI a] (vB false):=by
 refine zR Tryz.func291 O Tryz.ntmps291 Tryz.results291 O ?_
 intro z hz
 refine Y O<|G O<|zA<|Y O<|G O<|G O<|yQ O<|G O<|zA<|zG<|zS O ?_
 exact congrArg vB (by simp)
theorem wL (a b:Int):
    Pur cfg 266 [vI a,vI b] (vI (gO a b)):=by
 refine zR Tryz.func266 O Tryz.ntmps266 Tryz.results266 O ?_
 intro z hz
 refine Y O<|G O<|zA<|Y O<|G O<|zZ O ok291 (zNf a) ⟨zC,O,T⟩<|G O<|zA<|Y O<|G O<|zZ O ok291 (zNf b) ⟨zC,O,T⟩<|G O<|zA<|zK<|Y O<|G O<|zA<|zE O (fun c1=>?_) (fun c1=>?_)
 ·exact absurd c1 (by decide)
 ·exact n5
theorem zNg (a:Int):
    Pur cfg 293 [vI a] (vB false):=by
 refine zR Tryz.func293 O Tryz.ntmps293 Tryz.results293 O ?_
 intro z hz
 refine Y O<|G O<|zA<|Y O<|G O<|G O<|yQ O<|G O<|zA<|zG<|zS O ?_
 exact congrArg vB (by simp)
theorem zJy (a b:Int):
    Pur cfg 268 [vI a,vI b] (vI (gO a b)):=by
 refine zR Tryz.func268 O Tryz.ntmps268 Tryz.results268 O ?_
 intro z hz
 refine Y O<|G O<|zA<|Y O<|G O<|zZ O ok293 (zNg a) ⟨zC,O,T⟩<|G O<|zA<|Y O<|G O<|zZ O ok293 (zNg b) ⟨zC,O,T⟩<|G O<|zA<|zK<|Y O<|G O<|zA<|zE O (fun c1=>?_) (fun c1=>?_)
 ·exact absurd c1 (by decide)
 ·exact n5
theorem cmp_Or_int (l:List Int) (hl:l.length<=4294967296):
    Pur cfg 265 [.c (.sl 1 (l.map fun n=>[cI n]))] (vI (orI l)):=by
 refine zR Tryz.func265 O Tryz.ntmps265 Tryz.results265 O ?_
 intro z hz
 refine Y O<|G O<|zA<|Y O<|G O<|zA<|zK<|Y O<|G O<|qC O v<|G O<|zA<|zT<|zY ⟨[(8,.c _),(3,.c _),(6,.c _),(7,.c _)],[]⟩ (Weak.mk [] ⟨zC,zC,zC,zC,T⟩ O)<|qG 1 0 O O (Nat) (fun k=>[(8,vI k)]) (fun k=>[]) (fun k=>k<=l.length/\(orI l=orI (l.drop k))) (fun k=>l.length-k) ⟨0,⟨by omega,O⟩,Weak.mk [] ⟨zC,zC,zC,zC,T⟩ O⟩ ?_
 rintro k ⟨hk,hp⟩
 refine Y O<|yF O<|zA<|zK<|zE O (fun c1=>?_) (fun c1=>?_)
 ·try simp only [sx] at c1
  obtain ⟨x,hx⟩:=yC l k (by omega)
  refine zJ<|zK<|zT<|Y O<|qI O v (by omega) (D (by assumption))<|zI one3 qD O<|G O<|zA<|Y O<|G O<|G O<|yQ O<|zA<|zE O (fun c2=>?_) (fun c2=>?_)
  ·try simp only [sx] at c2
   refine Y O<|G O<|G O<|zA<|zG<|zS O ?_
   rw [hp,orI_at hx c2]
  ·try simp only [sx] at c2
   refine zJ<|zQ O<|qF O ⟨by omega,by omega⟩<|G O<|zA ?_
   refine ⟨k+1,⟨by omega,hp.trans (orI_next hx c2)⟩,(by omega),Weak.mk [] ⟨zC,zC,zC,zC,T⟩ O⟩
 ·try simp only [sx] at c1
  refine qM<|Y O<|G O<|G O<|zA<|zG<|zS O ?_
  rw [hp,wE (by omega)];rfl
theorem zHn (a b:List Mono) (c:C) (f:Mono->Mono->Int) (ha:a.length<=4294967296) (hb:b.length<=4294967296) (hc:∀x,x∈a->∀y,y∈b->FnPur cfg c [rC x,rC y] (vI (f x y))):
    Pur cfg 294 [.c (.sl 2 (a.map Mono.cells)),.c (.sl 2 (b.map Mono.cells)),.c c] (vI (gS f a b)):=by
 refine zR Tryz.func294 O Tryz.ntmps294 Tryz.results294 O ?_
 intro z hz
 refine Y O<|G O<|zA<|zK<|Y O<|G O<|qC O zDs<|G O<|zA<|zT<|zY ⟨[(13,.c _),(0,.c _),(1,.c _),(2,.c _),(11,.c _),(12,.c _)],[]⟩ (Weak.mk [] ⟨zC,zC,zC,zC,zC,zC,T⟩ O)<|qG 1 0 O O (Nat) (fun k=>[(13,vI k)]) (fun k=>[]) (fun k=>k<=a.length/\(gS f a b=gS f (a.drop k) (b.drop k))/\(k<=b.length)) (fun k=>a.length-k) ⟨0,⟨by omega,O,by omega⟩,Weak.mk [] ⟨zC,zC,zC,zC,zC,zC,T⟩ O⟩ ?_
 rintro k ⟨hk,hp,hq⟩
 refine Y O<|yF O<|zA<|zK<|zE O (fun c1=>?_) (fun c1=>?_)
 ·try simp only [sx] at c1
  obtain ⟨x,hx⟩:=yC a k (by omega)
  refine zJ<|zK<|zT<|Y O<|G O<|qI O zDs (by omega) (D (by assumption))<|zL zPu qD O<|zW O O (qS O zr273) ?_
  rintro _ _ ⟨b1,rfl,rfl⟩
  refine G O<|rStR 0 sz273 O<|zA<|zK<|Y O<|G O<|G O<|qC O zDs<|zX O (kB O O O)<|zA<|zE O (fun c2=>?_) (fun c2=>?_)
  ·exact v29
  ·try simp only [sx] at c2
   obtain ⟨y,hy⟩:=yC b k (by omega)
   refine zJ<|Y O<|G O<|G O<|qI O zDs (by omega) (D (by assumption))<|zL zPu qD O<|zW O O (qS O zr273) ?_
   rintro _ _ ⟨b2,rfl,rfl⟩
   refine rStR 0 sz273 O<|zA<|Y O<|G O<|zL zPu (J 1 O) O<|zL zPu (J 0 O) O<|zX O (zAm O O (hc _ (qL hx) _ (qL hy)) ⟨zC,O,zC,O,T⟩)<|G O<|zA<|Y O<|G O<|yQ O<|zA<|zE O (fun c3=>?_) (fun c3=>?_)
   ·exact v26
   ·exact o7
 ·try simp only [sx] at c1
  refine qM<|zK<|Y O<|G O<|qC O zDs<|G O<|qC O zDs<|yF O<|zA<|zE O (fun c4=>?_) (fun c4=>?_)
  ·exact v23
  ·exact v16
theorem zIz (a b:List Ix) (c:C) (f:Ix->Ix->Int) (ha:a.length<=4294967296) (hb:b.length<=4294967296) (hc:∀x,x∈a->∀y,y∈b->FnPur cfg c [jD x,jD y] (vI (f x y))):
    Pur cfg 297 [.c (.sl 4 (a.map Ix.cells)),.c (.sl 4 (b.map Ix.cells)),.c c] (vI (gS f a b)):=by
 refine zR Tryz.func297 O Tryz.ntmps297 Tryz.results297 O ?_
 intro z hz
 refine Y O<|G O<|zA<|zK<|Y O<|G O<|qC O wU<|G O<|zA<|zT<|zY ⟨[(13,.c _),(0,.c _),(1,.c _),(2,.c _),(11,.c _),(12,.c _)],[]⟩ (Weak.mk [] ⟨zC,zC,zC,zC,zC,zC,T⟩ O)<|qG 1 0 O O (Nat) (fun k=>[(13,vI k)]) (fun k=>[]) (fun k=>k<=a.length/\(gS f a b=gS f (a.drop k) (b.drop k))/\(k<=b.length)) (fun k=>a.length-k) ⟨0,⟨by omega,O,by omega⟩,Weak.mk [] ⟨zC,zC,zC,zC,zC,zC,T⟩ O⟩ ?_
 rintro k ⟨hk,hp,hq⟩
 refine Y O<|yF O<|zA<|zK<|zE O (fun c1=>?_) (fun c1=>?_)
 ·try simp only [sx] at c1
  obtain ⟨x,hx⟩:=yC a k (by omega)
  refine zJ<|zK<|zT<|Y O<|G O<|qI O wU (by omega) (D (by assumption))<|zL zIp qD O<|zW O O (qT [none,some 2,none,some 2] O zr195 O) ?_
  rintro _ _ ⟨b1,rfl,rfl⟩
  refine G O<|rStR 0 sz195 O<|zA<|zK<|Y O<|G O<|G O<|qC O wU<|zX O (kB O O O)<|zA<|zE O (fun c2=>?_) (fun c2=>?_)
  ·exact v29
  ·try simp only [sx] at c2
   obtain ⟨y,hy⟩:=yC b k (by omega)
   refine zJ<|Y O<|G O<|G O<|qI O wU (by omega) (D (by assumption))<|zL zIp qD O<|zW O O (qT [none,some 2,none,some 2] O zr195 O) ?_
   rintro _ _ ⟨b2,rfl,rfl⟩
   refine rStR 0 sz195 O<|zA<|Y O<|G O<|zL zIp (J 1 O) O<|zL zIp (J 0 O) O<|zX O (zAm O O (hc _ (qL hx) _ (qL hy)) ⟨zC,O,zC,O,T⟩)<|G O<|zA<|Y O<|G O<|yQ O<|zA<|zE O (fun c3=>?_) (fun c3=>?_)
   ·exact v26
   ·exact o7
 ·try simp only [sx] at c1
  refine qM<|zK<|Y O<|G O<|qC O wU<|G O<|qC O wU<|yF O<|zA<|zE O (fun c4=>?_) (fun c4=>?_)
  ·exact v23
  ·exact v16
theorem zIy (a b:List Lf) (c:C) (f:Lf->Lf->Int) (ha:a.length<=4294967296) (hb:b.length<=4294967296) (hc:∀x,x∈a->∀y,y∈b->FnPur cfg c [nA x,nA y] (vI (f x y))):
    Pur cfg 303 [.c (.sl 2 (a.map Lf.cells)),.c (.sl 2 (b.map Lf.cells)),.c c] (vI (gS f a b)):=by
 refine zR Tryz.func303 O Tryz.ntmps303 Tryz.results303 O ?_
 intro z hz
 refine Y O<|G O<|zA<|zK<|Y O<|G O<|qC O zCf<|G O<|zA<|zT<|zY ⟨[(13,.c _),(0,.c _),(1,.c _),(2,.c _),(11,.c _),(12,.c _)],[]⟩ (Weak.mk [] ⟨zC,zC,zC,zC,zC,zC,T⟩ O)<|qG 1 0 O O (Nat) (fun k=>[(13,vI k)]) (fun k=>[]) (fun k=>k<=a.length/\(gS f a b=gS f (a.drop k) (b.drop k))/\(k<=b.length)) (fun k=>a.length-k) ⟨0,⟨by omega,O,by omega⟩,Weak.mk [] ⟨zC,zC,zC,zC,zC,zC,T⟩ O⟩ ?_
 rintro k ⟨hk,hp,hq⟩
 refine Y O<|yF O<|zA<|zK<|zE O (fun c1=>?_) (fun c1=>?_)
 ·try simp only [sx] at c1
  obtain ⟨x,hx⟩:=yC a k (by omega)
  refine zJ<|zK<|zT<|Y O<|G O<|qI O zCf (by omega) (D (by assumption))<|zL zAq qD O<|zW O O (qT [none,some 2] O zr164 O) ?_
  rintro _ _ ⟨b1,rfl,rfl⟩
  refine G O<|rStR 0 sz164 O<|zA<|zK<|Y O<|G O<|G O<|qC O zCf<|zX O (kB O O O)<|zA<|zE O (fun c2=>?_) (fun c2=>?_)
  ·exact v29
  ·try simp only [sx] at c2
   obtain ⟨y,hy⟩:=yC b k (by omega)
   refine zJ<|Y O<|G O<|G O<|qI O zCf (by omega) (D (by assumption))<|zL zAq qD O<|zW O O (qT [none,some 2] O zr164 O) ?_
   rintro _ _ ⟨b2,rfl,rfl⟩
   refine rStR 0 sz164 O<|zA<|Y O<|G O<|zL zAq (J 1 O) O<|zL zAq (J 0 O) O<|zX O (zAm O O (hc _ (qL hx) _ (qL hy)) ⟨zC,O,zC,O,T⟩)<|G O<|zA<|Y O<|G O<|yQ O<|zA<|zE O (fun c3=>?_) (fun c3=>?_)
   ·exact v26
   ·exact o7
 ·try simp only [sx] at c1
  refine qM<|zK<|Y O<|G O<|qC O zCf<|G O<|qC O zCf<|yF O<|zA<|zE O (fun c4=>?_) (fun c4=>?_)
  ·exact v23
  ·exact v16
theorem zJa (a b:List Ex) (c:C) (f:Ex->Ex->Int) (ha:a.length<=4294967296) (hb:b.length<=4294967296) (hc:∀x,x∈a->∀y,y∈b->FnPur cfg c [vE x,vE y] (vI (f x y))):
    Pur cfg 299 [.c (.sl 13 (a.map Ex.cells)),.c (.sl 13 (b.map Ex.cells)),.c c] (vI (gS f a b)):=by
 refine zR Tryz.func299 O Tryz.ntmps299 Tryz.results299 O ?_
 intro z hz
 refine Y O<|G O<|zA<|zK<|Y O<|G O<|qC O zBa<|G O<|zA<|zT<|zY ⟨[(13,.c _),(0,.c _),(1,.c _),(2,.c _),(11,.c _),(12,.c _)],[]⟩ (Weak.mk [] ⟨zC,zC,zC,zC,zC,zC,T⟩ O)<|qG 1 0 O O (Nat) (fun k=>[(13,vI k)]) (fun k=>[]) (fun k=>k<=a.length/\(gS f a b=gS f (a.drop k) (b.drop k))/\(k<=b.length)) (fun k=>a.length-k) ⟨0,⟨by omega,O,by omega⟩,Weak.mk [] ⟨zC,zC,zC,zC,zC,zC,T⟩ O⟩ ?_
 rintro k ⟨hk,hp,hq⟩
 refine Y O<|yF O<|zA<|zK<|zE O (fun c1=>?_) (fun c1=>?_)
 ·try simp only [sx] at c1
  obtain ⟨x,hx⟩:=yC a k (by omega)
  refine zJ<|zK<|zT<|Y O<|G O<|qI O zBa (by omega) (zJt (by assumption))<|zL yV qD O<|zW O O (qT [none,none,none,none,none,none,none,none,none,none,some 2,some 4,some 13] O zLw O) ?_
  rintro _ _ ⟨b1,rfl,rfl⟩
  refine G O<|rStR 0 sz167 O<|zA<|zK<|Y O<|G O<|G O<|qC O zBa<|zX O (kB O O O)<|zA<|zE O (fun c2=>?_) (fun c2=>?_)
  ·exact v29
  ·try simp only [sx] at c2
   obtain ⟨y,hy⟩:=yC b k (by omega)
   refine zJ<|Y O<|G O<|G O<|qI O zBa (by omega) (zJt (by assumption))<|zL yV qD O<|zW O O (qT [none,none,none,none,none,none,none,none,none,none,some 2,some 4,some 13] O zLw O) ?_
   rintro _ _ ⟨b2,rfl,rfl⟩
   refine rStR 0 sz167 O<|zA<|Y O<|G O<|zL yV (J 1 O) O<|zL yV (J 0 O) O<|zX O (zAm O O (hc _ (qL hx) _ (qL hy)) ⟨zC,O,zC,O,T⟩)<|G O<|zA<|Y O<|G O<|yQ O<|zA<|zE O (fun c3=>?_) (fun c3=>?_)
   ·exact v26
   ·exact o7
 ·try simp only [sx] at c1
  refine qM<|zK<|Y O<|G O<|qC O zBa<|G O<|qC O zBa<|yF O<|zA<|zE O (fun c4=>?_) (fun c4=>?_)
  ·exact v23
  ·exact v16
theorem zUk (a b:List Ix) (c:C) (f:Ix->Ix->Int) (ha:a.length<=4294967296) (hb:b.length<=4294967296) (hc:∀x,x∈a->∀y,y∈b->FnPur cfg c [jD x,jD y] (vI (f x y))):
    Pur cfg 271 [.c (.sl 4 (a.map Ix.cells)),.c (.sl 4 (b.map Ix.cells)),.c c] (vI (jN f a b)):=by
 refine zR Tryz.func271 O Tryz.ntmps271 Tryz.results271 O ?_
 intro z hz
 refine Y O<|G O<|zA<|zK<|Y O<|G O<|qC O wU<|G O<|qC O wU<|zZ O ok266 (wL _ _) ⟨zC,O,zC,O,T⟩<|G O<|zA<|Y O<|G O<|yQ O<|zA<|zE O (fun c1=>?_) (fun c1=>?_)
 ·try simp only [sx] at c1
  refine Y O<|G O<|G O<|zA<|zG<|zS O ?_
  rw [jN,if_neg c1]
 ·try simp only [sx] at c1
  refine zJ<|Y O<|G O<|G O<|G O<|zZ O ok297 (zIz a b c f ha hb hc) ⟨zC,O,zC,O,zC,O,T⟩<|G O<|zA<|zG<|zS O ?_
  rw [jN,if_pos c1]
theorem zUj (a b:List Lf) (c:C) (f:Lf->Lf->Int) (ha:a.length<=4294967296) (hb:b.length<=4294967296) (hc:∀x,x∈a->∀y,y∈b->FnPur cfg c [nA x,nA y] (vI (f x y))):
    Pur cfg 298 [.c (.sl 2 (a.map Lf.cells)),.c (.sl 2 (b.map Lf.cells)),.c c] (vI (jN f a b)):=by
 refine zR Tryz.func298 O Tryz.ntmps298 Tryz.results298 O ?_
 intro z hz
 refine Y O<|G O<|zA<|zK<|Y O<|G O<|qC O zCf<|G O<|qC O zCf<|zZ O ok266 (wL _ _) ⟨zC,O,zC,O,T⟩<|G O<|zA<|Y O<|G O<|yQ O<|zA<|zE O (fun c1=>?_) (fun c1=>?_)
 ·try simp only [sx] at c1
  refine Y O<|G O<|G O<|zA<|zG<|zS O ?_
  rw [jN,if_neg c1]
 ·try simp only [sx] at c1
  refine zJ<|Y O<|G O<|G O<|G O<|zZ O ok303 (zIy a b c f ha hb hc) ⟨zC,O,zC,O,zC,O,T⟩<|G O<|zA<|zG<|zS O ?_
  rw [jN,if_pos c1]
theorem zUl (a b:List Ex) (c:C) (f:Ex->Ex->Int) (ha:a.length<=4294967296) (hb:b.length<=4294967296) (hc:∀x,x∈a->∀y,y∈b->FnPur cfg c [vE x,vE y] (vI (f x y))):
    Pur cfg 273 [.c (.sl 13 (a.map Ex.cells)),.c (.sl 13 (b.map Ex.cells)),.c c] (vI (jN f a b)):=by
 refine zR Tryz.func273 O Tryz.ntmps273 Tryz.results273 O ?_
 intro z hz
 refine Y O<|G O<|zA<|zK<|Y O<|G O<|qC O zBa<|G O<|qC O zBa<|zZ O ok266 (wL _ _) ⟨zC,O,zC,O,T⟩<|G O<|zA<|Y O<|G O<|yQ O<|zA<|zE O (fun c1=>?_) (fun c1=>?_)
 ·try simp only [sx] at c1
  refine Y O<|G O<|G O<|zA<|zG<|zS O ?_
  rw [jN,if_neg c1]
 ·try simp only [sx] at c1
  refine zJ<|Y O<|G O<|G O<|G O<|zZ O ok299 (zJa a b c f ha hb hc) ⟨zC,O,zC,O,zC,O,T⟩<|G O<|zA<|zG<|zS O ?_
  rw [jN,if_pos c1]
theorem lin_order (a b:Int):
    Pur cfg 296 [vI a,vI b] (vI (gO a b)):=by
 refine zR Tryz.func296 O Tryz.ntmps296 Tryz.results296 O ?_
 intro z hz
 refine Y O<|G O<|zA<|zK<|zT<|Y O<|G O<|G O<|yF O<|G O<|zA<|zE O (fun c1=>?_) (fun c1=>?_)
 ·try simp only [sx] at c1
  refine Y O<|G O<|zA<|zG<|zS O ?_
  rw [cmpI_lt c1]
 ·try simp only [sx] at c1
  refine Y O<|G O<|G O<|zAf O<|G O<|zA<|zE O (fun c2=>?_) (fun c2=>?_)
  ·try simp only [sx] at c2
   refine Y O<|G O<|zA<|zG<|zS O ?_
   rw [cmpI_gt c2]
  ·try simp only [sx] at c2
   refine zJ<|Y O<|G O<|zA<|zG<|zS O ?_
   rw [cmpI_eq (by omega) (by omega)]
theorem lin_Compare_1 (x y:Mono):
    Pur cfg 295 [rC x,rC y] (vI (rV x y)):=by
 refine zR Tryz.func295 O Tryz.ntmps295 Tryz.results295 O ?_
 intro z hz
 refine Y O<|zW O O (qB O O) ?_
 rintro _ _ ⟨b1,rfl,rfl⟩
 refine zW O O (qB O O) ?_
 rintro _ _ ⟨b2,rfl,rfl⟩
 refine G O<|zA<|zK<|Y O<|zD O zEo<|zI one9 (J 1 O) O<|zD O zEo<|zI one9 (J 0 O) O<|zX O (zEe O O O)<|zA<|zE O (fun c1=>?_) (fun c1=>?_)
 ·try simp only [sx] at c1
  refine Y O<|zD O zEo<|zI one9 (J 1 O) O<|zD O zEo<|zI one9 (J 0 O) O<|zZ O ok267 (strings_Compare _ _) ⟨zC,O,zC,O,T⟩<|G O<|zA<|zG<|zS O ?_
  rw [rV,if_neg c1]
 ·try simp only [sx] at c1
  refine zJ<|Y O<|zD O fd273_1<|zI U (J 1 O) O<|zD O fd273_1<|zI U (J 0 O) O<|zZ O ok296 (lin_order _ _) ⟨zC,O,zC,O,T⟩<|G O<|zA<|zG<|zS O ?_
  rw [rV,if_pos c1]
theorem zLq (a b:Lf) (ha:a.L.length<=4294967296) (hb:b.L.length<=4294967296):
    Pur cfg 270 [nA a,nA b] (vI (lV a b)):=by
 refine zR Tryz.func270 O Tryz.ntmps270 Tryz.results270 O ?_
 intro z hz
 refine Y O<|zW O O (qB O O) ?_
 rintro _ _ ⟨b1,rfl,rfl⟩
 refine zW O O (qB O O) ?_
 rintro _ _ ⟨b2,rfl,rfl⟩
 refine G O<|zA<|Y O<|zD O zAp<|zI zCa (J 1 O) O<|zD O zAp<|zI zCa (J 0 O) O<|zZ O ok294 (zHn a.L b.L _ rV ha hb (fun x _ y _=>FnPur.of_pur (first:=[]) (cap:=[]) ok295 (lin_Compare_1 x y))) ⟨zC,O,zC,O,zC,O,T⟩<|G O<|zA<|zK<|Y O<|G O<|yQ O<|zA<|zE O (fun c1=>?_) (fun c1=>?_)
 ·try simp only [sx] at c1
  refine Y O<|G O<|G O<|zA<|zG<|zS O ?_
  rw [lV,if_neg c1]
 ·try simp only [sx] at c1
  refine zJ<|Y O<|zD O zLs<|zI U (J 1 O) O<|zD O zLs<|zI U (J 0 O) O<|zZ O ok296 (lin_order _ _) ⟨zC,O,zC,O,T⟩<|G O<|zA<|zG<|zS O ?_
  rw [lV,if_pos c1]
theorem zOq (a b:Ix) (ha:a.wt<=4294967296) (hb:b.wt<=4294967296):
    Pur cfg 272 [jD a,jD b] (vI (lW a b)):=by
 refine zR Tryz.func272 O Tryz.ntmps272 Tryz.results272 O ?_
 intro z hz
 have hwa:=ha
 have hwb:=hb
 unfold Ix.wt at hwa hwb
 refine Y O<|zW O O (qB O O) ?_
 rintro _ _ ⟨b1,rfl,rfl⟩
 refine zW O O (qB O O) ?_
 rintro _ _ ⟨b2,rfl,rfl⟩
 refine G O<|zA<|zK<|Y O<|zD O zDb<|zI one9 (J 1 O) O<|zD O zDb<|zI one9 (J 0 O) O<|zZ O ok267 (strings_Compare _ _) ⟨zC,O,zC,O,T⟩<|G O<|zA<|Y O<|G O<|yQ O<|zA<|zE O (fun c1=>?_) (fun c1=>?_)
 ·try simp only [sx] at c1
  refine Y O<|G O<|G O<|zA<|zG<|zS O ?_
  rw [lW,if_neg c1]
 ·try simp only [sx] at c1
  refine zJ<|zK<|Y O<|zD O zEp<|zL zAq (J 1 O) O<|zD O zEp<|zL zAq (J 0 O) O<|zZ O ok270 (zLq a.Lin b.Lin (by omega) (by omega)) ⟨zC,O,zC,O,T⟩<|G O<|zA<|Y O<|G O<|yQ O<|zA<|zE O (fun c2=>?_) (fun c2=>?_)
  ·try simp only [sx] at c2
   refine Y O<|G O<|G O<|zA<|zG<|zS O ?_
   rw [lW,if_pos c1,if_neg c2]
  ·try simp only [sx] at c2
   refine zJ<|Y O<|zD O zBu<|zI zDv (J 1 O) O<|zD O zBu<|zI zDv (J 0 O) O<|zZ O ok298 (zUj a.At b.At _ lV (by omega) (by omega) (fun x hx y hy=>FnPur.of_pur (first:=[]) (cap:=[]) ok270 (zLq x y (by have:=zFg hx;omega) (by have:=zFg hy;omega)))) ⟨zC,O,zC,O,zC,O,T⟩<|G O<|zA<|zG<|zS O ?_
   rw [lW,if_pos c1,if_pos c2]
theorem zQg (a b:Ty):
    Pur cfg 269 [vTy a,vTy b] (vI (tG a b)):=by
 refine zR Tryz.func269 O Tryz.ntmps269 Tryz.results269 O ?_
 intro z hz
 refine Y O<|zW O O (qB O O) ?_
 rintro _ _ ⟨b1,rfl,rfl⟩
 refine zW O O (qB O O) ?_
 rintro _ _ ⟨b2,rfl,rfl⟩
 refine G O<|zA<|zK<|qV 28 mixed (by kernel_rfl) O O<|zN O O (zF O zBx O)<|zN O O (zH O one3 O (J 1 O) O)<|zN O O (zF O zBx O)<|zN O O (zH O one3 O (J 0 O) O)<|zN O O (qE O ok266 (wL _ _) ⟨zC,O,zC,O,T⟩)<|zN O O (zF O zIm O)<|zN O O (zH O one3 O (J 1 O) O)<|zN O O (zF O zIm O)<|zN O O (zH O one3 O (J 0 O) O)<|zN O O (qE O ok266 (wL _ _) ⟨zC,O,zC,O,T⟩)<|zN O O (zF O zIl O)<|zN O O (zH O one3 O (J 1 O) O)<|zN O O (zF O zIl O)<|zN O O (zH O one3 O (J 0 O) O)<|zN O O (qE O ok266 (wL _ _) ⟨zC,O,zC,O,T⟩)<|zN O O (zF O zGa O)<|zN O O (zH O one3 O (J 1 O) O)<|zN O O (zF O zGa O)<|zN O O (zH O one3 O (J 0 O) O)<|zN O O (qE O ok266 (wL _ _) ⟨zC,O,zC,O,T⟩)<|zN O O (zF O zMv O)<|zN O O (zH O one3 O (J 1 O) O)<|zN O O (zF O zMv O)<|zN O O (zH O one3 O (J 0 O) O)<|zN O O (qE O ok266 (wL _ _) ⟨zC,O,zC,O,T⟩)<|zN O O (yS O v zr3 O O O O)<|zN O O (qE O ok265 (cmp_Or_int [gO a.Kind b.Kind,gO a.Bits b.Bits,gO a.Frac b.Frac,gO a.Round b.Round,gO a.Over b.Over] (by simp)) ⟨zC,O,T⟩)<|zN O O (yE O O)<|yK<|zA<|zG<|zS O ?_
 exact O
theorem zOr (a b:Ex) (ih:∀x,x∈a.Args->∀y,x.wt<=4294967296->y.wt<=4294967296->Pur cfg 244 [vE x,vE y] (vI (pT x y))) (ha:a.wt<=4294967296) (hb:b.wt<=4294967296):
    Pur cfg 244 [vE a,vE b] (vI (pT a b)):=by
 refine zR Tryz.func244 O Tryz.ntmps244 Tryz.results244 O ?_
 intro z hz
 obtain ⟨hLa,hIa,hAa⟩:=a.parts ha
 obtain ⟨hLb,hIb,hAb⟩:=b.parts hb
 have hwa:=Ex.wt_eq a
 have hwb:=Ex.wt_eq b
 refine Y O<|zW O O (qB O O) ?_
 rintro _ _ ⟨b1,rfl,rfl⟩
 refine zW O O (qB O O) ?_
 rintro _ _ ⟨b2,rfl,rfl⟩
 refine G O<|zA<|zK<|qV 37 mixed (by kernel_rfl) O O<|zN O O (zF O kR O)<|zN O O (zH O one3 O (J 1 O) O)<|zN O O (zF O kR O)<|zN O O (zH O one3 O (J 0 O) O)<|zN O O (qE O ok266 (wL _ _) ⟨zC,O,zC,O,T⟩)<|zN O O (zF O zDp O)<|zN O O (zH O one9 O (J 1 O) O)<|zN O O (zF O zDp O)<|zN O O (zH O one9 O (J 0 O) O)<|zN O O (qE O ok267 (strings_Compare _ _) ⟨zC,O,zC,O,T⟩)<|zN O O (zF O zGm O)<|zN O O (zF O yR O)<|zN O O (zH O U O (J 1 O) O)<|zN O O (zF O zGm O)<|zN O O (zF O yR O)<|zN O O (zH O U O (J 0 O) O)<|zN O O (qE O ok268 (zJy _ _) ⟨zC,O,zC,O,T⟩)<|zN O O (zF O zGm O)<|zN O O (zF O kU O)<|zN O O (zH O U O (J 1 O) O)<|zN O O (zF O zGm O)<|zN O O (zF O kU O)<|zN O O (zH O U O (J 0 O) O)<|zN O O (qE O ok268 (zJy _ _) ⟨zC,O,zC,O,T⟩)<|zN O O (zF O zDo O)<|zN O O (zV O qX O (J 1 O) O)<|zN O O (zF O zDo O)<|zN O O (zV O qX O (J 0 O) O)<|zN O O (qE O ok269 (zQg _ _) ⟨zC,O,zC,O,T⟩)<|zN O O (zF O zEr O)<|zN O O (zV O zAq O (J 1 O) O)<|zN O O (zF O zEr O)<|zN O O (zV O zAq O (J 0 O) O)<|zN O O (qE O ok270 (zLq a.Lin b.Lin hLa hLb) ⟨zC,O,zC,O,T⟩)<|zN O O (yS O v zr3 O O O O)<|zN O O (qE O ok265 (cmp_Or_int [gO a.Op b.Op,sQ a.Name b.Name,gO a.Val.N b.Val.N,gO a.Val.D b.Val.D,tG a.Ty b.Ty,lV a.Lin b.Lin] (by simp)) ⟨zC,O,T⟩)<|zN O O (yE O O)<|yK<|zA<|zK<|Y O<|G O<|yQ O<|zA<|zE O (fun c1=>?_) (fun c1=>?_)
 ·try simp only [sx] at c1
  refine Y O<|G O<|G O<|zA<|zG<|zS O ?_
  rw [cmpE_eq,if_neg (show ¬nF a b=0 from c1)];rfl
 ·try simp only [sx] at c1
  refine zJ<|zK<|Y O<|zD O kQ<|zI wA (J 1 O) O<|zD O kQ<|zI wA (J 0 O) O<|zZ O ok271 (zUk a.Idx b.Idx _ lW hIa hIb (fun x hx y hy=>FnPur.of_pur (first:=[]) (cap:=[]) ok272 (zOq x y (by have:=zJs hx;omega) (by have:=zJs hy;omega)))) ⟨zC,O,zC,O,zC,O,T⟩<|G O<|zA<|Y O<|G O<|yQ O<|zA<|zE O (fun c2=>?_) (fun c2=>?_)
  ·try simp only [sx] at c2
   refine Y O<|G O<|G O<|zA<|zG<|zS O ?_
   rw [cmpE_eq,if_pos (show nF a b=0 from c1),if_neg c2]
  ·try simp only [sx] at c2
   refine zJ<|Y O<|zD O zAd<|zI zBl (J 1 O) O<|zD O zAd<|zI zBl (J 0 O) O<|zZ O ok273 (zUl a.Args b.Args _ pT hAa hAb (fun x hx y hy=>FnPur.of_pur (first:=[]) (cap:=[]) ok244 (ih x hx y (by have:=Ex.arg_wt hx;omega) (by have:=Ex.arg_wt hy;omega)))) ⟨zC,O,zC,O,zC,O,T⟩<|G O<|zA<|zG<|zS O ?_
   rw [cmpE_eq,if_pos (show nF a b=0 from c1),if_pos c2]
theorem expr_Compare (a b:Ex) (ha:a.wt<=4294967296) (hb:b.wt<=4294967296):Pur cfg 244 [vE a,vE b] (vI (pT a b)):=by
  induction a using Ex.ind generalizing b with
  |_ a ih=>exact zOr a b (fun x hx y h1 h2=>ih x hx y h1 h2) ha hb
theorem expr_Same (a b:Ex) (ha:a.wt<=4294967296) (hb:b.wt<=4294967296):
    Pur cfg 220 [vE a,vE b] (vB (decide (a=b))):=by
 refine zR Tryz.func220 O Tryz.ntmps220 Tryz.results220 O ?_
 intro z hz
 refine Y O<|zW O O (qB O O) ?_
 rintro _ _ ⟨b1,rfl,rfl⟩
 refine zW O O (qB O O) ?_
 rintro _ _ ⟨b2,rfl,rfl⟩
 refine G O<|zA<|Y O<|zL yV (J 1 O) O<|zL yV (J 0 O) O<|zZ O ok244 (expr_Compare a b ha hb) ⟨zC,O,zC,O,T⟩<|qQ O<|G O<|zA<|zG<|zS O ?_
 exact congrArg vB (decide_eq_decide.2 (cmpE_zero a b))
end Go.W
end
section
set_option maxRecDepth 10000
namespace Go.W
open Go Go.Eng Go.Proofs Go.L41 Go.Br
attribute [local irreducible] AWP RWP TD fT
end Go.W
end
section
set_option maxRecDepth 10000
namespace Go.W
open Go Go.Eng Go.Proofs Go.L41 Go.Br
attribute [local irreducible] AWP RWP TD fT
end Go.W
end
section
set_option maxRecDepth 10000
namespace Go.W
open Go Go.Eng Go.Proofs Go.L41 Go.Br
attribute [local irreducible] AWP RWP TD fT
end Go.W
end
section
set_option maxRecDepth 10000
namespace Go.W
open Go Go.Eng Go.Proofs Go.L41 Go.Br
attribute [local irreducible] AWP RWP TD fT
end Go.W
end
section
set_option maxRecDepth 10000
namespace Go.W
open Go Go.Eng Go.Proofs Go.L41 Go.Br
attribute [local irreducible] AWP RWP TD fT
end Go.W
end
section
set_option maxRecDepth 10000
namespace Go.W
open Go Go.Eng Go.Proofs Go.L41 Go.Br
attribute [local irreducible] AWP RWP TD fT
end Go.W
end
section
set_option maxRecDepth 10000
namespace Go.W
open Go Go.Eng Go.Proofs Go.L41 Go.Br
attribute [local irreducible] AWP RWP TD fT
theorem ok201:bA Tryz.prog 201=true:=by kernel_rfl
theorem ref14_All_step (e:Ex) (ih:∀a,a∈e.Args->a.wt<=2000000->OwnR cfg 201 [vE a] 167 13 ((dI a).map Ex.cells)) (he:e.wt<=2000000):
    OwnR cfg 201 [vE e] 167 13 ((dI e).map Ex.cells):=by
 refine zR Tryz.func201 O Tryz.ntmps201 Tryz.results201 O ?_
 intro z hz
 obtain ⟨hL,hI,hA⟩:=e.parts he
 have hn:=nodes_wt e
 refine Y O<|zW O O (qB O O) ?_
 rintro _ _ ⟨b1,rfl,rfl⟩
 refine yN 13 O<|zA<|Y O<|zL yV (J 0 O) O<|zW O O (zFe O zBa zLw O O O O) ?_
 rintro _ _ ⟨sv2,rfl,rfl⟩
 refine G O<|zA<|zK<|Y O<|G O<|zA<|zT<|zY ⟨[(4,.c _),(3,.c _),(1,.c _)],[_,_]⟩ (Weak.mk [true,true] ⟨zC,zC,zC,T⟩ O)<|qG 2 1 O O (Nat×Value) (fun ⟨k,sv⟩=>[(4,vI k),(3,.c (.lit sv))]) (fun ⟨k,sv⟩=>[E.vec sv 167 13 ((e::bV (e.Args.take k)).map Ex.cells)]) (fun ⟨k,sv⟩=>k<=e.Args.length) (fun ⟨k,sv⟩=>e.Args.length-k) ⟨⟨0,_⟩,(by omega),Weak.mk [true,true] ⟨zC,zC,zC,T⟩ (by exact zBg (by simp [bV,Ex.cells_eq];rfl))⟩ ?_
 rintro ⟨k,sv⟩ hk
 show AWP _ _ _ _ _ ⟨[(4,vI k),(3,.c (.lit sv))]++_,[E.vec sv 167 13 ((e::bV (e.Args.take k)).map Ex.cells)]++_⟩
 refine zK<|Y O<|G O<|zD O zAd<|zI zBl (J 1 O) O<|qC O zBa<|yF O<|zA<|zE O (fun c1=>?_) (fun c1=>?_)
 ·try simp only [sx] at c1
  obtain ⟨x,hx⟩:=yC e.Args k (by omega)
  have hn1:=nodes_take hx
  refine zJ<|zK<|zT<|zQ O<|G O<|zD O zAd<|zI zBl (J 1 O) O<|G O<|qI O zBa (by omega) (zJt (by assumption))<|zL yV qD O<|zZ O ok201 (OwnR.pur (ih x (qL hx) (by have:=Ex.arg_wt (qL hx);omega))) ⟨zC,O,T⟩<|zW O O (yX 0 O zBa O O O (by simp only [List.length_map,List.length_append,List.length_cons,List.length_nil];omega) (by simp only [List.length_map,List.length_append,List.length_cons,List.length_nil];omega)) ?_
  rintro _ _ ⟨sv3,rfl,rfl⟩
  refine G O<|zA<|zQ O<|G O<|qF O ⟨by omega,by omega⟩<|G O<|zA ?_
  refine ⟨⟨k+1,sv3⟩,(by omega),(by show e.Args.length-(k+1)<e.Args.length-k;omega),Weak.mk [true,true] ⟨zC,zC,zC,T⟩ (by exact zBg (by rw [zSy hx,←List.cons_append,List.map_append]))⟩
 ·try simp only [sx] at c1
  refine qM<|Y O<|G O<|G O<|zA<|zY _ (Weak.mem [true,false] O)<|zG<|zS O ?_
  exact ⟨_,O,by rw [yP (by omega),←zDj];rfl⟩
theorem ref14_All (e:Ex) (he:e.wt<=2000000):OwnR cfg 201 [vE e] 167 13 ((dI e).map Ex.cells):=by
  induction e using Ex.ind with
  |_ e ih=>exact ref14_All_step e ih he
end Go.W
end
