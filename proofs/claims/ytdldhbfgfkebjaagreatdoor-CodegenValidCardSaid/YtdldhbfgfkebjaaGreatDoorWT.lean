/-
  What functions compute.
  Conditions: none.
-/
import Derived.Test.YtdldhbfgfkebjaaGreatDoorWE
import Derived.Test.YtdldhbfgfkebjaaGreatDoorPlain
import Derived.Test.YtdldhbfgfkebjaaGreatDoorEngZ
set_option linter.unusedSimpArgs false
set_option linter.unusedVariables false
set_option maxRecDepth 10000
namespace Go.W
open Go Go.Eng Go.Proofs Go.L41 Go.Br
attribute [local irreducible] AWP RWP TD fY
theorem el67:fA Tryz.prog 67=some (3,1,8):=by kernel_rfl
theorem ok239:bA Tryz.prog 239=true:=by kernel_rfl
theorem ok263:bA Tryz.prog 263=true:=by kernel_rfl
theorem ok264:bA Tryz.prog 264=true:=by kernel_rfl
theorem ok265:bA Tryz.prog 265=true:=by kernel_rfl
theorem ok266:bA Tryz.prog 266=true:=by kernel_rfl
theorem ok267:bA Tryz.prog 267=true:=by kernel_rfl
theorem ok268:bA Tryz.prog 268=true:=by kernel_rfl
theorem ok269:bA Tryz.prog 269=true:=by kernel_rfl
theorem ok270:bA Tryz.prog 270=true:=by kernel_rfl
theorem ok271:bA Tryz.prog 271=true:=by kernel_rfl
theorem ok287:bA Tryz.prog 287=true:=by kernel_rfl
theorem ok289:bA Tryz.prog 289=true:=by kernel_rfl
theorem ok290:bA Tryz.prog 290=true:=by kernel_rfl
theorem ok291:bA Tryz.prog 291=true:=by kernel_rfl
theorem ok292:bA Tryz.prog 292=true:=by kernel_rfl
theorem ok293:bA Tryz.prog 293=true:=by kernel_rfl
theorem ok294:bA Tryz.prog 294=true:=by kernel_rfl
theorem ok295:bA Tryz.prog 295=true:=by kernel_rfl
theorem ok301:bA Tryz.prog 301=true:=by kernel_rfl
theorem zMr (a:Int):
    Pur cfg 287 [vI a] (vB false):=by
 refine zU Tryz.func287 O Tryz.ntmps287 Tryz.results287 O ?_
 intro z hz
 refine R O<|G O<|zA<|R O<|G O<|G O<|kU O<|G O<|zA<|zK<|zR O ?_
 exact congrArg vB (by simp)
theorem wH (a b:Int):
    Pur cfg 264 [vI a,vI b] (vI (gX a b)):=by
 refine zU Tryz.func264 O Tryz.ntmps264 Tryz.results264 O ?_
 intro z hz
 refine R O<|G O<|zA<|R O<|G O<|qN O ok287 (zMr a) ⟨zB,O,T⟩<|G O<|zA<|R O<|G O<|qN O ok287 (zMr b) ⟨zB,O,T⟩<|G O<|zA<|zI<|R O<|G O<|zA<|zC O (fun c1=>?_) (fun c1=>?_)
 ·exact absurd c1 (by decide)
 ·exact n8
theorem zMs (a:Int):
    Pur cfg 289 [vI a] (vB false):=by
 refine zU Tryz.func289 O Tryz.ntmps289 Tryz.results289 O ?_
 intro z hz
 refine R O<|G O<|zA<|R O<|G O<|G O<|kU O<|G O<|zA<|zK<|zR O ?_
 exact congrArg vB (by simp)
theorem zIw (a b:Int):
    Pur cfg 266 [vI a,vI b] (vI (gX a b)):=by
 refine zU Tryz.func266 O Tryz.ntmps266 Tryz.results266 O ?_
 intro z hz
 refine R O<|G O<|zA<|R O<|G O<|qN O ok289 (zMs a) ⟨zB,O,T⟩<|G O<|zA<|R O<|G O<|qN O ok289 (zMs b) ⟨zB,O,T⟩<|G O<|zA<|zI<|R O<|G O<|zA<|zC O (fun c1=>?_) (fun c1=>?_)
 ·exact absurd c1 (by decide)
 ·exact n8
theorem cmp_Or_int (l:List Int) (hl:l.length<=4294967296):
    Pur cfg 263 [.c (.sl 1 (l.map fun n=>[cI n]))] (vI (orI l)):=by
 refine zU Tryz.func263 O Tryz.ntmps263 Tryz.results263 O ?_
 intro z hz
 refine R O<|G O<|zA<|R O<|G O<|zA<|zI<|R O<|G O<|zZ O el67<|G O<|zA<|zP<|zT ⟨[(8,.c _),(3,.c _),(6,.c _),(7,.c _)],[]⟩ (Weak.mk [] ⟨zB,zB,zB,zB,T⟩ O)<|qG 1 0 O O (Nat) (fun k=>[(8,vI k)]) (fun k=>[]) (fun k=>k<=l.length/\(orI l=orI (l.drop k))) (fun k=>l.length-k) ⟨0,⟨by omega,O⟩,Weak.mk [] ⟨zB,zB,zB,zB,T⟩ O⟩ ?_
 rintro k ⟨hk,hp⟩
 refine R O<|yB O<|zA<|zI<|zC O (fun c1=>?_) (fun c1=>?_)
 ·try simp only [sx] at c1
  obtain ⟨x,hx⟩:=qU l k (by omega)
  refine zJ<|zI<|zP<|R O<|qD O el67 (by omega) (B (by assumption))<|zH one3 zQ O<|G O<|zA<|R O<|G O<|G O<|kU O<|zA<|zC O (fun c2=>?_) (fun c2=>?_)
  ·try simp only [sx] at c2
   refine R O<|G O<|G O<|zA<|zK<|zR O ?_
   rw [hp,orI_at hx c2]
  ·try simp only [sx] at c2
   refine zJ<|zM O<|qB O ⟨by omega,by omega⟩<|G O<|zA ?_
   refine ⟨k+1,⟨by omega,hp.trans (orI_next hx c2)⟩,(by omega),Weak.mk [] ⟨zB,zB,zB,zB,T⟩ O⟩
 ·try simp only [sx] at c1
  refine qH<|R O<|G O<|G O<|zA<|zK<|zR O ?_
  rw [hp,kV (by omega)];rfl
theorem zGm (a b:List Mono) (c:C) (f:Mono->Mono->Int) (ha:a.length<=4294967296) (hb:b.length<=4294967296) (hc:∀x,x∈a->∀y,y∈b->FnPur cfg c [nM x,nM y] (vI (f x y))):
    Pur cfg 290 [.c (.sl 2 (a.map Mono.cells)),.c (.sl 2 (b.map Mono.cells)),.c c] (vI (gZ f a b)):=by
 refine zU Tryz.func290 O Tryz.ntmps290 Tryz.results290 O ?_
 intro z hz
 refine R O<|G O<|zA<|zI<|R O<|G O<|zZ O el52<|G O<|zA<|zP<|zT ⟨[(13,.c _),(0,.c _),(1,.c _),(2,.c _),(11,.c _),(12,.c _)],[]⟩ (Weak.mk [] ⟨zB,zB,zB,zB,zB,zB,T⟩ O)<|qG 1 0 O O (Nat) (fun k=>[(13,vI k)]) (fun k=>[]) (fun k=>k<=a.length/\(gZ f a b=gZ f (a.drop k) (b.drop k))/\(k<=b.length)) (fun k=>a.length-k) ⟨0,⟨by omega,O,by omega⟩,Weak.mk [] ⟨zB,zB,zB,zB,zB,zB,T⟩ O⟩ ?_
 rintro k ⟨hk,hp,hq⟩
 refine R O<|yB O<|zA<|zI<|zC O (fun c1=>?_) (fun c1=>?_)
 ·try simp only [sx] at c1
  obtain ⟨x,hx⟩:=qU a k (by omega)
  refine zJ<|zI<|zP<|R O<|G O<|qD O el52 (by omega) (B (by assumption))<|zO zKf zQ O<|zV O O (yN O zr205) ?_
  rintro _ _ ⟨b1,rfl,rfl⟩
  refine G O<|D 0 sz205 O<|zA<|zI<|R O<|G O<|G O<|zZ O el52<|zW O (kN O O O)<|zA<|zC O (fun c2=>?_) (fun c2=>?_)
  ·exact v26
  ·try simp only [sx] at c2
   obtain ⟨y,hy⟩:=qU b k (by omega)
   refine zJ<|R O<|G O<|G O<|qD O el52 (by omega) (B (by assumption))<|zO zKf zQ O<|zV O O (yN O zr205) ?_
   rintro _ _ ⟨b2,rfl,rfl⟩
   refine D 0 sz205 O<|zA<|R O<|G O<|zO zKf (Y 1 O) O<|zO zKf (Y 0 O) O<|zW O (kW O O (hc _ (qA hx) _ (qA hy)) ⟨zB,O,zB,O,T⟩)<|G O<|zA<|R O<|G O<|kU O<|zA<|zC O (fun c3=>?_) (fun c3=>?_)
   ·exact v23
   ·exact n6
 ·try simp only [sx] at c1
  refine qH<|zI<|R O<|G O<|zZ O el52<|G O<|zZ O el52<|yB O<|zA<|zC O (fun c4=>?_) (fun c4=>?_)
  ·exact v19
  ·exact v16
theorem zIa (a b:List Ix) (c:C) (f:Ix->Ix->Int) (ha:a.length<=4294967296) (hb:b.length<=4294967296) (hc:∀x,x∈a->∀y,y∈b->FnPur cfg c [hM x,hM y] (vI (f x y))):
    Pur cfg 293 [.c (.sl 4 (a.map Ix.cells)),.c (.sl 4 (b.map Ix.cells)),.c c] (vI (gZ f a b)):=by
 refine zU Tryz.func293 O Tryz.ntmps293 Tryz.results293 O ?_
 intro z hz
 refine R O<|G O<|zA<|zI<|R O<|G O<|zZ O el51<|G O<|zA<|zP<|zT ⟨[(13,.c _),(0,.c _),(1,.c _),(2,.c _),(11,.c _),(12,.c _)],[]⟩ (Weak.mk [] ⟨zB,zB,zB,zB,zB,zB,T⟩ O)<|qG 1 0 O O (Nat) (fun k=>[(13,vI k)]) (fun k=>[]) (fun k=>k<=a.length/\(gZ f a b=gZ f (a.drop k) (b.drop k))/\(k<=b.length)) (fun k=>a.length-k) ⟨0,⟨by omega,O,by omega⟩,Weak.mk [] ⟨zB,zB,zB,zB,zB,zB,T⟩ O⟩ ?_
 rintro k ⟨hk,hp,hq⟩
 refine R O<|yB O<|zA<|zI<|zC O (fun c1=>?_) (fun c1=>?_)
 ·try simp only [sx] at c1
  obtain ⟨x,hx⟩:=qU a k (by omega)
  refine zJ<|zI<|zP<|R O<|G O<|qD O el51 (by omega) (B (by assumption))<|zO zDc zQ O<|zV O O (qR [none,some 2,none,some 2] O zPb O) ?_
  rintro _ _ ⟨b1,rfl,rfl⟩
  refine G O<|D 0 zPc O<|zA<|zI<|R O<|G O<|G O<|zZ O el51<|zW O (kN O O O)<|zA<|zC O (fun c2=>?_) (fun c2=>?_)
  ·exact v26
  ·try simp only [sx] at c2
   obtain ⟨y,hy⟩:=qU b k (by omega)
   refine zJ<|R O<|G O<|G O<|qD O el51 (by omega) (B (by assumption))<|zO zDc zQ O<|zV O O (qR [none,some 2,none,some 2] O zPb O) ?_
   rintro _ _ ⟨b2,rfl,rfl⟩
   refine D 0 zPc O<|zA<|R O<|G O<|zO zDc (Y 1 O) O<|zO zDc (Y 0 O) O<|zW O (kW O O (hc _ (qA hx) _ (qA hy)) ⟨zB,O,zB,O,T⟩)<|G O<|zA<|R O<|G O<|kU O<|zA<|zC O (fun c3=>?_) (fun c3=>?_)
   ·exact v23
   ·exact n6
 ·try simp only [sx] at c1
  refine qH<|zI<|R O<|G O<|zZ O el51<|G O<|zZ O el51<|yB O<|zA<|zC O (fun c4=>?_) (fun c4=>?_)
  ·exact v19
  ·exact v16
theorem zHz (a b:List Lf) (c:C) (f:Lf->Lf->Int) (ha:a.length<=4294967296) (hb:b.length<=4294967296) (hc:∀x,x∈a->∀y,y∈b->FnPur cfg c [mD x,mD y] (vI (f x y))):
    Pur cfg 301 [.c (.sl 2 (a.map Lf.cells)),.c (.sl 2 (b.map Lf.cells)),.c c] (vI (gZ f a b)):=by
 refine zU Tryz.func301 O Tryz.ntmps301 Tryz.results301 O ?_
 intro z hz
 refine R O<|G O<|zA<|zI<|R O<|G O<|zZ O zAv<|G O<|zA<|zP<|zT ⟨[(13,.c _),(0,.c _),(1,.c _),(2,.c _),(11,.c _),(12,.c _)],[]⟩ (Weak.mk [] ⟨zB,zB,zB,zB,zB,zB,T⟩ O)<|qG 1 0 O O (Nat) (fun k=>[(13,vI k)]) (fun k=>[]) (fun k=>k<=a.length/\(gZ f a b=gZ f (a.drop k) (b.drop k))/\(k<=b.length)) (fun k=>a.length-k) ⟨0,⟨by omega,O,by omega⟩,Weak.mk [] ⟨zB,zB,zB,zB,zB,zB,T⟩ O⟩ ?_
 rintro k ⟨hk,hp,hq⟩
 refine R O<|yB O<|zA<|zI<|zC O (fun c1=>?_) (fun c1=>?_)
 ·try simp only [sx] at c1
  obtain ⟨x,hx⟩:=qU a k (by omega)
  refine zJ<|zI<|zP<|R O<|G O<|qD O zAv (by omega) (B (by assumption))<|zO zBa zQ O<|zV O O (qR [none,some 2] O zr54 O) ?_
  rintro _ _ ⟨b1,rfl,rfl⟩
  refine G O<|D 0 sz54 O<|zA<|zI<|R O<|G O<|G O<|zZ O zAv<|zW O (kN O O O)<|zA<|zC O (fun c2=>?_) (fun c2=>?_)
  ·exact v26
  ·try simp only [sx] at c2
   obtain ⟨y,hy⟩:=qU b k (by omega)
   refine zJ<|R O<|G O<|G O<|qD O zAv (by omega) (B (by assumption))<|zO zBa zQ O<|zV O O (qR [none,some 2] O zr54 O) ?_
   rintro _ _ ⟨b2,rfl,rfl⟩
   refine D 0 sz54 O<|zA<|R O<|G O<|zO zBa (Y 1 O) O<|zO zBa (Y 0 O) O<|zW O (kW O O (hc _ (qA hx) _ (qA hy)) ⟨zB,O,zB,O,T⟩)<|G O<|zA<|R O<|G O<|kU O<|zA<|zC O (fun c3=>?_) (fun c3=>?_)
   ·exact v23
   ·exact n6
 ·try simp only [sx] at c1
  refine qH<|zI<|R O<|G O<|zZ O zAv<|G O<|zZ O zAv<|yB O<|zA<|zC O (fun c4=>?_) (fun c4=>?_)
  ·exact v19
  ·exact v16
theorem zIb (a b:List Ex) (c:C) (f:Ex->Ex->Int) (ha:a.length<=4294967296) (hb:b.length<=4294967296) (hc:∀x,x∈a->∀y,y∈b->FnPur cfg c [vE x,vE y] (vI (f x y))):
    Pur cfg 295 [.c (.sl 13 (a.map Ex.cells)),.c (.sl 13 (b.map Ex.cells)),.c c] (vI (gZ f a b)):=by
 refine zU Tryz.func295 O Tryz.ntmps295 Tryz.results295 O ?_
 intro z hz
 refine R O<|G O<|zA<|zI<|R O<|G O<|zZ O el55<|G O<|zA<|zP<|zT ⟨[(13,.c _),(0,.c _),(1,.c _),(2,.c _),(11,.c _),(12,.c _)],[]⟩ (Weak.mk [] ⟨zB,zB,zB,zB,zB,zB,T⟩ O)<|qG 1 0 O O (Nat) (fun k=>[(13,vI k)]) (fun k=>[]) (fun k=>k<=a.length/\(gZ f a b=gZ f (a.drop k) (b.drop k))/\(k<=b.length)) (fun k=>a.length-k) ⟨0,⟨by omega,O,by omega⟩,Weak.mk [] ⟨zB,zB,zB,zB,zB,zB,T⟩ O⟩ ?_
 rintro k ⟨hk,hp,hq⟩
 refine R O<|yB O<|zA<|zI<|zC O (fun c1=>?_) (fun c1=>?_)
 ·try simp only [sx] at c1
  obtain ⟨x,hx⟩:=qU a k (by omega)
  refine zJ<|zI<|zP<|R O<|G O<|qD O el55 (by omega) (zAa (by assumption))<|zO yP zQ O<|zV O O (qR [none,none,none,none,none,none,none,none,none,none,some 2,some 4,some 13] O zr57 O) ?_
  rintro _ _ ⟨b1,rfl,rfl⟩
  refine G O<|D 0 sz57 O<|zA<|zI<|R O<|G O<|G O<|zZ O el55<|zW O (kN O O O)<|zA<|zC O (fun c2=>?_) (fun c2=>?_)
  ·exact v26
  ·try simp only [sx] at c2
   obtain ⟨y,hy⟩:=qU b k (by omega)
   refine zJ<|R O<|G O<|G O<|qD O el55 (by omega) (zAa (by assumption))<|zO yP zQ O<|zV O O (qR [none,none,none,none,none,none,none,none,none,none,some 2,some 4,some 13] O zr57 O) ?_
   rintro _ _ ⟨b2,rfl,rfl⟩
   refine D 0 sz57 O<|zA<|R O<|G O<|zO yP (Y 1 O) O<|zO yP (Y 0 O) O<|zW O (kW O O (hc _ (qA hx) _ (qA hy)) ⟨zB,O,zB,O,T⟩)<|G O<|zA<|R O<|G O<|kU O<|zA<|zC O (fun c3=>?_) (fun c3=>?_)
   ·exact v23
   ·exact n6
 ·try simp only [sx] at c1
  refine qH<|zI<|R O<|G O<|zZ O el55<|G O<|zZ O el55<|yB O<|zA<|zC O (fun c4=>?_) (fun c4=>?_)
  ·exact v19
  ·exact v16
theorem zTj (a b:List Ix) (c:C) (f:Ix->Ix->Int) (ha:a.length<=4294967296) (hb:b.length<=4294967296) (hc:∀x,x∈a->∀y,y∈b->FnPur cfg c [hM x,hM y] (vI (f x y))):
    Pur cfg 269 [.c (.sl 4 (a.map Ix.cells)),.c (.sl 4 (b.map Ix.cells)),.c c] (vI (jM f a b)):=by
 refine zU Tryz.func269 O Tryz.ntmps269 Tryz.results269 O ?_
 intro z hz
 refine R O<|G O<|zA<|zI<|R O<|G O<|zZ O el51<|G O<|zZ O el51<|qN O ok264 (wH _ _) ⟨zB,O,zB,O,T⟩<|G O<|zA<|R O<|G O<|kU O<|zA<|zC O (fun c1=>?_) (fun c1=>?_)
 ·try simp only [sx] at c1
  refine R O<|G O<|G O<|zA<|zK<|zR O ?_
  rw [jM,if_neg c1]
 ·try simp only [sx] at c1
  refine zJ<|R O<|G O<|G O<|G O<|qN O ok293 (zIa a b c f ha hb hc) ⟨zB,O,zB,O,zB,O,T⟩<|G O<|zA<|zK<|zR O ?_
  rw [jM,if_pos c1]
theorem zTi (a b:List Lf) (c:C) (f:Lf->Lf->Int) (ha:a.length<=4294967296) (hb:b.length<=4294967296) (hc:∀x,x∈a->∀y,y∈b->FnPur cfg c [mD x,mD y] (vI (f x y))):
    Pur cfg 294 [.c (.sl 2 (a.map Lf.cells)),.c (.sl 2 (b.map Lf.cells)),.c c] (vI (jM f a b)):=by
 refine zU Tryz.func294 O Tryz.ntmps294 Tryz.results294 O ?_
 intro z hz
 refine R O<|G O<|zA<|zI<|R O<|G O<|zZ O zAv<|G O<|zZ O zAv<|qN O ok264 (wH _ _) ⟨zB,O,zB,O,T⟩<|G O<|zA<|R O<|G O<|kU O<|zA<|zC O (fun c1=>?_) (fun c1=>?_)
 ·try simp only [sx] at c1
  refine R O<|G O<|G O<|zA<|zK<|zR O ?_
  rw [jM,if_neg c1]
 ·try simp only [sx] at c1
  refine zJ<|R O<|G O<|G O<|G O<|qN O ok301 (zHz a b c f ha hb hc) ⟨zB,O,zB,O,zB,O,T⟩<|G O<|zA<|zK<|zR O ?_
  rw [jM,if_pos c1]
theorem zTk (a b:List Ex) (c:C) (f:Ex->Ex->Int) (ha:a.length<=4294967296) (hb:b.length<=4294967296) (hc:∀x,x∈a->∀y,y∈b->FnPur cfg c [vE x,vE y] (vI (f x y))):
    Pur cfg 271 [.c (.sl 13 (a.map Ex.cells)),.c (.sl 13 (b.map Ex.cells)),.c c] (vI (jM f a b)):=by
 refine zU Tryz.func271 O Tryz.ntmps271 Tryz.results271 O ?_
 intro z hz
 refine R O<|G O<|zA<|zI<|R O<|G O<|zZ O el55<|G O<|zZ O el55<|qN O ok264 (wH _ _) ⟨zB,O,zB,O,T⟩<|G O<|zA<|R O<|G O<|kU O<|zA<|zC O (fun c1=>?_) (fun c1=>?_)
 ·try simp only [sx] at c1
  refine R O<|G O<|G O<|zA<|zK<|zR O ?_
  rw [jM,if_neg c1]
 ·try simp only [sx] at c1
  refine zJ<|R O<|G O<|G O<|G O<|qN O ok295 (zIb a b c f ha hb hc) ⟨zB,O,zB,O,zB,O,T⟩<|G O<|zA<|zK<|zR O ?_
  rw [jM,if_pos c1]
theorem lin_order (a b:Int):
    Pur cfg 292 [vI a,vI b] (vI (gX a b)):=by
 refine zU Tryz.func292 O Tryz.ntmps292 Tryz.results292 O ?_
 intro z hz
 refine R O<|G O<|zA<|zI<|zP<|R O<|G O<|G O<|yB O<|G O<|zA<|zC O (fun c1=>?_) (fun c1=>?_)
 ·try simp only [sx] at c1
  refine R O<|G O<|zA<|zK<|zR O ?_
  rw [cmpI_lt c1]
 ·try simp only [sx] at c1
  refine R O<|G O<|G O<|zW O (yG O O O)<|G O<|zA<|zC O (fun c2=>?_) (fun c2=>?_)
  ·try simp only [sx] at c2
   refine R O<|G O<|zA<|zK<|zR O ?_
   rw [cmpI_gt c2]
  ·try simp only [sx] at c2
   refine zJ<|R O<|G O<|zA<|zK<|zR O ?_
   rw [cmpI_eq (by omega) (by omega)]
theorem lin_Compare_1 (x y:Mono):
    Pur cfg 291 [nM x,nM y] (vI (sA x y)):=by
 refine zU Tryz.func291 O Tryz.ntmps291 Tryz.results291 O ?_
 intro z hz
 refine R O<|zV O O (qO O O) ?_
 rintro _ _ ⟨b1,rfl,rfl⟩
 refine zV O O (qO O O) ?_
 rintro _ _ ⟨b2,rfl,rfl⟩
 refine G O<|zA<|zI<|R O<|zG O zDl<|zH one9 (Y 1 O) O<|zG O zDl<|zH one9 (Y 0 O) O<|zW O (zAl O O O)<|zA<|zC O (fun c1=>?_) (fun c1=>?_)
 ·try simp only [sx] at c1
  refine R O<|zG O zDl<|zH one9 (Y 1 O) O<|zG O zDl<|zH one9 (Y 0 O) O<|qN O ok265 (strings_Compare _ _) ⟨zB,O,zB,O,T⟩<|G O<|zA<|zK<|zR O ?_
  rw [sA,if_neg c1]
 ·try simp only [sx] at c1
  refine zJ<|R O<|zG O zKw<|zH W (Y 1 O) O<|zG O zKw<|zH W (Y 0 O) O<|qN O ok292 (lin_order _ _) ⟨zB,O,zB,O,T⟩<|G O<|zA<|zK<|zR O ?_
  rw [sA,if_pos c1]
theorem zKu (a b:Lf) (ha:a.L.length<=4294967296) (hb:b.L.length<=4294967296):
    Pur cfg 268 [mD a,mD b] (vI (mP a b)):=by
 refine zU Tryz.func268 O Tryz.ntmps268 Tryz.results268 O ?_
 intro z hz
 refine R O<|zV O O (qO O O) ?_
 rintro _ _ ⟨b1,rfl,rfl⟩
 refine zV O O (qO O O) ?_
 rintro _ _ ⟨b2,rfl,rfl⟩
 refine G O<|zA<|R O<|zG O zAy<|zH zDz (Y 1 O) O<|zG O zAy<|zH zDz (Y 0 O) O<|qN O ok290 (zGm a.L b.L _ sA ha hb (fun x _ y _=>FnPur.of_pur (first:=[]) (cap:=[]) ok291 (lin_Compare_1 x y))) ⟨zB,O,zB,O,zB,O,T⟩<|G O<|zA<|zI<|R O<|G O<|kU O<|zA<|zC O (fun c1=>?_) (fun c1=>?_)
 ·try simp only [sx] at c1
  refine R O<|G O<|G O<|zA<|zK<|zR O ?_
  rw [mP,if_neg c1]
 ·try simp only [sx] at c1
  refine zJ<|R O<|zG O zKb<|zH W (Y 1 O) O<|zG O zKb<|zH W (Y 0 O) O<|qN O ok292 (lin_order _ _) ⟨zB,O,zB,O,T⟩<|G O<|zA<|zK<|zR O ?_
  rw [mP,if_pos c1]
theorem zNz (a b:Ix) (ha:a.wt<=4294967296) (hb:b.wt<=4294967296):
    Pur cfg 270 [hM a,hM b] (vI (mQ a b)):=by
 refine zU Tryz.func270 O Tryz.ntmps270 Tryz.results270 O ?_
 intro z hz
 have hwa:=ha
 have hwb:=hb
 unfold Ix.wt at hwa hwb
 refine R O<|zV O O (qO O O) ?_
 rintro _ _ ⟨b1,rfl,rfl⟩
 refine zV O O (qO O O) ?_
 rintro _ _ ⟨b2,rfl,rfl⟩
 refine G O<|zA<|zI<|R O<|zG O wG<|zH one9 (Y 1 O) O<|zG O wG<|zH one9 (Y 0 O) O<|qN O ok265 (strings_Compare _ _) ⟨zB,O,zB,O,T⟩<|G O<|zA<|R O<|G O<|kU O<|zA<|zC O (fun c1=>?_) (fun c1=>?_)
 ·try simp only [sx] at c1
  refine R O<|G O<|G O<|zA<|zK<|zR O ?_
  rw [mQ,if_neg c1]
 ·try simp only [sx] at c1
  refine zJ<|zI<|R O<|zG O zCy<|zO zBa (Y 1 O) O<|zG O zCy<|zO zBa (Y 0 O) O<|qN O ok268 (zKu a.Lin b.Lin (by omega) (by omega)) ⟨zB,O,zB,O,T⟩<|G O<|zA<|R O<|G O<|kU O<|zA<|zC O (fun c2=>?_) (fun c2=>?_)
  ·try simp only [sx] at c2
   refine R O<|G O<|G O<|zA<|zK<|zR O ?_
   rw [mQ,if_pos c1,if_neg c2]
  ·try simp only [sx] at c2
   refine zJ<|R O<|zG O zAr<|zH zCl (Y 1 O) O<|zG O zAr<|zH zCl (Y 0 O) O<|qN O ok294 (zTi a.At b.At _ mP (by omega) (by omega) (fun x hx y hy=>FnPur.of_pur (first:=[]) (cap:=[]) ok268 (zKu x y (by have:=zCn hx;omega) (by have:=zCn hy;omega)))) ⟨zB,O,zB,O,zB,O,T⟩<|G O<|zA<|zK<|zR O ?_
   rw [mQ,if_pos c1,if_pos c2]
theorem zPh (a b:Ty):
    Pur cfg 267 [vTy a,vTy b] (vI (tL a b)):=by
 refine zU Tryz.func267 O Tryz.ntmps267 Tryz.results267 O ?_
 intro z hz
 refine R O<|zV O O (qO O O) ?_
 rintro _ _ ⟨b1,rfl,rfl⟩
 refine zV O O (qO O O) ?_
 rintro _ _ ⟨b2,rfl,rfl⟩
 refine G O<|zA<|zI<|qW 28 mixed (by kernel_rfl) O O<|zL O O (zD O zGa O)<|zL O O (zF O one3 O (Y 1 O) O)<|zL O O (zD O zGa O)<|zL O O (zF O one3 O (Y 0 O) O)<|zL O O (qS O ok264 (wH _ _) ⟨zB,O,zB,O,T⟩)<|zL O O (zD O zKd O)<|zL O O (zF O one3 O (Y 1 O) O)<|zL O O (zD O zKd O)<|zL O O (zF O one3 O (Y 0 O) O)<|zL O O (qS O ok264 (wH _ _) ⟨zB,O,zB,O,T⟩)<|zL O O (zD O zSy O)<|zL O O (zF O one3 O (Y 1 O) O)<|zL O O (zD O zSy O)<|zL O O (zF O one3 O (Y 0 O) O)<|zL O O (qS O ok264 (wH _ _) ⟨zB,O,zB,O,T⟩)<|zL O O (zD O zSx O)<|zL O O (zF O one3 O (Y 1 O) O)<|zL O O (zD O zSx O)<|zL O O (zF O one3 O (Y 0 O) O)<|zL O O (qS O ok264 (wH _ _) ⟨zB,O,zB,O,T⟩)<|zL O O (zD O zSw O)<|zL O O (zF O one3 O (Y 1 O) O)<|zL O O (zD O zSw O)<|zL O O (zF O one3 O (Y 0 O) O)<|zL O O (qS O ok264 (wH _ _) ⟨zB,O,zB,O,T⟩)<|zL O O (yM O el67 zr3 O O O O)<|zL O O (qS O ok263 (cmp_Or_int [gX a.Kind b.Kind,gX a.Bits b.Bits,gX a.Frac b.Frac,gX a.Round b.Round,gX a.Over b.Over] (by simp)) ⟨zB,O,T⟩)<|zL O O (yU O O)<|yJ<|zA<|zK<|zR O ?_
 exact O
theorem zOa (a b:Ex) (ih:∀x,x∈a.Args->∀y,x.wt<=4294967296->y.wt<=4294967296->Pur cfg 239 [vE x,vE y] (vI (pW x y))) (ha:a.wt<=4294967296) (hb:b.wt<=4294967296):
    Pur cfg 239 [vE a,vE b] (vI (pW a b)):=by
 refine zU Tryz.func239 O Tryz.ntmps239 Tryz.results239 O ?_
 intro z hz
 obtain ⟨hLa,hIa,hAa⟩:=a.parts ha
 obtain ⟨hLb,hIb,hAb⟩:=b.parts hb
 have hwa:=Ex.wt_eq a
 have hwb:=Ex.wt_eq b
 refine R O<|zV O O (qO O O) ?_
 rintro _ _ ⟨b1,rfl,rfl⟩
 refine zV O O (qO O O) ?_
 rintro _ _ ⟨b2,rfl,rfl⟩
 refine G O<|zA<|zI<|qW 37 mixed (by kernel_rfl) O O<|zL O O (zD O kS O)<|zL O O (zF O one3 O (Y 1 O) O)<|zL O O (zD O kS O)<|zL O O (zF O one3 O (Y 0 O) O)<|zL O O (qS O ok264 (wH _ _) ⟨zB,O,zB,O,T⟩)<|zL O O (zD O zDg O)<|zL O O (zF O one9 O (Y 1 O) O)<|zL O O (zD O zDg O)<|zL O O (zF O one9 O (Y 0 O) O)<|zL O O (qS O ok265 (strings_Compare _ _) ⟨zB,O,zB,O,T⟩)<|zL O O (zD O zIp O)<|zL O O (zD O zAq O)<|zL O O (zF O W O (Y 1 O) O)<|zL O O (zD O zIp O)<|zL O O (zD O zAq O)<|zL O O (zF O W O (Y 0 O) O)<|zL O O (qS O ok266 (zIw _ _) ⟨zB,O,zB,O,T⟩)<|zL O O (zD O zIp O)<|zL O O (zD O zHi O)<|zL O O (zF O W O (Y 1 O) O)<|zL O O (zD O zIp O)<|zL O O (zD O zHi O)<|zL O O (zF O W O (Y 0 O) O)<|zL O O (qS O ok266 (zIw _ _) ⟨zB,O,zB,O,T⟩)<|zL O O (zD O zCx O)<|zL O O (qC O yH O (Y 1 O) O)<|zL O O (zD O zCx O)<|zL O O (qC O yH O (Y 0 O) O)<|zL O O (qS O ok267 (zPh _ _) ⟨zB,O,zB,O,T⟩)<|zL O O (zD O zFc O)<|zL O O (qC O zBa O (Y 1 O) O)<|zL O O (zD O zFc O)<|zL O O (qC O zBa O (Y 0 O) O)<|zL O O (qS O ok268 (zKu a.Lin b.Lin hLa hLb) ⟨zB,O,zB,O,T⟩)<|zL O O (yM O el67 zr3 O O O O)<|zL O O (qS O ok263 (cmp_Or_int [gX a.Op b.Op,sT a.Name b.Name,gX a.Val.N b.Val.N,gX a.Val.D b.Val.D,tL a.Ty b.Ty,mP a.Lin b.Lin] (by simp)) ⟨zB,O,T⟩)<|zL O O (yU O O)<|yJ<|zA<|zI<|R O<|G O<|kU O<|zA<|zC O (fun c1=>?_) (fun c1=>?_)
 ·try simp only [sx] at c1
  refine R O<|G O<|G O<|zA<|zK<|zR O ?_
  rw [cmpE_eq,if_neg (show ¬nN a b=0 from c1)];rfl
 ·try simp only [sx] at c1
  refine zJ<|zI<|R O<|zG O kR<|zH wJ (Y 1 O) O<|zG O kR<|zH wJ (Y 0 O) O<|qN O ok269 (zTj a.Idx b.Idx _ mQ hIa hIb (fun x hx y hy=>FnPur.of_pur (first:=[]) (cap:=[]) ok270 (zNz x y (by have:=zCv hx;omega) (by have:=zCv hy;omega)))) ⟨zB,O,zB,O,zB,O,T⟩<|G O<|zA<|R O<|G O<|kU O<|zA<|zC O (fun c2=>?_) (fun c2=>?_)
  ·try simp only [sx] at c2
   refine R O<|G O<|G O<|zA<|zK<|zR O ?_
   rw [cmpE_eq,if_pos (show nN a b=0 from c1),if_neg c2]
  ·try simp only [sx] at c2
   refine zJ<|R O<|zG O kO<|zH wZ (Y 1 O) O<|zG O kO<|zH wZ (Y 0 O) O<|qN O ok271 (zTk a.Args b.Args _ pW hAa hAb (fun x hx y hy=>FnPur.of_pur (first:=[]) (cap:=[]) ok239 (ih x hx y (by have:=Ex.arg_wt hx;omega) (by have:=Ex.arg_wt hy;omega)))) ⟨zB,O,zB,O,zB,O,T⟩<|G O<|zA<|zK<|zR O ?_
   rw [cmpE_eq,if_pos (show nN a b=0 from c1),if_pos c2]
theorem expr_Compare (a b:Ex) (ha:a.wt<=4294967296) (hb:b.wt<=4294967296):Pur cfg 239 [vE a,vE b] (vI (pW a b)):=by
  induction a using Ex.ind generalizing b with
  |_ a ih=>exact zOa a b (fun x hx y h1 h2=>ih x hx y h1 h2) ha hb
theorem expr_Same (a b:Ex) (ha:a.wt<=4294967296) (hb:b.wt<=4294967296):
    Pur cfg 210 [vE a,vE b] (vB (decide (a=b))):=by
 refine zU Tryz.func210 O Tryz.ntmps210 Tryz.results210 O ?_
 intro z hz
 refine R O<|zV O O (qO O O) ?_
 rintro _ _ ⟨b1,rfl,rfl⟩
 refine zV O O (qO O O) ?_
 rintro _ _ ⟨b2,rfl,rfl⟩
 refine G O<|zA<|R O<|zO yP (Y 1 O) O<|zO yP (Y 0 O) O<|qN O ok239 (expr_Compare a b ha hb) ⟨zB,O,zB,O,T⟩<|qZ O<|G O<|zA<|zK<|zR O ?_
 exact congrArg vB (decide_eq_decide.2 (cmpE_zero a b))
end Go.W
