/-
  What functions compute.
  Conditions: none.
-/
import Derived.Test.YtdldhbfgfkebjaaGreatDoorWE
import Derived.Test.YtdldhbfgfkebjaaGreatDoorPlain
import Derived.Test.YtdldhbfgfkebjaaGreatDoorEngZ
set_option linter.unusedSimpArgs false
set_option linter.unusedVariables false
set_option maxRecDepth 10000
namespace Go.W
open Go Go.Eng Go.Proofs Go.L41 Go.Br
attribute [local irreducible] AWP RWP TD fP
theorem el67:dZ Tryz.prog 67=some (3,1,8):=by kernel_rfl
theorem ok239:bA Tryz.prog 239=true:=by kernel_rfl
theorem ok263:bA Tryz.prog 263=true:=by kernel_rfl
theorem ok264:bA Tryz.prog 264=true:=by kernel_rfl
theorem ok265:bA Tryz.prog 265=true:=by kernel_rfl
theorem ok266:bA Tryz.prog 266=true:=by kernel_rfl
theorem ok267:bA Tryz.prog 267=true:=by kernel_rfl
theorem ok268:bA Tryz.prog 268=true:=by kernel_rfl
theorem ok269:bA Tryz.prog 269=true:=by kernel_rfl
theorem ok270:bA Tryz.prog 270=true:=by kernel_rfl
theorem ok271:bA Tryz.prog 271=true:=by kernel_rfl
theorem ok287:bA Tryz.prog 287=true:=by kernel_rfl
theorem ok289:bA Tryz.prog 289=true:=by kernel_rfl
theorem ok290:bA Tryz.prog 290=true:=by kernel_rfl
theorem ok291:bA Tryz.prog 291=true:=by kernel_rfl
theorem ok292:bA Tryz.prog 292=true:=by kernel_rfl
theorem ok293:bA Tryz.prog 293=true:=by kernel_rfl
theorem ok294:bA Tryz.prog 294=true:=by kernel_rfl
theorem ok295:bA Tryz.prog 295=true:=by kernel_rfl
theorem ok301:bA Tryz.prog 301=true:=by kernel_rfl
theorem zNl (a:Int):
    Pur cfg 287 [vI a] (vB false):=by
 refine zW Tryz.func287 O Tryz.ntmps287 Tryz.results287 O ?_
 intro z hz
 refine R O<|G O<|zA<|R O<|G O<|G O<|wA O<|G O<|zA<|zN<|zV O ?_
 exact congrArg vB (by simp)
theorem wT (a b:Int):
    Pur cfg 264 [vI a,vI b] (vI (gO a b)):=by
 refine zW Tryz.func264 O Tryz.ntmps264 Tryz.results264 O ?_
 intro z hz
 refine R O<|G O<|zA<|R O<|G O<|qS O ok287 (zNl a) ⟨zB,O,T⟩<|G O<|zA<|R O<|G O<|qS O ok287 (zNl b) ⟨zB,O,T⟩<|G O<|zA<|zF<|R O<|G O<|zA<|zD O (fun c1=>?_) (fun c1=>?_)
 ·exact absurd c1 (by decide)
 ·exact n7
theorem zNm (a:Int):
    Pur cfg 289 [vI a] (vB false):=by
 refine zW Tryz.func289 O Tryz.ntmps289 Tryz.results289 O ?_
 intro z hz
 refine R O<|G O<|zA<|R O<|G O<|G O<|wA O<|G O<|zA<|zN<|zV O ?_
 exact congrArg vB (by simp)
theorem zJm (a b:Int):
    Pur cfg 266 [vI a,vI b] (vI (gO a b)):=by
 refine zW Tryz.func266 O Tryz.ntmps266 Tryz.results266 O ?_
 intro z hz
 refine R O<|G O<|zA<|R O<|G O<|qS O ok289 (zNm a) ⟨zB,O,T⟩<|G O<|zA<|R O<|G O<|qS O ok289 (zNm b) ⟨zB,O,T⟩<|G O<|zA<|zF<|R O<|G O<|zA<|zD O (fun c1=>?_) (fun c1=>?_)
 ·exact absurd c1 (by decide)
 ·exact n7
theorem cmp_Or_int (l:List Int) (hl:l.length<=4294967296):
    Pur cfg 263 [.c (.sl 1 (l.map fun n=>[cI n]))] (vI (orI l)):=by
 refine zW Tryz.func263 O Tryz.ntmps263 Tryz.results263 O ?_
 intro z hz
 refine R O<|G O<|zA<|R O<|G O<|zA<|zF<|R O<|G O<|qD O el67<|G O<|zA<|zP<|zU ⟨[(8,.c _),(3,.c _),(6,.c _),(7,.c _)],[]⟩ (Weak.mk [] ⟨zB,zB,zB,zB,T⟩ O)<|qF 1 0 O O (Nat) (fun k=>[(8,vI k)]) (fun k=>[]) (fun k=>k<=l.length/\(orI l=orI (l.drop k))) (fun k=>l.length-k) ⟨0,⟨by omega,O⟩,Weak.mk [] ⟨zB,zB,zB,zB,T⟩ O⟩ ?_
 rintro k ⟨hk,hp⟩
 refine R O<|yC O<|zA<|zF<|zD O (fun c1=>?_) (fun c1=>?_)
 ·try simp only [sx] at c1
  obtain ⟨x,hx⟩:=qU l k (by omega)
  refine zI<|zF<|zP<|R O<|zY O el67 (by omega) (v (by assumption))<|zE one3 zO O<|G O<|zA<|R O<|G O<|G O<|wA O<|zA<|zD O (fun c2=>?_) (fun c2=>?_)
  ·try simp only [sx] at c2
   refine R O<|G O<|G O<|zA<|zN<|zV O ?_
   rw [hp,orI_at hx c2]
  ·try simp only [sx] at c2
   refine zI<|zK O<|qA O ⟨by omega,by omega⟩<|G O<|zA ?_
   refine ⟨k+1,⟨by omega,hp.trans (orI_next hx c2)⟩,(by omega),Weak.mk [] ⟨zB,zB,zB,zB,T⟩ O⟩
 ·try simp only [sx] at c1
  refine qK<|R O<|G O<|G O<|zA<|zN<|zV O ?_
  rw [hp,wG (by omega)];rfl
theorem zHg (a b:List Mono) (c:C) (f:Mono->Mono->Int) (ha:a.length<=4294967296) (hb:b.length<=4294967296) (hc:∀x,x∈a->∀y,y∈b->FnPur cfg c [mZ x,mZ y] (vI (f x y))):
    Pur cfg 290 [.c (.sl 2 (a.map Mono.cells)),.c (.sl 2 (b.map Mono.cells)),.c c] (vI (gS f a b)):=by
 refine zW Tryz.func290 O Tryz.ntmps290 Tryz.results290 O ?_
 intro z hz
 refine R O<|G O<|zA<|zF<|R O<|G O<|qD O el52<|G O<|zA<|zP<|zU ⟨[(13,.c _),(0,.c _),(1,.c _),(2,.c _),(11,.c _),(12,.c _)],[]⟩ (Weak.mk [] ⟨zB,zB,zB,zB,zB,zB,T⟩ O)<|qF 1 0 O O (Nat) (fun k=>[(13,vI k)]) (fun k=>[]) (fun k=>k<=a.length/\(gS f a b=gS f (a.drop k) (b.drop k))/\(k<=b.length)) (fun k=>a.length-k) ⟨0,⟨by omega,O,by omega⟩,Weak.mk [] ⟨zB,zB,zB,zB,zB,zB,T⟩ O⟩ ?_
 rintro k ⟨hk,hp,hq⟩
 refine R O<|yC O<|zA<|zF<|zD O (fun c1=>?_) (fun c1=>?_)
 ·try simp only [sx] at c1
  obtain ⟨x,hx⟩:=qU a k (by omega)
  refine zI<|zF<|zP<|R O<|G O<|zY O el52 (by omega) (v (by assumption))<|zQ zKw zO O<|zS O O (yZ O zr205) ?_
  rintro _ _ ⟨b1,rfl,rfl⟩
  refine G O<|Y 0 sz205 O<|zA<|zF<|R O<|G O<|G O<|qD O el52<|zZ O (kY O O O)<|zA<|zD O (fun c2=>?_) (fun c2=>?_)
  ·exact v24
  ·try simp only [sx] at c2
   obtain ⟨y,hy⟩:=qU b k (by omega)
   refine zI<|R O<|G O<|G O<|zY O el52 (by omega) (v (by assumption))<|zQ zKw zO O<|zS O O (yZ O zr205) ?_
   rintro _ _ ⟨b2,rfl,rfl⟩
   refine Y 0 sz205 O<|zA<|R O<|G O<|zQ zKw (A 1 O) O<|zQ zKw (A 0 O) O<|zZ O (wK O O (hc _ (qE hx) _ (qE hy)) ⟨zB,O,zB,O,T⟩)<|G O<|zA<|R O<|G O<|wA O<|zA<|zD O (fun c3=>?_) (fun c3=>?_)
   ·exact v20
   ·exact o8
 ·try simp only [sx] at c1
  refine qK<|zF<|R O<|G O<|qD O el52<|G O<|qD O el52<|yC O<|zA<|zD O (fun c4=>?_) (fun c4=>?_)
  ·exact v17
  ·exact v14
theorem zIs (a b:List Ix) (c:C) (f:Ix->Ix->Int) (ha:a.length<=4294967296) (hb:b.length<=4294967296) (hc:∀x,x∈a->∀y,y∈b->FnPur cfg c [gK x,gK y] (vI (f x y))):
    Pur cfg 293 [.c (.sl 4 (a.map Ix.cells)),.c (.sl 4 (b.map Ix.cells)),.c c] (vI (gS f a b)):=by
 refine zW Tryz.func293 O Tryz.ntmps293 Tryz.results293 O ?_
 intro z hz
 refine R O<|G O<|zA<|zF<|R O<|G O<|qD O el51<|G O<|zA<|zP<|zU ⟨[(13,.c _),(0,.c _),(1,.c _),(2,.c _),(11,.c _),(12,.c _)],[]⟩ (Weak.mk [] ⟨zB,zB,zB,zB,zB,zB,T⟩ O)<|qF 1 0 O O (Nat) (fun k=>[(13,vI k)]) (fun k=>[]) (fun k=>k<=a.length/\(gS f a b=gS f (a.drop k) (b.drop k))/\(k<=b.length)) (fun k=>a.length-k) ⟨0,⟨by omega,O,by omega⟩,Weak.mk [] ⟨zB,zB,zB,zB,zB,zB,T⟩ O⟩ ?_
 rintro k ⟨hk,hp,hq⟩
 refine R O<|yC O<|zA<|zF<|zD O (fun c1=>?_) (fun c1=>?_)
 ·try simp only [sx] at c1
  obtain ⟨x,hx⟩:=qU a k (by omega)
  refine zI<|zF<|zP<|R O<|G O<|zY O el51 (by omega) (v (by assumption))<|zQ zCr zO O<|zS O O (qQ [none,some 2,none,some 2] O zKx O) ?_
  rintro _ _ ⟨b1,rfl,rfl⟩
  refine G O<|Y 0 zOd O<|zA<|zF<|R O<|G O<|G O<|qD O el51<|zZ O (kY O O O)<|zA<|zD O (fun c2=>?_) (fun c2=>?_)
  ·exact v24
  ·try simp only [sx] at c2
   obtain ⟨y,hy⟩:=qU b k (by omega)
   refine zI<|R O<|G O<|G O<|zY O el51 (by omega) (v (by assumption))<|zQ zCr zO O<|zS O O (qQ [none,some 2,none,some 2] O zKx O) ?_
   rintro _ _ ⟨b2,rfl,rfl⟩
   refine Y 0 zOd O<|zA<|R O<|G O<|zQ zCr (A 1 O) O<|zQ zCr (A 0 O) O<|zZ O (wK O O (hc _ (qE hx) _ (qE hy)) ⟨zB,O,zB,O,T⟩)<|G O<|zA<|R O<|G O<|wA O<|zA<|zD O (fun c3=>?_) (fun c3=>?_)
   ·exact v20
   ·exact o8
 ·try simp only [sx] at c1
  refine qK<|zF<|R O<|G O<|qD O el51<|G O<|qD O el51<|yC O<|zA<|zD O (fun c4=>?_) (fun c4=>?_)
  ·exact v17
  ·exact v14
theorem zIr (a b:List Lf) (c:C) (f:Lf->Lf->Int) (ha:a.length<=4294967296) (hb:b.length<=4294967296) (hc:∀x,x∈a->∀y,y∈b->FnPur cfg c [jU x,jU y] (vI (f x y))):
    Pur cfg 301 [.c (.sl 2 (a.map Lf.cells)),.c (.sl 2 (b.map Lf.cells)),.c c] (vI (gS f a b)):=by
 refine zW Tryz.func301 O Tryz.ntmps301 Tryz.results301 O ?_
 intro z hz
 refine R O<|G O<|zA<|zF<|R O<|G O<|qD O zAk<|G O<|zA<|zP<|zU ⟨[(13,.c _),(0,.c _),(1,.c _),(2,.c _),(11,.c _),(12,.c _)],[]⟩ (Weak.mk [] ⟨zB,zB,zB,zB,zB,zB,T⟩ O)<|qF 1 0 O O (Nat) (fun k=>[(13,vI k)]) (fun k=>[]) (fun k=>k<=a.length/\(gS f a b=gS f (a.drop k) (b.drop k))/\(k<=b.length)) (fun k=>a.length-k) ⟨0,⟨by omega,O,by omega⟩,Weak.mk [] ⟨zB,zB,zB,zB,zB,zB,T⟩ O⟩ ?_
 rintro k ⟨hk,hp,hq⟩
 refine R O<|yC O<|zA<|zF<|zD O (fun c1=>?_) (fun c1=>?_)
 ·try simp only [sx] at c1
  obtain ⟨x,hx⟩:=qU a k (by omega)
  refine zI<|zF<|zP<|R O<|G O<|zY O zAk (by omega) (v (by assumption))<|zQ zAj zO O<|zS O O (qQ [none,some 2] O zr54 O) ?_
  rintro _ _ ⟨b1,rfl,rfl⟩
  refine G O<|Y 0 sz54 O<|zA<|zF<|R O<|G O<|G O<|qD O zAk<|zZ O (kY O O O)<|zA<|zD O (fun c2=>?_) (fun c2=>?_)
  ·exact v24
  ·try simp only [sx] at c2
   obtain ⟨y,hy⟩:=qU b k (by omega)
   refine zI<|R O<|G O<|G O<|zY O zAk (by omega) (v (by assumption))<|zQ zAj zO O<|zS O O (qQ [none,some 2] O zr54 O) ?_
   rintro _ _ ⟨b2,rfl,rfl⟩
   refine Y 0 sz54 O<|zA<|R O<|G O<|zQ zAj (A 1 O) O<|zQ zAj (A 0 O) O<|zZ O (wK O O (hc _ (qE hx) _ (qE hy)) ⟨zB,O,zB,O,T⟩)<|G O<|zA<|R O<|G O<|wA O<|zA<|zD O (fun c3=>?_) (fun c3=>?_)
   ·exact v20
   ·exact o8
 ·try simp only [sx] at c1
  refine qK<|zF<|R O<|G O<|qD O zAk<|G O<|qD O zAk<|yC O<|zA<|zD O (fun c4=>?_) (fun c4=>?_)
  ·exact v17
  ·exact v14
theorem zIt (a b:List Ex) (c:C) (f:Ex->Ex->Int) (ha:a.length<=4294967296) (hb:b.length<=4294967296) (hc:∀x,x∈a->∀y,y∈b->FnPur cfg c [vE x,vE y] (vI (f x y))):
    Pur cfg 295 [.c (.sl 13 (a.map Ex.cells)),.c (.sl 13 (b.map Ex.cells)),.c c] (vI (gS f a b)):=by
 refine zW Tryz.func295 O Tryz.ntmps295 Tryz.results295 O ?_
 intro z hz
 refine R O<|G O<|zA<|zF<|R O<|G O<|qD O el55<|G O<|zA<|zP<|zU ⟨[(13,.c _),(0,.c _),(1,.c _),(2,.c _),(11,.c _),(12,.c _)],[]⟩ (Weak.mk [] ⟨zB,zB,zB,zB,zB,zB,T⟩ O)<|qF 1 0 O O (Nat) (fun k=>[(13,vI k)]) (fun k=>[]) (fun k=>k<=a.length/\(gS f a b=gS f (a.drop k) (b.drop k))/\(k<=b.length)) (fun k=>a.length-k) ⟨0,⟨by omega,O,by omega⟩,Weak.mk [] ⟨zB,zB,zB,zB,zB,zB,T⟩ O⟩ ?_
 rintro k ⟨hk,hp,hq⟩
 refine R O<|yC O<|zA<|zF<|zD O (fun c1=>?_) (fun c1=>?_)
 ·try simp only [sx] at c1
  obtain ⟨x,hx⟩:=qU a k (by omega)
  refine zI<|zF<|zP<|R O<|G O<|zY O el55 (by omega) (wF (by assumption))<|zQ yN zO O<|zS O O (qQ [none,none,none,none,none,none,none,none,none,none,some 2,some 4,some 13] O zr57 O) ?_
  rintro _ _ ⟨b1,rfl,rfl⟩
  refine G O<|Y 0 sz57 O<|zA<|zF<|R O<|G O<|G O<|qD O el55<|zZ O (kY O O O)<|zA<|zD O (fun c2=>?_) (fun c2=>?_)
  ·exact v24
  ·try simp only [sx] at c2
   obtain ⟨y,hy⟩:=qU b k (by omega)
   refine zI<|R O<|G O<|G O<|zY O el55 (by omega) (wF (by assumption))<|zQ yN zO O<|zS O O (qQ [none,none,none,none,none,none,none,none,none,none,some 2,some 4,some 13] O zr57 O) ?_
   rintro _ _ ⟨b2,rfl,rfl⟩
   refine Y 0 sz57 O<|zA<|R O<|G O<|zQ yN (A 1 O) O<|zQ yN (A 0 O) O<|zZ O (wK O O (hc _ (qE hx) _ (qE hy)) ⟨zB,O,zB,O,T⟩)<|G O<|zA<|R O<|G O<|wA O<|zA<|zD O (fun c3=>?_) (fun c3=>?_)
   ·exact v20
   ·exact o8
 ·try simp only [sx] at c1
  refine qK<|zF<|R O<|G O<|qD O el55<|G O<|qD O el55<|yC O<|zA<|zD O (fun c4=>?_) (fun c4=>?_)
  ·exact v17
  ·exact v14
theorem zUb (a b:List Ix) (c:C) (f:Ix->Ix->Int) (ha:a.length<=4294967296) (hb:b.length<=4294967296) (hc:∀x,x∈a->∀y,y∈b->FnPur cfg c [gK x,gK y] (vI (f x y))):
    Pur cfg 269 [.c (.sl 4 (a.map Ix.cells)),.c (.sl 4 (b.map Ix.cells)),.c c] (vI (jH f a b)):=by
 refine zW Tryz.func269 O Tryz.ntmps269 Tryz.results269 O ?_
 intro z hz
 refine R O<|G O<|zA<|zF<|R O<|G O<|qD O el51<|G O<|qD O el51<|qS O ok264 (wT _ _) ⟨zB,O,zB,O,T⟩<|G O<|zA<|R O<|G O<|wA O<|zA<|zD O (fun c1=>?_) (fun c1=>?_)
 ·try simp only [sx] at c1
  refine R O<|G O<|G O<|zA<|zN<|zV O ?_
  rw [jH,if_neg c1]
 ·try simp only [sx] at c1
  refine zI<|R O<|G O<|G O<|G O<|qS O ok293 (zIs a b c f ha hb hc) ⟨zB,O,zB,O,zB,O,T⟩<|G O<|zA<|zN<|zV O ?_
  rw [jH,if_pos c1]
theorem zUa (a b:List Lf) (c:C) (f:Lf->Lf->Int) (ha:a.length<=4294967296) (hb:b.length<=4294967296) (hc:∀x,x∈a->∀y,y∈b->FnPur cfg c [jU x,jU y] (vI (f x y))):
    Pur cfg 294 [.c (.sl 2 (a.map Lf.cells)),.c (.sl 2 (b.map Lf.cells)),.c c] (vI (jH f a b)):=by
 refine zW Tryz.func294 O Tryz.ntmps294 Tryz.results294 O ?_
 intro z hz
 refine R O<|G O<|zA<|zF<|R O<|G O<|qD O zAk<|G O<|qD O zAk<|qS O ok264 (wT _ _) ⟨zB,O,zB,O,T⟩<|G O<|zA<|R O<|G O<|wA O<|zA<|zD O (fun c1=>?_) (fun c1=>?_)
 ·try simp only [sx] at c1
  refine R O<|G O<|G O<|zA<|zN<|zV O ?_
  rw [jH,if_neg c1]
 ·try simp only [sx] at c1
  refine zI<|R O<|G O<|G O<|G O<|qS O ok301 (zIr a b c f ha hb hc) ⟨zB,O,zB,O,zB,O,T⟩<|G O<|zA<|zN<|zV O ?_
  rw [jH,if_pos c1]
theorem zUc (a b:List Ex) (c:C) (f:Ex->Ex->Int) (ha:a.length<=4294967296) (hb:b.length<=4294967296) (hc:∀x,x∈a->∀y,y∈b->FnPur cfg c [vE x,vE y] (vI (f x y))):
    Pur cfg 271 [.c (.sl 13 (a.map Ex.cells)),.c (.sl 13 (b.map Ex.cells)),.c c] (vI (jH f a b)):=by
 refine zW Tryz.func271 O Tryz.ntmps271 Tryz.results271 O ?_
 intro z hz
 refine R O<|G O<|zA<|zF<|R O<|G O<|qD O el55<|G O<|qD O el55<|qS O ok264 (wT _ _) ⟨zB,O,zB,O,T⟩<|G O<|zA<|R O<|G O<|wA O<|zA<|zD O (fun c1=>?_) (fun c1=>?_)
 ·try simp only [sx] at c1
  refine R O<|G O<|G O<|zA<|zN<|zV O ?_
  rw [jH,if_neg c1]
 ·try simp only [sx] at c1
  refine zI<|R O<|G O<|G O<|G O<|qS O ok295 (zIt a b c f ha hb hc) ⟨zB,O,zB,O,zB,O,T⟩<|G O<|zA<|zN<|zV O ?_
  rw [jH,if_pos c1]
theorem lin_order (a b:Int):
    Pur cfg 292 [vI a,vI b] (vI (gO a b)):=by
 refine zW Tryz.func292 O Tryz.ntmps292 Tryz.results292 O ?_
 intro z hz
 refine R O<|G O<|zA<|zF<|zP<|R O<|G O<|G O<|yC O<|G O<|zA<|zD O (fun c1=>?_) (fun c1=>?_)
 ·try simp only [sx] at c1
  refine R O<|G O<|zA<|zN<|zV O ?_
  rw [cmpI_lt c1]
 ·try simp only [sx] at c1
  refine R O<|G O<|G O<|zZ O (yH O O O)<|G O<|zA<|zD O (fun c2=>?_) (fun c2=>?_)
  ·try simp only [sx] at c2
   refine R O<|G O<|zA<|zN<|zV O ?_
   rw [cmpI_gt c2]
  ·try simp only [sx] at c2
   refine zI<|R O<|G O<|zA<|zN<|zV O ?_
   rw [cmpI_eq (by omega) (by omega)]
theorem lin_Compare_1 (x y:Mono):
    Pur cfg 291 [mZ x,mZ y] (vI (rM x y)):=by
 refine zW Tryz.func291 O Tryz.ntmps291 Tryz.results291 O ?_
 intro z hz
 refine R O<|zS O O (qP O O) ?_
 rintro _ _ ⟨b1,rfl,rfl⟩
 refine zS O O (qP O O) ?_
 rintro _ _ ⟨b2,rfl,rfl⟩
 refine G O<|zA<|zF<|R O<|zJ O zDk<|zE one9 (A 1 O) O<|zJ O zDk<|zE one9 (A 0 O) O<|zZ O (zAv O O O)<|zA<|zD O (fun c1=>?_) (fun c1=>?_)
 ·try simp only [sx] at c1
  refine R O<|zJ O zDk<|zE one9 (A 1 O) O<|zJ O zDk<|zE one9 (A 0 O) O<|qS O ok265 (strings_Compare _ _) ⟨zB,O,zB,O,T⟩<|G O<|zA<|zN<|zV O ?_
  rw [rM,if_neg c1]
 ·try simp only [sx] at c1
  refine zI<|R O<|zJ O zFz<|zE one2 (A 1 O) O<|zJ O zFz<|zE one2 (A 0 O) O<|qS O ok292 (lin_order _ _) ⟨zB,O,zB,O,T⟩<|G O<|zA<|zN<|zV O ?_
  rw [rM,if_pos c1]
theorem zLn (a b:Lf) (ha:a.L.length<=4294967296) (hb:b.L.length<=4294967296):
    Pur cfg 268 [jU a,jU b] (vI (mD a b)):=by
 refine zW Tryz.func268 O Tryz.ntmps268 Tryz.results268 O ?_
 intro z hz
 refine R O<|zS O O (qP O O) ?_
 rintro _ _ ⟨b1,rfl,rfl⟩
 refine zS O O (qP O O) ?_
 rintro _ _ ⟨b2,rfl,rfl⟩
 refine G O<|zA<|R O<|zJ O zAg<|zE zCj (A 1 O) O<|zJ O zAg<|zE zCj (A 0 O) O<|qS O ok290 (zHg a.L b.L _ rM ha hb (fun x _ y _=>FnPur.of_pur (first:=[]) (cap:=[]) ok291 (lin_Compare_1 x y))) ⟨zB,O,zB,O,zB,O,T⟩<|G O<|zA<|zF<|R O<|G O<|wA O<|zA<|zD O (fun c1=>?_) (fun c1=>?_)
 ·try simp only [sx] at c1
  refine R O<|G O<|G O<|zA<|zN<|zV O ?_
  rw [mD,if_neg c1]
 ·try simp only [sx] at c1
  refine zI<|R O<|zJ O zFp<|zE one2 (A 1 O) O<|zJ O zFp<|zE one2 (A 0 O) O<|qS O ok292 (lin_order _ _) ⟨zB,O,zB,O,T⟩<|G O<|zA<|zN<|zV O ?_
  rw [mD,if_pos c1]
theorem zOx (a b:Ix) (ha:a.wt<=4294967296) (hb:b.wt<=4294967296):
    Pur cfg 270 [gK a,gK b] (vI (mE a b)):=by
 refine zW Tryz.func270 O Tryz.ntmps270 Tryz.results270 O ?_
 intro z hz
 have hwa:=ha
 have hwb:=hb
 unfold Ix.wt at hwa hwb
 refine R O<|zS O O (qP O O) ?_
 rintro _ _ ⟨b1,rfl,rfl⟩
 refine zS O O (qP O O) ?_
 rintro _ _ ⟨b2,rfl,rfl⟩
 refine G O<|zA<|zF<|R O<|zJ O wN<|zE one9 (A 1 O) O<|zJ O wN<|zE one9 (A 0 O) O<|qS O ok265 (strings_Compare _ _) ⟨zB,O,zB,O,T⟩<|G O<|zA<|R O<|G O<|wA O<|zA<|zD O (fun c1=>?_) (fun c1=>?_)
 ·try simp only [sx] at c1
  refine R O<|G O<|G O<|zA<|zN<|zV O ?_
  rw [mE,if_neg c1]
 ·try simp only [sx] at c1
  refine zI<|zF<|R O<|zJ O zBx<|zQ zAj (A 1 O) O<|zJ O zBx<|zQ zAj (A 0 O) O<|qS O ok268 (zLn a.Lin b.Lin (by omega) (by omega)) ⟨zB,O,zB,O,T⟩<|G O<|zA<|R O<|G O<|wA O<|zA<|zD O (fun c2=>?_) (fun c2=>?_)
  ·try simp only [sx] at c2
   refine R O<|G O<|G O<|zA<|zN<|zV O ?_
   rw [mE,if_pos c1,if_neg c2]
  ·try simp only [sx] at c2
   refine zI<|R O<|zJ O wU<|zE zAx (A 1 O) O<|zJ O wU<|zE zAx (A 0 O) O<|qS O ok294 (zUa a.At b.At _ mD (by omega) (by omega) (fun x hx y hy=>FnPur.of_pur (first:=[]) (cap:=[]) ok268 (zLn x y (by have:=zAy hx;omega) (by have:=zAy hy;omega)))) ⟨zB,O,zB,O,zB,O,T⟩<|G O<|zA<|zN<|zV O ?_
   rw [mE,if_pos c1,if_pos c2]
theorem zQh (a b:Ty):
    Pur cfg 267 [vTy a,vTy b] (vI (sU a b)):=by
 refine zW Tryz.func267 O Tryz.ntmps267 Tryz.results267 O ?_
 intro z hz
 refine R O<|zS O O (qP O O) ?_
 rintro _ _ ⟨b1,rfl,rfl⟩
 refine zS O O (qP O O) ?_
 rintro _ _ ⟨b2,rfl,rfl⟩
 refine G O<|zA<|zF<|qW 28 mixed (by kernel_rfl) O O<|zL O O (zH O zGr O)<|zL O O (zC O one3 O (A 1 O) O)<|zL O O (zH O zGr O)<|zL O O (zC O one3 O (A 0 O) O)<|zL O O (qR O ok264 (wT _ _) ⟨zB,O,zB,O,T⟩)<|zL O O (zH O zKu O)<|zL O O (zC O one3 O (A 1 O) O)<|zL O O (zH O zKu O)<|zL O O (zC O one3 O (A 0 O) O)<|zL O O (qR O ok264 (wT _ _) ⟨zB,O,zB,O,T⟩)<|zL O O (zH O zTr O)<|zL O O (zC O one3 O (A 1 O) O)<|zL O O (zH O zTr O)<|zL O O (zC O one3 O (A 0 O) O)<|zL O O (qR O ok264 (wT _ _) ⟨zB,O,zB,O,T⟩)<|zL O O (zH O zTq O)<|zL O O (zC O one3 O (A 1 O) O)<|zL O O (zH O zTq O)<|zL O O (zC O one3 O (A 0 O) O)<|zL O O (qR O ok264 (wT _ _) ⟨zB,O,zB,O,T⟩)<|zL O O (zH O zTp O)<|zL O O (zC O one3 O (A 1 O) O)<|zL O O (zH O zTp O)<|zL O O (zC O one3 O (A 0 O) O)<|zL O O (qR O ok264 (wT _ _) ⟨zB,O,zB,O,T⟩)<|zL O O (yJ O el67 zr3 O O O O)<|zL O O (qR O ok263 (cmp_Or_int [gO a.Kind b.Kind,gO a.Bits b.Bits,gO a.Frac b.Frac,gO a.Round b.Round,gO a.Over b.Over] (by simp)) ⟨zB,O,T⟩)<|zL O O (yR O O)<|yM<|zA<|zN<|zV O ?_
 exact O
theorem zOy (a b:Ex) (ih:∀x,x∈a.Args->∀y,x.wt<=4294967296->y.wt<=4294967296->Pur cfg 239 [vE x,vE y] (vI (pM x y))) (ha:a.wt<=4294967296) (hb:b.wt<=4294967296):
    Pur cfg 239 [vE a,vE b] (vI (pM a b)):=by
 refine zW Tryz.func239 O Tryz.ntmps239 Tryz.results239 O ?_
 intro z hz
 obtain ⟨hLa,hIa,hAa⟩:=a.parts ha
 obtain ⟨hLb,hIb,hAb⟩:=b.parts hb
 have hwa:=Ex.wt_eq a
 have hwb:=Ex.wt_eq b
 refine R O<|zS O O (qP O O) ?_
 rintro _ _ ⟨b1,rfl,rfl⟩
 refine zS O O (qP O O) ?_
 rintro _ _ ⟨b2,rfl,rfl⟩
 refine G O<|zA<|zF<|qW 37 mixed (by kernel_rfl) O O<|zL O O (zH O kR O)<|zL O O (zC O one3 O (A 1 O) O)<|zL O O (zH O kR O)<|zL O O (zC O one3 O (A 0 O) O)<|zL O O (qR O ok264 (wT _ _) ⟨zB,O,zB,O,T⟩)<|zL O O (zH O zCo O)<|zL O O (zC O one9 O (A 1 O) O)<|zL O O (zH O zCo O)<|zL O O (zC O one9 O (A 0 O) O)<|zL O O (qR O ok265 (strings_Compare _ _) ⟨zB,O,zB,O,T⟩)<|zL O O (zH O zGp O)<|zL O O (zH O zGq O)<|zL O O (zC O one2 O (A 1 O) O)<|zL O O (zH O zGp O)<|zL O O (zH O zGq O)<|zL O O (zC O one2 O (A 0 O) O)<|zL O O (qR O ok266 (zJm _ _) ⟨zB,O,zB,O,T⟩)<|zL O O (zH O zGp O)<|zL O O (zH O zId O)<|zL O O (zC O one2 O (A 1 O) O)<|zL O O (zH O zGp O)<|zL O O (zH O zId O)<|zL O O (zC O one2 O (A 0 O) O)<|zL O O (qR O ok266 (zJm _ _) ⟨zB,O,zB,O,T⟩)<|zL O O (zH O zBj O)<|zL O O (qC O yG O (A 1 O) O)<|zL O O (zH O zBj O)<|zL O O (qC O yG O (A 0 O) O)<|zL O O (qR O ok267 (zQh _ _) ⟨zB,O,zB,O,T⟩)<|zL O O (zH O zEd O)<|zL O O (qC O zAj O (A 1 O) O)<|zL O O (zH O zEd O)<|zL O O (qC O zAj O (A 0 O) O)<|zL O O (qR O ok268 (zLn a.Lin b.Lin hLa hLb) ⟨zB,O,zB,O,T⟩)<|zL O O (yJ O el67 zr3 O O O O)<|zL O O (qR O ok263 (cmp_Or_int [gO a.Op b.Op,sG a.Name b.Name,gO a.Val.N b.Val.N,gO a.Val.D b.Val.D,sU a.Ty b.Ty,mD a.Lin b.Lin] (by simp)) ⟨zB,O,T⟩)<|zL O O (yR O O)<|yM<|zA<|zF<|R O<|G O<|wA O<|zA<|zD O (fun c1=>?_) (fun c1=>?_)
 ·try simp only [sx] at c1
  refine R O<|G O<|G O<|zA<|zN<|zV O ?_
  rw [cmpE_eq,if_neg (show ¬nB a b=0 from c1)];rfl
 ·try simp only [sx] at c1
  refine zI<|zF<|R O<|zJ O kQ<|zE wI (A 1 O) O<|zJ O kQ<|zE wI (A 0 O) O<|qS O ok269 (zUb a.Idx b.Idx _ mE hIa hIb (fun x hx y hy=>FnPur.of_pur (first:=[]) (cap:=[]) ok270 (zOx x y (by have:=zBa hx;omega) (by have:=zBa hy;omega)))) ⟨zB,O,zB,O,zB,O,T⟩<|G O<|zA<|R O<|G O<|wA O<|zA<|zD O (fun c2=>?_) (fun c2=>?_)
  ·try simp only [sx] at c2
   refine R O<|G O<|G O<|zA<|zN<|zV O ?_
   rw [cmpE_eq,if_pos (show nB a b=0 from c1),if_neg c2]
  ·try simp only [sx] at c2
   refine zI<|R O<|zJ O yU<|zE kW (A 1 O) O<|zJ O yU<|zE kW (A 0 O) O<|qS O ok271 (zUc a.Args b.Args _ pM hAa hAb (fun x hx y hy=>FnPur.of_pur (first:=[]) (cap:=[]) ok239 (ih x hx y (by have:=Ex.arg_wt hx;omega) (by have:=Ex.arg_wt hy;omega)))) ⟨zB,O,zB,O,zB,O,T⟩<|G O<|zA<|zN<|zV O ?_
   rw [cmpE_eq,if_pos (show nB a b=0 from c1),if_pos c2]
theorem expr_Compare (a b:Ex) (ha:a.wt<=4294967296) (hb:b.wt<=4294967296):Pur cfg 239 [vE a,vE b] (vI (pM a b)):=by
  induction a using Ex.ind generalizing b with
  |_ a ih=>exact zOy a b (fun x hx y h1 h2=>ih x hx y h1 h2) ha hb
theorem expr_Same (a b:Ex) (ha:a.wt<=4294967296) (hb:b.wt<=4294967296):
    Pur cfg 210 [vE a,vE b] (vB (decide (a=b))):=by
 refine zW Tryz.func210 O Tryz.ntmps210 Tryz.results210 O ?_
 intro z hz
 refine R O<|zS O O (qP O O) ?_
 rintro _ _ ⟨b1,rfl,rfl⟩
 refine zS O O (qP O O) ?_
 rintro _ _ ⟨b2,rfl,rfl⟩
 refine G O<|zA<|R O<|zQ yN (A 1 O) O<|zQ yN (A 0 O) O<|qS O ok239 (expr_Compare a b ha hb) ⟨zB,O,zB,O,T⟩<|yE O<|G O<|zA<|zN<|zV O ?_
 exact congrArg vB (decide_eq_decide.2 (cmpE_zero a b))
end Go.W
