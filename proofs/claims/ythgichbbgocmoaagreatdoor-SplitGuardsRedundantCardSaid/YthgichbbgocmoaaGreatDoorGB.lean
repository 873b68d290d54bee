/-
  What functions compute.
  What functions compute.
  What functions compute.
  What functions compute.
  What functions compute.
  What functions compute.
  What functions compute.
  What functions compute.
  Conditions: none.
-/
import Derived.Test.YthgichbbgocmoaaGreatDoorGW
import Derived.Test.YthgichbbgocmoaaGreatDoorPlain
import Derived.Test.YthgichbbgocmoaaGreatDoorEngZ
import Derived.Test.YthgichbbgocmoaaGreatDoorPlain2
set_option linter.unusedSimpArgs false
set_option linter.unusedVariables false
section
set_option maxRecDepth 10000
namespace Go.W
open Go Go.Eng Go.Proofs Go.L41 Go.Br
attribute [local irreducible] AWP RWP TD fH
theorem el38:dX Tryz.prog 38=some (3,1,8):=by kernel_rfl
theorem ok207:bA Tryz.prog 207=true:=by kernel_rfl
theorem ok228:bA Tryz.prog 228=true:=by kernel_rfl
theorem ok229:bA Tryz.prog 229=true:=by kernel_rfl
theorem ok230:bA Tryz.prog 230=true:=by kernel_rfl
theorem ok231:bA Tryz.prog 231=true:=by kernel_rfl
theorem ok232:bA Tryz.prog 232=true:=by kernel_rfl
theorem ok233:bA Tryz.prog 233=true:=by kernel_rfl
theorem ok234:bA Tryz.prog 234=true:=by kernel_rfl
theorem ok235:bA Tryz.prog 235=true:=by kernel_rfl
theorem ok236:bA Tryz.prog 236=true:=by kernel_rfl
theorem ok253:bA Tryz.prog 253=true:=by kernel_rfl
theorem ok255:bA Tryz.prog 255=true:=by kernel_rfl
theorem ok256:bA Tryz.prog 256=true:=by kernel_rfl
theorem ok257:bA Tryz.prog 257=true:=by kernel_rfl
theorem ok258:bA Tryz.prog 258=true:=by kernel_rfl
theorem ok259:bA Tryz.prog 259=true:=by kernel_rfl
theorem ok260:bA Tryz.prog 260=true:=by kernel_rfl
theorem ok261:bA Tryz.prog 261=true:=by kernel_rfl
theorem ok270:bA Tryz.prog 270=true:=by kernel_rfl
theorem zOy (a:Int):
    Pur cfg 253 [vI a] (vB false):=by
 refine zR Tryz.func253 O Tryz.ntmps253 Tryz.results253 O ?_
 intro z hz
 refine G O<|A O<|Y<|G O<|A O<|A O<|yK O<|A O<|Y<|zH<|zS O ?_
 exact congrArg vB uD
theorem wM (a b:Int):
    Pur cfg 229 [vI a,vI b] (vI (jR a b)):=by
 refine zR Tryz.func229 O Tryz.ntmps229 Tryz.results229 O ?_
 intro z hz
 refine G O<|A O<|Y<|G O<|A O<|qD O ok253 (zOy a) ⟨R,O,T⟩<|A O<|Y<|G O<|A O<|qD O ok253 (zOy b) ⟨R,O,T⟩<|A O<|Y<|zJ<|G O<|A O<|Y<|zE O (fun c1=>?_) (fun c1=>?_)
 ·exact absurd c1 zB
 ·exact p6
theorem zOz (a:Int):
    Pur cfg 255 [vI a] (vB false):=by
 refine zR Tryz.func255 O Tryz.ntmps255 Tryz.results255 O ?_
 intro z hz
 refine G O<|A O<|Y<|G O<|A O<|A O<|yK O<|A O<|Y<|zH<|zS O ?_
 exact congrArg vB uD
theorem zKz (a b:Int):
    Pur cfg 231 [vI a,vI b] (vI (jR a b)):=by
 refine zR Tryz.func231 O Tryz.ntmps231 Tryz.results231 O ?_
 intro z hz
 refine G O<|A O<|Y<|G O<|A O<|qD O ok255 (zOz a) ⟨R,O,T⟩<|A O<|Y<|G O<|A O<|qD O ok255 (zOz b) ⟨R,O,T⟩<|A O<|Y<|zJ<|G O<|A O<|Y<|zE O (fun c1=>?_) (fun c1=>?_)
 ·exact absurd c1 zB
 ·exact p6
theorem cmp_Or_int (l:List Int) (hl:l.length<=4294967296):
    Pur cfg 228 [.c (.sl 1 (l.map fun n=>[cI n]))] (vI (orI l)):=by
 refine zR Tryz.func228 O Tryz.ntmps228 Tryz.results228 O ?_
 intro z hz
 refine G O<|A O<|Y<|G O<|A O<|Y<|zJ<|G O<|A O<|qB O el38<|A O<|Y<|zQ<|zY ⟨[(8,.c _),(3,.c _),(6,.c _),(7,.c _)],[]⟩ (Weak.mk [] ⟨R,R,R,R,T⟩ O)<|qK 1 0 O O (Nat) (fun k=>[(8,vI k)]) (fun k=>[]) (fun k=>k<=l.length/\(orI l=orI (l.drop k))) (fun k=>l.length-k) ⟨0,⟨zA,O⟩,Weak.mk [] ⟨R,R,R,R,T⟩ O⟩ ?_
 rintro k ⟨hk,hp⟩
 refine G O<|yG O<|Y<|zJ<|zE O (fun c1=>?_) (fun c1=>?_)
 ·try simp only [sx] at c1
  obtain ⟨x,hx⟩:=qY l k zA
  refine zK<|zJ<|zQ<|G O<|qC O el38 zA (getm uB)<|zI one3 zZ O<|A O<|Y<|G O<|A O<|A O<|yK O<|Y<|zE O (fun c2=>?_) (fun c2=>?_)
  ·try simp only [sx] at c2
   refine G O<|A O<|A O<|Y<|zH<|zS O ?_
   rw [hp,orI_at hx c2]
  ·try simp only [sx] at c2
   refine zK<|zT O<|qI O ⟨zA,zA⟩<|A O<|Y ?_
   refine ⟨k+1,⟨zA,hp.trans (orI_next hx c2)⟩,zA,Weak.mk [] ⟨R,R,R,R,T⟩ O⟩
 ·try simp only [sx] at c1
  refine qN<|G O<|A O<|A O<|Y<|zH<|zS O ?_
  rw [hp,kK zA];rfl
theorem zIb (a b:List Mono) (c:C) (f:Mono->Mono->Int) (ha:a.length<=4294967296) (hb:b.length<=4294967296) (hc:∀x,x∈a->∀y,y∈b->FnPur cfg c [sQ x,sQ y] (vI (f x y))):
    Pur cfg 256 [.c (.sl 2 (a.map Mono.cells)),.c (.sl 2 (b.map Mono.cells)),.c c] (vI (jT f a b)):=by
 refine zR Tryz.func256 O Tryz.ntmps256 Tryz.results256 O ?_
 intro z hz
 refine G O<|A O<|Y<|zJ<|G O<|A O<|qB O N<|A O<|Y<|zQ<|zY ⟨[(13,.c _),(0,.c _),(1,.c _),(2,.c _),(11,.c _),(12,.c _)],[]⟩ (Weak.mk [] ⟨R,R,R,R,R,R,T⟩ O)<|qK 1 0 O O (Nat) (fun k=>[(13,vI k)]) (fun k=>[]) (fun k=>k<=a.length/\(jT f a b=jT f (a.drop k) (b.drop k))/\(k<=b.length)) (fun k=>a.length-k) ⟨0,⟨zA,O,zA⟩,Weak.mk [] ⟨R,R,R,R,R,R,T⟩ O⟩ ?_
 rintro k ⟨hk,hp,hq⟩
 refine G O<|yG O<|Y<|zJ<|zE O (fun c1=>?_) (fun c1=>?_)
 ·try simp only [sx] at c1
  obtain ⟨x,hx⟩:=qY a k zA
  refine zK<|zJ<|zQ<|G O<|A O<|qC O N zA (getm uB)<|zM zHt zZ O<|zV O O (qV O zJk) ?_
  rintro _ _ ⟨b1,rfl,rfl⟩
  refine A O<|rStR 0 sz109 O<|Y<|zJ<|G O<|A O<|A O<|qB O N<|zW O (wF O O O)<|Y<|zE O (fun c2=>?_) (fun c2=>?_)
  ·exact v11
  ·try simp only [sx] at c2
   obtain ⟨y,hy⟩:=qY b k zA
   refine zK<|G O<|A O<|A O<|qC O N zA (getm uB)<|zM zHt zZ O<|zV O O (qV O zJk) ?_
   rintro _ _ ⟨b2,rfl,rfl⟩
   refine rStR 0 sz109 O<|Y<|G O<|A O<|zM zHt (J 1 O) O<|zM zHt (J 0 O) O<|zW O (kS O O (hc _ (qA hx) _ (qA hy)) ⟨R,O,R,O,T⟩)<|A O<|Y<|G O<|A O<|yK O<|Y<|zE O (fun c3=>?_) (fun c3=>?_)
   ·exact j8
   ·exact r8
 ·try simp only [sx] at c1
  refine qN<|zJ<|G O<|A O<|qB O N<|A O<|qB O N<|yG O<|Y<|zE O (fun c4=>?_) (fun c4=>?_)
  ·exact j4
  ·exact k8
theorem zJs (a b:List Ix) (c:C) (f:Ix->Ix->Int) (ha:a.length<=4294967296) (hb:b.length<=4294967296) (hc:∀x,x∈a->∀y,y∈b->FnPur cfg c [lA x,lA y] (vI (f x y))):
    Pur cfg 259 [.c (.sl 4 (a.map Ix.cells)),.c (.sl 4 (b.map Ix.cells)),.c c] (vI (jT f a b)):=by
 refine zR Tryz.func259 O Tryz.ntmps259 Tryz.results259 O ?_
 intro z hz
 refine G O<|A O<|Y<|zJ<|G O<|A O<|qB O v<|A O<|Y<|zQ<|zY ⟨[(13,.c _),(0,.c _),(1,.c _),(2,.c _),(11,.c _),(12,.c _)],[]⟩ (Weak.mk [] ⟨R,R,R,R,R,R,T⟩ O)<|qK 1 0 O O (Nat) (fun k=>[(13,vI k)]) (fun k=>[]) (fun k=>k<=a.length/\(jT f a b=jT f (a.drop k) (b.drop k))/\(k<=b.length)) (fun k=>a.length-k) ⟨0,⟨zA,O,zA⟩,Weak.mk [] ⟨R,R,R,R,R,R,T⟩ O⟩ ?_
 rintro k ⟨hk,hp,hq⟩
 refine G O<|yG O<|Y<|zJ<|zE O (fun c1=>?_) (fun c1=>?_)
 ·try simp only [sx] at c1
  obtain ⟨x,hx⟩:=qY a k zA
  refine zK<|zJ<|zQ<|G O<|A O<|qC O v zA (getm uB)<|zM zPo zZ O<|zV O O (qH [none,some 2,none,some 2] O zr92 O) ?_
  rintro _ _ ⟨b1,rfl,rfl⟩
  refine A O<|rStR 0 sz92 O<|Y<|zJ<|G O<|A O<|A O<|qB O v<|zW O (wF O O O)<|Y<|zE O (fun c2=>?_) (fun c2=>?_)
  ·exact v11
  ·try simp only [sx] at c2
   obtain ⟨y,hy⟩:=qY b k zA
   refine zK<|G O<|A O<|A O<|qC O v zA (getm uB)<|zM zPo zZ O<|zV O O (qH [none,some 2,none,some 2] O zr92 O) ?_
   rintro _ _ ⟨b2,rfl,rfl⟩
   refine rStR 0 sz92 O<|Y<|G O<|A O<|zM zPo (J 1 O) O<|zM zPo (J 0 O) O<|zW O (kS O O (hc _ (qA hx) _ (qA hy)) ⟨R,O,R,O,T⟩)<|A O<|Y<|G O<|A O<|yK O<|Y<|zE O (fun c3=>?_) (fun c3=>?_)
   ·exact j8
   ·exact r8
 ·try simp only [sx] at c1
  refine qN<|zJ<|G O<|A O<|qB O v<|A O<|qB O v<|yG O<|Y<|zE O (fun c4=>?_) (fun c4=>?_)
  ·exact j4
  ·exact k8
theorem zJr (a b:List Lf) (c:C) (f:Lf->Lf->Int) (ha:a.length<=4294967296) (hb:b.length<=4294967296) (hc:∀x,x∈a->∀y,y∈b->FnPur cfg c [dF x,dF y] (vI (f x y))):
    Pur cfg 270 [.c (.sl 2 (a.map Lf.cells)),.c (.sl 2 (b.map Lf.cells)),.c c] (vI (jT f a b)):=by
 refine zR Tryz.func270 O Tryz.ntmps270 Tryz.results270 O ?_
 intro z hz
 refine G O<|A O<|Y<|zJ<|G O<|A O<|qB O el90<|A O<|Y<|zQ<|zY ⟨[(13,.c _),(0,.c _),(1,.c _),(2,.c _),(11,.c _),(12,.c _)],[]⟩ (Weak.mk [] ⟨R,R,R,R,R,R,T⟩ O)<|qK 1 0 O O (Nat) (fun k=>[(13,vI k)]) (fun k=>[]) (fun k=>k<=a.length/\(jT f a b=jT f (a.drop k) (b.drop k))/\(k<=b.length)) (fun k=>a.length-k) ⟨0,⟨zA,O,zA⟩,Weak.mk [] ⟨R,R,R,R,R,R,T⟩ O⟩ ?_
 rintro k ⟨hk,hp,hq⟩
 refine G O<|yG O<|Y<|zJ<|zE O (fun c1=>?_) (fun c1=>?_)
 ·try simp only [sx] at c1
  obtain ⟨x,hx⟩:=qY a k zA
  refine zK<|zJ<|zQ<|G O<|A O<|qC O el90 zA (getm uB)<|zM kP zZ O<|zV O O (qH [none,some 2] O zr51 O) ?_
  rintro _ _ ⟨b1,rfl,rfl⟩
  refine A O<|rStR 0 sz51 O<|Y<|zJ<|G O<|A O<|A O<|qB O el90<|zW O (wF O O O)<|Y<|zE O (fun c2=>?_) (fun c2=>?_)
  ·exact v11
  ·try simp only [sx] at c2
   obtain ⟨y,hy⟩:=qY b k zA
   refine zK<|G O<|A O<|A O<|qC O el90 zA (getm uB)<|zM kP zZ O<|zV O O (qH [none,some 2] O zr51 O) ?_
   rintro _ _ ⟨b2,rfl,rfl⟩
   refine rStR 0 sz51 O<|Y<|G O<|A O<|zM kP (J 1 O) O<|zM kP (J 0 O) O<|zW O (kS O O (hc _ (qA hx) _ (qA hy)) ⟨R,O,R,O,T⟩)<|A O<|Y<|G O<|A O<|yK O<|Y<|zE O (fun c3=>?_) (fun c3=>?_)
   ·exact j8
   ·exact r8
 ·try simp only [sx] at c1
  refine qN<|zJ<|G O<|A O<|qB O el90<|A O<|qB O el90<|yG O<|Y<|zE O (fun c4=>?_) (fun c4=>?_)
  ·exact j4
  ·exact k8
theorem zJt (a b:List Ex) (c:C) (f:Ex->Ex->Int) (ha:a.length<=4294967296) (hb:b.length<=4294967296) (hc:∀x,x∈a->∀y,y∈b->FnPur cfg c [vE x,vE y] (vI (f x y))):
    Pur cfg 261 [.c (.sl 13 (a.map Ex.cells)),.c (.sl 13 (b.map Ex.cells)),.c c] (vI (jT f a b)):=by
 refine zR Tryz.func261 O Tryz.ntmps261 Tryz.results261 O ?_
 intro z hz
 refine G O<|A O<|Y<|zJ<|G O<|A O<|qB O el52<|A O<|Y<|zQ<|zY ⟨[(13,.c _),(0,.c _),(1,.c _),(2,.c _),(11,.c _),(12,.c _)],[]⟩ (Weak.mk [] ⟨R,R,R,R,R,R,T⟩ O)<|qK 1 0 O O (Nat) (fun k=>[(13,vI k)]) (fun k=>[]) (fun k=>k<=a.length/\(jT f a b=jT f (a.drop k) (b.drop k))/\(k<=b.length)) (fun k=>a.length-k) ⟨0,⟨zA,O,zA⟩,Weak.mk [] ⟨R,R,R,R,R,R,T⟩ O⟩ ?_
 rintro k ⟨hk,hp,hq⟩
 refine G O<|yG O<|Y<|zJ<|zE O (fun c1=>?_) (fun c1=>?_)
 ·try simp only [sx] at c1
  obtain ⟨x,hx⟩:=qY a k zA
  refine zK<|zJ<|zQ<|G O<|A O<|qC O el52 zA (zCn uB)<|zM yX zZ O<|zV O O (qH [none,none,none,none,none,none,none,none,none,none,some 2,some 4,some 13] O zr54 O) ?_
  rintro _ _ ⟨b1,rfl,rfl⟩
  refine A O<|rStR 0 sz54 O<|Y<|zJ<|G O<|A O<|A O<|qB O el52<|zW O (wF O O O)<|Y<|zE O (fun c2=>?_) (fun c2=>?_)
  ·exact v11
  ·try simp only [sx] at c2
   obtain ⟨y,hy⟩:=qY b k zA
   refine zK<|G O<|A O<|A O<|qC O el52 zA (zCn uB)<|zM yX zZ O<|zV O O (qH [none,none,none,none,none,none,none,none,none,none,some 2,some 4,some 13] O zr54 O) ?_
   rintro _ _ ⟨b2,rfl,rfl⟩
   refine rStR 0 sz54 O<|Y<|G O<|A O<|zM yX (J 1 O) O<|zM yX (J 0 O) O<|zW O (kS O O (hc _ (qA hx) _ (qA hy)) ⟨R,O,R,O,T⟩)<|A O<|Y<|G O<|A O<|yK O<|Y<|zE O (fun c3=>?_) (fun c3=>?_)
   ·exact j8
   ·exact r8
 ·try simp only [sx] at c1
  refine qN<|zJ<|G O<|A O<|qB O el52<|A O<|qB O el52<|yG O<|Y<|zE O (fun c4=>?_) (fun c4=>?_)
  ·exact j4
  ·exact k8
theorem zXe (a b:List Ix) (c:C) (f:Ix->Ix->Int) (ha:a.length<=4294967296) (hb:b.length<=4294967296) (hc:∀x,x∈a->∀y,y∈b->FnPur cfg c [lA x,lA y] (vI (f x y))):
    Pur cfg 234 [.c (.sl 4 (a.map Ix.cells)),.c (.sl 4 (b.map Ix.cells)),.c c] (vI (lP f a b)):=by
 refine zR Tryz.func234 O Tryz.ntmps234 Tryz.results234 O ?_
 intro z hz
 refine G O<|A O<|Y<|zJ<|G O<|A O<|qB O v<|A O<|qB O v<|qD O ok229 (wM _ _) ⟨R,O,R,O,T⟩<|A O<|Y<|G O<|A O<|yK O<|Y<|zE O (fun c1=>?_) (fun c1=>?_)
 ·try simp only [sx] at c1
  refine G O<|A O<|A O<|Y<|zH<|zS O ?_
  rw [lP,if_neg c1]
 ·try simp only [sx] at c1
  refine zK<|G O<|A O<|A O<|A O<|qD O ok259 (zJs a b c f ha hb hc) ⟨R,O,R,O,R,O,T⟩<|A O<|Y<|zH<|zS O ?_
  rw [lP,if_pos c1]
theorem zXd (a b:List Lf) (c:C) (f:Lf->Lf->Int) (ha:a.length<=4294967296) (hb:b.length<=4294967296) (hc:∀x,x∈a->∀y,y∈b->FnPur cfg c [dF x,dF y] (vI (f x y))):
    Pur cfg 260 [.c (.sl 2 (a.map Lf.cells)),.c (.sl 2 (b.map Lf.cells)),.c c] (vI (lP f a b)):=by
 refine zR Tryz.func260 O Tryz.ntmps260 Tryz.results260 O ?_
 intro z hz
 refine G O<|A O<|Y<|zJ<|G O<|A O<|qB O el90<|A O<|qB O el90<|qD O ok229 (wM _ _) ⟨R,O,R,O,T⟩<|A O<|Y<|G O<|A O<|yK O<|Y<|zE O (fun c1=>?_) (fun c1=>?_)
 ·try simp only [sx] at c1
  refine G O<|A O<|A O<|Y<|zH<|zS O ?_
  rw [lP,if_neg c1]
 ·try simp only [sx] at c1
  refine zK<|G O<|A O<|A O<|A O<|qD O ok270 (zJr a b c f ha hb hc) ⟨R,O,R,O,R,O,T⟩<|A O<|Y<|zH<|zS O ?_
  rw [lP,if_pos c1]
theorem zXf (a b:List Ex) (c:C) (f:Ex->Ex->Int) (ha:a.length<=4294967296) (hb:b.length<=4294967296) (hc:∀x,x∈a->∀y,y∈b->FnPur cfg c [vE x,vE y] (vI (f x y))):
    Pur cfg 236 [.c (.sl 13 (a.map Ex.cells)),.c (.sl 13 (b.map Ex.cells)),.c c] (vI (lP f a b)):=by
 refine zR Tryz.func236 O Tryz.ntmps236 Tryz.results236 O ?_
 intro z hz
 refine G O<|A O<|Y<|zJ<|G O<|A O<|qB O el52<|A O<|qB O el52<|qD O ok229 (wM _ _) ⟨R,O,R,O,T⟩<|A O<|Y<|G O<|A O<|yK O<|Y<|zE O (fun c1=>?_) (fun c1=>?_)
 ·try simp only [sx] at c1
  refine G O<|A O<|A O<|Y<|zH<|zS O ?_
  rw [lP,if_neg c1]
 ·try simp only [sx] at c1
  refine zK<|G O<|A O<|A O<|A O<|qD O ok261 (zJt a b c f ha hb hc) ⟨R,O,R,O,R,O,T⟩<|A O<|Y<|zH<|zS O ?_
  rw [lP,if_pos c1]
theorem lin_order (a b:Int):
    Pur cfg 258 [vI a,vI b] (vI (jR a b)):=by
 refine zR Tryz.func258 O Tryz.ntmps258 Tryz.results258 O ?_
 intro z hz
 refine G O<|A O<|Y<|zJ<|zQ<|G O<|A O<|A O<|yG O<|A O<|Y<|zE O (fun c1=>?_) (fun c1=>?_)
 ·try simp only [sx] at c1
  refine G O<|A O<|Y<|zH<|zS O ?_
  rw [cmpI_lt c1]
 ·try simp only [sx] at c1
  refine G O<|A O<|A O<|zW O (yC O O O)<|A O<|Y<|zE O (fun c2=>?_) (fun c2=>?_)
  ·try simp only [sx] at c2
   refine G O<|A O<|Y<|zH<|zS O ?_
   rw [cmpI_gt c2]
  ·try simp only [sx] at c2
   refine zK<|G O<|A O<|Y<|zH<|zS O ?_
   rw [cmpI_eq zA zA]
theorem lin_Compare_1 (x y:Mono):
    Pur cfg 257 [sQ x,sQ y] (vI (tN x y)):=by
 refine zR Tryz.func257 O Tryz.ntmps257 Tryz.results257 O ?_
 intro z hz
 refine G O<|zV O O (qJ O O) ?_
 rintro _ _ ⟨b1,rfl,rfl⟩
 refine zV O O (qJ O O) ?_
 rintro _ _ ⟨b2,rfl,rfl⟩
 refine A O<|Y<|zJ<|G O<|zD O zAa<|zI one9 (J 1 O) O<|zD O zAa<|zI one9 (J 0 O) O<|zW O (zBj O O O)<|Y<|zE O (fun c1=>?_) (fun c1=>?_)
 ·try simp only [sx] at c1
  refine G O<|zD O zAa<|zI one9 (J 1 O) O<|zD O zAa<|zI one9 (J 0 O) O<|qD O ok230 (strings_Compare _ _) ⟨R,O,R,O,T⟩<|A O<|Y<|zH<|zS O ?_
  rw [tN,if_neg c1]
 ·try simp only [sx] at c1
  refine zK<|G O<|zD O zCo<|zI U (J 1 O) O<|zD O zCo<|zI U (J 0 O) O<|qD O ok258 (lin_order _ _) ⟨R,O,R,O,T⟩<|A O<|Y<|zH<|zS O ?_
  rw [tN,if_pos c1]
theorem zMv (a b:Lf) (ha:a.L.length<=4294967296) (hb:b.L.length<=4294967296):
    Pur cfg 233 [dF a,dF b] (vI (nH a b)):=by
 refine zR Tryz.func233 O Tryz.ntmps233 Tryz.results233 O ?_
 intro z hz
 refine G O<|zV O O (qJ O O) ?_
 rintro _ _ ⟨b1,rfl,rfl⟩
 refine zV O O (qJ O O) ?_
 rintro _ _ ⟨b2,rfl,rfl⟩
 refine A O<|Y<|G O<|zD O wK<|zI zBl (J 1 O) O<|zD O wK<|zI zBl (J 0 O) O<|qD O ok256 (zIb a.L b.L _ tN ha hb (fun x _ y _=>FnPur.of_pur (first:=[]) (cap:=[]) ok257 (lin_Compare_1 x y))) ⟨R,O,R,O,R,O,T⟩<|A O<|Y<|zJ<|G O<|A O<|yK O<|Y<|zE O (fun c1=>?_) (fun c1=>?_)
 ·try simp only [sx] at c1
  refine G O<|A O<|A O<|Y<|zH<|zS O ?_
  rw [nH,if_neg c1]
 ·try simp only [sx] at c1
  refine zK<|G O<|zD O zEv<|zI U (J 1 O) O<|zD O zEv<|zI U (J 0 O) O<|qD O ok258 (lin_order _ _) ⟨R,O,R,O,T⟩<|A O<|Y<|zH<|zS O ?_
  rw [nH,if_pos c1]
theorem zQt (a b:Ix) (ha:a.wt<=4294967296) (hb:b.wt<=4294967296):
    Pur cfg 235 [lA a,lA b] (vI (nI a b)):=by
 refine zR Tryz.func235 O Tryz.ntmps235 Tryz.results235 O ?_
 intro z hz
 have hwa:=ha
 have hwb:=hb
 unfold Ix.wt at hwa hwb
 refine G O<|zV O O (qJ O O) ?_
 rintro _ _ ⟨b1,rfl,rfl⟩
 refine zV O O (qJ O O) ?_
 rintro _ _ ⟨b2,rfl,rfl⟩
 refine A O<|Y<|zJ<|G O<|zD O zEs<|zI one9 (J 1 O) O<|zD O zEs<|zI one9 (J 0 O) O<|qD O ok230 (strings_Compare _ _) ⟨R,O,R,O,T⟩<|A O<|Y<|G O<|A O<|yK O<|Y<|zE O (fun c1=>?_) (fun c1=>?_)
 ·try simp only [sx] at c1
  refine G O<|A O<|A O<|Y<|zH<|zS O ?_
  rw [nI,if_neg c1]
 ·try simp only [sx] at c1
  refine zK<|zJ<|G O<|zD O zFh<|zM kP (J 1 O) O<|zD O zFh<|zM kP (J 0 O) O<|qD O ok233 (zMv a.Lin b.Lin zA zA) ⟨R,O,R,O,T⟩<|A O<|Y<|G O<|A O<|yK O<|Y<|zE O (fun c2=>?_) (fun c2=>?_)
  ·try simp only [sx] at c2
   refine G O<|A O<|A O<|Y<|zH<|zS O ?_
   rw [nI,if_pos c1,if_neg c2]
  ·try simp only [sx] at c2
   refine zK<|G O<|zD O zAu<|zI zEo (J 1 O) O<|zD O zAu<|zI zEo (J 0 O) O<|qD O ok260 (zXd a.At b.At _ nH zA zA (fun x hx y hy=>FnPur.of_pur (first:=[]) (cap:=[]) ok233 (zMv x y (by have:=zDz hx;omega) (by have:=zDz hy;omega)))) ⟨R,O,R,O,R,O,T⟩<|A O<|Y<|zH<|zS O ?_
   rw [nI,if_pos c1,if_pos c2]
theorem zSe (a b:Ty):
    Pur cfg 232 [vTy a,vTy b] (vI (xG a b)):=by
 refine zR Tryz.func232 O Tryz.ntmps232 Tryz.results232 O ?_
 intro z hz
 refine G O<|zV O O (qJ O O) ?_
 rintro _ _ ⟨b1,rfl,rfl⟩
 refine zV O O (qJ O O) ?_
 rintro _ _ ⟨b2,rfl,rfl⟩
 refine A O<|Y<|zJ<|qU 28 mixed uC O O<|zN O O (zG O zDo O)<|zN O O (zF O one3 O (J 1 O) O)<|zN O O (zG O zDo O)<|zN O O (zF O one3 O (J 0 O) O)<|zN O O (qG O ok229 (wM _ _) ⟨R,O,R,O,T⟩)<|zN O O (zG O zKs O)<|zN O O (zF O one3 O (J 1 O) O)<|zN O O (zG O zKs O)<|zN O O (zF O one3 O (J 0 O) O)<|zN O O (qG O ok229 (wM _ _) ⟨R,O,R,O,T⟩)<|zN O O (zG O zRm O)<|zN O O (zF O one3 O (J 1 O) O)<|zN O O (zG O zRm O)<|zN O O (zF O one3 O (J 0 O) O)<|zN O O (qG O ok229 (wM _ _) ⟨R,O,R,O,T⟩)<|zN O O (zG O zKr O)<|zN O O (zF O one3 O (J 1 O) O)<|zN O O (zG O zKr O)<|zN O O (zF O one3 O (J 0 O) O)<|zN O O (qG O ok229 (wM _ _) ⟨R,O,R,O,T⟩)<|zN O O (zG O zRl O)<|zN O O (zF O one3 O (J 1 O) O)<|zN O O (zG O zRl O)<|zN O O (zF O one3 O (J 0 O) O)<|zN O O (qG O ok229 (wM _ _) ⟨R,O,R,O,T⟩)<|zN O O (qZ O el38 zr3 O O O O)<|zN O O (qG O ok228 (cmp_Or_int [jR a.Kind b.Kind,jR a.Bits b.Bits,jR a.Frac b.Frac,jR a.Round b.Round,jR a.Over b.Over] uD) ⟨R,O,T⟩)<|zN O O (qX O O)<|yP<|Y<|zH<|zS O ?_
 exact O
theorem zQu (a b:Ex) (ih:∀x,x∈a.Args->∀y,x.wt<=4294967296->y.wt<=4294967296->Pur cfg 207 [vE x,vE y] (vI (sK x y))) (ha:a.wt<=4294967296) (hb:b.wt<=4294967296):
    Pur cfg 207 [vE a,vE b] (vI (sK a b)):=by
 refine zR Tryz.func207 O Tryz.ntmps207 Tryz.results207 O ?_
 intro z hz
 obtain ⟨hLa,hIa,hAa⟩:=a.parts ha
 obtain ⟨hLb,hIb,hAb⟩:=b.parts hb
 have hwa:=Ex.wt_eq a
 have hwb:=Ex.wt_eq b
 refine G O<|zV O O (qJ O O) ?_
 rintro _ _ ⟨b1,rfl,rfl⟩
 refine zV O O (qJ O O) ?_
 rintro _ _ ⟨b2,rfl,rfl⟩
 refine A O<|Y<|zJ<|qU 37 mixed uC O O<|zN O O (zG O kO O)<|zN O O (zF O one3 O (J 1 O) O)<|zN O O (zG O kO O)<|zN O O (zF O one3 O (J 0 O) O)<|zN O O (qG O ok229 (wM _ _) ⟨R,O,R,O,T⟩)<|zN O O (zG O zGd O)<|zN O O (zF O one9 O (J 1 O) O)<|zN O O (zG O zGd O)<|zN O O (zF O one9 O (J 0 O) O)<|zN O O (qG O ok230 (strings_Compare _ _) ⟨R,O,R,O,T⟩)<|zN O O (zG O zKq O)<|zN O O (zG O zAd O)<|zN O O (zF O U O (J 1 O) O)<|zN O O (zG O zKq O)<|zN O O (zG O zAd O)<|zN O O (zF O U O (J 0 O) O)<|zN O O (qG O ok231 (zKz _ _) ⟨R,O,R,O,T⟩)<|zN O O (zG O zKq O)<|zN O O (zG O zAq O)<|zN O O (zF O U O (J 1 O) O)<|zN O O (zG O zKq O)<|zN O O (zG O zAq O)<|zN O O (zF O U O (J 0 O) O)<|zN O O (qG O ok231 (zKz _ _) ⟨R,O,R,O,T⟩)<|zN O O (zG O zEu O)<|zN O O (zU O yD O (J 1 O) O)<|zN O O (zG O zEu O)<|zN O O (zU O yD O (J 0 O) O)<|zN O O (qG O ok232 (zSe _ _) ⟨R,O,R,O,T⟩)<|zN O O (zG O zDv O)<|zN O O (zU O kP O (J 1 O) O)<|zN O O (zG O zDv O)<|zN O O (zU O kP O (J 0 O) O)<|zN O O (qG O ok233 (zMv a.Lin b.Lin hLa hLb) ⟨R,O,R,O,T⟩)<|zN O O (qZ O el38 zr3 O O O O)<|zN O O (qG O ok228 (cmp_Or_int [jR a.Op b.Op,vF a.Name b.Name,jR a.Val.N b.Val.N,jR a.Val.D b.Val.D,xG a.Ty b.Ty,nH a.Lin b.Lin] uD) ⟨R,O,T⟩)<|zN O O (qX O O)<|yP<|Y<|zJ<|G O<|A O<|yK O<|Y<|zE O (fun c1=>?_) (fun c1=>?_)
 ·try simp only [sx] at c1
  refine G O<|A O<|A O<|Y<|zH<|zS O ?_
  rw [cmpE_eq,if_neg (show ¬pS a b=0 from c1)];rfl
 ·try simp only [sx] at c1
  refine zK<|zJ<|G O<|zD O wI<|zI wQ (J 1 O) O<|zD O wI<|zI wQ (J 0 O) O<|qD O ok234 (zXe a.Idx b.Idx _ nI hIa hIb (fun x hx y hy=>FnPur.of_pur (first:=[]) (cap:=[]) ok235 (zQt x y (by have:=zBn hx;omega) (by have:=zBn hy;omega)))) ⟨R,O,R,O,R,O,T⟩<|A O<|Y<|G O<|A O<|yK O<|Y<|zE O (fun c2=>?_) (fun c2=>?_)
  ·try simp only [sx] at c2
   refine G O<|A O<|A O<|Y<|zH<|zS O ?_
   rw [cmpE_eq,if_pos (show pS a b=0 from c1),if_neg c2]
  ·try simp only [sx] at c2
   refine zK<|G O<|zD O wA<|zI zAo (J 1 O) O<|zD O wA<|zI zAo (J 0 O) O<|qD O ok236 (zXf a.Args b.Args _ sK hAa hAb (fun x hx y hy=>FnPur.of_pur (first:=[]) (cap:=[]) ok207 (ih x hx y (by have:=Ex.arg_wt hx;omega) (by have:=Ex.arg_wt hy;omega)))) ⟨R,O,R,O,R,O,T⟩<|A O<|Y<|zH<|zS O ?_
   rw [cmpE_eq,if_pos (show pS a b=0 from c1),if_pos c2]
theorem expr_Compare (a b:Ex) (ha:a.wt<=4294967296) (hb:b.wt<=4294967296):Pur cfg 207 [vE a,vE b] (vI (sK a b)):=by
  induction a using Ex.ind generalizing b with
  |_ a ih=>exact zQu a b (fun x hx y h1 h2=>ih x hx y h1 h2) ha hb
theorem expr_Same (a b:Ex) (ha:a.wt<=4294967296) (hb:b.wt<=4294967296):
    Pur cfg 174 [vE a,vE b] (vB (decide (a=b))):=by
 refine zR Tryz.func174 O Tryz.ntmps174 Tryz.results174 O ?_
 intro z hz
 refine G O<|zV O O (qJ O O) ?_
 rintro _ _ ⟨b1,rfl,rfl⟩
 refine zV O O (qJ O O) ?_
 rintro _ _ ⟨b2,rfl,rfl⟩
 refine A O<|Y<|G O<|zM yX (J 1 O) O<|zM yX (J 0 O) O<|qD O ok207 (expr_Compare a b ha hb) ⟨R,O,R,O,T⟩<|yE O<|A O<|Y<|zH<|zS O ?_
 exact congrArg vB (decide_eq_decide.2 (cmpE_zero a b))
end Go.W
end
section
set_option maxRecDepth 10000
namespace Go.W
open Go Go.Eng Go.Proofs Go.L41 Go.Br
attribute [local irreducible] AWP RWP TD fH
end Go.W
end
section
set_option maxRecDepth 10000
namespace Go.W
open Go Go.Eng Go.Proofs Go.L41 Go.Br
attribute [local irreducible] AWP RWP TD fH
theorem ik2:tJ Tryz.prog 2=some .i64:=by kernel_rfl
theorem ok52:bA Tryz.prog 52=true:=by kernel_rfl
theorem ok87:bA Tryz.prog 87=true:=by kernel_rfl
theorem ok88:bA Tryz.prog 88=true:=by kernel_rfl
theorem sz49:(Tryz.prog.info? 49).map (·.size)=some 1:=by kernel_rfl
theorem us154:(Tryz.prog.underlying 154).isSome=true:=by kernel_rfl
theorem lin_plus (a b:Int) (ha:r64 a) (hb:r64 b):
    Pur cfg 54 [vI a,vI b] (.tup [vI (w64 (a+b)),vB (decide (r64 (a+b)))]):=by
 refine zR Tryz.func54 O Tryz.ntmps54 Tryz.results54 O ?_
 intro z hz
 refine G O<|A O<|A O<|Y<|G O<|A O<|A O<|zW O (zKy O O O)<|A O<|Y<|G O<|A O<|A O<|A O<|zW O (yC O O O)<|A O<|zW O (yC O O O)<|zW O (det_beql O un4 O O)<|A O<|A O<|Y<|zH<|fin2 (rs_c O) (rs_c O) ?_
 rw [←plus_ok ha hb];rfl
theorem zOi (x:Int) (hx:r64 x):
    Pur cfg 88 [vI x] (vUn x.natAbs):=by
 refine zR Tryz.func88 O Tryz.ntmps88 Tryz.results88 O ?_
 intro z hz
 refine G O<|A O<|Y<|zJ<|G O<|A O<|yG O<|Y<|zE O (fun c1=>?_) (fun c1=>?_)
 ·try simp only [sx] at c1
  refine G O<|A O<|zW O (zAl O us2 ik154 O)<|zW O (zHa O O)<|A O<|Y<|zH<|zS O ?_
  exact congrArg (fun n=>V.c (.lit (.int .u64 n))) (magn_neg hx c1)
 ·try simp only [sx] at c1
  refine zK<|G O<|A O<|zW O (zAl O us2 ik154 O)<|A O<|Y<|zH<|zS O ?_
  exact congrArg (fun n=>V.c (.lit (.int .u64 n))) (magn_pos hx zA)
theorem lin_product (a b:Nat) (ha:a<18446744073709551616) (hb:b<18446744073709551616):
    Pur cfg 87 [vUn a,vUn b] (.tup [vUn (hiN a b),vUn (a*b%18446744073709551616)]):=by
 refine zR Tryz.func87 O Tryz.ntmps87 Tryz.results87 O ?_
 intro z hz
 obtain ⟨p1,p2,p3,p4⟩:=part_le ha hb
 obtain ⟨q1,q2,q3,q4⟩:=hi_bounds ha hb
 refine G O<|A O<|A O<|Y<|G O<|A O<|zW O (zOv O O O ha)<|A O<|zW O (zOv O O O hb)<|zW O (zEj O O O zA)<|A O<|Y<|G O<|A O<|zW O (zIr O O O )<|A O<|zW O (zOv O O O hb)<|zW O (zEj O O O zA)<|A O<|zW O (zIr O O O )<|zW O (zDq O O O q1)<|A O<|Y<|G O<|A O<|zW O (zOv O O O ha)<|A O<|zW O (zIr O O O )<|zW O (zEj O O O zA)<|A O<|zW O (zOv O O O q1)<|zW O (zDq O O O q2)<|A O<|Y<|G O<|A O<|zW O (zIr O O O )<|A O<|zW O (zIr O O O )<|zW O (zEj O O O zA)<|A O<|zW O (zIr O O O )<|zW O (zDq O O O q3)<|A O<|zW O (zIr O O O )<|zW O (zDq O O O q4)<|A O<|A O<|zW O (det_umod O O O )<|A O<|A O<|Y<|zH<|fin2 (rs_c O) (rs_c O) ?_
 exact O
theorem lin_times (x y:Int) (hx:r64 x) (hy:r64 y):
    Pur cfg 52 [vI x,vI y] (.tup [vI (bM x y).1,vB (bM x y).2]):=by
 refine zR Tryz.func52 O Tryz.ntmps52 Tryz.results52 O ?_
 intro z hz
 have hm1:=zGw hx
 have hm2:=zGw hy
 refine G O<|A O<|A O<|Y<|G O<|A O<|qD O ok88 (zOi x hx) ⟨R,O,T⟩<|A O<|qD O ok88 (zOi y hy) ⟨R,O,T⟩<|qD O ok87 (lin_product x.natAbs y.natAbs zA zA) ⟨R,O,R,O,T⟩<|qO O<|qR O<|qR O<|A O<|A O<|Y<|G O<|A O<|yG O<|A O<|yG O<|zW O (zOx O un4 O O)<|A O<|Y<|zJ<|zQ<|G O<|A O<|yK O<|A O<|rL0 O (fun g3_2=>zO O O) O<|rL1 26 O (fun g3_2=>yC O O O) O<|r_or O (fun h=>(lzf h))<|A O<|rL0 O (fun g3_6=>zO O O) O<|rL1 30 O (fun g3_6=>yM O O O) O<|rL1 31 O (fun g3_6=>zO O O) O<|rLz [] O gv2 T (fun g3_9=>zO O O) O<|rLz [(33,_)] O gv2 ⟨O,O,T⟩ (fun g3_9=>kJ O O) O<|rL1 32 O (fun g3_6=>kZ O O O (fun h=>kC uB h) O) O<|r_or O (fun h=>(lzf h))<|A O<|Y<|zE O (fun c1=>?_) (fun c1=>?_)
 ·try simp only [sx] at c1
  refine G O<|A O<|A O<|Y<|zH<|fin2 (rs_c O) (rs_c O) ?_
  rw [times_f hx hy c1]
 ·try simp only [sx] at c1
  refine G O<|A O<|A O<|Y<|zE O (fun c2=>?_) (fun c2=>?_)
  ·try simp only [sx] at c2
   refine G O<|A O<|zW O (zHa O O)<|zW O (zAl O us154 ik2 O)<|A O<|A O<|Y<|zH<|fin2 (rs_c O) (rs_c O) ?_
   rw [times_neg c2 (by have:=c1.1.1;omega) (by have:=c1.1.2;omega)]
  ·try simp only [sx] at c2
   refine zK<|G O<|A O<|zW O (zAl O us154 ik2 O)<|A O<|A O<|Y<|zH<|fin2 (rs_c O) (rs_c O) ?_
   have hlt:x.natAbs*y.natAbs%18446744073709551616<9223372036854775808:=by
     have h1:=c1.1.2
     rcases c1.2 with h|h
     · omega
     · rw [c2] at h;cases h
   rw [times_pos c2 (by have:=c1.1.1;omega) hlt]
theorem zVx (l:Lf) (by_:Int) (hl:l.L.length<=4294967296) (hr:l.rng) (hb:r64 by_):
    Pur cfg 19 [dF l,vI by_] (.tup [dF (bF l by_).1,vI (bF l by_).2]):=by
 refine zR Tryz.func19 O Tryz.ntmps19 Tryz.results19 O ?_
 intro z hz
 refine G O<|zV O O (qJ O O) ?_
 rintro _ _ ⟨b1,rfl,rfl⟩
 refine zV O O (qH [none,some 2] O zr51 O) ?_
 rintro _ _ ⟨b2,rfl,rfl⟩
 refine A O<|Y<|zJ<|G O<|zM kP (J 1 O) O<|qD O ok51 (zDf l zA) ⟨R,O,T⟩<|yK O<|Y<|zE O (fun c1=>?_) (fun c1=>?_)
 ·try simp only [sx] at c1
  have hl0:=linErr_no c1
  refine G O<|yF [none,some 2] O zr51 pl51<|rStR 0 sz51 O<|A O<|Y<|zH<|fin2 (zP kP O (J 0 O) O) (rs_c O) ?_
  rw [scale_bad hl0];rfl
 ·try simp only [sx] at c1
  have hl1:=zQl c1
  refine zK<|zJ<|G O<|A O<|yE O<|Y<|zE O (fun c2=>?_) (fun c2=>?_)
  ·try simp only [sx] at c2
   refine G O<|yF [none,some 2] O zr51 pl51<|rStR 0 sz51 O<|A O<|Y<|zH<|fin2 (zP kP O (J 0 O) O) (rs_c O) ?_
   rw [scale_zero hl1 c2];rfl
  ·try simp only [sx] at c2
   refine zK<|G O<|zD O zEv<|zI U (J 1 O) O<|A O<|qD O ok52 (lin_times l.K by_ hr.1 hb) ⟨R,O,R,O,T⟩<|qO O<|qR O<|qR O<|A O<|A O<|Y<|G O<|A O<|qT O zr51 pl51<|zV O O (qV O zr51) ?_
   rintro _ _ ⟨b3,rfl,rfl⟩
   refine yS _ (wC 109 2)<|rStR 1 sz51 O<|Y<|zJ<|G O<|zD O wK<|zI zBl (J 3 O) O<|qB O N<|A O<|Y<|zQ<|zY ⟨[(32,.c _),(7,.c _),(1,.c _),(4,.c _),(8,.c _),(30,.c _),(31,.c _)],[_,_,_]⟩ (Weak.mk [true,true,true,false] ⟨R,R,R,R,R,R,R,T⟩ O)<|qK 2 2 O O (Nat×Value) (fun ⟨k,sv⟩=>[(32,vI k),(7,vB ((bM l.K by_).2&&mY by_ (l.L.take k)))]) (fun ⟨k,sv⟩=>[E.vec sv 109 2 ((mE by_ (l.L.take k)).map Mono.cells),E.row b3 51 [cI (bM l.K by_).1,.lit sv]]) (fun ⟨k,sv⟩=>k<=l.L.length) (fun ⟨k,sv⟩=>l.L.length-k) ⟨⟨0,_⟩,zA,Weak.mk [true,true,true] ⟨R,VLe.of_eq (by rw [show mY by_ (l.L.take 0)=true from rfl,Bool.and_true];rfl),R,R,R,R,R,T⟩ O⟩ ?_
   rintro ⟨k,sv⟩ hk
   show AWP _ _ _ _ _ ⟨[(32,vI k),(7,vB ((bM l.K by_).2&&mY by_ (l.L.take k)))]++_,[E.vec sv 109 2 ((mE by_ (l.L.take k)).map Mono.cells),E.row b3 51 [cI (bM l.K by_).1,.lit sv]]++_⟩
   refine G O<|yG O<|Y<|zJ<|zE O (fun c3=>?_) (fun c3=>?_)
   ·try simp only [sx] at c3
    obtain ⟨x,hx⟩:=qY l.L k zA
    refine zK<|zJ<|zQ<|G O<|qC O N zA (getm uB)<|zM zHt zZ O<|zV O O (qV O zJk) ?_
    rintro _ _ ⟨b5,rfl,rfl⟩
    refine rStR 0 sz109 O<|Y<|G O<|zD O zCo<|zI U (J 0 O) O<|A O<|qD O ok52 (lin_times x.By by_ (hr.2 x (qA hx)) hb) ⟨R,O,R,O,T⟩<|qO O<|qR O<|qR O<|A O<|A O<|Y<|G O<|A O<|A O<|rL0 O (fun g11_1=>zO O O) O<|yR O (fun h=>h)<|A O<|Y<|zT O<|zD O wK<|zI zBl (J 2 O) O<|zD O zAa<|zI one9 (J 0 O) O<|A O<|qT O zJk pl109<|zW O (qZ O N zJk O O O O)<|zV O O (yN 1 O N O O O (by simp only [List.length_map,List.length_append,List.length_cons,List.length_nil,scaleW_len,List.length_take];omega) (by simp only [List.length_map,List.length_append,List.length_cons,List.length_nil,scaleW_len,List.length_take];omega)) ?_
    rintro _ _ ⟨sv6,rfl,rfl⟩
    refine zD O wK<|rStR 2 sz49 O<|Y<|zT O<|qI O ⟨zA,zA⟩<|A O<|Y ?_
    refine ⟨⟨k+1,sv6⟩,zA,(by show l.L.length-(k+1)<l.L.length-k;omega),Weak.mk [false,true,true,true] ⟨R,VLe.of_eq (by rw [scaleB_next hx,←Bool.and_assoc];rfl),R,R,R,R,R,T⟩ (by show _=[E.vec sv6 _ 2 ((mE by_ (l.L.take (k+1))).map Mono.cells),E.row b3 _ [cI (bM l.K by_).1,.lit sv6]]++_;rw [scaleW_next hx,List.map_append];rfl)⟩
   ·try simp only [sx] at c3
    rw [yV (l:=l.L) (k:=k) zA]
    refine qN<|zJ<|G O<|A O<|kN O<|Y<|zE O (fun c4=>?_) (fun c4=>?_)
    ·try simp only [sx] at c4
     refine G O<|yF [none,some 2] O zr51 pl51<|rStR 2 sz51 O<|A O<|Y<|zH<|fin2 (zP kP O (J 2 O) O) (rs_c O) ?_
     rw [scale_no hl1 c2 c4];rfl
    ·try simp only [sx] at c4
     refine zK<|G O<|zM kP (J 1 O) O<|rStR 2 sz51 O<|A O<|Y<|zY _ (yT 0 O (regs':=[(60,.agg [_,_])]) (μ':=[_,_]) ⟨FLe.agg ⟨.inl O,.inr ⟨O,O⟩,T⟩,T⟩ ⟨EFle.row (ds:=[_,_]) ⟨.inl O,.inr ⟨O,O⟩,T⟩,EFle.row (ds:=[_,_]) ⟨.inl O,.inr ⟨O,O⟩,T⟩,T⟩)<|zH<|fin2 (zP kP O (J 1 O) O) (rs_c O) ?_
     rw [scale_ok hl1 c2 c4];rfl
end Go.W
end
section
set_option maxRecDepth 10000
namespace Go.W
open Go Go.Eng Go.Proofs Go.L41 Go.Br
attribute [local irreducible] AWP RWP TD fH
theorem ok19:bA Tryz.prog 19=true:=by kernel_rfl
theorem ok21:bA Tryz.prog 21=true:=by kernel_rfl
theorem ok54:bA Tryz.prog 54=true:=by kernel_rfl
theorem ok55:bA Tryz.prog 55=true:=by kernel_rfl
theorem ok56:bA Tryz.prog 56=true:=by kernel_rfl
theorem one4:lX Tryz.prog 4=true:=by kernel_rfl
theorem sz2:(Tryz.prog.info? 2).map (·.size)=some 1:=by kernel_rfl
theorem sz4:(Tryz.prog.info? 4).map (·.size)=some 1:=by kernel_rfl
theorem zr4:fF Tryz.prog 4=some [(Value.bool false)]:=by kernel_rfl
theorem merge_con (a0 b0:List Mono) (ha0:a0.length<=4294967296) (hb0:b0.length<=4294967296):
    ∀(y:C) (J:List Tr->List E->Prop) (μ:List E),(∀d t s m,bX a0 b0=d++t::s->J d m->FnCon cfg y [vS t.1,vI t.2.1,vI t.2.2] m fun r m'=>r=.tup []/\J (d++[t]) m')->J [] μ->Con cfg 55 [.c (.sl 2 (a0.map Mono.cells)),.c (.sl 2 (b0.map Mono.cells)),.c y] μ fun r μ'=>r=.tup []/\J (bX a0 b0) μ':=by
 intro y J μ hy h0
 refine zR Tryz.func55 O Tryz.ntmps55 Tryz.results55 O ?_
 intro z hz
 refine zQ<|zY ⟨[(0,.c _),(1,.c _),(2,.c _)],_⟩ (Weak.regs ⟨R,R,R,T⟩)<|zDg 2 O (List Mono×List Mono×List Tr×List E) (fun ⟨a,b,d,m⟩=>[(0,.c (.sl 2 (a.map Mono.cells))),(1,.c (.sl 2 (b.map Mono.cells)))]) (fun ⟨a,b,d,m⟩=>m) (fun ⟨a,b,d,m⟩=>a.length<=4294967296/\b.length<=4294967296/\bX a0 b0=d++bX a b/\J d m) (fun ⟨a,b,d,m⟩=>a.length+b.length) ⟨⟨a0,b0,[],μ⟩,⟨ha0,hb0,O,h0⟩,Weak.regs ⟨R,R,R,T⟩⟩ ?_
 rintro ⟨a,b,d,m⟩ ⟨hal,hbl,hm,hJ⟩
 refine zJ<|G O<|A O<|qB O N<|zW O (yC O O O)<|A O<|rL0 O (fun g0_3=>zO O O) O<|rL1 10 O (fun g0_3=>yJ O N O) O<|rL1 11 O (fun g0_3=>yC O O O) O<|r_or O (fun h=>(lzf h))<|Y<|zE O (fun c1=>?_) (fun c1=>?_)
 ·try simp only [sx] at c1
  refine zK<|zQ<|zQ<|zJ<|qU 20 mixed uC O O<|zN O O (zO O O)<|zN O O (yJ O N O)<|zN O O (yM O O O)<|zN O O (zO O O)<|qL [] O O O O B T (fun g3_3=>zO O O) O<|qL [(37,_)] O O O O B ⟨O,O,T⟩ (fun g3_3=>yJ O N O) O<|qL [(38,_)] O O O O B ⟨O,O,T⟩ (fun g3_3=>yC O O O) O<|qL [(39,_)] O O O O B ⟨O,O,T⟩ (fun g3_3=>zO O O) O<|qL [] O O O O gv2 T (fun g3_7=>zO O O) O<|qL [(41,_)] O O O O gv2 ⟨O,O,T⟩ (fun g3_7=>qE O N O O (by simp only [Lz,cond_true,cond_false,Bool.and_eq_true,Bool.or_eq_true,Bool.not_eq_true',Bool.not_eq_false',Bool.or_eq_false_iff,Bool.and_eq_false_iff,decide_eq_true_eq,decide_eq_false_iff_not,Bool.not_eq_true,Bool.not_eq_false] at g3_7;omega) (getm (zKn (by simp only [Lz,cond_true,cond_false,Bool.and_eq_true,Bool.or_eq_true,Bool.not_eq_true',Bool.not_eq_false',Bool.or_eq_false_iff,Bool.and_eq_false_iff,decide_eq_true_eq,decide_eq_false_iff_not,Bool.not_eq_true,Bool.not_eq_false] at g3_7;omega)))) O<|qL [(42,_)] O O O O gv2 ⟨O,O,T⟩ (fun g3_7=>qM O zAa O) O<|qL [(43,_)] O O O O gv2 ⟨O,O,T⟩ (fun g3_7=>zF O one9 O zZ O) O<|qL [] O O O O gv2 T (fun g3_7=>zO O O) O<|qL [(45,_)] O O O O gv2 ⟨O,O,T⟩ (fun g3_7=>qE O N O O (by simp only [Lz,cond_true,cond_false,Bool.and_eq_true,Bool.or_eq_true,Bool.not_eq_true',Bool.not_eq_false',Bool.or_eq_false_iff,Bool.and_eq_false_iff,decide_eq_true_eq,decide_eq_false_iff_not,Bool.not_eq_true,Bool.not_eq_false] at g3_7;omega) (getm (zKn (by simp only [Lz,cond_true,cond_false,Bool.and_eq_true,Bool.or_eq_true,Bool.not_eq_true',Bool.not_eq_false',Bool.or_eq_false_iff,Bool.and_eq_false_iff,decide_eq_true_eq,decide_eq_false_iff_not,Bool.not_eq_true,Bool.not_eq_false] at g3_7;omega)))) O<|qL [(46,_)] O O O O gv2 ⟨O,O,T⟩ (fun g3_7=>qM O zAa O) O<|qL [(47,_)] O O O O gv2 ⟨O,O,T⟩ (fun g3_7=>zF O one9 O zZ O) O<|qL [(44,_),(48,_)] O O O O gv2 ⟨O,O,O,O,T⟩ (fun g3_7=>det_slss O O O) O<|qL [(40,_)] O O O O B ⟨O,O,T⟩ (fun g3_3=>kZ O O O (fun h=>kC uB h) O) O<|zN O O (zAn O O O O (fun h=>(lzf h)))<|zN O O (qX O O)<|yP<|Y<|zE O (fun c2=>?_) (fun c2=>?_)
  ·have hL:=merge_left zA c2
   have hdec:(a.drop 1).length+(b).length<a.length+b.length:=by simp only [List.length_drop];omega
   have hm1:bX a0 b0=(d++[((hdM a).Name,(hdM a).By,0)])++bX (a.drop 1) (b):=by rw [hm,hL.2];simp
   refine zJ<|qU 9 mixed uC O O<|zN O O (zO O O)<|zN O O (zO O O)<|zN O O (qE O N O O zA (getm (zKn zA)))<|zN O O (qM O zAa O)<|zN O O (zF O one9 O zZ O)<|zN O O (zO O O)<|zN O O (qE O N O O zA (getm (zKn zA)))<|zN O O (qM O zCo O)<|zN O O (zF O U O zZ O)<|yP<|zV O O (zAb O O (hy d ((hdM a).Name,(hdM a).By,0) _ m (by rw [hm1,List.append_assoc];rfl) hJ) ⟨R,O,R,O,R,O,T⟩) ?_
   rintro _ m1 ⟨rfl,hJ1⟩
   refine Y<|zT O<|A O<|zW O (zCb (k:=1) O N O O zA)<|A O<|Y ?_
   exact n8
  ·have hb1:=mC2_b c2
   refine zJ<|qU 15 mixed uC O O<|zN O O (zO O O)<|zN O O (yJ O N O)<|zN O O (yM O O O)<|zN O O (zO O O)<|qL [] O O O O B T (fun g6_3=>zO O O) O<|qL [(69,_)] O O O O B ⟨O,O,T⟩ (fun g6_3=>qE O N O O (by simp only [Lz,cond_true,cond_false,Bool.and_eq_true,Bool.or_eq_true,Bool.not_eq_true',Bool.not_eq_false',Bool.or_eq_false_iff,Bool.and_eq_false_iff,decide_eq_true_eq,decide_eq_false_iff_not,Bool.not_eq_true,Bool.not_eq_false] at g6_3;omega) (getm (zKn (by simp only [Lz,cond_true,cond_false,Bool.and_eq_true,Bool.or_eq_true,Bool.not_eq_true',Bool.not_eq_false',Bool.or_eq_false_iff,Bool.and_eq_false_iff,decide_eq_true_eq,decide_eq_false_iff_not,Bool.not_eq_true,Bool.not_eq_false] at g6_3;omega)))) O<|qL [(70,_)] O O O O B ⟨O,O,T⟩ (fun g6_3=>qM O zAa O) O<|qL [(71,_)] O O O O B ⟨O,O,T⟩ (fun g6_3=>zF O one9 O zZ O) O<|qL [] O O O O B T (fun g6_3=>zO O O) O<|qL [(73,_)] O O O O B ⟨O,O,T⟩ (fun g6_3=>qE O N O O (by simp only [Lz,cond_true,cond_false,Bool.and_eq_true,Bool.or_eq_true,Bool.not_eq_true',Bool.not_eq_false',Bool.or_eq_false_iff,Bool.and_eq_false_iff,decide_eq_true_eq,decide_eq_false_iff_not,Bool.not_eq_true,Bool.not_eq_false] at g6_3;omega) (getm (zKn (by simp only [Lz,cond_true,cond_false,Bool.and_eq_true,Bool.or_eq_true,Bool.not_eq_true',Bool.not_eq_false',Bool.or_eq_false_iff,Bool.and_eq_false_iff,decide_eq_true_eq,decide_eq_false_iff_not,Bool.not_eq_true,Bool.not_eq_false] at g6_3;omega)))) O<|qL [(74,_)] O O O O B ⟨O,O,T⟩ (fun g6_3=>qM O zAa O) O<|qL [(75,_)] O O O O B ⟨O,O,T⟩ (fun g6_3=>zF O one9 O zZ O) O<|qL [(72,_),(76,_)] O O O O B ⟨O,O,O,O,T⟩ (fun g6_3=>det_slss O O O) O<|zN O O (zAn O O O O (fun h=>(lzf h)))<|zN O O (qX O O)<|yP<|Y<|zE O (fun c3=>?_) (fun c3=>?_)
   ·have hL:=merge_right zA c2 c3
    have hdec:(a).length+(b.drop 1).length<a.length+b.length:=by simp only [List.length_drop];omega
    have hm1:bX a0 b0=(d++[((hdM b).Name,0,(hdM b).By)])++bX (a) (b.drop 1):=by rw [hm,hL.2];simp
    refine zJ<|qU 9 mixed uC O O<|zN O O (zO O O)<|zN O O (zO O O)<|zN O O (qE O N O O zA (getm (zKn zA)))<|zN O O (qM O zAa O)<|zN O O (zF O one9 O zZ O)<|zN O O (zO O O)<|zN O O (qE O N O O zA (getm (zKn zA)))<|zN O O (qM O zCo O)<|zN O O (zF O U O zZ O)<|yP<|zV O O (zAb O O (hy d ((hdM b).Name,0,(hdM b).By) _ m (by rw [hm1,List.append_assoc];rfl) hJ) ⟨R,O,R,O,R,O,T⟩) ?_
    rintro _ m1 ⟨rfl,hJ1⟩
    refine Y<|zT O<|A O<|zW O (zCb (k:=1) O N O O zA)<|A O<|Y ?_
    exact n8
   ·have hL:=merge_both c2 c3
    have hdec:(a.drop 1).length+(b.drop 1).length<a.length+b.length:=by simp only [List.length_drop];omega
    have hm1:bX a0 b0=(d++[((hdM a).Name,(hdM a).By,(hdM b).By)])++bX (a.drop 1) (b.drop 1):=by rw [hm,hL.2.2];simp
    refine zJ<|qU 13 mixed uC O O<|zN O O (zO O O)<|zN O O (zO O O)<|zN O O (qE O N O O zA (getm (zKn zA)))<|zN O O (qM O zAa O)<|zN O O (zF O one9 O zZ O)<|zN O O (zO O O)<|zN O O (qE O N O O zA (getm (zKn zA)))<|zN O O (qM O zCo O)<|zN O O (zF O U O zZ O)<|zN O O (zO O O)<|zN O O (qE O N O O zA (getm (zKn zA)))<|zN O O (qM O zCo O)<|zN O O (zF O U O zZ O)<|yP<|zV O O (zAb O O (hy d ((hdM a).Name,(hdM a).By,(hdM b).By) _ m (by rw [hm1,List.append_assoc];rfl) hJ) ⟨R,O,R,O,R,O,T⟩) ?_
    rintro _ m1 ⟨rfl,hJ1⟩
    refine Y<|qU 6 mixed uC O O<|zN O O (zO O O)<|zN O O (zCb (k:=1) O N O O zA)<|zN O O (zO O O)<|zN O O (zCb (k:=1) O N O O zA)<|zN O O (qX O O)<|zN O O (qX O O)<|yP<|Y ?_
    exact n8
 ·try simp only [sx] at c1
  refine qN ?_
  repeat (first|refine zJm ?_|refine zHq ?_)
  refine zWk<|fin0 ?_
  exact ⟨O,by rw [hm,show a=[] from List.eq_nil_of_length_eq_zero zA,show b=[] from List.eq_nil_of_length_eq_zero zA,mergeL_nil,List.append_nil];exact hJ⟩
theorem lin_Add_1 (bo bl:Nat) (ok:Bool) (K:Int) (sv:Value) (d:List Tr) (t:Tr) (h1:r64 t.2.1) (h2:r64 t.2.2) (hd:d.length<=8589934592):
    Con cfg 56 [vS t.1,vI t.2.1,vI t.2.2,.c (.lit (.pointer (some ⟨bo,0,none⟩))),.c (.lit (.pointer (some ⟨bl,0,none⟩)))] [E.row bo 4 [cB (okF ok (d))],E.vec sv 109 2 ((nZ (d)).map Mono.cells),E.row bl 51 [cI K,.lit sv]] fun r μ'=>r=.tup []/\∃sv',μ'=[E.row bo 4 [cB (okF ok (d++[t]))],E.vec sv' 109 2 ((nZ (d++[t])).map Mono.cells),E.row bl 51 [cI K,.lit sv']]:=by
 refine zR Tryz.func56 O Tryz.ntmps56 Tryz.results56 O ?_
 intro z hz
 refine G O<|A O<|A O<|qD O ok54 (lin_plus t.2.1 t.2.2 h1 h2) ⟨R,O,R,O,T⟩<|qO O<|qR O<|qR O<|A O<|A O<|Y<|G O<|zI one4 (J 0 O) O<|A O<|rL0 O (fun g1_1=>zO O O) O<|yR O (fun h=>h)<|rStR 0 sz4 O<|Y<|G O<|A O<|yK O<|Y<|zE O (fun c1=>?_) (fun c1=>?_)
 ·try simp only [sx] at c1
  refine zT O<|zD O wK<|zI zBl (J 2 O) O<|A O<|A O<|qT O zJk pl109<|zW O (qZ O N zJk O O O O)<|zV O O (yN 1 O N O O O (by have:=zSo d;simp only [List.length_map,List.length_append,List.length_cons,List.length_nil];omega) (by have:=zSo d;simp only [List.length_map,List.length_append,List.length_cons,List.length_nil];omega)) ?_
  rintro _ _ ⟨sv1,rfl,rfl⟩
  refine zD O wK<|rStR 2 sz49 O<|Y ?_
  repeat (first|refine zJm ?_|refine zHq ?_)
  refine zWk<|fin0 ?_
  exact ⟨O,_,by rw [okF_next,sumW_next,if_neg (show ¬w64 (trV t)=0 from c1),List.map_append];rfl⟩
 ·try simp only [sx] at c1
  refine zK ?_
  repeat (first|refine zJm ?_|refine zHq ?_)
  refine zWk<|fin0 ?_
  exact ⟨O,_,by rw [okF_next,sumW_next,if_pos (show w64 (trV t)=0 from c1),List.append_nil];rfl⟩
theorem lin_Add (a b:Lf) (ha:a.L.length<=4294967296) (hb:b.L.length<=4294967296) (hra:a.rng) (hrb:b.rng):
    Pur cfg 21 [dF a,dF b] (.tup [dF (fX a b).1,vI (fX a b).2]):=by
 refine zR Tryz.func21 O Tryz.ntmps21 Tryz.results21 O ?_
 intro z hz
 refine G O<|zV O O (qJ O O) ?_
 rintro _ _ ⟨b1,rfl,rfl⟩
 refine zV O O (qJ O O) ?_
 rintro _ _ ⟨b2,rfl,rfl⟩
 refine zV O O (qH [none,some 2] O zr51 O) ?_
 rintro _ _ ⟨b3,rfl,rfl⟩
 refine A O<|Y<|zJ<|G O<|zM kP (J 2 O) O<|qD O ok51 (zDf a zA) ⟨R,O,T⟩<|yK O<|A O<|rL0 O (fun g1_3=>zU O kP O (J 1 O) O) O<|rL1 12 O (fun g1_3=>qG O ok51 (zDf b zA) ⟨R,O,T⟩) O<|rL1 13 O (fun g1_3=>kA O O O) O<|r_or O (fun h=>(lzf h))<|Y<|zE O (fun c1=>?_) (fun c1=>?_)
 ·try simp only [sx] at c1
  refine G O<|yF [none,some 2] O zr51 pl51<|rStR 0 sz51 O<|A O<|Y<|zH<|fin2 (zP kP O (J 0 O) O) (rs_c O) ?_
  rw [add_c1 c1];rfl
 ·try simp only [sx] at c1
  have hla:=zQl c1.1
  have hlb:=zQl c1.2
  refine zK<|G O<|zV O O (qV O zr51) ?_
  rintro _ _ ⟨b4,rfl,rfl⟩
  refine yS _ (wC 109 2)<|Y<|G O<|zV O O (qV O zr4) ?_
  rintro _ _ ⟨b6,rfl,rfl⟩
  refine Y<|G O<|zD O zEv<|zI U (J 5 O) O<|zD O zEv<|zI U (J 4 O) O<|qD O ok54 (lin_plus a.K b.K hra.1 hrb.1) ⟨R,O,R,O,T⟩<|qO O<|qR O<|qR O<|zD O zEv<|rStR 2 sz2 O<|rStR 0 sz4 O<|Y<|G O<|zD O wK<|zI zBl (J 5 O) O<|zD O wK<|zI zBl (J 4 O) O<|zW O (zEk O O O O O)<|zV O O (zBe O ok55 (Con.frame (merge_con a.L b.L ha hb _ (fun d m=>∃sv,m=[E.row b6 4 [cB (okF (decide (r64 (a.K+b.K))) (d))],E.vec sv 109 2 ((nZ (d)).map Mono.cells),E.row b4 51 [cI (w64 (a.K+b.K)),.lit sv]]) _ (fun d t s m he hj=>by obtain ⟨sv,rfl⟩:=hj;obtain ⟨k1,k2,k3⟩:=merge_rng hra.2 hrb.2 he;exact FnCon.of_con (first:=[]) (cap:=[.lit (.pointer (some ⟨b6,0,none⟩)),.lit (.pointer (some ⟨b4,0,none⟩))]) ok56 (lin_Add_1 b6 b4 (decide (r64 (a.K+b.K))) (w64 (a.K+b.K)) sv d t k1 k2 zA)) ⟨_,O⟩) _) ⟨R,O,R,O,R,O,T⟩) ?_
  rintro _ _ ⟨_,⟨rfl,sv7,rfl⟩,rfl⟩
  refine Y<|zJ<|G O<|zI one4 (J 0 O) O<|kN O<|Y<|zE O (fun c2=>?_) (fun c2=>?_)
  ·try simp only [sx] at c2
   refine G O<|yF [none,some 2] O zr51 pl51<|rStR 3 sz51 O<|A O<|Y<|zH<|fin2 (zP kP O (J 3 O) O) (rs_c O) ?_
   rw [add_no hla hlb c2];rfl
  ·try simp only [sx] at c2
   refine zK<|G O<|zM kP (J 2 O) O<|rStR 3 sz51 O<|A O<|Y<|zY _ (yT 1 O (regs':=[(35,.agg [_,_])]) (μ':=[_,_,_,_,_]) ⟨FLe.agg ⟨.inl O,.inr ⟨O,O⟩,T⟩,T⟩ ⟨EFle.refl _,EFle.row (ds:=[_,_]) ⟨.inl O,.inr ⟨O,O⟩,T⟩,EFle.row (ds:=[_,_]) ⟨.inl O,.inr ⟨O,O⟩,T⟩,EFle.refl _,EFle.refl _,T⟩)<|zH<|fin2 (zP kP O (J 2 O) O) (rs_c O) ?_
   rw [add_ok hla hlb c2];rfl
theorem lin_Substitute (l:Lf) (s:ByteArray) (u:Lf) (hl:l.L.length<=4294967296) (ht:u.L.length<=4294967296) (hrl:l.rng) (hrt:u.rng):
    Pur cfg 59 [dF l,vS s,dF u] (.tup [dF (mX l s u).1,vI (mX l s u).2]):=by
 refine zR Tryz.func59 O Tryz.ntmps59 Tryz.results59 O ?_
 intro z hz
 obtain ⟨hs1,hs2⟩:=zNp u (dR l.L s)
 obtain ⟨hr1,hr2⟩:=rest_rng hrl s
 refine G O<|zV O O (qJ O O) ?_
 rintro _ _ ⟨b1,rfl,rfl⟩
 refine zV O O (qJ O O) ?_
 rintro _ _ ⟨b2,rfl,rfl⟩
 refine zV O O (qH [none,some 2] O zr51 O) ?_
 rintro _ _ ⟨b3,rfl,rfl⟩
 refine A O<|Y<|zJ<|G O<|zM kP (J 2 O) O<|qD O ok51 (zDf l zA) ⟨R,O,T⟩<|yK O<|A O<|rL0 O (fun g1_3=>zO O O) O<|rL1 18 O (fun g1_3=>qG O ok53 (zGx s) ⟨R,O,T⟩) O<|rL1 19 O (fun g1_3=>kJ O O) O<|r_or O (fun h=>(lzf h))<|A O<|rL0 O (fun g1_8=>zU O kP O (J 1 O) O) O<|rL1 23 O (fun g1_8=>qG O ok51 (zDf u zA) ⟨R,O,T⟩) O<|rL1 24 O (fun g1_8=>kA O O O) O<|r_or O (fun h=>(lzf h))<|Y<|zE O (fun c1=>?_) (fun c1=>?_)
 ·try simp only [sx] at c1
  refine G O<|yF [none,some 2] O zr51 pl51<|rStR 0 sz51 O<|A O<|Y<|zH<|fin2 (zP kP O (J 0 O) O) (rs_c O) ?_
  rw [subst_c1 c1];rfl
 ·try simp only [sx] at c1
  refine zK<|G O<|zD O zEv<|zI U (J 2 O) O<|qT O zr51 pl51<|zV O O (qV O zr51) ?_
  rintro _ _ ⟨b4,rfl,rfl⟩
  refine yS _ (wC 109 2)<|rStR 1 sz51 O<|Y<|G O<|A O<|Y<|zJ<|G O<|zD O wK<|zI zBl (J 4 O) O<|qB O N<|A O<|Y<|zQ<|zY ⟨[(34,.c _),(9,.c _),(1,.c _),(5,.c _),(6,.c _),(8,.c _),(32,.c _),(33,.c _)],[_,_,_,_]⟩ (Weak.mk [true,true,true,true,false] ⟨R,R,R,R,R,R,R,R,T⟩ O)<|qK 2 2 O O (Nat×Value) (fun ⟨k,sv⟩=>[(34,vI k),(9,vI (dR (l.L.take k) s))]) (fun ⟨k,sv⟩=>[E.vec sv 109 2 (((l.L.take k).filter (fun m=> !decide (m.Name=s))).map Mono.cells),E.row b4 51 [cI l.K,.lit sv]]) (fun ⟨k,sv⟩=>k<=l.L.length) (fun ⟨k,sv⟩=>l.L.length-k) ⟨⟨0,_⟩,zA,Weak.mk [true,true,true,true] ⟨R,VLe.of_eq (O),R,R,R,R,R,R,T⟩ O⟩ ?_
  rintro ⟨k,sv⟩ hk
  show AWP _ _ _ _ _ ⟨[(34,vI k),(9,vI (dR (l.L.take k) s))]++_,[E.vec sv 109 2 (((l.L.take k).filter (fun m=> !decide (m.Name=s))).map Mono.cells),E.row b4 51 [cI l.K,.lit sv]]++_⟩
  refine G O<|yG O<|Y<|zJ<|zE O (fun c2=>?_) (fun c2=>?_)
  ·try simp only [sx] at c2
   obtain ⟨x,hx⟩:=qY l.L k zA
   refine zK<|zJ<|zQ<|G O<|qC O N zA (getm uB)<|zM zHt zZ O<|zV O O (qV O zJk) ?_
   rintro _ _ ⟨b6,rfl,rfl⟩
   refine rStR 0 sz109 O<|Y<|zJ<|G O<|zD O zAa<|zI one9 (J 0 O) O<|A O<|wL O<|Y<|zE O (fun c3=>?_) (fun c3=>?_)
   ·try simp only [sx] at c3
    refine G O<|zD O zCo<|zI U (J 0 O) O<|A O<|Y<|qN<|zT O<|qI O ⟨zA,zA⟩<|A O<|Y ?_
    exact m5
   ·try simp only [sx] at c3
    refine zK<|zT O<|zD O wK<|zI zBl (J 2 O) O<|zM zHt (J 0 O) O<|zW O (qZ O N zJk O O O O)<|zV O O (yN 1 O N O O O (by have:=List.length_filter_le (fun m:Mono=> !decide (m.Name=s)) (l.L.take k);simp only [List.length_map,List.length_append,List.length_cons,List.length_nil,List.length_take] at *;omega) (by have:=List.length_filter_le (fun m:Mono=> !decide (m.Name=s)) (l.L.take k);simp only [List.length_map,List.length_append,List.length_cons,List.length_nil,List.length_take] at *;omega)) ?_
    rintro _ _ ⟨sv7,rfl,rfl⟩
    refine zD O wK<|rStR 2 sz49 O<|Y<|zT O<|qI O ⟨zA,zA⟩<|A O<|Y ?_
    exact m5
  ·try simp only [sx] at c2
   rw [yV (l:=l.L) (k:=k) zA]
   refine qN<|G O<|zM kP (J 3 O) O<|A O<|qD O ok19 (zVx u (dR l.L s) ht hrt (last_rng hrl s)) ⟨R,O,R,O,T⟩<|qO O<|yH O<|qR O<|zV O O (qH [none,some 2] O zr51 O) ?_
   rintro _ _ ⟨b8,rfl,rfl⟩
   refine rStR 0 sz51 O<|A O<|Y<|zJ<|G O<|A O<|yK O<|Y<|zE O (fun c4=>?_) (fun c4=>?_)
   ·try simp only [sx] at c4
    refine G O<|yF [none,some 2] O zr51 pl51<|A O<|rStR 3 sz51 O<|A O<|Y<|zH<|fin2 (zP kP O (J 3 O) O) (rs_c O) ?_
    rw [subst_c4 c1 c4];rfl
   ·try simp only [sx] at c4
    refine zY _ (yT 1 O (regs':=[]) (μ':=[_,_,_,_]) T ⟨EFle.refl _,EFle.row (ds:=[_,_]) ⟨.inl O,.inr ⟨O,O⟩,T⟩,EFle.refl _,EFle.refl _,T⟩)<|zK<|G O<|zM kP (J 1 O) O<|zM kP (J 0 O) O<|qD O ok21 (lin_Add (nU l s) (bF u (dR l.L s)).1 zA zA hr1 hs1) ⟨R,O,R,O,T⟩<|yH O<|qR O<|rStR 2 sz51 O<|A O<|Y<|zH<|fin2 (zP kP O (J 2 O) O) (rs_c O) ?_
    rw [subst_ok c1 c4];rfl
end Go.W
end
section
set_option maxRecDepth 10000
namespace Go.W
open Go Go.Eng Go.Proofs Go.L41 Go.Br
attribute [local irreducible] AWP RWP TD fH
end Go.W
end
section
set_option maxRecDepth 10000
namespace Go.W
open Go Go.Eng Go.Proofs Go.L41 Go.Br
attribute [local irreducible] AWP RWP TD fH
end Go.W
end
section
set_option maxRecDepth 10000
namespace Go.W
open Go Go.Eng Go.Proofs Go.L41 Go.Br
attribute [local irreducible] AWP RWP TD fH
end Go.W
end
section
set_option maxRecDepth 10000
namespace Go.W
open Go Go.Eng Go.Proofs Go.L41 Go.Br
attribute [local irreducible] AWP RWP TD fH
theorem ok140:bA Tryz.prog 140=true:=by kernel_rfl
theorem ref14_All_step (e:Ex) (ih:∀a,a∈e.Args->a.wt<=2000000->OwnR cfg 140 [vE a] 54 13 ((bW a).map Ex.cells)) (he:e.wt<=2000000):
    OwnR cfg 140 [vE e] 54 13 ((bW e).map Ex.cells):=by
 refine zR Tryz.func140 O Tryz.ntmps140 Tryz.results140 O ?_
 intro z hz
 obtain ⟨hL,hI,hA⟩:=e.parts he
 have hn:=nodes_wt e
 refine G O<|zV O O (qJ O O) ?_
 rintro _ _ ⟨b1,rfl,rfl⟩
 refine yI 13 O<|Y<|G O<|zM yX (J 0 O) O<|zV O O (zDd O el52 zr54 O O O O) ?_
 rintro _ _ ⟨sv2,rfl,rfl⟩
 refine A O<|Y<|zJ<|G O<|A O<|Y<|zQ<|zY ⟨[(4,.c _),(3,.c _),(1,.c _)],[_,_]⟩ (Weak.mk [true,true] ⟨R,R,R,T⟩ O)<|qK 2 1 O O (Nat×Value) (fun ⟨k,sv⟩=>[(4,vI k),(3,.c (.lit sv))]) (fun ⟨k,sv⟩=>[E.vec sv 54 13 ((e::bO (e.Args.take k)).map Ex.cells)]) (fun ⟨k,sv⟩=>k<=e.Args.length) (fun ⟨k,sv⟩=>e.Args.length-k) ⟨⟨0,_⟩,zA,Weak.mk [true,true] ⟨R,R,R,T⟩ (by exact zFz (by simp [bO,Ex.cells_eq];rfl))⟩ ?_
 rintro ⟨k,sv⟩ hk
 show AWP _ _ _ _ _ ⟨[(4,vI k),(3,.c (.lit sv))]++_,[E.vec sv 54 13 ((e::bO (e.Args.take k)).map Ex.cells)]++_⟩
 refine zJ<|G O<|A O<|zD O wA<|zI zAo (J 1 O) O<|qB O el52<|yG O<|Y<|zE O (fun c1=>?_) (fun c1=>?_)
 ·try simp only [sx] at c1
  obtain ⟨x,hx⟩:=qY e.Args k zA
  have hn1:=nodes_take hx
  refine zK<|zJ<|zQ<|zT O<|A O<|zD O wA<|zI zAo (J 1 O) O<|A O<|qC O el52 zA (zCn uB)<|zM yX zZ O<|qD O ok140 (OwnR.pur (ih x (qA hx) (by have:=Ex.arg_wt (qA hx);omega))) ⟨R,O,T⟩<|zV O O (yN 0 O el52 O O O uA uA) ?_
  rintro _ _ ⟨sv3,rfl,rfl⟩
  refine A O<|Y<|zT O<|A O<|qI O ⟨zA,zA⟩<|A O<|Y ?_
  refine ⟨⟨k+1,sv3⟩,zA,(by show e.Args.length-(k+1)<e.Args.length-k;omega),Weak.mk [true,true] ⟨R,R,R,T⟩ (by exact zFz (by rw [zVo hx,←List.cons_append,List.map_append]))⟩
 ·try simp only [sx] at c1
  refine qN<|G O<|A O<|A O<|Y<|zY _ (Weak.mem [true,false] O)<|zH<|zS O ?_
  exact ⟨_,O,by rw [yV zA,←kT];rfl⟩
theorem ref14_All (e:Ex) (he:e.wt<=2000000):OwnR cfg 140 [vE e] 54 13 ((bW e).map Ex.cells):=by
  induction e using Ex.ind with
  |_ e ih=>exact ref14_All_step e ih he
end Go.W
end
