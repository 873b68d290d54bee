/-
  What functions compute.
  And what the laws need besides.
  Conditions: none.
-/
import Derived.Test.YthgichbbgocmoaaGreatDoorGW
import Derived.Test.YthgichbbgocmoaaGreatDoorPlain
import Derived.Test.YthgichbbgocmoaaGreatDoorEngZ
import Derived.Test.YthgichbbgocmoaaGreatDoorPlain2
set_option linter.unusedSimpArgs false
set_option linter.unusedVariables false
set_option linter.defProp false
section
set_option maxRecDepth 10000
namespace Go.W
open Go Go.Eng Go.Proofs Go.L41 Go.Br Tryz
attribute [local irreducible] AWP RWP TD fK
def el38:fB prog 38=some (3,1,8):=by kernel_rfl
def zRa (a:Int):
    Pur cfg 253 [vI a] (vB false):=by
 refine zR func253 O ntmps253 results253 O fun z hz=>ml O O<|mo O O<|A O<|yL O<|mm O<|zF<|zS O ?_
 exact ag vB uD
def wQ (a b:Int):
    Pur cfg 229 [vI a,vI b] (vI (lJ a b)):=by
 refine zR func229 O ntmps229 results229 O fun z hz=>ml O O<|mo O O<|qD O uB (zRa a) (vlr O)<|mm O<|mo O O<|qD O uB (zRa b) (vlr O)<|mm O<|zG<|ml O O<|zK O (fun c1=>?_) (fun c1=>?_)
 ·exact absurd c1 zB
 ·exact o7
def zRb (a:Int):
    Pur cfg 255 [vI a] (vB false):=by
 refine zR func255 O ntmps255 results255 O fun z hz=>ml O O<|mo O O<|A O<|yL O<|mm O<|zF<|zS O ?_
 exact ag vB uD
def zMi (a b:Int):
    Pur cfg 231 [vI a,vI b] (vI (lJ a b)):=by
 refine zR func231 O ntmps231 results231 O fun z hz=>ml O O<|mo O O<|qD O uB (zRb a) (vlr O)<|mm O<|mo O O<|qD O uB (zRb b) (vlr O)<|mm O<|zG<|ml O O<|zK O (fun c1=>?_) (fun c1=>?_)
 ·exact absurd c1 zB
 ·exact o7
def cmp_Or_int (l:List Int) (hl:l.length<=4294967296):
    Pur cfg 228 [.c (.sl 1 (l.map fun n=>[cI n]))] (vI (orI l)):=by
 refine zR func228 O ntmps228 results228 O fun z hz=>ml O O<|ml O O<|zG<|mo O O<|qB O el38<|mm O<|zQ<|zY ⟨[(8,.c _),(3,.c _),(6,.c _),(7,.c _)],[]⟩ (Weak.mk [] ⟨zJ,zJ,zJ,zJ,T⟩ O)<|qL 1 0 O O (Nat) (fun k=>[(8,vI k)]) (fun k=>[]) (fun k=>k<=l.length/\(orI l=orI (l.drop k))) (fun k=>l.length-k) ⟨0,⟨zA,O⟩,Weak.mk [] ⟨zJ,zJ,zJ,zJ,T⟩ O⟩ ?_
 rintro k ⟨hk,hp⟩
 refine G O<|yI O<|Y<|zG<|zK O ?_ ?_<;>intro c1<;>try simp only [sx] at c1
 ·obtain ⟨x,hx⟩:=qZ l k zA
  refine zI<|zG<|zQ<|G O<|qC O el38 zA (getm uA)<|zH one3 zZ O<|mm O<|mo O O<|A O<|yL O<|Y<|zK O ?_ ?_<;>intro c2<;>try simp only [sx] at c2
  ·refine mo O O<|mm O<|zF<|zS O ?_
   rw [hp,orI_at hx c2]
  ·refine zI<|zT O<|qI O ⟨zA,zA⟩<|A O<|Y ?_
   refine ⟨k+1,⟨zA,hp.trans (orI_next hx c2)⟩,zA,Weak.mk [] ⟨zJ,zJ,zJ,zJ,T⟩ O⟩
 ·refine qO<|mo O O<|mm O<|zF<|zS O ?_
  rw [hp,kL zA];rfl
def zJh (a b:List Mono) (c:C) (f:Mono->Mono->Int) (ha:a.length<=4294967296) (hb:b.length<=4294967296) (hc:∀x,x∈a->∀y,y∈b->FnPur cfg c [tB x,tB y] (vI (f x y))):
    Pur cfg 256 [.c (.sl 2 (a.map Mono.cells)),.c (.sl 2 (b.map Mono.cells)),.c c] (vI (lL f a b)):=by
 refine zR func256 O ntmps256 results256 O fun z hz=>ml O O<|zG<|mo O O<|qB O N<|mm O<|zQ<|zY ⟨[(13,.c _),(0,.c _),(1,.c _),(2,.c _),(11,.c _),(12,.c _)],[]⟩ (Weak.mk [] ⟨zJ,zJ,zJ,zJ,zJ,zJ,T⟩ O)<|qL 1 0 O O (Nat) (fun k=>[(13,vI k)]) (fun k=>[]) (fun k=>k<=a.length/\(lL f a b=lL f (a.drop k) (b.drop k))/\(k<=b.length)) (fun k=>a.length-k) ⟨0,⟨zA,O,zA⟩,Weak.mk [] ⟨zJ,zJ,zJ,zJ,zJ,zJ,T⟩ O⟩ ?_
 rintro k ⟨hk,hp,hq⟩
 refine G O<|yI O<|Y<|zG<|zK O ?_ ?_<;>intro c1<;>try simp only [sx] at c1
 ·obtain ⟨x,hx⟩:=qZ a k zA
  refine zI<|zG<|zQ<|mo O O<|qC O N zA (getm uA)<|zM zIy zZ O<|zV O O (qW O zKr) ?_
  rintro _ _ ⟨b1,rfl,rfl⟩
  refine A O<|rStR 0 sz109 O<|Y<|zG<|mo O O<|A O<|qB O N<|zW O (wH O O O)<|Y<|zK O (fun c2=>?_) (fun c2=>?_)
  ·exact v25
  ·try simp only [sx] at c2
   obtain ⟨y,hy⟩:=qZ b k zA
   refine zI<|mo O O<|A O<|qC O N zA (getm uA)<|zM zIy zZ O<|zV O O (qW O zKr) ?_
   rintro _ _ ⟨b2,rfl,rfl⟩
   refine rStR 0 sz109 O<|Y<|mo O O<|zM zIy (J 1 O) O<|zM zIy (J 0 O) O<|zW O (kU O O (hc _ (qA hx) _ (qA hy)) (vlr O))<|mm O<|mo O O<|yL O<|Y<|zK O (fun c3=>?_) (fun c3=>?_)
   ·exact v20
   ·exact o5
 ·refine qO<|zG<|mo O O<|qB O N<|A O<|qB O N<|yI O<|Y<|zK O (fun c4=>?_) (fun c4=>?_)
  ·exact v16
  ·exact v14
def zLb (a b:List Ix) (c:C) (f:Ix->Ix->Int) (ha:a.length<=4294967296) (hb:b.length<=4294967296) (hc:∀x,x∈a->∀y,y∈b->FnPur cfg c [lT x,lT y] (vI (f x y))):
    Pur cfg 259 [.c (.sl 4 (a.map Ix.cells)),.c (.sl 4 (b.map Ix.cells)),.c c] (vI (lL f a b)):=by
 refine zR func259 O ntmps259 results259 O fun z hz=>ml O O<|zG<|mo O O<|qB O v<|mm O<|zQ<|zY ⟨[(13,.c _),(0,.c _),(1,.c _),(2,.c _),(11,.c _),(12,.c _)],[]⟩ (Weak.mk [] ⟨zJ,zJ,zJ,zJ,zJ,zJ,T⟩ O)<|qL 1 0 O O (Nat) (fun k=>[(13,vI k)]) (fun k=>[]) (fun k=>k<=a.length/\(lL f a b=lL f (a.drop k) (b.drop k))/\(k<=b.length)) (fun k=>a.length-k) ⟨0,⟨zA,O,zA⟩,Weak.mk [] ⟨zJ,zJ,zJ,zJ,zJ,zJ,T⟩ O⟩ ?_
 rintro k ⟨hk,hp,hq⟩
 refine G O<|yI O<|Y<|zG<|zK O ?_ ?_<;>intro c1<;>try simp only [sx] at c1
 ·obtain ⟨x,hx⟩:=qZ a k zA
  refine zI<|zG<|zQ<|mo O O<|qC O v zA (getm uA)<|zM zRn zZ O<|zV O O (qH md O zr92 O) ?_
  rintro _ _ ⟨b1,rfl,rfl⟩
  refine A O<|rStR 0 sz92 O<|Y<|zG<|mo O O<|A O<|qB O v<|zW O (wH O O O)<|Y<|zK O (fun c2=>?_) (fun c2=>?_)
  ·exact v25
  ·try simp only [sx] at c2
   obtain ⟨y,hy⟩:=qZ b k zA
   refine zI<|mo O O<|A O<|qC O v zA (getm uA)<|zM zRn zZ O<|zV O O (qH md O zr92 O) ?_
   rintro _ _ ⟨b2,rfl,rfl⟩
   refine rStR 0 sz92 O<|Y<|mo O O<|zM zRn (J 1 O) O<|zM zRn (J 0 O) O<|zW O (kU O O (hc _ (qA hx) _ (qA hy)) (vlr O))<|mm O<|mo O O<|yL O<|Y<|zK O (fun c3=>?_) (fun c3=>?_)
   ·exact v20
   ·exact o5
 ·refine qO<|zG<|mo O O<|qB O v<|A O<|qB O v<|yI O<|Y<|zK O (fun c4=>?_) (fun c4=>?_)
  ·exact v16
  ·exact v14
def zLa (a b:List Lf) (c:C) (f:Lf->Lf->Int) (ha:a.length<=4294967296) (hb:b.length<=4294967296) (hc:∀x,x∈a->∀y,y∈b->FnPur cfg c [dK x,dK y] (vI (f x y))):
    Pur cfg 270 [.c (.sl 2 (a.map Lf.cells)),.c (.sl 2 (b.map Lf.cells)),.c c] (vI (lL f a b)):=by
 refine zR func270 O ntmps270 results270 O fun z hz=>ml O O<|zG<|mo O O<|qB O el90<|mm O<|zQ<|zY ⟨[(13,.c _),(0,.c _),(1,.c _),(2,.c _),(11,.c _),(12,.c _)],[]⟩ (Weak.mk [] ⟨zJ,zJ,zJ,zJ,zJ,zJ,T⟩ O)<|qL 1 0 O O (Nat) (fun k=>[(13,vI k)]) (fun k=>[]) (fun k=>k<=a.length/\(lL f a b=lL f (a.drop k) (b.drop k))/\(k<=b.length)) (fun k=>a.length-k) ⟨0,⟨zA,O,zA⟩,Weak.mk [] ⟨zJ,zJ,zJ,zJ,zJ,zJ,T⟩ O⟩ ?_
 rintro k ⟨hk,hp,hq⟩
 refine G O<|yI O<|Y<|zG<|zK O ?_ ?_<;>intro c1<;>try simp only [sx] at c1
 ·obtain ⟨x,hx⟩:=qZ a k zA
  refine zI<|zG<|zQ<|mo O O<|qC O el90 zA (getm uA)<|zM kQ zZ O<|zV O O (qH [none,some 2] O zr51 O) ?_
  rintro _ _ ⟨b1,rfl,rfl⟩
  refine A O<|rStR 0 sz51 O<|Y<|zG<|mo O O<|A O<|qB O el90<|zW O (wH O O O)<|Y<|zK O (fun c2=>?_) (fun c2=>?_)
  ·exact v25
  ·try simp only [sx] at c2
   obtain ⟨y,hy⟩:=qZ b k zA
   refine zI<|mo O O<|A O<|qC O el90 zA (getm uA)<|zM kQ zZ O<|zV O O (qH [none,some 2] O zr51 O) ?_
   rintro _ _ ⟨b2,rfl,rfl⟩
   refine rStR 0 sz51 O<|Y<|mo O O<|zM kQ (J 1 O) O<|zM kQ (J 0 O) O<|zW O (kU O O (hc _ (qA hx) _ (qA hy)) (vlr O))<|mm O<|mo O O<|yL O<|Y<|zK O (fun c3=>?_) (fun c3=>?_)
   ·exact v20
   ·exact o5
 ·refine qO<|zG<|mo O O<|qB O el90<|A O<|qB O el90<|yI O<|Y<|zK O (fun c4=>?_) (fun c4=>?_)
  ·exact v16
  ·exact v14
def zLc (a b:List Ex) (c:C) (f:Ex->Ex->Int) (ha:a.length<=4294967296) (hb:b.length<=4294967296) (hc:∀x,x∈a->∀y,y∈b->FnPur cfg c [vE x,vE y] (vI (f x y))):
    Pur cfg 261 [.c (.sl 13 (a.map Ex.cells)),.c (.sl 13 (b.map Ex.cells)),.c c] (vI (lL f a b)):=by
 refine zR func261 O ntmps261 results261 O fun z hz=>ml O O<|zG<|mo O O<|qB O el52<|mm O<|zQ<|zY ⟨[(13,.c _),(0,.c _),(1,.c _),(2,.c _),(11,.c _),(12,.c _)],[]⟩ (Weak.mk [] ⟨zJ,zJ,zJ,zJ,zJ,zJ,T⟩ O)<|qL 1 0 O O (Nat) (fun k=>[(13,vI k)]) (fun k=>[]) (fun k=>k<=a.length/\(lL f a b=lL f (a.drop k) (b.drop k))/\(k<=b.length)) (fun k=>a.length-k) ⟨0,⟨zA,O,zA⟩,Weak.mk [] ⟨zJ,zJ,zJ,zJ,zJ,zJ,T⟩ O⟩ ?_
 rintro k ⟨hk,hp,hq⟩
 refine G O<|yI O<|Y<|zG<|zK O ?_ ?_<;>intro c1<;>try simp only [sx] at c1
 ·obtain ⟨x,hx⟩:=qZ a k zA
  refine zI<|zG<|zQ<|mo O O<|qC O el52 zA (zCy uA)<|zM yY zZ O<|zV O O (qH lx O zr54 O) ?_
  rintro _ _ ⟨b1,rfl,rfl⟩
  refine A O<|rStR 0 sz54 O<|Y<|zG<|mo O O<|A O<|qB O el52<|zW O (wH O O O)<|Y<|zK O (fun c2=>?_) (fun c2=>?_)
  ·exact v25
  ·try simp only [sx] at c2
   obtain ⟨y,hy⟩:=qZ b k zA
   refine zI<|mo O O<|A O<|qC O el52 zA (zCy uA)<|zM yY zZ O<|zV O O (qH lx O zr54 O) ?_
   rintro _ _ ⟨b2,rfl,rfl⟩
   refine rStR 0 sz54 O<|Y<|mo O O<|zM yY (J 1 O) O<|zM yY (J 0 O) O<|zW O (kU O O (hc _ (qA hx) _ (qA hy)) (vlr O))<|mm O<|mo O O<|yL O<|Y<|zK O (fun c3=>?_) (fun c3=>?_)
   ·exact v20
   ·exact o5
 ·refine qO<|zG<|mo O O<|qB O el52<|A O<|qB O el52<|yI O<|Y<|zK O (fun c4=>?_) (fun c4=>?_)
  ·exact v16
  ·exact v14
def zZk (a b:List Ix) (c:C) (f:Ix->Ix->Int) (ha:a.length<=4294967296) (hb:b.length<=4294967296) (hc:∀x,x∈a->∀y,y∈b->FnPur cfg c [lT x,lT y] (vI (f x y))):
    Pur cfg 234 [.c (.sl 4 (a.map Ix.cells)),.c (.sl 4 (b.map Ix.cells)),.c c] (vI (mC f a b)):=by
 refine zR func234 O ntmps234 results234 O fun z hz=>ml O O<|zG<|mo O O<|qB O v<|A O<|qB O v<|qD O uB (wQ _ _) (vlr O)<|mm O<|mo O O<|yL O<|Y<|zK O ?_ ?_<;>intro c1<;>try simp only [sx] at c1
 ·refine mo O O<|mm O<|zF<|zS O ?_
  rw [mC,aa c1]
 ·refine zI<|mo O O<|A O<|A O<|qD O uB (zLb a b c f ha hb hc) (vlr O)<|mm O<|zF<|zS O ?_
  rw [mC,ab c1]
def zZj (a b:List Lf) (c:C) (f:Lf->Lf->Int) (ha:a.length<=4294967296) (hb:b.length<=4294967296) (hc:∀x,x∈a->∀y,y∈b->FnPur cfg c [dK x,dK y] (vI (f x y))):
    Pur cfg 260 [.c (.sl 2 (a.map Lf.cells)),.c (.sl 2 (b.map Lf.cells)),.c c] (vI (mC f a b)):=by
 refine zR func260 O ntmps260 results260 O fun z hz=>ml O O<|zG<|mo O O<|qB O el90<|A O<|qB O el90<|qD O uB (wQ _ _) (vlr O)<|mm O<|mo O O<|yL O<|Y<|zK O ?_ ?_<;>intro c1<;>try simp only [sx] at c1
 ·refine mo O O<|mm O<|zF<|zS O ?_
  rw [mC,aa c1]
 ·refine zI<|mo O O<|A O<|A O<|qD O uB (zLa a b c f ha hb hc) (vlr O)<|mm O<|zF<|zS O ?_
  rw [mC,ab c1]
def zZl (a b:List Ex) (c:C) (f:Ex->Ex->Int) (ha:a.length<=4294967296) (hb:b.length<=4294967296) (hc:∀x,x∈a->∀y,y∈b->FnPur cfg c [vE x,vE y] (vI (f x y))):
    Pur cfg 236 [.c (.sl 13 (a.map Ex.cells)),.c (.sl 13 (b.map Ex.cells)),.c c] (vI (mC f a b)):=by
 refine zR func236 O ntmps236 results236 O fun z hz=>ml O O<|zG<|mo O O<|qB O el52<|A O<|qB O el52<|qD O uB (wQ _ _) (vlr O)<|mm O<|mo O O<|yL O<|Y<|zK O ?_ ?_<;>intro c1<;>try simp only [sx] at c1
 ·refine mo O O<|mm O<|zF<|zS O ?_
  rw [mC,aa c1]
 ·refine zI<|mo O O<|A O<|A O<|qD O uB (zLc a b c f ha hb hc) (vlr O)<|mm O<|zF<|zS O ?_
  rw [mC,ab c1]
def lin_order (a b:Int):
    Pur cfg 258 [vI a,vI b] (vI (lJ a b)):=by
 refine zR func258 O ntmps258 results258 O fun z hz=>ml O O<|zG<|zQ<|mo O O<|A O<|yI O<|mm O<|zK O ?_ ?_<;>intro c1<;>try simp only [sx] at c1
 ·refine ml O O<|zF<|zS O ?_
  rw [cmpI_lt c1]
 ·refine mo O O<|A O<|zW O (yD O O O)<|mm O<|zK O ?_ ?_<;>intro c2<;>try simp only [sx] at c2
  ·refine ml O O<|zF<|zS O ?_
   rw [cmpI_gt c2]
  ·refine zI<|ml O O<|zF<|zS O ?_
   rw [cmpI_eq zA zA]
def lin_Compare_1 (x y:Mono):
    Pur cfg 257 [tB x,tB y] (vI (tZ x y)):=by
 refine zR func257 O ntmps257 results257 O fun z hz=>G O<|mj O fun b1=>mj O fun b2=>mm O<|zG<|G O<|zC O zAd<|zH one9 (J 1 O) O<|zC O zAd<|zH one9 (J 0 O) O<|zW O (zBq O O O)<|Y<|zK O ?_ ?_<;>intro c1<;>try simp only [sx] at c1
 ·refine G O<|zC O zAd<|zH one9 (J 1 O) O<|zC O zAd<|zH one9 (J 0 O) O<|qD O uB (strings_Compare _ _) (vlr O)<|mm O<|zF<|zS O ?_
  rw [tZ,aa c1]
 ·refine zI<|G O<|zC O zCz<|zH U (J 1 O) O<|zC O zCz<|zH U (J 0 O) O<|qD O uB (lin_order _ _) (vlr O)<|mm O<|zF<|zS O ?_
  rw [tZ,ab c1]
def zOr (a b:Lf) (ha:a.L.length<=4294967296) (hb:b.L.length<=4294967296):
    Pur cfg 233 [dK a,dK b] (vI (nW a b)):=by
 refine zR func233 O ntmps233 results233 O fun z hz=>G O<|mj O fun b1=>mj O fun b2=>mm O<|G O<|zC O wM<|zH zBs (J 1 O) O<|zC O wM<|zH zBs (J 0 O) O<|qD O uB (zJh a.L b.L _ tZ ha hb (fun x _ y _=>FnPur.of_pur (first:=[]) (cap:=[]) uB (lin_Compare_1 x y))) (vlr O)<|mm O<|zG<|mo O O<|yL O<|Y<|zK O ?_ ?_<;>intro c1<;>try simp only [sx] at c1
 ·refine mo O O<|mm O<|zF<|zS O ?_
  rw [nW,aa c1]
 ·refine zI<|G O<|zC O zFl<|zH U (J 1 O) O<|zC O zFl<|zH U (J 0 O) O<|qD O uB (lin_order _ _) (vlr O)<|mm O<|zF<|zS O ?_
  rw [nW,ab c1]
def zTa (a b:Ix) (ha:a.wt<=4294967296) (hb:b.wt<=4294967296):
    Pur cfg 235 [lT a,lT b] (vI (nX a b)):=by
 refine zR func235 O ntmps235 results235 O ?_
 intro z hz
 have hwa:=ha
 have hwb:=hb
 unfold Ix.wt at hwa hwb
 refine G O<|mj O fun b1=>mj O fun b2=>mm O<|zG<|G O<|zC O zFi<|zH one9 (J 1 O) O<|zC O zFi<|zH one9 (J 0 O) O<|qD O uB (strings_Compare _ _) (vlr O)<|mm O<|mo O O<|yL O<|Y<|zK O ?_ ?_<;>intro c1<;>try simp only [sx] at c1
 ·refine mo O O<|mm O<|zF<|zS O ?_
  rw [nX,aa c1]
 ·refine zI<|zG<|G O<|zC O zFw<|zM kQ (J 1 O) O<|zC O zFw<|zM kQ (J 0 O) O<|qD O uB (zOr a.Lin b.Lin zA zA) (vlr O)<|mm O<|mo O O<|yL O<|Y<|zK O ?_ ?_<;>intro c2<;>try simp only [sx] at c2
  ·refine mo O O<|mm O<|zF<|zS O ?_
   rw [nX,ab c1,aa c2]
  ·refine zI<|G O<|zC O zBa<|zH zFf (J 1 O) O<|zC O zBa<|zH zFf (J 0 O) O<|qD O uB (zZj a.At b.At _ nW zA zA (fun x hx y hy=>FnPur.of_pur (first:=[]) (cap:=[]) uB (zOr x y (by have:=zEn hx;omega) (by have:=zEn hy;omega)))) (vlr O)<|mm O<|zF<|zS O ?_
   rw [nX,ab c1,ab c2]
def zUk (a b:Ty):
    Pur cfg 232 [vTy a,vTy b] (vI (xN a b)):=by
 refine zR func232 O ntmps232 results232 O fun z hz=>G O<|mj O fun b1=>mj O fun b2=>mm O<|zG<|qV 28 mixed uB O O<|mr O (zE O zEc O)<|mr O (zD O one3 O (J 1 O) O)<|mr O (zE O zEc O)<|mr O (zD O one3 O (J 0 O) O)<|mr O (qG O uB (wQ _ _) (vlr O))<|mr O (zE O zMb O)<|mr O (zD O one3 O (J 1 O) O)<|mr O (zE O zMb O)<|mr O (zD O one3 O (J 0 O) O)<|mr O (qG O uB (wQ _ _) (vlr O))<|mr O (zE O zTs O)<|mr O (zD O one3 O (J 1 O) O)<|mr O (zE O zTs O)<|mr O (zD O one3 O (J 0 O) O)<|mr O (qG O uB (wQ _ _) (vlr O))<|mr O (zE O zMa O)<|mr O (zD O one3 O (J 1 O) O)<|mr O (zE O zMa O)<|mr O (zD O one3 O (J 0 O) O)<|mr O (qG O uB (wQ _ _) (vlr O))<|mr O (zE O zTr O)<|mr O (zD O one3 O (J 1 O) O)<|mr O (zE O zTr O)<|mr O (zD O one3 O (J 0 O) O)<|mr O (qG O uB (wQ _ _) (vlr O))<|mr O (yA O el38 zr3 O O O O)<|mr O (qG O uB (cmp_Or_int [lJ a.Kind b.Kind,lJ a.Bits b.Bits,lJ a.Frac b.Frac,lJ a.Round b.Round,lJ a.Over b.Over] uD) (vlr O))<|mr O (qY O O)<|yQ<|Y<|zF<|zS O ?_
 exact O
def zTb (a b:Ex) (ih:∀x,x∈a.Args->∀y,x.wt<=4294967296->y.wt<=4294967296->Pur cfg 207 [vE x,vE y] (vI (sV x y))) (ha:a.wt<=4294967296) (hb:b.wt<=4294967296):
    Pur cfg 207 [vE a,vE b] (vI (sV a b)):=by
 refine zR func207 O ntmps207 results207 O ?_
 intro z hz
 obtain ⟨hLa,hIa,hAa⟩:=a.parts ha
 obtain ⟨hLb,hIb,hAb⟩:=b.parts hb
 have hwa:=Ex.wt_eq a
 have hwb:=Ex.wt_eq b
 refine G O<|mj O fun b1=>mj O fun b2=>mm O<|zG<|qV 37 mixed uB O O<|mr O (zE O kP O)<|mr O (zD O one3 O (J 1 O) O)<|mr O (zE O kP O)<|mr O (zD O one3 O (J 0 O) O)<|mr O (qG O uB (wQ _ _) (vlr O))<|mr O (zE O zGz O)<|mr O (zD O one9 O (J 1 O) O)<|mr O (zE O zGz O)<|mr O (zD O one9 O (J 0 O) O)<|mr O (qG O uB (strings_Compare _ _) (vlr O))<|mr O (zE O zLz O)<|mr O (zE O zAg O)<|mr O (zD O U O (J 1 O) O)<|mr O (zE O zLz O)<|mr O (zE O zAg O)<|mr O (zD O U O (J 0 O) O)<|mr O (qG O uB (zMi _ _) (vlr O))<|mr O (zE O zLz O)<|mr O (zE O zAu O)<|mr O (zD O U O (J 1 O) O)<|mr O (zE O zLz O)<|mr O (zE O zAu O)<|mr O (zD O U O (J 0 O) O)<|mr O (qG O uB (zMi _ _) (vlr O))<|mr O (zE O zFk O)<|mr O (zU O yE O (J 1 O) O)<|mr O (zE O zFk O)<|mr O (zU O yE O (J 0 O) O)<|mr O (qG O uB (zUk _ _) (vlr O))<|mr O (zE O zEk O)<|mr O (zU O kQ O (J 1 O) O)<|mr O (zE O zEk O)<|mr O (zU O kQ O (J 0 O) O)<|mr O (qG O uB (zOr a.Lin b.Lin hLa hLb) (vlr O))<|mr O (yA O el38 zr3 O O O O)<|mr O (qG O uB (cmp_Or_int [lJ a.Op b.Op,vV a.Name b.Name,lJ a.Val.N b.Val.N,lJ a.Val.D b.Val.D,xN a.Ty b.Ty,nW a.Lin b.Lin] uD) (vlr O))<|mr O (qY O O)<|yQ<|Y<|zG<|mo O O<|yL O<|Y<|zK O ?_ ?_<;>intro c1<;>try simp only [sx] at c1
 ·refine mo O O<|mm O<|zF<|zS O ?_
  rw [cmpE_eq,aa (show ¬rF a b=0 from c1)];rfl
 ·refine zI<|zG<|G O<|zC O wK<|zH wT (J 1 O) O<|zC O wK<|zH wT (J 0 O) O<|qD O uB (zZk a.Idx b.Idx _ nX hIa hIb (fun x hx y hy=>FnPur.of_pur (first:=[]) (cap:=[]) uB (zTa x y (by have:=zBu hx;omega) (by have:=zBu hy;omega)))) (vlr O)<|mm O<|mo O O<|yL O<|Y<|zK O ?_ ?_<;>intro c2<;>try simp only [sx] at c2
  ·refine mo O O<|mm O<|zF<|zS O ?_
   rw [cmpE_eq,ab (show rF a b=0 from c1),aa c2]
  ·refine zI<|G O<|zC O wD<|zH zAs (J 1 O) O<|zC O wD<|zH zAs (J 0 O) O<|qD O uB (zZl a.Args b.Args _ sV hAa hAb (fun x hx y hy=>FnPur.of_pur (first:=[]) (cap:=[]) uB (ih x hx y (by have:=Ex.arg_wt hx;omega) (by have:=Ex.arg_wt hy;omega)))) (vlr O)<|mm O<|zF<|zS O ?_
   rw [cmpE_eq,ab (show rF a b=0 from c1),ab c2]
def expr_Compare (a b:Ex) (ha:a.wt<=4294967296) (hb:b.wt<=4294967296):Pur cfg 207 [vE a,vE b] (vI (sV a b)):=by
  induction a using Ex.ind generalizing b with
  |_ a ih=>exact zTb a b (fun x hx y h1 h2=>ih x hx y h1 h2) ha hb
def expr_Same (a b:Ex) (ha:a.wt<=4294967296) (hb:b.wt<=4294967296):
    Pur cfg 174 [vE a,vE b] (vB (decide (a=b))):=by
 refine zR func174 O ntmps174 results174 O fun z hz=>G O<|mj O fun b1=>mj O fun b2=>mm O<|G O<|zM yY (J 1 O) O<|zM yY (J 0 O) O<|qD O uB (expr_Compare a b ha hb) (vlr O)<|yF O<|mm O<|zF<|zS O ?_
 exact ag vB (da.2 (cmpE_zero a b))
end Go.W
end
section
set_option maxRecDepth 10000
namespace Go.W
open Go Go.Eng Go.Proofs Go.L41 Go.Br Tryz
attribute [local irreducible] AWP RWP TD fK
end Go.W
end
section
set_option maxRecDepth 10000
namespace Go.W
open Go Go.Eng Go.Proofs Go.L41 Go.Br Tryz
attribute [local irreducible] AWP RWP TD fK
def ik2:tU prog 2=some .i64:=by kernel_rfl
def sz49:(prog.info? 49).map (·.size)=some 1:=by kernel_rfl
def us154:(prog.underlying 154).isSome=true:=by kernel_rfl
def lin_plus (a b:Int) (ha:r64 a) (hb:r64 b):
    Pur cfg 54 [vI a,vI b] (.tup [vI (w64 (a+b)),vB (decide (r64 (a+b)))]):=by
 refine zR func54 O ntmps54 results54 O fun z hz=>mo O O<|mm O<|mo O O<|A O<|zW O (zMh O O O)<|mm O<|mo O O<|A O<|A O<|zW O (yD O O O)<|A O<|zW O (yD O O O)<|zW O (det_beql O un4 O O)<|A O<|mm O<|zF<|fin2 (rs_c O) (rs_c O) ?_
 rw [←plus_ok ha hb];rfl
def zQi (x:Int) (hx:r64 x):
    Pur cfg 88 [vI x] (vUn x.natAbs):=by
 refine zR func88 O ntmps88 results88 O fun z hz=>ml O O<|zG<|mo O O<|yI O<|Y<|zK O ?_ ?_<;>intro c1<;>try simp only [sx] at c1
 ·refine mo O O<|zW O (zAo O us2 ik154 O)<|zW O (zHz O O)<|mm O<|zF<|zS O ?_
  exact ag (fun n=>V.c (.lit (.int .u64 n))) (magn_neg hx c1)
 ·refine zI<|mo O O<|zW O (zAo O us2 ik154 O)<|mm O<|zF<|zS O ?_
  exact ag (fun n=>V.c (.lit (.int .u64 n))) (magn_pos hx zA)
def lin_product (a b:Nat) (ha:a<18446744073709551616) (hb:b<18446744073709551616):
    Pur cfg 87 [vUn a,vUn b] (.tup [vUn (hiN a b),vUn (a*b%18446744073709551616)]):=by
 refine zR func87 O ntmps87 results87 O ?_
 intro z hz
 obtain ⟨p1,p2,p3,p4⟩:=part_le ha hb
 obtain ⟨q1,q2,q3,q4⟩:=hi_bounds ha hb
 refine mo O O<|mm O<|mo O O<|zW O (zQx O O O ha)<|A O<|zW O (zQx O O O hb)<|zW O (zEz O O O zA)<|mm O<|mo O O<|zW O (zKa O O O )<|A O<|zW O (zQx O O O hb)<|zW O (zEz O O O zA)<|A O<|zW O (zKa O O O )<|zW O (zEe O O O q1)<|mm O<|mo O O<|zW O (zQx O O O ha)<|A O<|zW O (zKa O O O )<|zW O (zEz O O O zA)<|A O<|zW O (zQx O O O q1)<|zW O (zEe O O O q2)<|mm O<|mo O O<|zW O (zKa O O O )<|A O<|zW O (zKa O O O )<|zW O (zEz O O O zA)<|A O<|zW O (zKa O O O )<|zW O (zEe O O O q3)<|A O<|zW O (zKa O O O )<|zW O (zEe O O O q4)<|A O<|A O<|zW O (det_umod O O O )<|A O<|mm O<|zF<|fin2 (rs_c O) (rs_c O) ?_
 exact O
def lin_times (x y:Int) (hx:r64 x) (hy:r64 y):
    Pur cfg 52 [vI x,vI y] (.tup [vI (fG x y).1,vB (fG x y).2]):=by
 refine zR func52 O ntmps52 results52 O ?_
 intro z hz
 have hm1:=zHw hx
 have hm2:=zHw hy
 refine mo O O<|mm O<|mo O O<|qD O uB (zQi x hx) (vlr O)<|A O<|qD O uB (zQi y hy) (vlr O)<|qD O uB (lin_product x.natAbs y.natAbs zA zA) (vlr O)<|qP O<|qS O<|qS O<|A O<|mm O<|mo O O<|yI O<|A O<|yI O<|zW O (zQz O un4 O O)<|mm O<|zG<|zQ<|mo O O<|yL O<|A O<|rL0 O (fun g3_2=>zO O O) O<|rL1 26 O (fun g3_2=>yD O O O) O<|r_or O (fun h=>(lzf h))<|A O<|rL0 O (fun g3_6=>zO O O) O<|rL1 30 O (fun g3_6=>yN O O O) O<|rL1 31 O (fun g3_6=>zO O O) O<|rLz [] O gv2 T (fun g3_9=>zO O O) O<|rLz [(33,_)] O gv2 ⟨O,O,T⟩ (fun g3_9=>kG O O) O<|rL1 32 O (fun g3_6=>wA O O O (fun h=>kD uA h) O) O<|r_or O (fun h=>(lzf h))<|mm O<|zK O ?_ ?_<;>intro c1<;>try simp only [sx] at c1
 ·refine mo O O<|mm O<|zF<|fin2 (rs_c O) (rs_c O) ?_
  rw [times_f hx hy c1]
 ·refine mo O O<|mm O<|zK O ?_ ?_<;>intro c2<;>try simp only [sx] at c2
  ·refine mo O O<|zW O (zHz O O)<|zW O (zAo O us154 ik2 O)<|A O<|mm O<|zF<|fin2 (rs_c O) (rs_c O) ?_
   rw [times_neg c2 (by have:=c1.1.1;omega) (by have:=c1.1.2;omega)]
  ·refine zI<|mo O O<|zW O (zAo O us154 ik2 O)<|A O<|mm O<|zF<|fin2 (rs_c O) (rs_c O) ?_
   have hlt:x.natAbs*y.natAbs%18446744073709551616<9223372036854775808:=by
     have h1:=c1.1.2
     rcases c1.2 with h|h
     · omega
     · rw [c2] at h;cases h
   rw [times_pos c2 (by have:=c1.1.1;omega) hlt]
def zXz (l:Lf) (by_:Int) (hl:l.L.length<=4294967296) (hr:l.rng) (hb:r64 by_):
    Pur cfg 19 [dK l,vI by_] (.tup [dK (dG l by_).1,vI (dG l by_).2]):=by
 refine zR func19 O ntmps19 results19 O fun z hz=>G O<|mj O fun b1=>zV O O (qH [none,some 2] O zr51 O) ?_
 rintro _ _ ⟨b2,rfl,rfl⟩
 refine mm O<|zG<|G O<|zM kQ (J 1 O) O<|qD O uB (zDt l zA) (vlr O)<|yL O<|Y<|zK O ?_ ?_<;>intro c1<;>try simp only [sx] at c1
 ·have hl0:=linErr_no c1
  refine G O<|yH [none,some 2] O zr51 pl51<|rStR 0 sz51 O<|mm O<|zF<|fin2 (zP kQ O (J 0 O) O) (rs_c O) ?_
  rw [scale_bad hl0];rfl
 ·have hl1:=zSn c1
  refine zI<|zG<|mo O O<|yF O<|Y<|qK O (fun c2=>?_) (fun c2=>?_)
  ·refine G O<|yH [none,some 2] O zr51 pl51<|rStR 0 sz51 O<|mm O<|zF<|fin2 (zP kQ O (J 0 O) O) (rs_c O) ?_
   rw [scale_zero hl1 c2];rfl
  ·refine zI<|G O<|zC O zFl<|zH U (J 1 O) O<|A O<|qD O uB (lin_times l.K by_ hr.1 hb) (vlr O)<|qP O<|qS O<|qS O<|A O<|mm O<|mo O O<|qU O zr51 pl51<|zV O O (qW O zr51) ?_
   rintro _ _ ⟨b3,rfl,rfl⟩
   refine yU _ (wE 109 2)<|rStR 1 sz51 O<|Y<|zG<|G O<|zC O wM<|zH zBs (J 3 O) O<|qB O N<|mm O<|zQ<|zY ⟨[(32,.c _),(7,.c _),(1,.c _),(4,.c _),(8,.c _),(30,.c _),(31,.c _)],[_,_,_]⟩ (Weak.mk [true,true,true,false] ⟨zJ,zJ,zJ,zJ,zJ,zJ,zJ,T⟩ O)<|qL 2 2 O O (Nat×Value) (fun ⟨k,sv⟩=>[(32,vI k),(7,vB ((fG l.K by_).2&&nM by_ (l.L.take k)))]) (fun ⟨k,sv⟩=>[E.vec sv 109 2 ((mT by_ (l.L.take k)).map Mono.cells),E.row b3 51 [cI (fG l.K by_).1,.lit sv]]) (fun ⟨k,sv⟩=>k<=l.L.length) (fun ⟨k,sv⟩=>l.L.length-k) ⟨⟨0,_⟩,zA,Weak.mk [true,true,true] ⟨zJ,VLe.of_eq (by rw [show nM by_ (l.L.take 0)=true from rfl,bv];rfl),zJ,zJ,zJ,zJ,zJ,T⟩ O⟩ ?_
   rintro ⟨k,sv⟩ hk
   show AWP _ _ _ _ _ ⟨[(32,vI k),(7,vB ((fG l.K by_).2&&nM by_ (l.L.take k)))]++_,[E.vec sv 109 2 ((mT by_ (l.L.take k)).map Mono.cells),E.row b3 51 [cI (fG l.K by_).1,.lit sv]]++_⟩
   refine G O<|yI O<|Y<|zG<|zK O ?_ ?_<;>intro c3<;>try simp only [sx] at c3
   ·obtain ⟨x,hx⟩:=qZ l.L k zA
    refine zI<|zG<|zQ<|G O<|qC O N zA (getm uA)<|zM zIy zZ O<|zV O O (qW O zKr) ?_
    rintro _ _ ⟨b5,rfl,rfl⟩
    refine rStR 0 sz109 O<|Y<|G O<|zC O zCz<|zH U (J 0 O) O<|A O<|qD O uB (lin_times x.By by_ (hr.2 x (qA hx)) hb) (vlr O)<|qP O<|qS O<|qS O<|A O<|mm O<|mo O O<|A O<|rL0 O (fun g11_1=>zO O O) O<|yT O (fun h=>h)<|mm O<|zT O<|zC O wM<|zH zBs (J 2 O) O<|zC O zAd<|zH one9 (J 0 O) O<|A O<|qU O zKr pl109<|zW O (yA O N zKr O O O O)<|zV O O (yO 1 O N O O O (by simp only [lLm,lLa,lLc,lLn,scaleW_len,aG];omega) (by simp only [lLm,lLa,lLc,lLn,scaleW_len,aG];omega)) ?_
    rintro _ _ ⟨sv6,rfl,rfl⟩
    refine zC O wM<|rStR 2 sz49 O<|Y<|zT O<|qI O ⟨zA,zA⟩<|A O<|Y ?_
    refine ⟨⟨k+1,sv6⟩,zA,(by show l.L.length-(k+1)<l.L.length-k;omega),Weak.mk [false,true,true,true] ⟨zJ,VLe.of_eq (by rw [scaleB_next hx,←ij];rfl),zJ,zJ,zJ,zJ,zJ,T⟩ (by show _=[E.vec sv6 _ 2 ((mT by_ (l.L.take (k+1))).map Mono.cells),E.row b3 _ [cI (fG l.K by_).1,.lit sv6]]++_;rw [scaleW_next hx,aC];rfl)⟩
   ·rw [yW (l:=l.L) (k:=k) zA]
    refine qO<|zG<|mo O O<|kO O<|Y<|zK O ?_ ?_<;>intro c4<;>try simp only [sx] at c4
    ·refine G O<|yH [none,some 2] O zr51 pl51<|rStR 2 sz51 O<|mm O<|zF<|fin2 (zP kQ O (J 2 O) O) (rs_c O) ?_
     rw [scale_no hl1 c2 c4];rfl
    ·refine zI<|G O<|zM kQ (J 1 O) O<|rStR 2 sz51 O<|mm O<|zY _ (yV 0 O (regs':=[(60,.agg [_,_])]) (μ':=[_,_]) ⟨FLe.agg ⟨.inl O,.inr ⟨O,O⟩,T⟩,T⟩ ⟨EFle.row (ds:=[_,_]) ⟨.inl O,.inr ⟨O,O⟩,T⟩,EFle.row (ds:=[_,_]) ⟨.inl O,.inr ⟨O,O⟩,T⟩,T⟩)<|zF<|fin2 (zP kQ O (J 1 O) O) (rs_c O) ?_
     rw [scale_ok hl1 c2 c4];rfl
end Go.W
end
section
set_option maxRecDepth 10000
namespace Go.W
open Go Go.Eng Go.Proofs Go.L41 Go.Br Tryz
attribute [local irreducible] AWP RWP TD fK
def one4:mM prog 4=true:=by kernel_rfl
def sz2:(prog.info? 2).map (·.size)=some 1:=by kernel_rfl
def sz4:(prog.info? 4).map (·.size)=some 1:=by kernel_rfl
def zr4:fL prog 4=some [(Value.bool false)]:=by kernel_rfl
def merge_con (a0 b0:List Mono) (ha0:a0.length<=4294967296) (hb0:b0.length<=4294967296):
    ∀(y:C) (J:List Tr->List E->Prop) (μ:List E),(∀d t s m,bM a0 b0=d++t::s->J d m->FnCon cfg y [vS t.1,vI t.2.1,vI t.2.2] m fun r m'=>r=.tup []/\J (d++[t]) m')->J [] μ->Con cfg 55 [.c (.sl 2 (a0.map Mono.cells)),.c (.sl 2 (b0.map Mono.cells)),.c y] μ fun r μ'=>r=.tup []/\J (bM a0 b0) μ':=by
 intro y J μ hy h0
 refine zR func55 O ntmps55 results55 O fun z hz=>zQ<|zY ⟨[(0,.c _),(1,.c _),(2,.c _)],_⟩ (Weak.regs ⟨zJ,zJ,zJ,T⟩)<|zDu 2 O (List Mono×List Mono×List Tr×List E) (fun ⟨a,b,d,m⟩=>[(0,.c (.sl 2 (a.map Mono.cells))),(1,.c (.sl 2 (b.map Mono.cells)))]) (fun ⟨a,b,d,m⟩=>m) (fun ⟨a,b,d,m⟩=>a.length<=4294967296/\b.length<=4294967296/\bM a0 b0=d++bM a b/\J d m) (fun ⟨a,b,d,m⟩=>a.length+b.length) ⟨⟨a0,b0,[],μ⟩,⟨ha0,hb0,O,h0⟩,Weak.regs ⟨zJ,zJ,zJ,T⟩⟩ ?_
 rintro ⟨a,b,d,m⟩ ⟨hal,hbl,hm,hJ⟩
 refine zG<|mo O O<|qB O N<|zW O (yD O O O)<|A O<|rL0 O (fun g0_3=>zO O O) O<|rL1 10 O (fun g0_3=>yK O N O) O<|rL1 11 O (fun g0_3=>yD O O O) O<|r_or O (fun h=>(lzf h))<|Y<|zK O ?_ ?_<;>intro c1<;>try simp only [sx] at c1
 ·refine zI<|zQ<|zQ<|zG<|qV 20 mixed uB O O<|mr O (zO O O)<|mr O (yK O N O)<|mr O (yN O O O)<|mr O (zO O O)<|qM [] O O O O gv1 T (fun g3_3=>zO O O) O<|qM [(37,_)] O O O O gv1 ⟨O,O,T⟩ (fun g3_3=>yK O N O) O<|qM [(38,_)] O O O O gv1 ⟨O,O,T⟩ (fun g3_3=>yD O O O) O<|qM [(39,_)] O O O O gv1 ⟨O,O,T⟩ (fun g3_3=>zO O O) O<|qM [] O O O O gv2 T (fun g3_7=>zO O O) O<|qM [(41,_)] O O O O gv2 ⟨O,O,T⟩ (fun g3_7=>qE O N O O (by simp only [Lz,ay,az,sx] at g3_7;omega) (getm (zLv (by simp only [Lz,ay,az,sx] at g3_7;omega)))) O<|qM [(42,_)] O O O O gv2 ⟨O,O,T⟩ (fun g3_7=>qN O zAd O) O<|qM [(43,_)] O O O O gv2 ⟨O,O,T⟩ (fun g3_7=>zD O one9 O zZ O) O<|qM [] O O O O gv2 T (fun g3_7=>zO O O) O<|qM [(45,_)] O O O O gv2 ⟨O,O,T⟩ (fun g3_7=>qE O N O O (by simp only [Lz,ay,az,sx] at g3_7;omega) (getm (zLv (by simp only [Lz,ay,az,sx] at g3_7;omega)))) O<|qM [(46,_)] O O O O gv2 ⟨O,O,T⟩ (fun g3_7=>qN O zAd O) O<|qM [(47,_)] O O O O gv2 ⟨O,O,T⟩ (fun g3_7=>zD O one9 O zZ O) O<|qM [(44,_),(48,_)] O O O O gv2 ⟨O,O,O,O,T⟩ (fun g3_7=>det_slss O O O) O<|qM [(40,_)] O O O O gv1 ⟨O,O,T⟩ (fun g3_3=>wA O O O (fun h=>kD uA h) O) O<|mr O (zAr O O O O (fun h=>(lzf h)))<|mr O (qY O O)<|yQ<|Y<|zK O (fun c2=>?_) (fun c2=>?_)
  ·have hL:=merge_left zA c2
   have hdec:(a.drop 1).length+(b).length<a.length+b.length:=by simp only [ct];omega
   have hm1:bM a0 b0=(d++[((hdM a).Name,(hdM a).By,0)])++bM (a.drop 1) (b):=by rw [hm,hL.2];simp
   refine zG<|qV 9 mixed uB O O<|mr O (zO O O)<|mr O (zO O O)<|mr O (qE O N O O zA (getm (zLv zA)))<|mr O (qN O zAd O)<|mr O (zD O one9 O zZ O)<|mr O (zO O O)<|mr O (qE O N O O zA (getm (zLv zA)))<|mr O (qN O zCz O)<|mr O (zD O U O zZ O)<|yQ<|zV O O (zAe O O (hy d ((hdM a).Name,(hdM a).By,0) _ m (by rw [hm1,lAa];rfl) hJ) (vlr O)) ?_
   rintro _ m1 ⟨rfl,hJ1⟩
   refine Y<|zT O<|A O<|zW O (zCk (k:=1) O N O O zA)<|A O<|Y ?_
   exact m9
  ·have hb1:=mC2_b c2
   refine zG<|qV 15 mixed uB O O<|mr O (zO O O)<|mr O (yK O N O)<|mr O (yN O O O)<|mr O (zO O O)<|qM [] O O O O gv1 T (fun g6_3=>zO O O) O<|qM [(69,_)] O O O O gv1 ⟨O,O,T⟩ (fun g6_3=>qE O N O O (by simp only [Lz,ay,az,sx] at g6_3;omega) (getm (zLv (by simp only [Lz,ay,az,sx] at g6_3;omega)))) O<|qM [(70,_)] O O O O gv1 ⟨O,O,T⟩ (fun g6_3=>qN O zAd O) O<|qM [(71,_)] O O O O gv1 ⟨O,O,T⟩ (fun g6_3=>zD O one9 O zZ O) O<|qM [] O O O O gv1 T (fun g6_3=>zO O O) O<|qM [(73,_)] O O O O gv1 ⟨O,O,T⟩ (fun g6_3=>qE O N O O (by simp only [Lz,ay,az,sx] at g6_3;omega) (getm (zLv (by simp only [Lz,ay,az,sx] at g6_3;omega)))) O<|qM [(74,_)] O O O O gv1 ⟨O,O,T⟩ (fun g6_3=>qN O zAd O) O<|qM [(75,_)] O O O O gv1 ⟨O,O,T⟩ (fun g6_3=>zD O one9 O zZ O) O<|qM [(72,_),(76,_)] O O O O gv1 ⟨O,O,O,O,T⟩ (fun g6_3=>det_slss O O O) O<|mr O (zAr O O O O (fun h=>(lzf h)))<|mr O (qY O O)<|yQ<|Y<|zK O (fun c3=>?_) (fun c3=>?_)
   ·have hL:=merge_right zA c2 c3
    have hdec:(a).length+(b.drop 1).length<a.length+b.length:=by simp only [ct];omega
    have hm1:bM a0 b0=(d++[((hdM b).Name,0,(hdM b).By)])++bM (a) (b.drop 1):=by rw [hm,hL.2];simp
    refine zG<|qV 9 mixed uB O O<|mr O (zO O O)<|mr O (zO O O)<|mr O (qE O N O O zA (getm (zLv zA)))<|mr O (qN O zAd O)<|mr O (zD O one9 O zZ O)<|mr O (zO O O)<|mr O (qE O N O O zA (getm (zLv zA)))<|mr O (qN O zCz O)<|mr O (zD O U O zZ O)<|yQ<|zV O O (zAe O O (hy d ((hdM b).Name,0,(hdM b).By) _ m (by rw [hm1,lAa];rfl) hJ) (vlr O)) ?_
    rintro _ m1 ⟨rfl,hJ1⟩
    refine Y<|zT O<|A O<|zW O (zCk (k:=1) O N O O zA)<|A O<|Y ?_
    exact m9
   ·have hL:=merge_both c2 c3
    have hdec:(a.drop 1).length+(b.drop 1).length<a.length+b.length:=by simp only [ct];omega
    have hm1:bM a0 b0=(d++[((hdM a).Name,(hdM a).By,(hdM b).By)])++bM (a.drop 1) (b.drop 1):=by rw [hm,hL.2.2];simp
    refine zG<|qV 13 mixed uB O O<|mr O (zO O O)<|mr O (zO O O)<|mr O (qE O N O O zA (getm (zLv zA)))<|mr O (qN O zAd O)<|mr O (zD O one9 O zZ O)<|mr O (zO O O)<|mr O (qE O N O O zA (getm (zLv zA)))<|mr O (qN O zCz O)<|mr O (zD O U O zZ O)<|mr O (zO O O)<|mr O (qE O N O O zA (getm (zLv zA)))<|mr O (qN O zCz O)<|mr O (zD O U O zZ O)<|yQ<|zV O O (zAe O O (hy d ((hdM a).Name,(hdM a).By,(hdM b).By) _ m (by rw [hm1,lAa];rfl) hJ) (vlr O)) ?_
    rintro _ m1 ⟨rfl,hJ1⟩
    refine Y<|qV 6 mixed uB O O<|mr O (zO O O)<|mr O (zCk (k:=1) O N O O zA)<|mr O (zO O O)<|mr O (zCk (k:=1) O N O O zA)<|mr O (qY O O)<|mr O (qY O O)<|yQ<|Y ?_
    exact m9
 ·refine qO ?_
  repeat (first|refine zKu ?_|refine zIv ?_)
  refine zYq<|fin0 ?_
  exact ⟨O,by rw [hm,show a=[] from aV zA,show b=[] from aV zA,zSj,lAn];exact hJ⟩
def lin_Add_1 (bo bl:Nat) (ok:Bool) (K:Int) (sv:Value) (d:List Tr) (t:Tr) (h1:r64 t.2.1) (h2:r64 t.2.2) (hd:d.length<=8589934592):
    Con cfg 56 [vS t.1,vI t.2.1,vI t.2.2,.c (.lit (.pointer (some ⟨bo,0,none⟩))),.c (.lit (.pointer (some ⟨bl,0,none⟩)))] [E.row bo 4 [cB (okF ok (d))],E.vec sv 109 2 ((mG (d)).map Mono.cells),E.row bl 51 [cI K,.lit sv]] fun r μ'=>r=.tup []/\∃sv',μ'=[E.row bo 4 [cB (okF ok (d++[t]))],E.vec sv' 109 2 ((mG (d++[t])).map Mono.cells),E.row bl 51 [cI K,.lit sv']]:=by
 refine zR func56 O ntmps56 results56 O fun z hz=>mo O O<|A O<|qD O uB (lin_plus t.2.1 t.2.2 h1 h2) (vlr O)<|qP O<|qS O<|qS O<|A O<|mm O<|G O<|zH one4 (J 0 O) O<|A O<|rL0 O (fun g1_1=>zO O O) O<|yT O (fun h=>h)<|rStR 0 sz4 O<|Y<|mo O O<|yL O<|Y<|zK O ?_ ?_<;>intro c1<;>try simp only [sx] at c1
 ·refine zT O<|zC O wM<|zH zBs (J 2 O) O<|A O<|A O<|qU O zKr pl109<|zW O (yA O N zKr O O O O)<|zV O O (yO 1 O N O O O (by have:=zUt d;simp only [lLm,lLa,lLc,lLn];omega) (by have:=zUt d;simp only [lLm,lLa,lLc,lLn];omega)) ?_
  rintro _ _ ⟨sv1,rfl,rfl⟩
  refine zC O wM<|rStR 2 sz49 O<|Y ?_
  repeat (first|refine zKu ?_|refine zIv ?_)
  refine zYq<|fin0 ?_
  exact ⟨O,_,by rw [okF_next,sumW_next,aa (show ¬w64 (trV t)=0 from c1),aC];rfl⟩
 ·refine zI ?_
  repeat (first|refine zKu ?_|refine zIv ?_)
  refine zYq<|fin0 ?_
  exact ⟨O,_,by rw [okF_next,sumW_next,ab (show w64 (trV t)=0 from c1),lAn];rfl⟩
def lin_Add (a b:Lf) (ha:a.L.length<=4294967296) (hb:b.L.length<=4294967296) (hra:a.rng) (hrb:b.rng):
    Pur cfg 21 [dK a,dK b] (.tup [dK (jM a b).1,vI (jM a b).2]):=by
 refine zR func21 O ntmps21 results21 O fun z hz=>G O<|mj O fun b1=>mj O fun b2=>zV O O (qH [none,some 2] O zr51 O) ?_
 rintro _ _ ⟨b3,rfl,rfl⟩
 refine mm O<|zG<|G O<|zM kQ (J 2 O) O<|qD O uB (zDt a zA) (vlr O)<|yL O<|A O<|rL0 O (fun g1_3=>zU O kQ O (J 1 O) O) O<|rL1 12 O (fun g1_3=>qG O uB (zDt b zA) (vlr O)) O<|rL1 13 O (fun g1_3=>kB O O O) O<|r_or O (fun h=>(lzf h))<|Y<|zK O ?_ ?_<;>intro c1<;>try simp only [sx] at c1
 ·refine G O<|yH [none,some 2] O zr51 pl51<|rStR 0 sz51 O<|mm O<|zF<|fin2 (zP kQ O (J 0 O) O) (rs_c O) ?_
  rw [add_c1 c1];rfl
 ·have hla:=zSn c1.1
  have hlb:=zSn c1.2
  refine zI<|G O<|zV O O (qW O zr51) ?_
  rintro _ _ ⟨b4,rfl,rfl⟩
  refine yU _ (wE 109 2)<|Y<|G O<|zV O O (qW O zr4) ?_
  rintro _ _ ⟨b6,rfl,rfl⟩
  refine Y<|G O<|zC O zFl<|zH U (J 5 O) O<|zC O zFl<|zH U (J 4 O) O<|qD O uB (lin_plus a.K b.K hra.1 hrb.1) (vlr O)<|qP O<|qS O<|qS O<|zC O zFl<|rStR 2 sz2 O<|rStR 0 sz4 O<|Y<|G O<|zC O wM<|zH zBs (J 5 O) O<|zC O wM<|zH zBs (J 4 O) O<|zW O (zFa O O O O O)<|zV O O (zBm O uB (Con.frame (merge_con a.L b.L ha hb _ (fun d m=>∃sv,m=[E.row b6 4 [cB (okF (decide (r64 (a.K+b.K))) (d))],E.vec sv 109 2 ((mG (d)).map Mono.cells),E.row b4 51 [cI (w64 (a.K+b.K)),.lit sv]]) _ (fun d t s m he hj=>by obtain ⟨sv,rfl⟩:=hj;obtain ⟨k1,k2,k3⟩:=merge_rng hra.2 hrb.2 he;exact FnCon.of_con (first:=[]) (cap:=[.lit (.pointer (some ⟨b6,0,none⟩)),.lit (.pointer (some ⟨b4,0,none⟩))]) uB (lin_Add_1 b6 b4 (decide (r64 (a.K+b.K))) (w64 (a.K+b.K)) sv d t k1 k2 zA)) ⟨_,O⟩) _) (vlr O)) ?_
  rintro _ _ ⟨_,⟨rfl,sv7,rfl⟩,rfl⟩
  refine Y<|zG<|G O<|zH one4 (J 0 O) O<|kO O<|Y<|zK O ?_ ?_<;>intro c2<;>try simp only [sx] at c2
  ·refine G O<|yH [none,some 2] O zr51 pl51<|rStR 3 sz51 O<|mm O<|zF<|fin2 (zP kQ O (J 3 O) O) (rs_c O) ?_
   rw [add_no hla hlb c2];rfl
  ·refine zI<|G O<|zM kQ (J 2 O) O<|rStR 3 sz51 O<|mm O<|zY _ (yV 1 O (regs':=[(35,.agg [_,_])]) (μ':=[_,_,_,_,_]) ⟨FLe.agg ⟨.inl O,.inr ⟨O,O⟩,T⟩,T⟩ ⟨EFle.refl _,EFle.row (ds:=[_,_]) ⟨.inl O,.inr ⟨O,O⟩,T⟩,EFle.row (ds:=[_,_]) ⟨.inl O,.inr ⟨O,O⟩,T⟩,EFle.refl _,EFle.refl _,T⟩)<|zF<|fin2 (zP kQ O (J 2 O) O) (rs_c O) ?_
   rw [add_ok hla hlb c2];rfl
def lin_Substitute (l:Lf) (s:lr) (u:Lf) (hl:l.L.length<=4294967296) (ht:u.L.length<=4294967296) (hrl:l.rng) (hrt:u.rng):
    Pur cfg 59 [dK l,vS s,dK u] (.tup [dK (nL l s u).1,vI (nL l s u).2]):=by
 refine zR func59 O ntmps59 results59 O ?_
 intro z hz
 obtain ⟨hs1,hs2⟩:=zPo u (bH l.L s)
 obtain ⟨hr1,hr2⟩:=rest_rng hrl s
 refine G O<|mj O fun b1=>mj O fun b2=>zV O O (qH [none,some 2] O zr51 O) ?_
 rintro _ _ ⟨b3,rfl,rfl⟩
 refine mm O<|zG<|G O<|zM kQ (J 2 O) O<|qD O uB (zDt l zA) (vlr O)<|yL O<|A O<|rL0 O (fun g1_3=>zO O O) O<|rL1 18 O (fun g1_3=>qG O uB (zHx s) (vlr O)) O<|rL1 19 O (fun g1_3=>kG O O) O<|r_or O (fun h=>(lzf h))<|A O<|rL0 O (fun g1_8=>zU O kQ O (J 1 O) O) O<|rL1 23 O (fun g1_8=>qG O uB (zDt u zA) (vlr O)) O<|rL1 24 O (fun g1_8=>kB O O O) O<|r_or O (fun h=>(lzf h))<|Y<|zK O ?_ ?_<;>intro c1<;>try simp only [sx] at c1
 ·refine G O<|yH [none,some 2] O zr51 pl51<|rStR 0 sz51 O<|mm O<|zF<|fin2 (zP kQ O (J 0 O) O) (rs_c O) ?_
  rw [subst_c1 c1];rfl
 ·refine zI<|G O<|zC O zFl<|zH U (J 2 O) O<|qU O zr51 pl51<|zV O O (qW O zr51) ?_
  rintro _ _ ⟨b4,rfl,rfl⟩
  refine yU _ (wE 109 2)<|rStR 1 sz51 O<|Y<|ml O O<|zG<|G O<|zC O wM<|zH zBs (J 4 O) O<|qB O N<|mm O<|zQ<|zY ⟨[(34,.c _),(9,.c _),(1,.c _),(5,.c _),(6,.c _),(8,.c _),(32,.c _),(33,.c _)],[_,_,_,_]⟩ (Weak.mk [true,true,true,true,false] ⟨zJ,zJ,zJ,zJ,zJ,zJ,zJ,zJ,T⟩ O)<|qL 2 2 O O (Nat×Value) (fun ⟨k,sv⟩=>[(34,vI k),(9,vI (bH (l.L.take k) s))]) (fun ⟨k,sv⟩=>[E.vec sv 109 2 (((l.L.take k).filter (fun m=> !decide (m.Name=s))).map Mono.cells),E.row b4 51 [cI l.K,.lit sv]]) (fun ⟨k,sv⟩=>k<=l.L.length) (fun ⟨k,sv⟩=>l.L.length-k) ⟨⟨0,_⟩,zA,Weak.mk [true,true,true,true] ⟨zJ,VLe.of_eq (O),zJ,zJ,zJ,zJ,zJ,zJ,T⟩ O⟩ ?_
  rintro ⟨k,sv⟩ hk
  show AWP _ _ _ _ _ ⟨[(34,vI k),(9,vI (bH (l.L.take k) s))]++_,[E.vec sv 109 2 (((l.L.take k).filter (fun m=> !decide (m.Name=s))).map Mono.cells),E.row b4 51 [cI l.K,.lit sv]]++_⟩
  refine G O<|yI O<|Y<|zG<|zK O ?_ ?_<;>intro c2<;>try simp only [sx] at c2
  ·obtain ⟨x,hx⟩:=qZ l.L k zA
   refine zI<|zG<|zQ<|G O<|qC O N zA (getm uA)<|zM zIy zZ O<|zV O O (qW O zKr) ?_
   rintro _ _ ⟨b6,rfl,rfl⟩
   refine rStR 0 sz109 O<|Y<|zG<|G O<|zC O zAd<|zH one9 (J 0 O) O<|A O<|wP O<|Y<|zK O ?_ ?_<;>intro c3<;>try simp only [sx] at c3
   ·refine G O<|zC O zCz<|zH U (J 0 O) O<|mm O<|qO<|zT O<|qI O ⟨zA,zA⟩<|A O<|Y ?_
    exact l8
   ·refine zI<|zT O<|zC O wM<|zH zBs (J 2 O) O<|zM zIy (J 0 O) O<|zW O (yA O N zKr O O O O)<|zV O O (yO 1 O N O O O (by have:=fu (fun m:Mono=> !decide (m.Name=s)) (l.L.take k);simp only [lLm,lLa,lLc,lLn,aG] at *;omega) (by have:=fu (fun m:Mono=> !decide (m.Name=s)) (l.L.take k);simp only [lLm,lLa,lLc,lLn,aG] at *;omega)) ?_
    rintro _ _ ⟨sv7,rfl,rfl⟩
    refine zC O wM<|rStR 2 sz49 O<|Y<|zT O<|qI O ⟨zA,zA⟩<|A O<|Y ?_
    exact l8
  ·rw [yW (l:=l.L) (k:=k) zA]
   refine qO<|G O<|zM kQ (J 3 O) O<|A O<|qD O uB (zXz u (bH l.L s) ht hrt (last_rng hrl s)) (vlr O)<|qP O<|yG O<|qS O<|zV O O (qH [none,some 2] O zr51 O) ?_
   rintro _ _ ⟨b8,rfl,rfl⟩
   refine rStR 0 sz51 O<|mm O<|zG<|mo O O<|yL O<|Y<|zK O ?_ ?_<;>intro c4<;>try simp only [sx] at c4
   ·refine G O<|yH [none,some 2] O zr51 pl51<|A O<|rStR 3 sz51 O<|mm O<|zF<|fin2 (zP kQ O (J 3 O) O) (rs_c O) ?_
    rw [subst_c4 c1 c4];rfl
   ·refine zY _ (yV 1 O (regs':=[]) (μ':=[_,_,_,_]) T ⟨EFle.refl _,EFle.row (ds:=[_,_]) ⟨.inl O,.inr ⟨O,O⟩,T⟩,EFle.refl _,EFle.refl _,T⟩)<|zI<|G O<|zM kQ (J 1 O) O<|zM kQ (J 0 O) O<|qD O uB (lin_Add (mH l s) (dG u (bH l.L s)).1 zA zA hr1 hs1) (vlr O)<|yG O<|qS O<|rStR 2 sz51 O<|mm O<|zF<|fin2 (zP kQ O (J 2 O) O) (rs_c O) ?_
    rw [subst_ok c1 c4];rfl
end Go.W
end
section
set_option maxRecDepth 10000
namespace Go.W
open Go Go.Eng Go.Proofs Go.L41 Go.Br Tryz
attribute [local irreducible] AWP RWP TD fK
end Go.W
end
section
set_option maxRecDepth 10000
namespace Go.W
open Go Go.Eng Go.Proofs Go.L41 Go.Br Tryz
attribute [local irreducible] AWP RWP TD fK
end Go.W
end
section
set_option maxRecDepth 10000
namespace Go.W
open Go Go.Eng Go.Proofs Go.L41 Go.Br Tryz
attribute [local irreducible] AWP RWP TD fK
end Go.W
end
section
set_option maxRecDepth 10000
namespace Go.W
open Go Go.Eng Go.Proofs Go.L41 Go.Br Tryz
attribute [local irreducible] AWP RWP TD fK
def ref14_All_step (e:Ex) (ih:∀a,a∈e.Args->a.wt<=2000000->OwnR cfg 140 [vE a] 54 13 ((dI a).map Ex.cells)) (he:e.wt<=2000000):
    OwnR cfg 140 [vE e] 54 13 ((dI e).map Ex.cells):=by
 refine zR func140 O ntmps140 results140 O ?_
 intro z hz
 obtain ⟨hL,hI,hA⟩:=e.parts he
 have hn:=nodes_wt e
 refine G O<|mj O fun b1=>yJ 13 O<|Y<|G O<|zM yY (J 0 O) O<|zV O O (zDr O el52 zr54 O O O O) ?_
 rintro _ _ ⟨sv2,rfl,rfl⟩
 refine mm O<|zG<|ml O O<|zQ<|zY ⟨[(4,.c _),(3,.c _),(1,.c _)],[_,_]⟩ (Weak.mk [true,true] ⟨zJ,zJ,zJ,T⟩ O)<|qL 2 1 O O (Nat×Value) (fun ⟨k,sv⟩=>[(4,vI k),(3,.c (.lit sv))]) (fun ⟨k,sv⟩=>[E.vec sv 54 13 ((e::bU (e.Args.take k)).map Ex.cells)]) (fun ⟨k,sv⟩=>k<=e.Args.length) (fun ⟨k,sv⟩=>e.Args.length-k) ⟨⟨0,_⟩,zA,Weak.mk [true,true] ⟨zJ,zJ,zJ,T⟩ (by exact zGv (by simp [bU,Ex.cells_eq];rfl))⟩ ?_
 rintro ⟨k,sv⟩ hk
 show AWP _ _ _ _ _ ⟨[(4,vI k),(3,.c (.lit sv))]++_,[E.vec sv 54 13 ((e::bU (e.Args.take k)).map Ex.cells)]++_⟩
 refine zG<|mo O O<|zC O wD<|zH zAs (J 1 O) O<|qB O el52<|yI O<|Y<|zK O ?_ ?_<;>intro c1<;>try simp only [sx] at c1
 ·obtain ⟨x,hx⟩:=qZ e.Args k zA
  have hn1:=nodes_take hx
  refine zI<|zG<|zQ<|zT O<|A O<|zC O wD<|zH zAs (J 1 O) O<|A O<|qC O el52 zA (zCy uA)<|zM yY zZ O<|qD O uB (OwnR.pur (ih x (qA hx) (by have:=Ex.arg_wt (qA hx);omega))) (vlr O)<|zV O O (yO 0 O el52 O O O uF uF) ?_
  rintro _ _ ⟨sv3,rfl,rfl⟩
  refine mm O<|zT O<|A O<|qI O ⟨zA,zA⟩<|A O<|Y ?_
  refine ⟨⟨k+1,sv3⟩,zA,(by show e.Args.length-(k+1)<e.Args.length-k;omega),Weak.mk [true,true] ⟨zJ,zJ,zJ,T⟩ (by exact zGv (by rw [zXn hx,←lCa,aC]))⟩
 ·refine qO<|mo O O<|mm O<|zY _ (Weak.mem [true,false] O)<|zF<|zS O ?_
  exact ⟨_,O,by rw [yW zA,←wC];rfl⟩
def ref14_All (e:Ex) (he:e.wt<=2000000):OwnR cfg 140 [vE e] 54 13 ((dI e).map Ex.cells):=by
  induction e using Ex.ind with
  |_ e ih=>exact ref14_All_step e ih he
end Go.W
end
