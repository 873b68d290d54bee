/-
  Walks: what functions of the program compute. Printed by wip/gen/mk2.py.
  Conditions: none.
-/
import Derived.Test.YtdbflnlalkfeeaaGreatDoorWE
import Derived.Test.YtdbflnlalkfeeaaGreatDoorPlain
import Derived.Test.YtdbflnlalkfeeaaGreatDoorEngZ
set_option maxRecDepth 10000
namespace Go.W
open Go Go.Eng Go.Proofs Go.L41 Go.Br
attribute [local irreducible] AWP RWP TD finQ
theorem el33 : elemT Tryz.prog 33 = some (3,1,8):= by kernel_rfl
theorem ok185 : callOk Tryz.prog 185 = true:= by kernel_rfl
theorem ok204 : callOk Tryz.prog 204 = true:= by kernel_rfl
theorem ok205 : callOk Tryz.prog 205 = true:= by kernel_rfl
theorem ok206 : callOk Tryz.prog 206 = true:= by kernel_rfl
theorem ok207 : callOk Tryz.prog 207 = true:= by kernel_rfl
theorem ok208 : callOk Tryz.prog 208 = true:= by kernel_rfl
theorem ok209 : callOk Tryz.prog 209 = true:= by kernel_rfl
theorem ok210 : callOk Tryz.prog 210 = true:= by kernel_rfl
theorem ok211 : callOk Tryz.prog 211 = true:= by kernel_rfl
theorem ok212 : callOk Tryz.prog 212 = true:= by kernel_rfl
theorem ok242 : callOk Tryz.prog 242 = true:= by kernel_rfl
theorem ok244 : callOk Tryz.prog 244 = true:= by kernel_rfl
theorem ok245 : callOk Tryz.prog 245 = true:= by kernel_rfl
theorem ok246 : callOk Tryz.prog 246 = true:= by kernel_rfl
theorem ok247 : callOk Tryz.prog 247 = true:= by kernel_rfl
theorem ok248 : callOk Tryz.prog 248 = true:= by kernel_rfl
theorem ok249 : callOk Tryz.prog 249 = true:= by kernel_rfl
theorem ok250 : callOk Tryz.prog 250 = true:= by kernel_rfl
theorem ok277 : callOk Tryz.prog 277 = true:= by kernel_rfl
theorem zKr (a : Int) :
    Pur cfg 242 [vI a] (vB false):= by
 refine zV Tryz.func242 rfl Tryz.ntmps242 Tryz.results242 rfl ?_
 intro z hz
 refine sReg rfl<|rMv rfl<|zB<|sReg rfl<|rMv rfl<|rMv rfl<|zA rfl (qR rfl rfl rfl)<|rMv rfl<|zB<|zI<|zQ rfl ?_
 exact congrArg vB (by simp)
theorem kQ (a b : Int) :
    Pur cfg 205 [vI a,vI b] (vI (cmpI a b)):= by
 refine zV Tryz.func205 rfl Tryz.ntmps205 Tryz.results205 rfl ?_
 intro z hz
 refine sReg rfl<|rMv rfl<|zB<|sReg rfl<|rMv rfl<|zA rfl (zP rfl ok242 (zKr a) ⟨zE,rfl,trivial⟩)<|rMv rfl<|zB<|sReg rfl<|rMv rfl<|zA rfl (zP rfl ok242 (zKr b) ⟨zE,rfl,trivial⟩)<|rMv rfl<|zB<|zK<|sReg rfl<|rMv rfl<|zB<|zH rfl (fun c1 => ?_) (fun c1 => ?_)
 ·exact absurd c1 (by decide)
 ·refine zJ<|zK<|sReg rfl<|rMv rfl<|zB<|zH rfl (fun c3 => ?_) (fun c3 => ?_)
  ·exact absurd c3 (by decide)
  ·refine zJ<|zK<|sReg rfl<|rMv rfl<|rMv rfl<|zA rfl (qM rfl rfl rfl)<|zB<|zH rfl (fun c4 => ?_) (fun c4 => ?_)
   ·try simp only [sx] at c4
    refine sReg rfl<|rMv rfl<|zB<|zI<|zQ rfl ?_
    rw [cmpI_lt c4]
   ·try simp only [sx] at c4
    refine zJ<|zK<|sReg rfl<|rMv rfl<|rMv rfl<|zA rfl (yA rfl rfl rfl)<|zB<|zH rfl (fun c5 => ?_) (fun c5 => ?_)
    ·try simp only [sx] at c5
     refine sReg rfl<|rMv rfl<|zB<|zI<|zQ rfl ?_
     rw [cmpI_gt c5]
    ·try simp only [sx] at c5
     refine zJ<|sReg rfl<|rMv rfl<|zB<|zI<|zQ rfl ?_
     rw [cmpI_eq (by omega) (by omega)]
theorem zKs (a : Int) :
    Pur cfg 244 [vI a] (vB false):= by
 refine zV Tryz.func244 rfl Tryz.ntmps244 Tryz.results244 rfl ?_
 intro z hz
 refine sReg rfl<|rMv rfl<|zB<|sReg rfl<|rMv rfl<|rMv rfl<|zA rfl (qR rfl rfl rfl)<|rMv rfl<|zB<|zI<|zQ rfl ?_
 exact congrArg vB (by simp)
theorem zHe (a b : Int) :
    Pur cfg 207 [vI a,vI b] (vI (cmpI a b)):= by
 refine zV Tryz.func207 rfl Tryz.ntmps207 Tryz.results207 rfl ?_
 intro z hz
 refine sReg rfl<|rMv rfl<|zB<|sReg rfl<|rMv rfl<|zA rfl (zP rfl ok244 (zKs a) ⟨zE,rfl,trivial⟩)<|rMv rfl<|zB<|sReg rfl<|rMv rfl<|zA rfl (zP rfl ok244 (zKs b) ⟨zE,rfl,trivial⟩)<|rMv rfl<|zB<|zK<|sReg rfl<|rMv rfl<|zB<|zH rfl (fun c1 => ?_) (fun c1 => ?_)
 ·exact absurd c1 (by decide)
 ·refine zJ<|zK<|sReg rfl<|rMv rfl<|zB<|zH rfl (fun c3 => ?_) (fun c3 => ?_)
  ·exact absurd c3 (by decide)
  ·refine zJ<|zK<|sReg rfl<|rMv rfl<|rMv rfl<|zA rfl (qM rfl rfl rfl)<|zB<|zH rfl (fun c4 => ?_) (fun c4 => ?_)
   ·try simp only [sx] at c4
    refine sReg rfl<|rMv rfl<|zB<|zI<|zQ rfl ?_
    rw [cmpI_lt c4]
   ·try simp only [sx] at c4
    refine zJ<|zK<|sReg rfl<|rMv rfl<|rMv rfl<|zA rfl (yA rfl rfl rfl)<|zB<|zH rfl (fun c5 => ?_) (fun c5 => ?_)
    ·try simp only [sx] at c5
     refine sReg rfl<|rMv rfl<|zB<|zI<|zQ rfl ?_
     rw [cmpI_gt c5]
    ·try simp only [sx] at c5
     refine zJ<|sReg rfl<|rMv rfl<|zB<|zI<|zQ rfl ?_
     rw [cmpI_eq (by omega) (by omega)]
theorem cmp_Or_int (l : List Int) (hl : l.length ≤ 4294967296) :
    Pur cfg 204 [.c (.sl 1 (l.map fun n => [cI n]))] (vI (orI l)):= by
 refine zV Tryz.func204 rfl Tryz.ntmps204 Tryz.results204 rfl ?_
 intro z hz
 refine sReg rfl<|rMv rfl<|zB<|sReg rfl<|rMv rfl<|zB<|zK<|sReg rfl<|rMv rfl<|zA rfl (zR rfl el33 rfl)<|rMv rfl<|zB<|zS<|zY ⟨[(8,.c _),(3,.c _),(6,.c _),(7,.c _)],[]⟩ (Weak.mk [] ⟨zE,zE,zE,zE,trivial⟩ rfl)<|qI 1 0 rfl rfl (Nat) (fun k => [(8,vI k)]) (fun k => []) (fun k => k ≤ l.length ∧ (orI l = orI (l.drop k))) (fun k => l.length - k) ⟨0,⟨by omega,rfl⟩,Weak.mk [] ⟨zE,zE,zE,zE,trivial⟩ rfl⟩ ?_
 rintro k ⟨hk,hp⟩
 refine sReg rfl<|zA rfl (qM rfl rfl rfl)<|zB<|zK<|zH rfl (fun c1 => ?_) (fun c1 => ?_)
 ·try simp only [sx] at c1
  obtain ⟨x,hx⟩ := qX l k (by omega)
  refine zJ<|zK<|zS<|sReg rfl<|zA rfl (zO rfl el33 rfl rfl (by omega) (getm (by assumption)))<|zA rfl (zD rfl one3 rfl qC rfl)<|rMv rfl<|zB<|sReg rfl<|rMv rfl<|rMv rfl<|zA rfl (qR rfl rfl rfl)<|zB<|zH rfl (fun c2 => ?_) (fun c2 => ?_)
  ·try simp only [sx] at c2
   refine sReg rfl<|rMv rfl<|rMv rfl<|zB<|zI<|zQ rfl ?_
   rw [hp,orI_at hx c2]
  ·try simp only [sx] at c2
   refine zJ<|zU rfl<|zA rfl (qB rfl rfl rfl ⟨by omega,by omega⟩)<|rMv rfl<|zB ?_
   refine ⟨k + 1,⟨by omega,hp.trans (orI_next hx c2)⟩,(by omega),Weak.mk [] ⟨zE,zE,zE,zE,trivial⟩ rfl⟩
 ·try simp only [sx] at c1
  refine qN<|sReg rfl<|rMv rfl<|rMv rfl<|zB<|zI<|zQ rfl ?_
  rw [hp,yT (by omega)]; rfl
theorem zEk (a b : List Mono) (c : C) (f : Mono → Mono → Int) (ha : a.length ≤ 4294967296) (hb : b.length ≤ 4294967296) (hc : ∀ x,x ∈ a → ∀ y,y ∈ b → FnPur cfg c [vMono x,vMono y] (vI (f x y))) :
    Pur cfg 245 [.c (.sl 2 (a.map Mono.cells)),.c (.sl 2 (b.map Mono.cells)),.c c] (vI (cmpL f a b)):= by
 refine zV Tryz.func245 rfl Tryz.ntmps245 Tryz.results245 rfl ?_
 intro z hz
 refine sReg rfl<|rMv rfl<|zB<|zK<|sReg rfl<|rMv rfl<|zA rfl (zR rfl el47 rfl)<|rMv rfl<|zB<|zS<|zY ⟨[(13,.c _),(0,.c _),(1,.c _),(2,.c _),(11,.c _),(12,.c _)],[]⟩ (Weak.mk [] ⟨zE,zE,zE,zE,zE,zE,trivial⟩ rfl)<|qI 1 0 rfl rfl (Nat) (fun k => [(13,vI k)]) (fun k => []) (fun k => k ≤ a.length ∧ (cmpL f a b = cmpL f (a.drop k) (b.drop k)) ∧ (k ≤ b.length)) (fun k => a.length - k) ⟨0,⟨by omega,rfl,by omega⟩,Weak.mk [] ⟨zE,zE,zE,zE,zE,zE,trivial⟩ rfl⟩ ?_
 rintro k ⟨hk,hp,hq⟩
 refine sReg rfl<|zA rfl (qM rfl rfl rfl)<|zB<|zK<|zH rfl (fun c1 => ?_) (fun c1 => ?_)
 ·try simp only [sx] at c1
  obtain ⟨x,hx⟩ := qX a k (by omega)
  refine zJ<|zK<|zS<|sReg rfl<|rMv rfl<|zA rfl (zO rfl el47 rfl rfl (by omega) (getm (by assumption)))<|zA rfl (zG rfl zEc rfl qC rfl)<|qA rfl rfl (yJ rfl zFu) ?_
  rintro _ _ ⟨b1,rfl,rfl⟩
  refine rMv rfl<|zX rfl rfl (zT rfl sz111 rfl rfl rfl (qH 0 rfl rfl))<|zB<|zK<|sReg rfl<|rMv rfl<|rMv rfl<|zA rfl (zR rfl el47 rfl)<|zA rfl (kZ rfl rfl rfl)<|zB<|zH rfl (fun c2 => ?_) (fun c2 => ?_)
  ·try simp only [sx] at c2
   refine sReg rfl<|rMv rfl<|zB<|zI<|zQ rfl ?_
   rw [hp,zOe hx (by omega)]
  ·try simp only [sx] at c2
   obtain ⟨y,hy⟩ := qX b k (by omega)
   refine zJ<|sReg rfl<|rMv rfl<|rMv rfl<|zA rfl (zO rfl el47 rfl rfl (by omega) (getm (by assumption)))<|zA rfl (zG rfl zEc rfl qC rfl)<|qA rfl rfl (yJ rfl zFu) ?_
   rintro _ _ ⟨b2,rfl,rfl⟩
   refine zX rfl rfl (zT rfl sz111 rfl rfl rfl (qH 0 rfl rfl))<|zB<|sReg rfl<|rMv rfl<|zA rfl (zG rfl zEc rfl (zF 1 rfl) rfl)<|zA rfl (zG rfl zEc rfl (zF 0 rfl) rfl)<|zA rfl (wD rfl rfl (hc _ (qE hx) _ (qE hy)) ⟨zE,rfl,zE,rfl,trivial⟩)<|rMv rfl<|zB<|sReg rfl<|rMv rfl<|zA rfl (qR rfl rfl rfl)<|zB<|zH rfl (fun c3 => ?_) (fun c3 => ?_)
   ·try simp only [sx] at c3
    refine sReg rfl<|rMv rfl<|rMv rfl<|zB<|zI<|zQ rfl ?_
    rw [hp,cmpL_ne hx hy c3]
   ·try simp only [sx] at c3
    refine zJ<|zU rfl<|zA rfl (qB rfl rfl rfl ⟨by omega,by omega⟩)<|rMv rfl<|zB ?_
    refine ⟨k + 1,⟨by omega,hp.trans (zKu hx hy c3),by omega⟩,(by omega),Weak.mk [false,false] ⟨zE,zE,zE,zE,zE,zE,trivial⟩ rfl⟩
 ·try simp only [sx] at c1
  refine qN<|zK<|sReg rfl<|rMv rfl<|zA rfl (zR rfl el47 rfl)<|rMv rfl<|zA rfl (zR rfl el47 rfl)<|zA rfl (qM rfl rfl rfl)<|zB<|zH rfl (fun c4 => ?_) (fun c4 => ?_)
  ·try simp only [sx] at c4
   refine sReg rfl<|rMv rfl<|zB<|zI<|zQ rfl ?_
   rw [hp,zKv (by omega) (by omega)]
  ·try simp only [sx] at c4
   refine zJ<|sReg rfl<|rMv rfl<|zB<|zI<|zQ rfl ?_
   rw [hp,zOf (by omega) (by omega)]
theorem zGa (a b : List Ix) (c : C) (f : Ix → Ix → Int) (ha : a.length ≤ 4294967296) (hb : b.length ≤ 4294967296) (hc : ∀ x,x ∈ a → ∀ y,y ∈ b → FnPur cfg c [vIndex x,vIndex y] (vI (f x y))) :
    Pur cfg 248 [.c (.sl 4 (a.map Ix.cells)),.c (.sl 4 (b.map Ix.cells)),.c c] (vI (cmpL f a b)):= by
 refine zV Tryz.func248 rfl Tryz.ntmps248 Tryz.results248 rfl ?_
 intro z hz
 refine sReg rfl<|rMv rfl<|zB<|zK<|sReg rfl<|rMv rfl<|zA rfl (zR rfl el44 rfl)<|rMv rfl<|zB<|zS<|zY ⟨[(13,.c _),(0,.c _),(1,.c _),(2,.c _),(11,.c _),(12,.c _)],[]⟩ (Weak.mk [] ⟨zE,zE,zE,zE,zE,zE,trivial⟩ rfl)<|qI 1 0 rfl rfl (Nat) (fun k => [(13,vI k)]) (fun k => []) (fun k => k ≤ a.length ∧ (cmpL f a b = cmpL f (a.drop k) (b.drop k)) ∧ (k ≤ b.length)) (fun k => a.length - k) ⟨0,⟨by omega,rfl,by omega⟩,Weak.mk [] ⟨zE,zE,zE,zE,zE,zE,trivial⟩ rfl⟩ ?_
 rintro k ⟨hk,hp,hq⟩
 refine sReg rfl<|zA rfl (qM rfl rfl rfl)<|zB<|zK<|zH rfl (fun c1 => ?_) (fun c1 => ?_)
 ·try simp only [sx] at c1
  obtain ⟨x,hx⟩ := qX a k (by omega)
  refine zJ<|zK<|zS<|sReg rfl<|rMv rfl<|zA rfl (zO rfl el44 rfl rfl (by omega) (getm (by assumption)))<|zA rfl (zG rfl zCv rfl qC rfl)<|qA rfl rfl (qO [none,some 2,none,some 2] rfl zJe rfl) ?_
  rintro _ _ ⟨b1,rfl,rfl⟩
  refine rMv rfl<|zX rfl rfl (zT rfl sz114 rfl rfl rfl (qH 0 rfl rfl))<|zB<|zK<|sReg rfl<|rMv rfl<|rMv rfl<|zA rfl (zR rfl el44 rfl)<|zA rfl (kZ rfl rfl rfl)<|zB<|zH rfl (fun c2 => ?_) (fun c2 => ?_)
  ·try simp only [sx] at c2
   refine sReg rfl<|rMv rfl<|zB<|zI<|zQ rfl ?_
   rw [hp,zOe hx (by omega)]
  ·try simp only [sx] at c2
   obtain ⟨y,hy⟩ := qX b k (by omega)
   refine zJ<|sReg rfl<|rMv rfl<|rMv rfl<|zA rfl (zO rfl el44 rfl rfl (by omega) (getm (by assumption)))<|zA rfl (zG rfl zCv rfl qC rfl)<|qA rfl rfl (qO [none,some 2,none,some 2] rfl zJe rfl) ?_
   rintro _ _ ⟨b2,rfl,rfl⟩
   refine zX rfl rfl (zT rfl sz114 rfl rfl rfl (qH 0 rfl rfl))<|zB<|sReg rfl<|rMv rfl<|zA rfl (zG rfl zCv rfl (zF 1 rfl) rfl)<|zA rfl (zG rfl zCv rfl (zF 0 rfl) rfl)<|zA rfl (wD rfl rfl (hc _ (qE hx) _ (qE hy)) ⟨zE,rfl,zE,rfl,trivial⟩)<|rMv rfl<|zB<|sReg rfl<|rMv rfl<|zA rfl (qR rfl rfl rfl)<|zB<|zH rfl (fun c3 => ?_) (fun c3 => ?_)
   ·try simp only [sx] at c3
    refine sReg rfl<|rMv rfl<|rMv rfl<|zB<|zI<|zQ rfl ?_
    rw [hp,cmpL_ne hx hy c3]
   ·try simp only [sx] at c3
    refine zJ<|zU rfl<|zA rfl (qB rfl rfl rfl ⟨by omega,by omega⟩)<|rMv rfl<|zB ?_
    refine ⟨k + 1,⟨by omega,hp.trans (zKu hx hy c3),by omega⟩,(by omega),Weak.mk [false,false] ⟨zE,zE,zE,zE,zE,zE,trivial⟩ rfl⟩
 ·try simp only [sx] at c1
  refine qN<|zK<|sReg rfl<|rMv rfl<|zA rfl (zR rfl el44 rfl)<|rMv rfl<|zA rfl (zR rfl el44 rfl)<|zA rfl (qM rfl rfl rfl)<|zB<|zH rfl (fun c4 => ?_) (fun c4 => ?_)
  ·try simp only [sx] at c4
   refine sReg rfl<|rMv rfl<|zB<|zI<|zQ rfl ?_
   rw [hp,zKv (by omega) (by omega)]
  ·try simp only [sx] at c4
   refine zJ<|sReg rfl<|rMv rfl<|zB<|zI<|zQ rfl ?_
   rw [hp,zOf (by omega) (by omega)]
theorem zFz (a b : List Lf) (c : C) (f : Lf → Lf → Int) (ha : a.length ≤ 4294967296) (hb : b.length ≤ 4294967296) (hc : ∀ x,x ∈ a → ∀ y,y ∈ b → FnPur cfg c [vLin x,vLin y] (vI (f x y))) :
    Pur cfg 277 [.c (.sl 2 (a.map Lf.cells)),.c (.sl 2 (b.map Lf.cells)),.c c] (vI (cmpL f a b)):= by
 refine zV Tryz.func277 rfl Tryz.ntmps277 Tryz.results277 rfl ?_
 intro z hz
 refine sReg rfl<|rMv rfl<|zB<|zK<|sReg rfl<|rMv rfl<|zA rfl (zR rfl wE rfl)<|rMv rfl<|zB<|zS<|zY ⟨[(13,.c _),(0,.c _),(1,.c _),(2,.c _),(11,.c _),(12,.c _)],[]⟩ (Weak.mk [] ⟨zE,zE,zE,zE,zE,zE,trivial⟩ rfl)<|qI 1 0 rfl rfl (Nat) (fun k => [(13,vI k)]) (fun k => []) (fun k => k ≤ a.length ∧ (cmpL f a b = cmpL f (a.drop k) (b.drop k)) ∧ (k ≤ b.length)) (fun k => a.length - k) ⟨0,⟨by omega,rfl,by omega⟩,Weak.mk [] ⟨zE,zE,zE,zE,zE,zE,trivial⟩ rfl⟩ ?_
 rintro k ⟨hk,hp,hq⟩
 refine sReg rfl<|zA rfl (qM rfl rfl rfl)<|zB<|zK<|zH rfl (fun c1 => ?_) (fun c1 => ?_)
 ·try simp only [sx] at c1
  obtain ⟨x,hx⟩ := qX a k (by omega)
  refine zJ<|zK<|zS<|sReg rfl<|rMv rfl<|zA rfl (zO rfl wE rfl rfl (by omega) (getm (by assumption)))<|zA rfl (zG rfl kG rfl qC rfl)<|qA rfl rfl (qO [none,some 2] rfl zr49 rfl) ?_
  rintro _ _ ⟨b1,rfl,rfl⟩
  refine rMv rfl<|zX rfl rfl (zT rfl sz49 rfl rfl rfl (qH 0 rfl rfl))<|zB<|zK<|sReg rfl<|rMv rfl<|rMv rfl<|zA rfl (zR rfl wE rfl)<|zA rfl (kZ rfl rfl rfl)<|zB<|zH rfl (fun c2 => ?_) (fun c2 => ?_)
  ·try simp only [sx] at c2
   refine sReg rfl<|rMv rfl<|zB<|zI<|zQ rfl ?_
   rw [hp,zOe hx (by omega)]
  ·try simp only [sx] at c2
   obtain ⟨y,hy⟩ := qX b k (by omega)
   refine zJ<|sReg rfl<|rMv rfl<|rMv rfl<|zA rfl (zO rfl wE rfl rfl (by omega) (getm (by assumption)))<|zA rfl (zG rfl kG rfl qC rfl)<|qA rfl rfl (qO [none,some 2] rfl zr49 rfl) ?_
   rintro _ _ ⟨b2,rfl,rfl⟩
   refine zX rfl rfl (zT rfl sz49 rfl rfl rfl (qH 0 rfl rfl))<|zB<|sReg rfl<|rMv rfl<|zA rfl (zG rfl kG rfl (zF 1 rfl) rfl)<|zA rfl (zG rfl kG rfl (zF 0 rfl) rfl)<|zA rfl (wD rfl rfl (hc _ (qE hx) _ (qE hy)) ⟨zE,rfl,zE,rfl,trivial⟩)<|rMv rfl<|zB<|sReg rfl<|rMv rfl<|zA rfl (qR rfl rfl rfl)<|zB<|zH rfl (fun c3 => ?_) (fun c3 => ?_)
   ·try simp only [sx] at c3
    refine sReg rfl<|rMv rfl<|rMv rfl<|zB<|zI<|zQ rfl ?_
    rw [hp,cmpL_ne hx hy c3]
   ·try simp only [sx] at c3
    refine zJ<|zU rfl<|zA rfl (qB rfl rfl rfl ⟨by omega,by omega⟩)<|rMv rfl<|zB ?_
    refine ⟨k + 1,⟨by omega,hp.trans (zKu hx hy c3),by omega⟩,(by omega),Weak.mk [false,false] ⟨zE,zE,zE,zE,zE,zE,trivial⟩ rfl⟩
 ·try simp only [sx] at c1
  refine qN<|zK<|sReg rfl<|rMv rfl<|zA rfl (zR rfl wE rfl)<|rMv rfl<|zA rfl (zR rfl wE rfl)<|zA rfl (qM rfl rfl rfl)<|zB<|zH rfl (fun c4 => ?_) (fun c4 => ?_)
  ·try simp only [sx] at c4
   refine sReg rfl<|rMv rfl<|zB<|zI<|zQ rfl ?_
   rw [hp,zKv (by omega) (by omega)]
  ·try simp only [sx] at c4
   refine zJ<|sReg rfl<|rMv rfl<|zB<|zI<|zQ rfl ?_
   rw [hp,zOf (by omega) (by omega)]
theorem zGb (a b : List Ex) (c : C) (f : Ex → Ex → Int) (ha : a.length ≤ 4294967296) (hb : b.length ≤ 4294967296) (hc : ∀ x,x ∈ a → ∀ y,y ∈ b → FnPur cfg c [vE x,vE y] (vI (f x y))) :
    Pur cfg 250 [.c (.sl 13 (a.map Ex.cells)),.c (.sl 13 (b.map Ex.cells)),.c c] (vI (cmpL f a b)):= by
 refine zV Tryz.func250 rfl Tryz.ntmps250 Tryz.results250 rfl ?_
 intro z hz
 refine sReg rfl<|rMv rfl<|zB<|zK<|sReg rfl<|rMv rfl<|zA rfl (zR rfl el50 rfl)<|rMv rfl<|zB<|zS<|zY ⟨[(13,.c _),(0,.c _),(1,.c _),(2,.c _),(11,.c _),(12,.c _)],[]⟩ (Weak.mk [] ⟨zE,zE,zE,zE,zE,zE,trivial⟩ rfl)<|qI 1 0 rfl rfl (Nat) (fun k => [(13,vI k)]) (fun k => []) (fun k => k ≤ a.length ∧ (cmpL f a b = cmpL f (a.drop k) (b.drop k)) ∧ (k ≤ b.length)) (fun k => a.length - k) ⟨0,⟨by omega,rfl,by omega⟩,Weak.mk [] ⟨zE,zE,zE,zE,zE,zE,trivial⟩ rfl⟩ ?_
 rintro k ⟨hk,hp,hq⟩
 refine sReg rfl<|zA rfl (qM rfl rfl rfl)<|zB<|zK<|zH rfl (fun c1 => ?_) (fun c1 => ?_)
 ·try simp only [sx] at c1
  obtain ⟨x,hx⟩ := qX a k (by omega)
  refine zJ<|zK<|zS<|sReg rfl<|rMv rfl<|zA rfl (zO rfl el50 rfl rfl (by omega) (zEy (by assumption)))<|zA rfl (zG rfl yS rfl qC rfl)<|qA rfl rfl (qO [none,none,none,none,none,none,none,none,none,none,some 2,some 4,some 13] rfl zr52 rfl) ?_
  rintro _ _ ⟨b1,rfl,rfl⟩
  refine rMv rfl<|zX rfl rfl (zT rfl sz52 rfl rfl rfl (qH 0 rfl rfl))<|zB<|zK<|sReg rfl<|rMv rfl<|rMv rfl<|zA rfl (zR rfl el50 rfl)<|zA rfl (kZ rfl rfl rfl)<|zB<|zH rfl (fun c2 => ?_) (fun c2 => ?_)
  ·try simp only [sx] at c2
   refine sReg rfl<|rMv rfl<|zB<|zI<|zQ rfl ?_
   rw [hp,zOe hx (by omega)]
  ·try simp only [sx] at c2
   obtain ⟨y,hy⟩ := qX b k (by omega)
   refine zJ<|sReg rfl<|rMv rfl<|rMv rfl<|zA rfl (zO rfl el50 rfl rfl (by omega) (zEy (by assumption)))<|zA rfl (zG rfl yS rfl qC rfl)<|qA rfl rfl (qO [none,none,none,none,none,none,none,none,none,none,some 2,some 4,some 13] rfl zr52 rfl) ?_
   rintro _ _ ⟨b2,rfl,rfl⟩
   refine zX rfl rfl (zT rfl sz52 rfl rfl rfl (qH 0 rfl rfl))<|zB<|sReg rfl<|rMv rfl<|zA rfl (zG rfl yS rfl (zF 1 rfl) rfl)<|zA rfl (zG rfl yS rfl (zF 0 rfl) rfl)<|zA rfl (wD rfl rfl (hc _ (qE hx) _ (qE hy)) ⟨zE,rfl,zE,rfl,trivial⟩)<|rMv rfl<|zB<|sReg rfl<|rMv rfl<|zA rfl (qR rfl rfl rfl)<|zB<|zH rfl (fun c3 => ?_) (fun c3 => ?_)
   ·try simp only [sx] at c3
    refine sReg rfl<|rMv rfl<|rMv rfl<|zB<|zI<|zQ rfl ?_
    rw [hp,cmpL_ne hx hy c3]
   ·try simp only [sx] at c3
    refine zJ<|zU rfl<|zA rfl (qB rfl rfl rfl ⟨by omega,by omega⟩)<|rMv rfl<|zB ?_
    refine ⟨k + 1,⟨by omega,hp.trans (zKu hx hy c3),by omega⟩,(by omega),Weak.mk [false,false] ⟨zE,zE,zE,zE,zE,zE,trivial⟩ rfl⟩
 ·try simp only [sx] at c1
  refine qN<|zK<|sReg rfl<|rMv rfl<|zA rfl (zR rfl el50 rfl)<|rMv rfl<|zA rfl (zR rfl el50 rfl)<|zA rfl (qM rfl rfl rfl)<|zB<|zH rfl (fun c4 => ?_) (fun c4 => ?_)
  ·try simp only [sx] at c4
   refine sReg rfl<|rMv rfl<|zB<|zI<|zQ rfl ?_
   rw [hp,zKv (by omega) (by omega)]
  ·try simp only [sx] at c4
   refine zJ<|sReg rfl<|rMv rfl<|zB<|zI<|zQ rfl ?_
   rw [hp,zOf (by omega) (by omega)]
theorem zRn (a b : List Ix) (c : C) (f : Ix → Ix → Int) (ha : a.length ≤ 4294967296) (hb : b.length ≤ 4294967296) (hc : ∀ x,x ∈ a → ∀ y,y ∈ b → FnPur cfg c [vIndex x,vIndex y] (vI (f x y))) :
    Pur cfg 210 [.c (.sl 4 (a.map Ix.cells)),.c (.sl 4 (b.map Ix.cells)),.c c] (vI (cmpLs f a b)):= by
 refine zV Tryz.func210 rfl Tryz.ntmps210 Tryz.results210 rfl ?_
 intro z hz
 refine sReg rfl<|rMv rfl<|zB<|zK<|sReg rfl<|rMv rfl<|zA rfl (zR rfl el44 rfl)<|rMv rfl<|zA rfl (zR rfl el44 rfl)<|zA rfl (zP rfl ok205 (kQ _ _) ⟨zE,rfl,zE,rfl,trivial⟩)<|rMv rfl<|zB<|sReg rfl<|rMv rfl<|zA rfl (qR rfl rfl rfl)<|zB<|zH rfl (fun c1 => ?_) (fun c1 => ?_)
 ·try simp only [sx] at c1
  refine sReg rfl<|rMv rfl<|rMv rfl<|zB<|zI<|zQ rfl ?_
  rw [cmpLs,if_neg c1]
 ·try simp only [sx] at c1
  refine zJ<|sReg rfl<|rMv rfl<|rMv rfl<|rMv rfl<|zA rfl (zP rfl ok248 (zGa a b c f ha hb hc) ⟨zE,rfl,zE,rfl,zE,rfl,trivial⟩)<|rMv rfl<|zB<|zI<|zQ rfl ?_
  rw [cmpLs,if_pos c1]
theorem zRm (a b : List Lf) (c : C) (f : Lf → Lf → Int) (ha : a.length ≤ 4294967296) (hb : b.length ≤ 4294967296) (hc : ∀ x,x ∈ a → ∀ y,y ∈ b → FnPur cfg c [vLin x,vLin y] (vI (f x y))) :
    Pur cfg 249 [.c (.sl 2 (a.map Lf.cells)),.c (.sl 2 (b.map Lf.cells)),.c c] (vI (cmpLs f a b)):= by
 refine zV Tryz.func249 rfl Tryz.ntmps249 Tryz.results249 rfl ?_
 intro z hz
 refine sReg rfl<|rMv rfl<|zB<|zK<|sReg rfl<|rMv rfl<|zA rfl (zR rfl wE rfl)<|rMv rfl<|zA rfl (zR rfl wE rfl)<|zA rfl (zP rfl ok205 (kQ _ _) ⟨zE,rfl,zE,rfl,trivial⟩)<|rMv rfl<|zB<|sReg rfl<|rMv rfl<|zA rfl (qR rfl rfl rfl)<|zB<|zH rfl (fun c1 => ?_) (fun c1 => ?_)
 ·try simp only [sx] at c1
  refine sReg rfl<|rMv rfl<|rMv rfl<|zB<|zI<|zQ rfl ?_
  rw [cmpLs,if_neg c1]
 ·try simp only [sx] at c1
  refine zJ<|sReg rfl<|rMv rfl<|rMv rfl<|rMv rfl<|zA rfl (zP rfl ok277 (zFz a b c f ha hb hc) ⟨zE,rfl,zE,rfl,zE,rfl,trivial⟩)<|rMv rfl<|zB<|zI<|zQ rfl ?_
  rw [cmpLs,if_pos c1]
theorem zRo (a b : List Ex) (c : C) (f : Ex → Ex → Int) (ha : a.length ≤ 4294967296) (hb : b.length ≤ 4294967296) (hc : ∀ x,x ∈ a → ∀ y,y ∈ b → FnPur cfg c [vE x,vE y] (vI (f x y))) :
    Pur cfg 212 [.c (.sl 13 (a.map Ex.cells)),.c (.sl 13 (b.map Ex.cells)),.c c] (vI (cmpLs f a b)):= by
 refine zV Tryz.func212 rfl Tryz.ntmps212 Tryz.results212 rfl ?_
 intro z hz
 refine sReg rfl<|rMv rfl<|zB<|zK<|sReg rfl<|rMv rfl<|zA rfl (zR rfl el50 rfl)<|rMv rfl<|zA rfl (zR rfl el50 rfl)<|zA rfl (zP rfl ok205 (kQ _ _) ⟨zE,rfl,zE,rfl,trivial⟩)<|rMv rfl<|zB<|sReg rfl<|rMv rfl<|zA rfl (qR rfl rfl rfl)<|zB<|zH rfl (fun c1 => ?_) (fun c1 => ?_)
 ·try simp only [sx] at c1
  refine sReg rfl<|rMv rfl<|rMv rfl<|zB<|zI<|zQ rfl ?_
  rw [cmpLs,if_neg c1]
 ·try simp only [sx] at c1
  refine zJ<|sReg rfl<|rMv rfl<|rMv rfl<|rMv rfl<|zA rfl (zP rfl ok250 (zGb a b c f ha hb hc) ⟨zE,rfl,zE,rfl,zE,rfl,trivial⟩)<|rMv rfl<|zB<|zI<|zQ rfl ?_
  rw [cmpLs,if_pos c1]
theorem lin_order (a b : Int) :
    Pur cfg 247 [vI a,vI b] (vI (cmpI a b)):= by
 refine zV Tryz.func247 rfl Tryz.ntmps247 Tryz.results247 rfl ?_
 intro z hz
 refine sReg rfl<|rMv rfl<|zB<|zK<|zS<|sReg rfl<|rMv rfl<|rMv rfl<|zA rfl (qM rfl rfl rfl)<|rMv rfl<|zB<|zH rfl (fun c1 => ?_) (fun c1 => ?_)
 ·try simp only [sx] at c1
  refine sReg rfl<|rMv rfl<|zB<|zI<|zQ rfl ?_
  rw [cmpI_lt c1]
 ·try simp only [sx] at c1
  refine sReg rfl<|rMv rfl<|rMv rfl<|zA rfl (yA rfl rfl rfl)<|rMv rfl<|zB<|zH rfl (fun c2 => ?_) (fun c2 => ?_)
  ·try simp only [sx] at c2
   refine sReg rfl<|rMv rfl<|zB<|zI<|zQ rfl ?_
   rw [cmpI_gt c2]
  ·try simp only [sx] at c2
   refine zJ<|sReg rfl<|rMv rfl<|zB<|zI<|zQ rfl ?_
   rw [cmpI_eq (by omega) (by omega)]
theorem lin_Compare_1 (x y : Mono) :
    Pur cfg 246 [vMono x,vMono y] (vI (cmpM x y)):= by
 refine zV Tryz.func246 rfl Tryz.ntmps246 Tryz.results246 rfl ?_
 intro z hz
 refine sReg rfl<|qA rfl rfl (qL rfl rfl) ?_
 rintro _ _ ⟨b1,rfl,rfl⟩
 refine qA rfl rfl (qL rfl rfl) ?_
 rintro _ _ ⟨b2,rfl,rfl⟩
 refine rMv rfl<|zB<|zK<|sReg rfl<|zA rfl (zC rfl wG rfl)<|zA rfl (zD rfl one9 rfl (zF 1 rfl) rfl)<|zA rfl (zC rfl wG rfl)<|zA rfl (zD rfl one9 rfl (zF 0 rfl) rfl)<|zA rfl (zCd rfl rfl rfl)<|zB<|zH rfl (fun c1 => ?_) (fun c1 => ?_)
 ·try simp only [sx] at c1
  refine sReg rfl<|zA rfl (zC rfl wG rfl)<|zA rfl (zD rfl one9 rfl (zF 1 rfl) rfl)<|zA rfl (zC rfl wG rfl)<|zA rfl (zD rfl one9 rfl (zF 0 rfl) rfl)<|zA rfl (zP rfl ok206 (strings_Compare _ _) ⟨zE,rfl,zE,rfl,trivial⟩)<|rMv rfl<|zB<|zI<|zQ rfl ?_
  rw [cmpM,if_neg c1]
 ·try simp only [sx] at c1
  refine zJ<|sReg rfl<|zA rfl (zC rfl zDj rfl)<|zA rfl (zD rfl one2 rfl (zF 1 rfl) rfl)<|zA rfl (zC rfl zDj rfl)<|zA rfl (zD rfl one2 rfl (zF 0 rfl) rfl)<|zA rfl (zP rfl ok247 (lin_order _ _) ⟨zE,rfl,zE,rfl,trivial⟩)<|rMv rfl<|zB<|zI<|zQ rfl ?_
  rw [cmpM,if_pos c1]
theorem zIz (a b : Lf) (ha : a.L.length ≤ 4294967296) (hb : b.L.length ≤ 4294967296) :
    Pur cfg 209 [vLin a,vLin b] (vI (cmpLf a b)):= by
 refine zV Tryz.func209 rfl Tryz.ntmps209 Tryz.results209 rfl ?_
 intro z hz
 refine sReg rfl<|qA rfl rfl (qL rfl rfl) ?_
 rintro _ _ ⟨b1,rfl,rfl⟩
 refine qA rfl rfl (qL rfl rfl) ?_
 rintro _ _ ⟨b2,rfl,rfl⟩
 refine rMv rfl<|zB<|sReg rfl<|zA rfl (zC rfl kO rfl)<|zA rfl (zD rfl wZ rfl (zF 1 rfl) rfl)<|zA rfl (zC rfl kO rfl)<|zA rfl (zD rfl wZ rfl (zF 0 rfl) rfl)<|zA rfl (zP rfl ok245 (zEk a.L b.L _ cmpM ha hb (fun x _ y _ => FnPur.of_pur (first := []) (cap := []) ok246 (lin_Compare_1 x y))) ⟨zE,rfl,zE,rfl,zE,rfl,trivial⟩)<|rMv rfl<|zB<|zK<|sReg rfl<|rMv rfl<|zA rfl (qR rfl rfl rfl)<|zB<|zH rfl (fun c1 => ?_) (fun c1 => ?_)
 ·try simp only [sx] at c1
  refine sReg rfl<|rMv rfl<|rMv rfl<|zB<|zI<|zQ rfl ?_
  rw [cmpLf,if_neg c1]
 ·try simp only [sx] at c1
  refine zJ<|sReg rfl<|zA rfl (zC rfl zDc rfl)<|zA rfl (zD rfl one2 rfl (zF 1 rfl) rfl)<|zA rfl (zC rfl zDc rfl)<|zA rfl (zD rfl one2 rfl (zF 0 rfl) rfl)<|zA rfl (zP rfl ok247 (lin_order _ _) ⟨zE,rfl,zE,rfl,trivial⟩)<|rMv rfl<|zB<|zI<|zQ rfl ?_
  rw [cmpLf,if_pos c1]
theorem zMd (a b : Ix) (ha : a.wt ≤ 4294967296) (hb : b.wt ≤ 4294967296) :
    Pur cfg 211 [vIndex a,vIndex b] (vI (cmpIx a b)):= by
 refine zV Tryz.func211 rfl Tryz.ntmps211 Tryz.results211 rfl ?_
 intro z hz
 have hwa := ha
 have hwb := hb
 unfold Ix.wt at hwa hwb
 refine sReg rfl<|qA rfl rfl (qL rfl rfl) ?_
 rintro _ _ ⟨b1,rfl,rfl⟩
 refine qA rfl rfl (qL rfl rfl) ?_
 rintro _ _ ⟨b2,rfl,rfl⟩
 refine rMv rfl<|zB<|zK<|sReg rfl<|zA rfl (zC rfl zAr rfl)<|zA rfl (zD rfl one9 rfl (zF 1 rfl) rfl)<|zA rfl (zC rfl zAr rfl)<|zA rfl (zD rfl one9 rfl (zF 0 rfl) rfl)<|zA rfl (zP rfl ok206 (strings_Compare _ _) ⟨zE,rfl,zE,rfl,trivial⟩)<|rMv rfl<|zB<|sReg rfl<|rMv rfl<|zA rfl (qR rfl rfl rfl)<|zB<|zH rfl (fun c1 => ?_) (fun c1 => ?_)
 ·try simp only [sx] at c1
  refine sReg rfl<|rMv rfl<|rMv rfl<|zB<|zI<|zQ rfl ?_
  rw [cmpIx,if_neg c1]
 ·try simp only [sx] at c1
  refine zJ<|zK<|sReg rfl<|zA rfl (zC rfl zAd rfl)<|zA rfl (zG rfl kG rfl (zF 1 rfl) rfl)<|zA rfl (zC rfl zAd rfl)<|zA rfl (zG rfl kG rfl (zF 0 rfl) rfl)<|zA rfl (zP rfl ok209 (zIz a.Lin b.Lin (by omega) (by omega)) ⟨zE,rfl,zE,rfl,trivial⟩)<|rMv rfl<|zB<|sReg rfl<|rMv rfl<|zA rfl (qR rfl rfl rfl)<|zB<|zH rfl (fun c2 => ?_) (fun c2 => ?_)
  ·try simp only [sx] at c2
   refine sReg rfl<|rMv rfl<|rMv rfl<|zB<|zI<|zQ rfl ?_
   rw [cmpIx,if_pos c1,if_neg c2]
  ·try simp only [sx] at c2
   refine zJ<|sReg rfl<|zA rfl (zC rfl kH rfl)<|zA rfl (zD rfl wJ rfl (zF 1 rfl) rfl)<|zA rfl (zC rfl kH rfl)<|zA rfl (zD rfl wJ rfl (zF 0 rfl) rfl)<|zA rfl (zP rfl ok249 (zRm a.At b.At _ cmpLf (by omega) (by omega) (fun x hx y hy => FnPur.of_pur (first := []) (cap := []) ok209 (zIz x y (by have := zAh hx; omega) (by have := zAh hy; omega)))) ⟨zE,rfl,zE,rfl,zE,rfl,trivial⟩)<|rMv rfl<|zB<|zI<|zQ rfl ?_
   rw [cmpIx,if_pos c1,if_pos c2]
theorem zNk (a b : Ty) :
    Pur cfg 208 [vTy a,vTy b] (vI (cmpTy a b)):= by
 refine zV Tryz.func208 rfl Tryz.ntmps208 Tryz.results208 rfl ?_
 intro z hz
 refine sReg rfl<|qA rfl rfl (qL rfl rfl) ?_
 rintro _ _ ⟨b1,rfl,rfl⟩
 refine qA rfl rfl (qL rfl rfl) ?_
 rintro _ _ ⟨b2,rfl,rfl⟩
 refine rMv rfl<|zB<|zK<|yC 28 mixed (by kernel_rfl) rfl rfl<|zM rfl rfl (zC rfl zDx rfl)<|zM rfl rfl (zD rfl one3 rfl (zF 1 rfl) rfl)<|zM rfl rfl (zC rfl zDx rfl)<|zM rfl rfl (zD rfl one3 rfl (zF 0 rfl) rfl)<|zM rfl rfl (zP rfl ok205 (kQ _ _) ⟨zE,rfl,zE,rfl,trivial⟩)<|zM rfl rfl (zC rfl zIj rfl)<|zM rfl rfl (zD rfl one3 rfl (zF 1 rfl) rfl)<|zM rfl rfl (zC rfl zIj rfl)<|zM rfl rfl (zD rfl one3 rfl (zF 0 rfl) rfl)<|zM rfl rfl (zP rfl ok205 (kQ _ _) ⟨zE,rfl,zE,rfl,trivial⟩)<|zM rfl rfl (zC rfl zRe rfl)<|zM rfl rfl (zD rfl one3 rfl (zF 1 rfl) rfl)<|zM rfl rfl (zC rfl zRe rfl)<|zM rfl rfl (zD rfl one3 rfl (zF 0 rfl) rfl)<|zM rfl rfl (zP rfl ok205 (kQ _ _) ⟨zE,rfl,zE,rfl,trivial⟩)<|zM rfl rfl (zC rfl zRd rfl)<|zM rfl rfl (zD rfl one3 rfl (zF 1 rfl) rfl)<|zM rfl rfl (zC rfl zRd rfl)<|zM rfl rfl (zD rfl one3 rfl (zF 0 rfl) rfl)<|zM rfl rfl (zP rfl ok205 (kQ _ _) ⟨zE,rfl,zE,rfl,trivial⟩)<|zM rfl rfl (zC rfl zRc rfl)<|zM rfl rfl (zD rfl one3 rfl (zF 1 rfl) rfl)<|zM rfl rfl (zC rfl zRc rfl)<|zM rfl rfl (zD rfl one3 rfl (zF 0 rfl) rfl)<|zM rfl rfl (zP rfl ok205 (kQ _ _) ⟨zE,rfl,zE,rfl,trivial⟩)<|zM rfl rfl (qZ rfl el33 zr3 rfl rfl rfl rfl)<|zM rfl rfl (zP rfl ok204 (cmp_Or_int [cmpI a.Kind b.Kind,cmpI a.Bits b.Bits,cmpI a.Frac b.Frac,cmpI a.Round b.Round,cmpI a.Over b.Over] (by simp)) ⟨zE,rfl,trivial⟩)<|zM rfl rfl (yG rfl rfl)<|kA<|zB<|zI<|zQ rfl ?_
 exact rfl
theorem zMe (a b : Ex) (ih : ∀ x,x ∈ a.Args → ∀ y,x.wt ≤ 4294967296 → y.wt ≤ 4294967296 → Pur cfg 185 [vE x,vE y] (vI (cmpE x y))) (ha : a.wt ≤ 4294967296) (hb : b.wt ≤ 4294967296) :
    Pur cfg 185 [vE a,vE b] (vI (cmpE a b)):= by
 refine zV Tryz.func185 rfl Tryz.ntmps185 Tryz.results185 rfl ?_
 intro z hz
 obtain ⟨hLa,hIa,hAa⟩ := a.parts ha
 obtain ⟨hLb,hIb,hAb⟩ := b.parts hb
 have hwa := Ex.wt_eq a
 have hwb := Ex.wt_eq b
 refine sReg rfl<|qA rfl rfl (qL rfl rfl) ?_
 rintro _ _ ⟨b1,rfl,rfl⟩
 refine qA rfl rfl (qL rfl rfl) ?_
 rintro _ _ ⟨b2,rfl,rfl⟩
 refine rMv rfl<|zB<|zK<|yC 37 mixed (by kernel_rfl) rfl rfl<|zM rfl rfl (zC rfl kN rfl)<|zM rfl rfl (zD rfl one3 rfl (zF 1 rfl) rfl)<|zM rfl rfl (zC rfl kN rfl)<|zM rfl rfl (zD rfl one3 rfl (zF 0 rfl) rfl)<|zM rfl rfl (zP rfl ok205 (kQ _ _) ⟨zE,rfl,zE,rfl,trivial⟩)<|zM rfl rfl (zC rfl zCs rfl)<|zM rfl rfl (zD rfl one9 rfl (zF 1 rfl) rfl)<|zM rfl rfl (zC rfl zCs rfl)<|zM rfl rfl (zD rfl one9 rfl (zF 0 rfl) rfl)<|zM rfl rfl (zP rfl ok206 (strings_Compare _ _) ⟨zE,rfl,zE,rfl,trivial⟩)<|zM rfl rfl (zC rfl zGz rfl)<|zM rfl rfl (zC rfl zDw rfl)<|zM rfl rfl (zD rfl one2 rfl (zF 1 rfl) rfl)<|zM rfl rfl (zC rfl zGz rfl)<|zM rfl rfl (zC rfl zDw rfl)<|zM rfl rfl (zD rfl one2 rfl (zF 0 rfl) rfl)<|zM rfl rfl (zP rfl ok207 (zHe _ _) ⟨zE,rfl,zE,rfl,trivial⟩)<|zM rfl rfl (zC rfl zGz rfl)<|zM rfl rfl (zC rfl zFp rfl)<|zM rfl rfl (zD rfl one2 rfl (zF 1 rfl) rfl)<|zM rfl rfl (zC rfl zGz rfl)<|zM rfl rfl (zC rfl zFp rfl)<|zM rfl rfl (zD rfl one2 rfl (zF 0 rfl) rfl)<|zM rfl rfl (zP rfl ok207 (zHe _ _) ⟨zE,rfl,zE,rfl,trivial⟩)<|zM rfl rfl (zC rfl zCr rfl)<|zM rfl rfl (zG rfl yH rfl (zF 1 rfl) rfl)<|zM rfl rfl (zC rfl zCr rfl)<|zM rfl rfl (zG rfl yH rfl (zF 0 rfl) rfl)<|zM rfl rfl (zP rfl ok208 (zNk _ _) ⟨zE,rfl,zE,rfl,trivial⟩)<|zM rfl rfl (zC rfl zCq rfl)<|zM rfl rfl (zG rfl kG rfl (zF 1 rfl) rfl)<|zM rfl rfl (zC rfl zCq rfl)<|zM rfl rfl (zG rfl kG rfl (zF 0 rfl) rfl)<|zM rfl rfl (zP rfl ok209 (zIz a.Lin b.Lin hLa hLb) ⟨zE,rfl,zE,rfl,trivial⟩)<|zM rfl rfl (qZ rfl el33 zr3 rfl rfl rfl rfl)<|zM rfl rfl (zP rfl ok204 (cmp_Or_int [cmpI a.Op b.Op,cmpS a.Name b.Name,cmpI a.Val.N b.Val.N,cmpI a.Val.D b.Val.D,cmpTy a.Ty b.Ty,cmpLf a.Lin b.Lin] (by simp)) ⟨zE,rfl,trivial⟩)<|zM rfl rfl (yG rfl rfl)<|kA<|zB<|zK<|sReg rfl<|rMv rfl<|zA rfl (qR rfl rfl rfl)<|zB<|zH rfl (fun c1 => ?_) (fun c1 => ?_)
 ·try simp only [sx] at c1
  refine sReg rfl<|rMv rfl<|rMv rfl<|zB<|zI<|zQ rfl ?_
  rw [cmpE_eq,if_neg (show ¬ cmpHd a b = 0 from c1)]; rfl
 ·try simp only [sx] at c1
  refine zJ<|zK<|sReg rfl<|zA rfl (zC rfl kE rfl)<|zA rfl (zD rfl kM rfl (zF 1 rfl) rfl)<|zA rfl (zC rfl kE rfl)<|zA rfl (zD rfl kM rfl (zF 0 rfl) rfl)<|zA rfl (zP rfl ok210 (zRn a.Idx b.Idx _ cmpIx hIa hIb (fun x hx y hy => FnPur.of_pur (first := []) (cap := []) ok211 (zMd x y (by have := zBj hx; omega) (by have := zBj hy; omega)))) ⟨zE,rfl,zE,rfl,zE,rfl,trivial⟩)<|rMv rfl<|zB<|sReg rfl<|rMv rfl<|zA rfl (qR rfl rfl rfl)<|zB<|zH rfl (fun c2 => ?_) (fun c2 => ?_)
  ·try simp only [sx] at c2
   refine sReg rfl<|rMv rfl<|rMv rfl<|zB<|zI<|zQ rfl ?_
   rw [cmpE_eq,if_pos (show cmpHd a b = 0 from c1),if_neg c2]
  ·try simp only [sx] at c2
   refine zJ<|sReg rfl<|zA rfl (zC rfl kW rfl)<|zA rfl (zD rfl zAt rfl (zF 1 rfl) rfl)<|zA rfl (zC rfl kW rfl)<|zA rfl (zD rfl zAt rfl (zF 0 rfl) rfl)<|zA rfl (zP rfl ok212 (zRo a.Args b.Args _ cmpE hAa hAb (fun x hx y hy => FnPur.of_pur (first := []) (cap := []) ok185 (ih x hx y (by have := Ex.arg_wt hx; omega) (by have := Ex.arg_wt hy; omega)))) ⟨zE,rfl,zE,rfl,zE,rfl,trivial⟩)<|rMv rfl<|zB<|zI<|zQ rfl ?_
   rw [cmpE_eq,if_pos (show cmpHd a b = 0 from c1),if_pos c2]
theorem expr_Compare (a b : Ex) (ha : a.wt ≤ 4294967296) (hb : b.wt ≤ 4294967296) : Pur cfg 185 [vE a,vE b] (vI (cmpE a b)):= by
  induction a using Ex.ind generalizing b with
  | _ a ih => exact zMe a b (fun x hx y h1 h2 => ih x hx y h1 h2) ha hb
theorem expr_Same (a b : Ex) (ha : a.wt ≤ 4294967296) (hb : b.wt ≤ 4294967296) :
    Pur cfg 150 [vE a,vE b] (vB (decide (a = b))):= by
 refine zV Tryz.func150 rfl Tryz.ntmps150 Tryz.results150 rfl ?_
 intro z hz
 refine sReg rfl<|qA rfl rfl (qL rfl rfl) ?_
 rintro _ _ ⟨b1,rfl,rfl⟩
 refine qA rfl rfl (qL rfl rfl) ?_
 rintro _ _ ⟨b2,rfl,rfl⟩
 refine rMv rfl<|zB<|sReg rfl<|zA rfl (zG rfl yS rfl (zF 1 rfl) rfl)<|zA rfl (zG rfl yS rfl (zF 0 rfl) rfl)<|zA rfl (zP rfl ok185 (expr_Compare a b ha hb) ⟨zE,rfl,zE,rfl,trivial⟩)<|zA rfl (qF rfl rfl rfl)<|rMv rfl<|zB<|zI<|zQ rfl ?_
 exact congrArg vB (decide_eq_decide.2 (cmpE_zero a b))
end Go.W
