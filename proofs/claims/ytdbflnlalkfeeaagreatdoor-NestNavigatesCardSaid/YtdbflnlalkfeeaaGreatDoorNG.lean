/-
  Walks: what functions of the program compute. Printed by wip/gen/mk2.py.
  Conditions: none.
-/
import Derived.Test.YtdbflnlalkfeeaaGreatDoorNF
import Derived.Test.YtdbflnlalkfeeaaGreatDoorPlain2
import Derived.Test.YtdbflnlalkfeeaaGreatDoorVK
import Derived.Test.YtdbflnlalkfeeaaGreatDoorNE
set_option maxRecDepth 10000
namespace Go.W
open Go Go.Eng Go.Proofs Go.L41 Go.Br
attribute [local irreducible] AWP RWP TD finQ
theorem el58 : elemT Tryz.prog 58 = some (5,1,1):= by kernel_rfl
theorem ik5 : intT Tryz.prog 5 = some .u8:= by kernel_rfl
theorem ok28 : callOk Tryz.prog 28 = true:= by kernel_rfl
theorem ok40 : callOk Tryz.prog 40 = true:= by kernel_rfl
theorem ok75 : callOk Tryz.prog 75 = true:= by kernel_rfl
theorem ok80 : callOk Tryz.prog 80 = true:= by kernel_rfl
theorem ok88 : callOk Tryz.prog 88 = true:= by kernel_rfl
theorem ok89 : callOk Tryz.prog 89 = true:= by kernel_rfl
theorem ok90 : callOk Tryz.prog 90 = true:= by kernel_rfl
theorem ok104 : callOk Tryz.prog 104 = true:= by kernel_rfl
theorem ok136 : callOk Tryz.prog 136 = true:= by kernel_rfl
theorem ok173 : callOk Tryz.prog 173 = true:= by kernel_rfl
theorem pl54 : placesT Tryz.prog 54 = some [(0,1),(1,1),(2,1),(3,1),(4,1),(5,1),(6,13),(19,1)]:= by kernel_rfl
theorem sz23 : (Tryz.prog.info? 23).map (·.size) = some 1:= by kernel_rfl
theorem un5 : Tryz.prog.underlying 5 = some (.int .u8):= by kernel_rfl
theorem un58 : Tryz.prog.underlying 58 = some (.slice 5):= by kernel_rfl
theorem zr5 : zeroT Tryz.prog 5 = some [(Value.int IntKind.u8 0)]:= by kernel_rfl
theorem zIz (a b : List Int) (ha : a.length ≤ 17592186044416) :
    Pur cfg 23 [vIs a,vIs b] (vB (decide (a = b))):= by
 refine zU Tryz.func23 rfl Tryz.ntmps23 Tryz.results23 rfl ?_
 intro z hz
 refine sReg rfl<|rMv rfl<|zB<|zJ<|sReg rfl<|rMv rfl<|zA rfl rfl (zP rfl el33 rfl)<|rMv rfl<|zA rfl rfl (zP rfl el33 rfl)<|zA rfl rfl (qV rfl rfl rfl)<|zB<|zG rfl (fun c1 => ?_) (fun c1 => ?_)
 ·try simp only [sx] at c1
  refine sReg rfl<|rMv rfl<|zB<|zH<|fin1 (rs_c rfl) ?_
  rw [yL (fun h => c1 (by rw [h]))]
 ·try simp only [sx] at c1
  refine zK<|zJ<|sReg rfl<|rMv rfl<|zB<|zQ<|zV ⟨[(5,.c _),(0,.c _),(1,.c _)],[]⟩ (Weak.mk [] ⟨VLe.of_eq rfl,VLe.of_eq rfl,VLe.of_eq rfl,trivial⟩ rfl)<|qE 1 0 rfl rfl (Nat) (fun k => [(5,vI k)]) (fun k => []) (fun k => k ≤ a.length ∧ (a.take k = b.take k)) (fun k => a.length - k) ⟨0,⟨by omega,rfl⟩,Weak.mk [] ⟨VLe.refl _,VLe.refl _,VLe.refl _,trivial⟩ rfl⟩ ?_
  rintro k ⟨hk,hp⟩
  refine zJ<|sReg rfl<|rMv rfl<|rMv rfl<|zA rfl rfl (zP rfl el33 rfl)<|zA rfl rfl (qJ rfl rfl rfl)<|zB<|zG rfl (fun c2 => ?_) (fun c2 => ?_)
  ·try simp only [sx] at c2
   obtain ⟨x,hx⟩ := qT a k (by omega)
   obtain ⟨y,hy⟩ := qT b k (by omega)
   refine zK<|zJ<|zQ<|zJ<|yI 9 mixed (by kernel_rfl) rfl rfl<|zM rfl rfl (zO rfl rfl)<|zM rfl rfl (zO rfl rfl)<|zM rfl rfl (zN rfl el33 rfl rfl (by omega) (getm (by assumption)))<|zM rfl rfl (zC rfl one3 rfl qB rfl)<|zM rfl rfl (zO rfl rfl)<|zM rfl rfl (zO rfl rfl)<|zM rfl rfl (zN rfl el33 rfl rfl (by omega) (getm (by assumption)))<|zM rfl rfl (zC rfl one3 rfl qB rfl)<|zM rfl rfl (qV rfl rfl rfl)<|kI<|zB<|zG rfl (fun c3 => ?_) (fun c3 => ?_)
   ·try simp only [sx] at c3
    refine sReg rfl<|rMv rfl<|zB<|zH<|fin1 (rs_c rfl) ?_
    rw [yL (zBw hx hy c3)]
   ·try simp only [sx] at c3
    refine zK<|zS rfl<|rMv rfl<|zA rfl rfl (qA rfl rfl rfl ⟨by omega,by omega⟩)<|rMv rfl<|zB ?_
    refine ⟨k + 1,⟨by omega,wO hx hy hp c3⟩,(by omega),Weak.mk [] ⟨VLe.refl _,VLe.refl _,VLe.refl _,trivial⟩ rfl⟩
  ·try simp only [sx] at c2
   refine qI<|sReg rfl<|rMv rfl<|zB<|zH<|fin1 (rs_c rfl) ?_
   rw [kY (zBc hp (by omega) (by omega))]
theorem zHb (w : List ByteArray) (l : Lf) (hw : w.length + l.L.length ≤ 4294967295) :
    Pur cfg 173 [vSs w,vLin l] (vSs (insWs w (namesF l))):= by
 refine zU Tryz.func173 rfl Tryz.ntmps173 Tryz.results173 rfl ?_
 intro z hz
 refine sReg rfl<|zZ rfl rfl (qL rfl rfl) ?_
 rintro _ _ ⟨b1,rfl,rfl⟩
 refine zA rfl rfl (qO 1 rfl rfl)<|zB<|zJ<|sReg rfl<|rMv rfl<|zB<|zQ<|zV ⟨[(5,.c _),(0,.c _),(3,.c _)],[_]⟩ (Weak.mk [true] ⟨VLe.of_eq rfl,VLe.of_eq rfl,VLe.of_eq rfl,trivial⟩ rfl)<|qE 2 0 rfl rfl (Nat) (fun k => [(5,vI k),(0,vSs (insWs w ((l.L.take k).map Mono.Name)))]) (fun k => []) (fun k => k ≤ l.L.length) (fun k => l.L.length - k) ⟨0,(by omega),Weak.mk [true] ⟨VLe.refl _,VLe.of_eq (rfl),VLe.refl _,trivial⟩ rfl⟩ ?_
 rintro k hk
 refine zJ<|sReg rfl<|rMv rfl<|zA rfl rfl (zD rfl wZ rfl)<|zA rfl rfl (zC rfl zCq rfl (zF 0 rfl) rfl)<|zA rfl rfl (zP rfl el47 rfl)<|zA rfl rfl (qJ rfl rfl rfl)<|zB<|zG rfl (fun c1 => ?_) (fun c1 => ?_)
 ·try simp only [sx] at c1
  obtain ⟨m,hm⟩ := qT l.L k (by omega)
  refine zK<|zJ<|zQ<|zS rfl<|rMv rfl<|zA rfl rfl (zD rfl wZ rfl)<|zA rfl rfl (zC rfl zCq rfl (zF 0 rfl) rfl)<|rMv rfl<|zA rfl rfl (zN rfl el47 rfl rfl (by omega) (getm (by assumption)))<|zA rfl rfl (zX rfl zBz rfl)<|zA rfl rfl (zC rfl one9 rfl qB rfl)<|zA rfl rfl (zR rfl ok120 (ref14_With (insWs w ((l.L.take k).map Mono.Name)) m.Name (by have h1 := zOa ((l.L.take k).map Mono.Name) w; rw [List.length_map] at h1; have h2 := List.length_take_le k l.L; omega)) ⟨VLe.refl _,rfl,VLe.refl _,rfl,trivial⟩)<|rMv rfl<|zB<|zS rfl<|rMv rfl<|zA rfl rfl (qA rfl rfl rfl ⟨by omega,by omega⟩)<|rMv rfl<|zB ?_
  refine ⟨k + 1,(by omega),(by omega),Weak.mk [true] ⟨VLe.refl _,VLe.of_eq (congrArg vSs (by rw [zHe hm,zCj]; rfl)),VLe.refl _,trivial⟩ rfl⟩
 ·try simp only [sx] at c1
  refine qI<|sReg rfl<|rMv rfl<|rMv rfl<|zB<|zH<|fin1 (rs_c rfl) ?_
  rw [yD (l := l.L) (k := k) (by omega)]; rfl
theorem zAl (e : Ex) (he : e.wt ≤ 1000000) :
    Pur cfg 136 [vE e] (vSs (indexW e)):= by
 refine zU Tryz.func136 rfl Tryz.ntmps136 Tryz.results136 rfl ?_
 intro z hz
 have hnl := nodes_wt e
 refine sReg rfl<|zZ rfl rfl (qL rfl rfl) ?_
 rintro _ _ ⟨b1,rfl,rfl⟩
 refine zA rfl rfl (qO 1 rfl rfl)<|zB<|sReg rfl<|zA rfl rfl (qO 1 rfl rfl)<|zB<|sReg rfl<|zA rfl rfl (zE rfl yX rfl (zF 0 rfl) rfl)<|zA rfl rfl (zR rfl ok119 (OwnR.pur (ref14_All e (by omega))) ⟨VLe.refl _,rfl,trivial⟩)<|rMv rfl<|zB<|zJ<|sReg rfl<|rMv rfl<|zB<|zQ<|zV ⟨[(5,.c _),(3,.c _),(4,.c _)],[]⟩ (Weak.mk [false] ⟨VLe.of_eq rfl,VLe.of_eq rfl,VLe.of_eq rfl,trivial⟩ rfl)<|qE 2 0 rfl rfl (Nat) (fun k => [(5,vI k),(3,vSs (insWs [] (namesA ((nodes e).take k))))]) (fun k => []) (fun k => k ≤ (nodes e).length) (fun k => (nodes e).length - k) ⟨0,(by omega),Weak.mk [] ⟨VLe.refl _,VLe.of_eq (rfl),VLe.refl _,trivial⟩ rfl⟩ ?_
 rintro k hk
 refine zJ<|sReg rfl<|rMv rfl<|rMv rfl<|zA rfl rfl (zP rfl el50 rfl)<|zA rfl rfl (qJ rfl rfl rfl)<|zB<|zG rfl (fun c1 => ?_) (fun c1 => ?_)
 ·try simp only [sx] at c1
  obtain ⟨x,hx⟩ := qT (nodes e) k (by omega)
  have hxw := zBv e x (qC hx)
  have hxe := Ex.wt_eq x
  refine zK<|zJ<|zQ<|sReg rfl<|rMv rfl<|rMv rfl<|rMv rfl<|zA rfl rfl (zN rfl el50 rfl rfl (by omega) (zFi hx))<|zA rfl rfl (zX rfl zEk rfl)<|zA rfl rfl (zE rfl kX rfl qB rfl)<|zA rfl rfl (zR rfl ok173 (zHb (insWs [] (namesA ((nodes e).take k))) x.Lin (by have q1 := zFy (namesA ((nodes e).take k)); (try simp only [List.length_append,zJs] at q1 ⊢); have q2 := zJr (e := e) (k := k);  omega)) ⟨VLe.refl _,rfl,VLe.refl _,rfl,trivial⟩)<|rMv rfl<|zB<|sReg rfl<|rMv rfl<|zB<|zQ<|zV ⟨[(6,.c _),(3,.c _),(4,.c _),(5,.c _)],[]⟩ (Weak.mk [] ⟨VLe.of_eq rfl,VLe.of_eq rfl,VLe.of_eq rfl,VLe.of_eq rfl,trivial⟩ rfl)<|qE 2 0 rfl rfl (Nat) (fun j => [(6,vI j),(3,vSs (insWs [] (namesA ((nodes e).take k) ++ namesF x.Lin ++ ((x.Idx.take j).flatMap ixF).flatMap namesF)))]) (fun j => []) (fun j => j ≤ x.Idx.length) (fun j => x.Idx.length - j) ⟨0,(by omega),Weak.mk [] ⟨VLe.refl _,VLe.of_eq (congrArg vSs (iw_1 _ _)),VLe.refl _,VLe.refl _,trivial⟩ rfl⟩ ?_
  rintro j hj
  refine zJ<|sReg rfl<|rMv rfl<|rMv rfl<|rMv rfl<|zA rfl rfl (zN rfl el50 rfl rfl (by omega) (zFi hx))<|zA rfl rfl (zX rfl kO rfl)<|zA rfl rfl (zC rfl kU rfl qB rfl)<|zA rfl rfl (zP rfl el44 rfl)<|zA rfl rfl (qJ rfl rfl rfl)<|zB<|zG rfl (fun c2 => ?_) (fun c2 => ?_)
  ·try simp only [sx] at c2
   obtain ⟨y,hy⟩ := qT x.Idx j (by omega)
   have hyw := zAt (qC hy)
   rw [Ix.wt] at hyw
   refine zK<|zJ<|zQ<|sReg rfl<|rMv rfl<|rMv rfl<|rMv rfl<|zA rfl rfl (zN rfl el50 rfl rfl (by omega) (zFi hx))<|zA rfl rfl (zX rfl kO rfl)<|zA rfl rfl (zC rfl kU rfl qB rfl)<|rMv rfl<|zA rfl rfl (zN rfl el44 rfl rfl (by omega) (getm (by assumption)))<|zA rfl rfl (zX rfl zAx rfl)<|zA rfl rfl (zE rfl kX rfl qB rfl)<|zA rfl rfl (zR rfl ok173 (zHb (insWs [] (namesA ((nodes e).take k) ++ namesF x.Lin ++ ((x.Idx.take j).flatMap ixF).flatMap namesF)) y.Lin (by have q1 := zFy ((namesA ((nodes e).take k) ++ namesF x.Lin ++ ((x.Idx.take j).flatMap ixF).flatMap namesF)); (try simp only [List.length_append,zJs] at q1 ⊢); have q2 := zJr (e := e) (k := k); have q3 := zLp x.Idx j; omega)) ⟨VLe.refl _,rfl,VLe.refl _,rfl,trivial⟩)<|rMv rfl<|zB<|sReg rfl<|rMv rfl<|zB<|zQ<|zV ⟨[(7,.c _),(3,.c _),(4,.c _),(5,.c _),(6,.c _)],[]⟩ (Weak.mk [] ⟨VLe.of_eq rfl,VLe.of_eq rfl,VLe.of_eq rfl,VLe.of_eq rfl,VLe.of_eq rfl,trivial⟩ rfl)<|qE 2 0 rfl rfl (Nat) (fun i => [(7,vI i),(3,vSs (insWs [] ((namesA ((nodes e).take k) ++ namesF x.Lin ++ ((x.Idx.take j).flatMap ixF).flatMap namesF) ++ namesF y.Lin ++ (y.At.take i).flatMap namesF)))]) (fun i => []) (fun i => i ≤ y.At.length) (fun i => y.At.length - i) ⟨0,(by omega),Weak.mk [] ⟨VLe.refl _,VLe.of_eq (congrArg vSs (iw_2 _ _)),VLe.refl _,VLe.refl _,VLe.refl _,trivial⟩ rfl⟩ ?_
   rintro i hi
   refine zJ<|sReg rfl<|rMv rfl<|rMv rfl<|rMv rfl<|zA rfl rfl (zN rfl el50 rfl rfl (by omega) (zFi hx))<|zA rfl rfl (zX rfl kO rfl)<|zA rfl rfl (zC rfl kU rfl qB rfl)<|rMv rfl<|zA rfl rfl (zN rfl el44 rfl rfl (by omega) (getm (by assumption)))<|zA rfl rfl (zX rfl kH rfl)<|zA rfl rfl (zC rfl wH rfl qB rfl)<|zA rfl rfl (zP rfl wJ rfl)<|zA rfl rfl (qJ rfl rfl rfl)<|zB<|zG rfl (fun c3 => ?_) (fun c3 => ?_)
   ·try simp only [sx] at c3
    obtain ⟨l,hl⟩ := qT y.At i (by omega)
    have hlw := wW (qC hl)
    refine zK<|zJ<|zQ<|zS rfl<|rMv rfl<|rMv rfl<|rMv rfl<|zA rfl rfl (zN rfl el50 rfl rfl (by omega) (zFi hx))<|zA rfl rfl (zX rfl kO rfl)<|zA rfl rfl (zC rfl kU rfl qB rfl)<|rMv rfl<|zA rfl rfl (zN rfl el44 rfl rfl (by omega) (getm (by assumption)))<|zA rfl rfl (zX rfl kH rfl)<|zA rfl rfl (zC rfl wH rfl qB rfl)<|rMv rfl<|zA rfl rfl (zN rfl wJ rfl rfl (by omega) (getm (by assumption)))<|zA rfl rfl (zE rfl kX rfl qB rfl)<|zA rfl rfl (zR rfl ok173 (zHb (insWs [] ((namesA ((nodes e).take k) ++ namesF x.Lin ++ ((x.Idx.take j).flatMap ixF).flatMap namesF) ++ namesF y.Lin ++ (y.At.take i).flatMap namesF)) l (by have q1 := zFy (((namesA ((nodes e).take k) ++ namesF x.Lin ++ ((x.Idx.take j).flatMap ixF).flatMap namesF) ++ namesF y.Lin ++ (y.At.take i).flatMap namesF)); (try simp only [List.length_append,zJs] at q1 ⊢); have q2 := zJr (e := e) (k := k); have q3 := zLp x.Idx j; have q4 := zNx y.At i; omega)) ⟨VLe.refl _,rfl,VLe.refl _,rfl,trivial⟩)<|rMv rfl<|zB<|zS rfl<|rMv rfl<|zA rfl rfl (qA rfl rfl rfl ⟨by omega,by omega⟩)<|rMv rfl<|zB ?_
    refine ⟨i + 1,(by omega),(by omega),Weak.mk [] ⟨VLe.refl _,VLe.of_eq (congrArg vSs (iw_at hl)),VLe.refl _,VLe.refl _,VLe.refl _,trivial⟩ rfl⟩
   ·try simp only [sx] at c3
    rw [yD (l := y.At) (k := i) (by omega)]
    refine qI<|zS rfl<|rMv rfl<|zA rfl rfl (qA rfl rfl rfl ⟨by omega,by omega⟩)<|rMv rfl<|zB ?_
    refine ⟨j + 1,(by omega),(by omega),Weak.mk [] ⟨VLe.refl _,VLe.of_eq (congrArg vSs (iw_ix hy)),VLe.refl _,VLe.refl _,trivial⟩ rfl⟩
  ·try simp only [sx] at c2
   rw [yD (l := x.Idx) (k := j) (by omega)]
   refine qI<|zS rfl<|rMv rfl<|zA rfl rfl (qA rfl rfl rfl ⟨by omega,by omega⟩)<|rMv rfl<|zB ?_
   refine ⟨k + 1,(by omega),(by omega),Weak.mk [] ⟨VLe.refl _,VLe.of_eq (congrArg vSs (iw_nd hx)),VLe.refl _,trivial⟩ rfl⟩
 ·try simp only [sx] at c1
  refine qI<|sReg rfl<|rMv rfl<|rMv rfl<|zB<|zH<|fin1 (rs_c rfl) ?_
  rw [yD (l := nodes e) (k := k) (by omega)]; rfl
theorem zFa (t : ByteArray) (l : List St) (hl : stsWt l ≤ 536870912) (ih : ∀ s,s ∈ l → Pur cfg 75 [vSts s.Body,vS t] (.tup [vIs ((fndL t 0 s.Body).getD []),vB (fndL t 0 s.Body).isSome])) :
    Pur cfg 75 [vSts l,vS t] (.tup [vIs ((fndL t 0 l).getD []),vB (fndL t 0 l).isSome]):= by
 refine zU Tryz.func75 rfl Tryz.ntmps75 Tryz.results75 rfl ?_
 intro z hz
 have hll := kN l
 have hlN := zBi l
 refine sReg rfl<|zA rfl rfl (qO 1 rfl rfl)<|rMv rfl<|zB<|zJ<|sReg rfl<|rMv rfl<|zB<|zQ<|zV ⟨[(6,.c _),(0,.c _),(1,.c _)],[]⟩ (Weak.mk [] ⟨VLe.of_eq rfl,VLe.of_eq rfl,VLe.of_eq rfl,trivial⟩ rfl)<|qE 1 0 rfl rfl (Nat) (fun k => [(6,vI k)]) (fun k => []) (fun k => k ≤ l.length ∧ (fndL t 0 l = fndL t k (l.drop k))) (fun k => l.length - k) ⟨0,⟨by omega,rfl⟩,Weak.mk [] ⟨VLe.refl _,VLe.refl _,VLe.refl _,trivial⟩ rfl⟩ ?_
 rintro k ⟨hk,hp⟩
 refine zJ<|sReg rfl<|rMv rfl<|rMv rfl<|zA rfl rfl (zP rfl el23 rfl)<|zA rfl rfl (qJ rfl rfl rfl)<|zB<|zG rfl (fun c1 => ?_) (fun c1 => ?_)
 ·try simp only [sx] at c1
  obtain ⟨s,hs⟩ := qT l k (by omega)
  have hsN := zFw (qC hs)
  have hse := zEc s
  have hgl := fndL_getD t s.Body 0
  refine zK<|zJ<|zQ<|zJ<|sReg rfl<|rMv rfl<|rMv rfl<|zA rfl rfl (zN rfl el23 rfl rfl (by omega) (kW hs))<|zA rfl rfl (zX rfl zAw rfl)<|zA rfl rfl (zC rfl one3 rfl qB rfl)<|zA rfl rfl (qH rfl rfl rfl)<|rMv rfl<|rLz [] rfl gv1 trivial (fun g4_6 => zO rfl rfl) rfl<|rLz [] rfl gv1 trivial (fun g4_6 => zO rfl rfl) rfl<|rLz [(22,_),(23,_)] rfl gv1 ⟨rfl,rfl,rfl,rfl,trivial⟩ (fun g4_6 => zN rfl el23 rfl rfl (by omega) (kW hs)) rfl<|rLz [(24,_)] rfl gv1 ⟨rfl,rfl,trivial⟩ (fun g4_6 => zX rfl zAh rfl) rfl<|rLz [(25,_)] rfl gv1 ⟨rfl,rfl,trivial⟩ (fun g4_6 => zC rfl one9 rfl qB rfl) rfl<|rLz [] rfl gv1 trivial (fun g4_6 => zO rfl rfl) rfl<|rLz [(26,_),(27,_)] rfl gv1 ⟨rfl,rfl,rfl,rfl,trivial⟩ (fun g4_6 => yG rfl rfl rfl) rfl<|zA rfl rfl (qP rfl rfl rfl (fun h => h) rfl)<|zB<|zG rfl (fun c2 => ?_) (fun c2 => ?_)
  ·refine sReg rfl<|rMv rfl<|zA rfl rfl (qY rfl el33 zr3 rfl rfl rfl rfl)<|rMv rfl<|rMv rfl<|zB<|zH<|fin2 (rs_c rfl) (rs_c rfl) ?_
   rw [fnd_1 hs hp c2]; rfl
  ·have c2 : ¬ isLoop t s = true:= by rw [show isLoop t s = false from c2]; simp
   refine zK<|sReg rfl<|rMv rfl<|rMv rfl<|zA rfl rfl (zN rfl el23 rfl rfl (by omega) (kW hs))<|zA rfl rfl (zX rfl wN rfl)<|zA rfl rfl (zC rfl wL rfl qB rfl)<|rMv rfl<|zA rfl rfl (zR rfl ok75 (ih s (qC hs)) ⟨VLe.refl _,rfl,VLe.refl _,rfl,trivial⟩)<|zA rfl rfl (qS rfl rfl)<|zA rfl rfl (qW rfl rfl rfl)<|zA rfl rfl (qW rfl rfl rfl)<|rMv rfl<|rMv rfl<|zB<|sReg rfl<|rMv rfl<|zB<|zG rfl (fun c3 => ?_) (fun c3 => ?_)
   ·try simp only [sx] at c3
    refine sReg rfl<|rMv rfl<|zZ rfl rfl (zAp rfl el33 zr3 rfl rfl rfl rfl) ?_
    rintro _ _ ⟨sv1,rfl,rfl⟩
    refine rMv rfl<|zZ rfl rfl (qU 0 rfl el33 rfl rfl rfl (by simp only [List.length_map,List.length_append,List.length_cons,List.length_nil,List.length_take,List.length_drop]; omega) (by simp only [List.length_map,List.length_append,List.length_cons,List.length_nil,List.length_take,List.length_drop]; omega)) ?_
    rintro _ _ ⟨sv2,rfl,rfl⟩
    refine yE _ (yF 0 rfl (regs' := [(46,_)]) (μ' := []) ⟨FLe.sl,trivial⟩ trivial)<|rMv rfl<|rMv rfl<|zB<|zH<|fin2 (rs_c rfl) (rs_c rfl) ?_
    rw [fnd_2 hs hp c2 c3]; rfl
   ·try simp only [sx] at c3
    refine zK<|zS rfl<|rMv rfl<|zA rfl rfl (qA rfl rfl rfl ⟨by omega,by omega⟩)<|rMv rfl<|zB ?_
    refine ⟨k + 1,⟨by omega,fnd_0 hs hp c2 (by simpa using c3)⟩,(by omega),Weak.mk [] ⟨VLe.refl _,VLe.refl _,VLe.refl _,trivial⟩ rfl⟩
 ·try simp only [sx] at c1
  refine qI<|sReg rfl<|zA rfl rfl (qO 1 rfl rfl)<|rMv rfl<|zB<|zH<|fin2 (rs_c rfl) (rs_c rfl) ?_
  rw [fndL_end hp (by omega)]; rfl
theorem zMx (t : ByteArray) (s : St) (hl : stsWt s.Body ≤ 536870912) : Pur cfg 75 [vSts s.Body,vS t] (.tup [vIs ((fndL t 0 s.Body).getD []),vB (fndL t 0 s.Body).isSome]):= by
  induction s using St.ind with
  | _ s ih => exact zFa t s.Body hl fun a ha => ih a ha (by have := yK ha; have := St.body_wt a; omega)
theorem ref30_find (t : ByteArray) (l : List St) (hl : stsWt l ≤ 536870912) : Pur cfg 75 [vSts l,vS t] (.tup [vIs ((fndL t 0 l).getD []),vB (fndL t 0 l).isSome]) :=
  zFa t l hl fun s hs => zMx t s (by have := yK hs; have := St.body_wt s; omega)
theorem ref30_Find (n : Ns) (t : ByteArray) (hl : stsWt n.Body ≤ 536870912) :
    Pur cfg 26 [vNs n,vS t] (.tup [vIs ((findN n.Body t).getD []),vB (findN n.Body t).isSome]):= by
 refine zU Tryz.func26 rfl Tryz.ntmps26 Tryz.results26 rfl ?_
 intro z hz
 refine sReg rfl<|zZ rfl rfl (qL rfl rfl) ?_
 rintro _ _ ⟨b1,rfl,rfl⟩
 refine zA rfl rfl (qO 1 rfl rfl)<|rMv rfl<|zB<|sReg rfl<|zA rfl rfl (zD rfl zBn rfl)<|zA rfl rfl (zC rfl wL rfl (zF 0 rfl) rfl)<|rMv rfl<|zA rfl rfl (zR rfl ok75 (ref30_find t n.Body hl) ⟨VLe.refl _,rfl,VLe.refl _,rfl,trivial⟩)<|zA rfl rfl (qW rfl rfl rfl)<|zA rfl rfl (qW rfl rfl rfl)<|rMv rfl<|rMv rfl<|zB<|zH<|fin2 (rs_c rfl) (rs_c rfl) ?_
 rw [zOd]
theorem zCc (l : List St) (hl : stsWt l ≤ 536870912) (ih : ∀ s,s ∈ l → OwnR cfg 80 [vSts s.Body] 9 1 (strRows (loopsL s.Body))) :
    OwnR cfg 80 [vSts l] 9 1 (strRows (loopsL l)):= by
 refine zU Tryz.func80 rfl Tryz.ntmps80 Tryz.results80 rfl ?_
 intro z hz
 have hll := kN l
 have hlN := zBi l
 refine sReg rfl<|zA rfl rfl (qO 1 rfl rfl)<|zB<|sReg rfl<|rMv rfl<|yE _ (kB 9 1)<|zB<|zJ<|sReg rfl<|rMv rfl<|zB<|zQ<|zV ⟨[(4,.c _),(3,.c _),(0,.c _)],[_]⟩ (Weak.mk [true] ⟨VLe.of_eq rfl,VLe.of_eq rfl,VLe.of_eq rfl,trivial⟩ rfl)<|qE 2 1 rfl rfl (Nat × Value) (fun ⟨k,sv⟩ => [(4,vI k),(3,.c (.lit sv))]) (fun ⟨k,sv⟩ => [E.vec sv 9 1 (strRows (loopsL (l.take k)))]) (fun ⟨k,sv⟩ => k ≤ l.length) (fun ⟨k,sv⟩ => l.length - k) ⟨⟨0,(.slice none 0 0)⟩,(by omega),Weak.mk [true] ⟨VLe.refl _,VLe.refl _,VLe.refl _,trivial⟩ rfl⟩ ?_
 rintro ⟨k,sv⟩ hk
 show AWP _ _ _ _ _ ⟨[(4,vI k),(3,.c (.lit sv))] ++ _,[E.vec sv 9 1 (strRows (loopsL (l.take k)))] ++ _⟩
 refine zJ<|sReg rfl<|rMv rfl<|rMv rfl<|zA rfl rfl (zP rfl el23 rfl)<|zA rfl rfl (qJ rfl rfl rfl)<|zB<|zG rfl (fun c1 => ?_) (fun c1 => ?_)
 ·try simp only [sx] at c1
  obtain ⟨s,hs⟩ := qT l k (by omega)
  have hsN := zFw (qC hs)
  have hse := zEc s
  have hbl := zDd s.Body
  have htl := zDd (l.take k)
  have hst := stsN_take hs
  refine zK<|zJ<|zQ<|zJ<|sReg rfl<|rMv rfl<|rMv rfl<|zA rfl rfl (zN rfl el23 rfl rfl (by omega) (kW hs))<|zA rfl rfl (zX rfl zAw rfl)<|zA rfl rfl (zC rfl one3 rfl qB rfl)<|zA rfl rfl (qH rfl rfl rfl)<|zB<|zG rfl (fun c2 => ?_) (fun c2 => ?_)
  ·try simp only [sx] at c2
   refine zS rfl<|rMv rfl<|rMv rfl<|rMv rfl<|zA rfl rfl (zN rfl el23 rfl rfl (by omega) (kW hs))<|zA rfl rfl (zX rfl zAh rfl)<|zA rfl rfl (zC rfl one9 rfl qB rfl)<|zA rfl rfl (qY rfl el72 zr9 rfl rfl rfl rfl)<|zZ rfl rfl (qU 0 rfl el72 rfl rfl rfl (by simp only [List.length_map,List.length_append,List.length_cons,List.length_nil,List.length_take,List.length_drop]; omega) (by simp only [List.length_map,List.length_append,List.length_cons,List.length_nil,List.length_take,List.length_drop]; omega)) ?_
   rintro _ _ ⟨sv2,rfl,rfl⟩
   refine rMv rfl<|zB<|zS rfl<|rMv rfl<|rMv rfl<|rMv rfl<|zA rfl rfl (zN rfl el23 rfl rfl (by omega) (kW hs))<|zA rfl rfl (zX rfl wN rfl)<|zA rfl rfl (zC rfl wL rfl qB rfl)<|zA rfl rfl (zR rfl ok80 (OwnR.pur (ih s (qC hs))) ⟨VLe.refl _,rfl,trivial⟩)<|zZ rfl rfl (qU 0 rfl el72 rfl rfl rfl (by simp only [List.length_map,List.length_append,List.length_cons,List.length_nil,List.length_take,List.length_drop]; omega) (by simp only [List.length_map,List.length_append,List.length_cons,List.length_nil,List.length_take,List.length_drop]; omega)) ?_
   rintro _ _ ⟨sv3,rfl,rfl⟩
   refine rMv rfl<|zB<|zS rfl<|rMv rfl<|zA rfl rfl (qA rfl rfl rfl ⟨by omega,by omega⟩)<|rMv rfl<|zB ?_
   refine ⟨⟨k + 1,sv3⟩,(by omega),(by show l.length - (k + 1) < l.length - k; omega),Weak.mk [true] ⟨VLe.refl _,VLe.refl _,VLe.refl _,trivial⟩ (by exact zAr (by rw [zNp hs]; first | (rw [show loopNm s = [s.Name] from if_pos c2]; simp [strRows]) | (rw [show loopNm s = [] from if_neg c2]; simp [strRows])))⟩
  ·try simp only [sx] at c2
   refine zK<|zS rfl<|rMv rfl<|rMv rfl<|rMv rfl<|zA rfl rfl (zN rfl el23 rfl rfl (by omega) (kW hs))<|zA rfl rfl (zX rfl wN rfl)<|zA rfl rfl (zC rfl wL rfl qB rfl)<|zA rfl rfl (zR rfl ok80 (OwnR.pur (ih s (qC hs))) ⟨VLe.refl _,rfl,trivial⟩)<|zZ rfl rfl (qU 0 rfl el72 rfl rfl rfl (by simp only [List.length_map,List.length_append,List.length_cons,List.length_nil,List.length_take,List.length_drop]; omega) (by simp only [List.length_map,List.length_append,List.length_cons,List.length_nil,List.length_take,List.length_drop]; omega)) ?_
   rintro _ _ ⟨sv4,rfl,rfl⟩
   refine rMv rfl<|zB<|zS rfl<|rMv rfl<|zA rfl rfl (qA rfl rfl rfl ⟨by omega,by omega⟩)<|rMv rfl<|zB ?_
   refine ⟨⟨k + 1,sv4⟩,(by omega),(by show l.length - (k + 1) < l.length - k; omega),Weak.mk [true] ⟨VLe.refl _,VLe.refl _,VLe.refl _,trivial⟩ (by exact zAr (by rw [zNp hs]; first | (rw [show loopNm s = [s.Name] from if_pos c2]; simp [strRows]) | (rw [show loopNm s = [] from if_neg c2]; simp [strRows])))⟩
 ·try simp only [sx] at c1
  refine qI<|sReg rfl<|rMv rfl<|rMv rfl<|zB<|zH<|fin1 (rs_c rfl) ?_
  rw [yD (l := l) (k := k) (by omega)]
  exact ⟨_,rfl,rfl⟩
theorem zHx (s : St) (hl : stsWt s.Body ≤ 536870912) : OwnR cfg 80 [vSts s.Body] 9 1 (strRows (loopsL s.Body)):= by
  induction s using St.ind with
  | _ s ih => exact zCc s.Body hl fun a ha => ih a ha (by have := yK ha; have := St.body_wt a; omega)
theorem ref30_loopsOf (l : List St) (hl : stsWt l ≤ 536870912) : OwnR cfg 80 [vSts l] 9 1 (strRows (loopsL l)) :=
  zCc l hl fun s hs => zHx s (by have := yK hs; have := St.body_wt s; omega)
theorem ref30_Loops (n : Ns) (hl : stsWt n.Body ≤ 536870912) :
    Pur cfg 36 [vNs n] (vSs (loopsL n.Body)):= by
 refine zU Tryz.func36 rfl Tryz.ntmps36 Tryz.results36 rfl ?_
 intro z hz
 refine sReg rfl<|zZ rfl rfl (qL rfl rfl) ?_
 rintro _ _ ⟨b1,rfl,rfl⟩
 refine zA rfl rfl (qO 1 rfl rfl)<|zB<|sReg rfl<|zA rfl rfl (zD rfl zBn rfl)<|zA rfl rfl (zC rfl wL rfl (zF 0 rfl) rfl)<|zA rfl rfl (zR rfl ok80 (OwnR.pur (ref30_loopsOf n.Body hl)) ⟨VLe.refl _,rfl,trivial⟩)<|rMv rfl<|zB<|zH<|fin1 (rs_c rfl) ?_
 exact rfl
theorem ref30_Size (n : Ns) (hl : stsWt n.Body ≤ 536870912) :
    Pur cfg 33 [vNs n] (vI (stsN n.Body)):= by
 refine zU Tryz.func33 rfl Tryz.ntmps33 Tryz.results33 rfl ?_
 intro z hz
 have hN := zBi n.Body
 refine sReg rfl<|zZ rfl rfl (qL rfl rfl) ?_
 rintro _ _ ⟨b1,rfl,rfl⟩
 refine rMv rfl<|zB<|sReg rfl<|zA rfl rfl (zD rfl zBn rfl)<|zA rfl rfl (zC rfl wL rfl (zF 0 rfl) rfl)<|zA rfl rfl (zR rfl ok63 (ref30_size n.Body 1073741824 1073741824 (by omega) (by omega) rfl) ⟨VLe.refl _,rfl,VLe.refl _,rfl,trivial⟩)<|rMv rfl<|zB<|zH<|fin1 (rs_c rfl) ?_
 rw [numB_eqN (by omega)]
theorem ref30_At (n : Ns) (way : List Int) (hw : way.length ≤ 1073741824) :
    Pur cfg 28 [vNs n,vIs way] (.tup [vSt (atT n.Body way).1,vB (atT n.Body way).2]):= by
 refine zU Tryz.func28 rfl Tryz.ntmps28 Tryz.results28 rfl ?_
 intro z hz
 refine sReg rfl<|zZ rfl rfl (qL rfl rfl) ?_
 rintro _ _ ⟨b1,rfl,rfl⟩
 refine zZ rfl rfl (qK [none,none,none,none,none,some 4,none,none,none,none,none,none,none,none,none,none,some 2,some 4,some 13,some 20] rfl zr54 rfl) ?_
 rintro _ _ ⟨b2,rfl,rfl⟩
 refine rMv rfl<|zB<|sReg rfl<|zA rfl rfl (zD rfl zBn rfl)<|zA rfl rfl (zC rfl wL rfl (zF 1 rfl) rfl)<|rMv rfl<|zB<|sReg rfl<|zA rfl rfl (yY [none,none,none,none,none,some 4,none,none,none,none,none,none,none,none,none,none,some 2,some 4,some 13,some 20] rfl zr54 pl54 rfl rfl)<|zZ rfl rfl (qK [none,none,none,none,none,some 4,none,none,none,none,none,none,none,none,none,none,some 2,some 4,some 13,some 20] rfl zr54 rfl) ?_
 rintro _ _ ⟨b3,rfl,rfl⟩
 refine zY rfl rfl (zT rfl sz54 rfl rfl rfl (qF 0 rfl rfl))<|zB<|zJ<|sReg rfl<|rMv rfl<|zB<|zQ<|zV ⟨[(8,.c _),(6,.c _),(1,.c _),(4,.c _),(7,.c _)],[_,_]⟩ (Weak.mk [true,true,false] ⟨VLe.of_eq rfl,VLe.of_eq rfl,VLe.of_eq rfl,VLe.of_eq rfl,VLe.of_eq rfl,trivial⟩ rfl)<|qE 2 1 rfl rfl (Nat × List St × St) (fun ⟨k,lc,s0⟩ => [(8,vI k),(6,vSts lc)]) (fun ⟨k,lc,s0⟩ => [E.row b3 54 s0.cs]) (fun ⟨k,lc,s0⟩ => k ≤ way.length ∧ (atF way n.Body zSt = atF (way.drop k) lc s0)) (fun ⟨k,lc,s0⟩ => way.length - k) ⟨⟨0,n.Body,zSt⟩,⟨by omega,rfl⟩,Weak.mk [true,true] ⟨VLe.refl _,VLe.refl _,VLe.refl _,VLe.refl _,VLe.refl _,trivial⟩ rfl⟩ ?_
 rintro ⟨k,lc,s0⟩ ⟨hk,hp⟩
 show AWP _ _ _ _ _ ⟨[(8,vI k),(6,vSts lc)] ++ _,[E.row b3 54 s0.cs] ++ _⟩
 refine zJ<|sReg rfl<|rMv rfl<|rMv rfl<|zA rfl rfl (zP rfl el33 rfl)<|zA rfl rfl (qJ rfl rfl rfl)<|zB<|zG rfl (fun c1 => ?_) (fun c1 => ?_)
 ·try simp only [sx] at c1
  obtain ⟨i,hi⟩ := qT way k (by omega)
  refine zK<|zJ<|zQ<|zJ<|sReg rfl<|rMv rfl<|rMv rfl<|zA rfl rfl (zN rfl el33 rfl rfl (by omega) (getm (by assumption)))<|zA rfl rfl (zC rfl one3 rfl qB rfl)<|zA rfl rfl (qJ rfl rfl rfl)<|rMv rfl<|rLz [] rfl gv1 trivial (fun g6_5 => zO rfl rfl) rfl<|rLz [] rfl gv1 trivial (fun g6_5 => zO rfl rfl) rfl<|rLz [(24,_),(25,_)] rfl gv1 ⟨rfl,rfl,rfl,rfl,trivial⟩ (fun g6_5 => zN rfl el33 rfl rfl (by omega) (getm (by assumption))) rfl<|rLz [(26,_)] rfl gv1 ⟨rfl,rfl,trivial⟩ (fun g6_5 => zC rfl one3 rfl qB rfl) rfl<|rLz [] rfl gv1 trivial (fun g6_5 => zO rfl rfl) rfl<|rLz [(28,_)] rfl gv1 ⟨rfl,rfl,trivial⟩ (fun g6_5 => zP rfl el23 rfl) rfl<|rLz [(27,_),(29,_)] rfl gv1 ⟨rfl,rfl,rfl,rfl,trivial⟩ (fun g6_5 => wF rfl rfl rfl) rfl<|zA rfl rfl (kA rfl rfl rfl rfl (fun h => (lzf h)))<|zB<|zG rfl (fun c2 => ?_) (fun c2 => ?_)
  ·try simp only [sx] at c2
   refine sReg rfl<|zA rfl rfl (yY [none,none,none,none,none,some 4,none,none,none,none,none,none,none,none,none,none,some 2,some 4,some 13,some 20] rfl zr54 pl54 rfl rfl)<|zY rfl rfl (zT rfl sz54 rfl rfl rfl (qF 1 rfl rfl))<|rMv rfl<|zB<|zH<|fin2 (qG zCt rfl (zF 1 rfl) rfl) (rs_c rfl) ?_
   have e : atT n.Body way = (zSt,false):= by unfold atT; split; rfl; exact atF_no hi hp (by omega)
   rw [e]; rfl
  ·try simp only [sx] at c2
   have hs := stD_get (l := lc) (i := i) (by omega)
   refine zK<|sReg rfl<|rMv rfl<|rMv rfl<|rMv rfl<|zA rfl rfl (zN rfl el33 rfl rfl (by omega) (getm (by assumption)))<|zA rfl rfl (zC rfl one3 rfl qB rfl)<|zA rfl rfl (zN rfl el23 rfl rfl (by omega) (kW hs))<|zA rfl rfl (zE rfl zCt rfl qB rfl)<|zY rfl rfl (zT rfl sz54 rfl rfl rfl (qF 0 rfl rfl))<|zB<|zS rfl<|zA rfl rfl (zD rfl wN rfl)<|zA rfl rfl (zC rfl wL rfl (zF 0 rfl) rfl)<|rMv rfl<|zB<|zS rfl<|rMv rfl<|zA rfl rfl (qA rfl rfl rfl ⟨by omega,by omega⟩)<|rMv rfl<|zB ?_
   refine ⟨⟨k + 1,(lc.getD i.toNat zSt).Body,(lc.getD i.toNat zSt)⟩,⟨by omega,atF_next hi hp (by omega)⟩,(by show way.length - (k + 1) < way.length - k; omega),Weak.mk [true,true] ⟨VLe.refl _,VLe.refl _,VLe.refl _,VLe.refl _,VLe.refl _,trivial⟩ rfl⟩
 ·try simp only [sx] at c1
  have hwe : way = [] ∨ 0 < way.length:= by cases way; exact .inl rfl; exact .inr (by simp)
  refine qI<|sReg rfl<|zA rfl rfl (zE rfl zCt rfl (zF 0 rfl) rfl)<|rMv rfl<|zA rfl rfl (zP rfl el33 rfl)<|zA rfl rfl (yW rfl rfl rfl)<|zY rfl rfl (zT rfl sz54 rfl rfl rfl (qF 1 rfl rfl))<|rMv rfl<|zB<|zH<|fin2 (qG zCt rfl (zF 1 rfl) rfl) (rs_c rfl) ?_
  have e : atT n.Body way = (s0,decide ((0 : Int) < way.length)):= by
    unfold atT
    have e0 := atF_end hp (by omega)
    rcases hwe with h | h
    · subst h
      have e1 : zSt = s0 := congrArg Prod.fst e0
      rw [if_pos rfl,e1]; rfl
    · rw [if_neg (by intro h2; rw [h2] at h; simp at h),e0,decide_eq_true (by omega)]
  rw [e]; rfl
theorem zMz (n : Ns) (way : List Int) (hw : way.length ≤ 1073741824) :
    Pur cfg 32 [vNs n,vIs way] (vBds (enclT n.Body way)):= by
 refine zU Tryz.func32 rfl Tryz.ntmps32 Tryz.results32 rfl ?_
 intro z hz
 refine sReg rfl<|zZ rfl rfl (qL rfl rfl) ?_
 rintro _ _ ⟨b1,rfl,rfl⟩
 refine zA rfl rfl (qO 2 rfl rfl)<|zB<|zJ<|sReg rfl<|zA rfl rfl (zE rfl zAd rfl (zF 0 rfl) rfl)<|rMv rfl<|zA rfl rfl (zR rfl ok28 (ref30_At n way hw) ⟨VLe.refl _,rfl,VLe.refl _,rfl,trivial⟩)<|zA rfl rfl (qS rfl rfl)<|zA rfl rfl (yJ rfl rfl rfl)<|zA rfl rfl (qW rfl rfl rfl)<|zZ rfl rfl (qK [none,none,none,none,none,some 4,none,none,none,none,none,none,none,none,none,none,some 2,some 4,some 13,some 20] rfl zr54 rfl) ?_
 rintro _ _ ⟨b2,rfl,rfl⟩
 refine zY rfl rfl (zT rfl sz54 rfl rfl rfl (qF 0 rfl rfl))<|rMv rfl<|zB<|sReg rfl<|rMv rfl<|zA rfl rfl (yB rfl rfl)<|zB<|zG rfl (fun c1 => ?_) (fun c1 => ?_)
 ·try simp only [sx] at c1
  have hno := enc_no (l := n.Body) (way := way) (by simpa using c1)
  refine sReg rfl<|zA rfl rfl (qO 2 rfl rfl)<|zB<|zH<|fin1 (rs_c rfl) ?_
  rw [hno]; rfl
 ·try simp only [sx] at c1
  have hat : (atT n.Body way).2 = true:= by simpa using c1
  have hne : 1 ≤ way.length:= by have := (way_of hat).1; cases way; exact absurd rfl this; simp
  have htl := (trail_ok hat).2
  refine zK<|sReg rfl<|rMv rfl<|yE _ (kB 70 2)<|zB<|zJ<|sReg rfl<|rMv rfl<|zB<|zQ<|zV ⟨[(8,.c _),(7,.c _),(1,.c _),(2,.c _)],[_,_]⟩ (Weak.mk [true,false,true] ⟨VLe.of_eq rfl,VLe.of_eq rfl,VLe.of_eq rfl,VLe.of_eq rfl,trivial⟩ rfl)<|qE 2 1 rfl rfl (Nat × Value) (fun ⟨j,sv⟩ => [(8,vI j),(7,.c (.lit sv))]) (fun ⟨j,sv⟩ => [E.vec sv 70 2 ((((trailT n.Body way).take (j - 1)).flatMap bdNm).map Bd.cells)]) (fun ⟨j,sv⟩ => 1 ≤ j ∧ j ≤ way.length) (fun ⟨j,sv⟩ => way.length - j) ⟨⟨1,.slice none 0 0⟩,⟨by omega,by omega⟩,Weak.mk [true,true] ⟨VLe.refl _,VLe.refl _,VLe.refl _,VLe.refl _,trivial⟩ rfl⟩ ?_
  rintro ⟨j,sv⟩ ⟨hj,hj2⟩
  show AWP _ _ _ _ _ ⟨[(8,vI j),(7,.c (.lit sv))] ++ _,[E.vec sv 70 2 ((((trailT n.Body way).take (j - 1)).flatMap bdNm).map Bd.cells)] ++ _⟩
  refine zJ<|sReg rfl<|rMv rfl<|rMv rfl<|zA rfl rfl (zP rfl el33 rfl)<|zA rfl rfl (qJ rfl rfl rfl)<|zB<|zG rfl (fun c2 => ?_) (fun c2 => ?_)
  ·try simp only [sx] at c2
   have hel := enc_len ((trailT n.Body way).take (j - 1))
   have hel2 := List.length_take_le (j - 1) (trailT n.Body way)
   refine zK<|zJ<|zQ<|zJ<|kG 10 1 [⟨0,.q [2]⟩,⟨1,.q []⟩,⟨2,.q []⟩,⟨3,.q []⟩,⟨4,.q []⟩,⟨5,.q []⟩,⟨6,.q []⟩,⟨7,.q []⟩,⟨8,.e 0 []⟩,⟨9,.e 0 []⟩] mixed (by kernel_rfl) (by kernel_rfl) rfl rfl rfl<|zW rfl<|zW rfl<|zW rfl<|zW rfl<|zW rfl<|zW rfl<|zW rfl<|zW rfl<|zW rfl<|zW rfl<|zBl<|qD rfl (by decide) rfl rfl (zE rfl zAd rfl (zF 0 rfl) rfl)<|qD rfl (by decide) rfl rfl (zO rfl rfl)<|qD rfl (by decide) rfl rfl (zO rfl rfl)<|qD rfl (by decide) rfl rfl (zFn (k := j) rfl el33 rfl rfl (by omega))<|qD rfl (by decide) rfl rfl (zR rfl ok28 (ref30_At n (way.take j) (by have := List.length_take_le j way; omega)) ⟨VLe.refl _,rfl,VLe.refl _,rfl,trivial⟩)<|qD rfl (by decide) rfl rfl (qS rfl rfl)<|qD rfl (by decide) rfl rfl (yJ rfl rfl rfl)<|qD rfl (by decide) rfl rfl (qW rfl rfl rfl)<|zKy rfl rfl (by decide) rfl rfl (qK [none,none,none,none,none,some 4,none,none,none,none,none,none,none,none,none,none,some 2,some 4,some 13,some 20] rfl zr54 rfl) ?_
   rintro _ _ ⟨b4,rfl,rfl⟩
   refine ⟨_,rfl,?_⟩
   refine zGj rfl rfl (by decide) rfl rfl (zT rfl sz54 rfl rfl rfl (qF 0 rfl rfl)) ?_
   rintro _ _ ⟨rfl,rfl⟩
   refine ⟨_,rfl,?_⟩
   refine zBj rfl<|rMv rfl<|zB<|sReg rfl<|zA rfl rfl (zD rfl zAw rfl)<|zA rfl rfl (zC rfl one3 rfl (zF 0 rfl) rfl)<|zA rfl rfl (qH rfl rfl rfl)<|zB<|zG rfl (fun c3 => ?_) (fun c3 => ?_)
   ·try simp only [sx] at c3
    refine zS rfl<|rMv rfl<|zA rfl rfl (zD rfl zAh rfl)<|zA rfl rfl (zC rfl one9 rfl (zF 0 rfl) rfl)<|zA rfl rfl (zD rfl zOe rfl)<|zA rfl rfl (zC rfl one3 rfl (zF 0 rfl) rfl)<|zA rfl rfl (qX rfl zr70 pl70 rfl)<|zA rfl rfl (qY rfl el67 zr70 rfl rfl rfl rfl)<|zZ rfl rfl (qU 1 rfl el67 rfl rfl rfl (by simp only [List.length_map,List.length_append,List.length_cons,List.length_nil,List.length_take,List.length_drop]; omega) (by simp only [List.length_map,List.length_append,List.length_cons,List.length_nil,List.length_take,List.length_drop]; omega)) ?_
    rintro _ _ ⟨sv5,rfl,rfl⟩
    refine rMv rfl<|zB<|zS rfl<|rMv rfl<|zA rfl rfl (qA rfl rfl rfl ⟨by omega,by omega⟩)<|rMv rfl<|zB ?_
    refine ⟨⟨j + 1,sv5⟩,⟨by omega,by omega⟩,(by show way.length - (j + 1) < way.length - j; omega),Weak.mk [false,true,true] ⟨VLe.refl _,VLe.refl _,VLe.refl _,VLe.refl _,trivial⟩ (by exact zAr (by rw [show j + 1 - 1 = j from rfl,enc_next hat hj (by omega)]; first | (rw [zLv c3,List.map_append]; rfl) | (rw [bdNm_no c3,List.append_nil])))⟩
   ·try simp only [sx] at c3
    refine zK<|zS rfl<|rMv rfl<|zA rfl rfl (qA rfl rfl rfl ⟨by omega,by omega⟩)<|rMv rfl<|zB ?_
    refine ⟨⟨j + 1,sv⟩,⟨by omega,by omega⟩,(by show way.length - (j + 1) < way.length - j; omega),Weak.mk [false,true,true] ⟨VLe.refl _,VLe.refl _,VLe.refl _,VLe.refl _,trivial⟩ (by exact zAr (by rw [show j + 1 - 1 = j from rfl,enc_next hat hj (by omega)]; first | (rw [zLv c3,List.map_append]; rfl) | (rw [bdNm_no c3,List.append_nil])))⟩
  ·try simp only [sx] at c2
   refine qI<|zJ<|zV _ (yF 0 rfl (regs' := [(7,_)]) (μ' := [_]) ⟨FLe.sl,trivial⟩ ⟨EFle.refl _,trivial⟩)<|zS rfl<|rMv rfl<|rMv rfl<|zB<|zH<|fin1 (rs_c rfl) ?_
   rw [enc_end hat (by omega) (by omega)]
theorem zEh (l : List St) (hl : stsWt l ≤ 900000) (ih : ∀ s,s ∈ l → OwnR cfg 88 [vSts s.Body] 9 1 (strRows (takL s.Body))) :
    OwnR cfg 88 [vSts l] 9 1 (strRows (takL l)):= by
 refine zU Tryz.func88 rfl Tryz.ntmps88 Tryz.results88 rfl ?_
 intro z hz
 have hll := kN l
 refine sReg rfl<|zA rfl rfl (qO 1 rfl rfl)<|zB<|sReg rfl<|rMv rfl<|yE _ (kB 9 1)<|zB<|zJ<|sReg rfl<|rMv rfl<|zB<|zQ<|zV ⟨[(4,.c _),(3,.c _),(0,.c _)],[_]⟩ (Weak.mk [true] ⟨VLe.of_eq rfl,VLe.of_eq rfl,VLe.of_eq rfl,trivial⟩ rfl)<|qE 2 1 rfl rfl (Nat × Value) (fun ⟨k,sv⟩ => [(4,vI k),(3,.c (.lit sv))]) (fun ⟨k,sv⟩ => [E.vec sv 9 1 (strRows (takL (l.take k)))]) (fun ⟨k,sv⟩ => k ≤ l.length) (fun ⟨k,sv⟩ => l.length - k) ⟨⟨0,(.slice none 0 0)⟩,(by omega),Weak.mk [true] ⟨VLe.refl _,VLe.refl _,VLe.refl _,trivial⟩ rfl⟩ ?_
 rintro ⟨k,sv⟩ hk
 show AWP _ _ _ _ _ ⟨[(4,vI k),(3,.c (.lit sv))] ++ _,[E.vec sv 9 1 (strRows (takL (l.take k)))] ++ _⟩
 refine zJ<|sReg rfl<|rMv rfl<|rMv rfl<|zA rfl rfl (zP rfl el23 rfl)<|zA rfl rfl (qJ rfl rfl rfl)<|zB<|zG rfl (fun c1 => ?_) (fun c1 => ?_)
 ·try simp only [sx] at c1
  obtain ⟨s,hs⟩ := qT l k (by omega)
  have hsw := yK (qC hs)
  have hse := St.wt_eq s
  have h1 := zFz (rdX s.Idx)
  rw [rdX_wt] at h1
  have h2 := zFz s.E
  have h3 := zFv s.Body
  have h4 := takL_take l k
  refine zK<|zJ<|zQ<|zJ<|sReg rfl<|rMv rfl<|rMv rfl<|zA rfl rfl (zN rfl el23 rfl rfl (by omega) (kW hs))<|zA rfl rfl (zX rfl zAw rfl)<|zA rfl rfl (zC rfl one3 rfl qB rfl)<|zA rfl rfl (qH rfl rfl rfl)<|zB<|zG rfl (fun c2 => ?_) (fun c2 => ?_)
  ·try simp only [sx] at c2
   refine zS rfl<|rMv rfl<|rMv rfl<|rMv rfl<|zA rfl rfl (zN rfl el23 rfl rfl (by omega) (kW hs))<|zA rfl rfl (zX rfl zAh rfl)<|zA rfl rfl (zC rfl one9 rfl qB rfl)<|zA rfl rfl (qY rfl el72 zr9 rfl rfl rfl rfl)<|zZ rfl rfl (qU 0 rfl el72 rfl rfl rfl (by simp only [List.length_map,List.length_append,List.length_cons,List.length_nil,List.length_take,List.length_drop]; omega) (by simp only [List.length_map,List.length_append,List.length_cons,List.length_nil,List.length_take,List.length_drop]; omega)) ?_
   rintro _ _ ⟨sv2,rfl,rfl⟩
   refine rMv rfl<|zB<|sReg rfl<|rMv rfl<|rMv rfl<|rMv rfl<|zA rfl rfl (zN rfl el23 rfl rfl (by omega) (kW hs))<|zA rfl rfl (zX rfl zBm rfl)<|zA rfl rfl (zC rfl kU rfl qB rfl)<|zA rfl rfl (yY [none,none,none,none,none,none,none,none,none,none,some 2,none,some 13] rfl zr52 pl52 rfl rfl)<|zA rfl rfl (zR rfl ok136 (zAl (rdX s.Idx) (by rw [rdX_wt]; omega)) ⟨VLe.refl _,rfl,trivial⟩)<|zZ rfl rfl (qU 0 rfl el72 rfl rfl rfl (by simp only [List.length_map,List.length_append,List.length_cons,List.length_nil,List.length_take,List.length_drop]; omega) (by simp only [List.length_map,List.length_append,List.length_cons,List.length_nil,List.length_take,List.length_drop]; omega)) ?_
   rintro _ _ ⟨sv3,rfl,rfl⟩
   refine rMv rfl<|zB<|sReg rfl<|rMv rfl<|rMv rfl<|rMv rfl<|zA rfl rfl (zN rfl el23 rfl rfl (by omega) (kW hs))<|zA rfl rfl (zX rfl zBa rfl)<|zA rfl rfl (zE rfl yX rfl qB rfl)<|zA rfl rfl (zR rfl ok136 (zAl s.E (by omega)) ⟨VLe.refl _,rfl,trivial⟩)<|zZ rfl rfl (qU 0 rfl el72 rfl rfl rfl (by simp only [List.length_map,List.length_append,List.length_cons,List.length_nil,List.length_take,List.length_drop]; omega) (by simp only [List.length_map,List.length_append,List.length_cons,List.length_nil,List.length_take,List.length_drop]; omega)) ?_
   rintro _ _ ⟨sv4,rfl,rfl⟩
   refine rMv rfl<|zB<|zS rfl<|rMv rfl<|rMv rfl<|rMv rfl<|zA rfl rfl (zN rfl el23 rfl rfl (by omega) (kW hs))<|zA rfl rfl (zX rfl wN rfl)<|zA rfl rfl (zC rfl wL rfl qB rfl)<|zA rfl rfl (zR rfl ok88 (OwnR.pur (ih s (qC hs))) ⟨VLe.refl _,rfl,trivial⟩)<|zZ rfl rfl (qU 0 rfl el72 rfl rfl rfl (by simp only [List.length_map,List.length_append,List.length_cons,List.length_nil,List.length_take,List.length_drop]; omega) (by simp only [List.length_map,List.length_append,List.length_cons,List.length_nil,List.length_take,List.length_drop]; omega)) ?_
   rintro _ _ ⟨sv5,rfl,rfl⟩
   refine rMv rfl<|zB<|zS rfl<|rMv rfl<|zA rfl rfl (qA rfl rfl rfl ⟨by omega,by omega⟩)<|rMv rfl<|zB ?_
   refine ⟨⟨k + 1,sv5⟩,(by omega),(by show l.length - (k + 1) < l.length - k; omega),Weak.mk [true] ⟨VLe.refl _,VLe.refl _,VLe.refl _,trivial⟩ (by exact zAr (by rw [takL_next hs]; first | (rw [show loopNm s = [s.Name] from if_pos c2]; simp [strRows]) | (rw [show loopNm s = [] from if_neg c2]; simp [strRows])))⟩
  ·try simp only [sx] at c2
   refine zK<|sReg rfl<|rMv rfl<|rMv rfl<|rMv rfl<|zA rfl rfl (zN rfl el23 rfl rfl (by omega) (kW hs))<|zA rfl rfl (zX rfl zBm rfl)<|zA rfl rfl (zC rfl kU rfl qB rfl)<|zA rfl rfl (yY [none,none,none,none,none,none,none,none,none,none,some 2,none,some 13] rfl zr52 pl52 rfl rfl)<|zA rfl rfl (zR rfl ok136 (zAl (rdX s.Idx) (by rw [rdX_wt]; omega)) ⟨VLe.refl _,rfl,trivial⟩)<|zZ rfl rfl (qU 0 rfl el72 rfl rfl rfl (by simp only [List.length_map,List.length_append,List.length_cons,List.length_nil,List.length_take,List.length_drop]; omega) (by simp only [List.length_map,List.length_append,List.length_cons,List.length_nil,List.length_take,List.length_drop]; omega)) ?_
   rintro _ _ ⟨sv6,rfl,rfl⟩
   refine rMv rfl<|zB<|sReg rfl<|rMv rfl<|rMv rfl<|rMv rfl<|zA rfl rfl (zN rfl el23 rfl rfl (by omega) (kW hs))<|zA rfl rfl (zX rfl zBa rfl)<|zA rfl rfl (zE rfl yX rfl qB rfl)<|zA rfl rfl (zR rfl ok136 (zAl s.E (by omega)) ⟨VLe.refl _,rfl,trivial⟩)<|zZ rfl rfl (qU 0 rfl el72 rfl rfl rfl (by simp only [List.length_map,List.length_append,List.length_cons,List.length_nil,List.length_take,List.length_drop]; omega) (by simp only [List.length_map,List.length_append,List.length_cons,List.length_nil,List.length_take,List.length_drop]; omega)) ?_
   rintro _ _ ⟨sv7,rfl,rfl⟩
   refine rMv rfl<|zB<|zS rfl<|rMv rfl<|rMv rfl<|rMv rfl<|zA rfl rfl (zN rfl el23 rfl rfl (by omega) (kW hs))<|zA rfl rfl (zX rfl wN rfl)<|zA rfl rfl (zC rfl wL rfl qB rfl)<|zA rfl rfl (zR rfl ok88 (OwnR.pur (ih s (qC hs))) ⟨VLe.refl _,rfl,trivial⟩)<|zZ rfl rfl (qU 0 rfl el72 rfl rfl rfl (by simp only [List.length_map,List.length_append,List.length_cons,List.length_nil,List.length_take,List.length_drop]; omega) (by simp only [List.length_map,List.length_append,List.length_cons,List.length_nil,List.length_take,List.length_drop]; omega)) ?_
   rintro _ _ ⟨sv8,rfl,rfl⟩
   refine rMv rfl<|zB<|zS rfl<|rMv rfl<|zA rfl rfl (qA rfl rfl rfl ⟨by omega,by omega⟩)<|rMv rfl<|zB ?_
   refine ⟨⟨k + 1,sv8⟩,(by omega),(by show l.length - (k + 1) < l.length - k; omega),Weak.mk [true] ⟨VLe.refl _,VLe.refl _,VLe.refl _,trivial⟩ (by exact zAr (by rw [takL_next hs]; first | (rw [show loopNm s = [s.Name] from if_pos c2]; simp [strRows]) | (rw [show loopNm s = [] from if_neg c2]; simp [strRows])))⟩
 ·try simp only [sx] at c1
  refine qI<|sReg rfl<|rMv rfl<|rMv rfl<|zB<|zH<|fin1 (rs_c rfl) ?_
  rw [yD (l := l) (k := k) (by omega)]
  exact ⟨_,rfl,rfl⟩
theorem zLb (s : St) (hl : stsWt s.Body ≤ 900000) : OwnR cfg 88 [vSts s.Body] 9 1 (strRows (takL s.Body)):= by
  induction s using St.ind with
  | _ s ih => exact zEh s.Body hl fun a ha => ih a ha (by have := yK ha; have := St.body_wt a; omega)
theorem ref30_taken (l : List St) (hl : stsWt l ≤ 900000) : OwnR cfg 88 [vSts l] 9 1 (strRows (takL l)) :=
  zEh l hl fun s hs => zLb s (by have := yK hs; have := St.body_wt s; omega)
theorem ref30_digits (n : Nat) (h1 : 1 ≤ n) (h2 : n < 10 ^ 18) :
    Pur cfg 89 [vI n] (vS (decB n)):= by
 refine zU Tryz.func89 rfl Tryz.ntmps89 Tryz.results89 rfl ?_
 intro z hz
 have hds := zOo (n := n) (by omega)
 refine sReg rfl<|rMv rfl<|zB<|sReg rfl<|rMv rfl<|zB<|zJ<|zQ<|zV ⟨[(0,.c _),(3,.c _)],[]⟩ (Weak.mk [] ⟨VLe.of_eq rfl,VLe.of_eq rfl,trivial⟩ rfl)<|qE 2 0 rfl rfl (Nat × ByteArray) (fun ⟨m,s⟩ => [(0,vI m),(3,vS s)]) (fun ⟨m,s⟩ => []) (fun ⟨m,s⟩ => m ≤ n ∧ decB n = digB m ++ s) (fun ⟨m,s⟩ => m) ⟨⟨n,bs []⟩,⟨by omega,by rw [digB_pos (by omega)]; apply ByteArray.ext; simp [bs]⟩,Weak.mk [] ⟨VLe.refl _,VLe.of_eq (rfl),trivial⟩ rfl⟩ ?_
 rintro ⟨m,s⟩ ⟨hm,hp⟩
 show AWP _ _ _ _ _ ⟨[(0,vI m),(3,vS s)] ++ _,[] ++ _⟩
 refine zJ<|sReg rfl<|rMv rfl<|zA rfl rfl (yW rfl rfl rfl)<|zB<|zG rfl (fun c1 => ?_) (fun c1 => ?_)
 ·try simp only [sx] at c1
  have hsz := congrArg ByteArray.size hp
  rw [ByteArray.size_append] at hsz
  refine zK<|zJ<|zQ<|zS rfl<|rMv rfl<|zA rfl rfl (det_rem rfl rfl rfl (by decide))<|zA rfl rfl (qA rfl rfl rfl ⟨by have := dig_rem m; omega,by have := dig_rem m; omega⟩)<|zA rfl rfl (zCm rfl us3 ik5 rfl)<|zA rfl rfl (qY rfl el58 zr5 rfl rfl rfl rfl)<|zA rfl rfl (det_conv_bytes [_] rfl un58 un5 un9 rfl (by simp) (dig_conv m))<|rMv rfl<|zA rfl rfl (det_sadd rfl rfl rfl (by have : (bs [UInt8.ofNat (48 + m % 10)]).size = 1 := rfl; omega))<|rMv rfl<|zB<|zS rfl<|rMv rfl<|zA rfl rfl (det_quo rfl rfl rfl (by decide))<|rMv rfl<|zB ?_
  refine ⟨⟨m / 10,bs [UInt8.ofNat (48 + m % 10)] ++ s⟩,⟨by omega,dig_next (by omega) hp⟩,(by show m / 10 < m; omega),Weak.mk [] ⟨VLe.of_eq (congrArg vI (dig_quo m (by omega))),VLe.refl _,trivial⟩ rfl⟩
 ·try simp only [sx] at c1
  refine qI<|sReg rfl<|rMv rfl<|rMv rfl<|zB<|zH<|fin1 (rs_c rfl) ?_
  rw [dig_end (by omega) hp]
theorem zMy (n : Ns) (base : ByteArray) (hn : n.Ok) (hl : stsWt n.Body ≤ 400000) (hb : n.Bufs.length ≤ 1000) (hs : base.size ≤ 1000) :
    Pur cfg 39 [vNs n,vS base] (vS (freshN n base)):= by
 refine zU Tryz.func39 rfl Tryz.ntmps39 Tryz.results39 rfl ?_
 intro z hz
 have hul := usedT_len n
 have htl := zFv n.Body
 refine sReg rfl<|zZ rfl rfl (qL rfl rfl) ?_
 rintro _ _ ⟨b1,rfl,rfl⟩
 refine rMv rfl<|zB<|sReg rfl<|zA rfl rfl (zD rfl zBn rfl)<|zA rfl rfl (zC rfl wL rfl (zF 0 rfl) rfl)<|zZ rfl rfl (wC rfl ok88 (ref30_taken n.Body (by omega)) ⟨VLe.refl _,rfl,trivial⟩) ?_
 rintro _ _ ⟨sv2,rfl,rfl⟩
 refine rMv rfl<|zB<|zJ<|sReg rfl<|rMv rfl<|zB<|zQ<|zV ⟨[(6,.c _),(5,.c _),(1,.c _),(2,.c _)],[_,_]⟩ (Weak.mk [true,true] ⟨VLe.of_eq rfl,VLe.of_eq rfl,VLe.of_eq rfl,VLe.of_eq rfl,trivial⟩ rfl)<|qE 2 1 rfl rfl (Nat × Value) (fun ⟨k,sv⟩ => [(6,vI k),(5,.c (.lit sv))]) (fun ⟨k,sv⟩ => [E.vec sv 9 1 (strRows (takL n.Body ++ (n.Bufs.take k).map Bf.Name))]) (fun ⟨k,sv⟩ => k ≤ n.Bufs.length) (fun ⟨k,sv⟩ => n.Bufs.length - k) ⟨⟨0,sv2⟩,(by omega),Weak.mk [true,true] ⟨VLe.refl _,VLe.refl _,VLe.refl _,VLe.refl _,trivial⟩ (by exact zAr (by simp))⟩ ?_
 rintro ⟨k,sv⟩ hk
 show AWP _ _ _ _ _ ⟨[(6,vI k),(5,.c (.lit sv))] ++ _,[E.vec sv 9 1 (strRows (takL n.Body ++ (n.Bufs.take k).map Bf.Name))] ++ _⟩
 refine zJ<|sReg rfl<|rMv rfl<|zA rfl rfl (zD rfl zAi rfl)<|zA rfl rfl (zC rfl zDa rfl (zF 1 rfl) rfl)<|zA rfl rfl (zP rfl el22 rfl)<|zA rfl rfl (qJ rfl rfl rfl)<|zB<|zG rfl (fun c1 => ?_) (fun c1 => ?_)
 ·try simp only [sx] at c1
  obtain ⟨b,hb2⟩ := qT n.Bufs k (by omega)
  refine zK<|zJ<|zQ<|zS rfl<|rMv rfl<|zA rfl rfl (zD rfl zAi rfl)<|zA rfl rfl (zC rfl zDa rfl (zF 1 rfl) rfl)<|rMv rfl<|zA rfl rfl (zN rfl el22 rfl rfl (by omega) (getm (by assumption)))<|zA rfl rfl (zX rfl zGs rfl)<|zA rfl rfl (zC rfl one9 rfl qB rfl)<|zA rfl rfl (qY rfl el72 zr9 rfl rfl rfl rfl)<|zZ rfl rfl (qU 0 rfl el72 rfl rfl rfl (by simp only [List.length_map,List.length_append,List.length_cons,List.length_nil,List.length_take,List.length_drop]; omega) (by simp only [List.length_map,List.length_append,List.length_cons,List.length_nil,List.length_take,List.length_drop]; omega)) ?_
  rintro _ _ ⟨sv3,rfl,rfl⟩
  refine rMv rfl<|zB<|zS rfl<|rMv rfl<|zA rfl rfl (qA rfl rfl rfl ⟨by omega,by omega⟩)<|rMv rfl<|zB ?_
  refine ⟨⟨k + 1,sv3⟩,(by omega),(by show n.Bufs.length - (k + 1) < n.Bufs.length - k; omega),Weak.mk [true,true] ⟨VLe.refl _,VLe.refl _,VLe.refl _,VLe.refl _,trivial⟩ (by exact zAr (by rw [qZ hb2,List.map_append]; simp [strRows]))⟩
 ·try simp only [sx] at c1
  rw [yD (l := n.Bufs) (k := k) (by omega)]
  refine zV _ (yF 0 rfl (regs' := [(5,_)]) (μ' := [_]) ⟨FLe.sl,trivial⟩ ⟨EFle.refl _,trivial⟩)<|qI<|sReg rfl<|rMv rfl<|rMv rfl<|zB<|zJ<|sReg rfl<|rMv rfl<|zB<|zQ<|zV ⟨[(8,.c _),(7,.c _),(1,.c _),(5,.c _)],[]⟩ (Weak.mk [false] ⟨VLe.of_eq rfl,VLe.of_eq rfl,VLe.of_eq rfl,VLe.of_eq rfl,trivial⟩ rfl)<|qE 2 0 rfl rfl (Nat) (fun j => [(8,vI (j + 1)),(7,vS (nmK base j))]) (fun j => []) (fun j => j ≤ (usedT n).length ∧ ∀ i,i < j → hasB (usedT n) (nmK base i) = true) (fun j => (usedT n).length + 1 - j) ⟨0,⟨by omega,fun i hi => by omega⟩,Weak.mk [] ⟨VLe.refl _,VLe.of_eq (rfl),VLe.refl _,VLe.refl _,trivial⟩ rfl⟩ ?_
  rintro j ⟨hj,hp⟩
  refine zJ<|sReg rfl<|rMv rfl<|rMv rfl<|zA rfl rfl (zR rfl ok49 (base_Has (usedT n) (nmK base j) (by omega)) ⟨VLe.refl _,rfl,VLe.refl _,rfl,trivial⟩)<|zB<|zG rfl (fun c2 => ?_) (fun c2 => ?_)
  ·try simp only [sx] at c2
   have hnx := fresh_next hp c2
   have hlt := zLr hnx
   refine zK<|zJ<|zQ<|zS rfl<|rMv rfl<|rMv rfl<|zA rfl rfl (zR rfl ok89 (ref30_digits (j + 1) (by omega) (by omega)) ⟨VLe.refl _,rfl,trivial⟩)<|zA rfl rfl (det_sadd rfl rfl rfl (by have := zOo (n := j + 1) (by omega); omega))<|rMv rfl<|zB<|zS rfl<|rMv rfl<|zA rfl rfl (qA rfl rfl rfl ⟨by omega,by omega⟩)<|rMv rfl<|zB ?_
   refine ⟨j + 1,⟨hlt,hnx⟩,(by omega),Weak.mk [] ⟨VLe.refl _,VLe.of_eq (congrArg vS (nmK_succ base j)),VLe.refl _,VLe.refl _,trivial⟩ rfl⟩
  ·try simp only [sx] at c2
   refine qI<|sReg rfl<|rMv rfl<|rMv rfl<|zB<|zH<|fin1 (rs_c rfl) ?_
   rw [show freshN n base = nmK base j from zFj hp c2]
theorem zEj (l : List St) (hl : stsWt l ≤ 536870912) (ih : ∀ s,s ∈ l → Pur cfg 90 [vSts s.Body] (vB (shortL s.Body))) :
    Pur cfg 90 [vSts l] (vB (shortL l)):= by
 refine zU Tryz.func90 rfl Tryz.ntmps90 Tryz.results90 rfl ?_
 intro z hz
 have hll := kN l
 refine sReg rfl<|rMv rfl<|zB<|zJ<|sReg rfl<|rMv rfl<|zB<|zQ<|zV ⟨[(3,.c _),(0,.c _)],[]⟩ (Weak.mk [] ⟨VLe.of_eq rfl,VLe.of_eq rfl,trivial⟩ rfl)<|qE 1 0 rfl rfl (Nat) (fun k => [(3,vI k)]) (fun k => []) (fun k => k ≤ l.length ∧ ((l.take k).all shortT = true)) (fun k => l.length - k) ⟨0,⟨by omega,rfl⟩,Weak.mk [] ⟨VLe.refl _,VLe.refl _,trivial⟩ rfl⟩ ?_
 rintro k ⟨hk,hp⟩
 refine zJ<|sReg rfl<|rMv rfl<|rMv rfl<|zA rfl rfl (zP rfl el23 rfl)<|zA rfl rfl (qJ rfl rfl rfl)<|zB<|zG rfl (fun c1 => ?_) (fun c1 => ?_)
 ·try simp only [sx] at c1
  obtain ⟨s,hs⟩ := qT l k (by omega)
  refine zK<|zJ<|zQ<|sReg rfl<|rMv rfl<|rMv rfl<|zA rfl rfl (zN rfl el23 rfl rfl (by omega) (kW hs))<|zA rfl rfl (zX rfl zAh rfl)<|zA rfl rfl (zC rfl one9 rfl qB rfl)<|zA rfl rfl (wE rfl un9 rfl)<|zA rfl rfl (yW rfl rfl rfl)<|rMv rfl<|rLz [] rfl gv1 trivial (fun g4_7 => zO rfl rfl) rfl<|rLz [] rfl gv1 trivial (fun g4_7 => zO rfl rfl) rfl<|rLz [(18,_),(19,_)] rfl gv1 ⟨rfl,rfl,rfl,rfl,trivial⟩ (fun g4_7 => zN rfl el23 rfl rfl (by omega) (kW hs)) rfl<|rLz [(20,_)] rfl gv1 ⟨rfl,rfl,trivial⟩ (fun g4_7 => zX rfl zBm rfl) rfl<|rLz [(21,_)] rfl gv1 ⟨rfl,rfl,trivial⟩ (fun g4_7 => zC rfl kU rfl qB rfl) rfl<|rLz [(22,_)] rfl gv1 ⟨rfl,rfl,trivial⟩ (fun g4_7 => zP rfl el44 rfl) rfl<|rLz [(23,_)] rfl gv1 ⟨rfl,rfl,trivial⟩ (fun g4_7 => yW rfl rfl rfl) rfl<|zA rfl rfl (kA rfl rfl rfl rfl (fun h => (lzf h)))<|rMv rfl<|rLz [] rfl gv1 trivial (fun g4_16 => zO rfl rfl) rfl<|rLz [] rfl gv1 trivial (fun g4_16 => zO rfl rfl) rfl<|rLz [(27,_),(28,_)] rfl gv1 ⟨rfl,rfl,rfl,rfl,trivial⟩ (fun g4_16 => zN rfl el23 rfl rfl (by omega) (kW hs)) rfl<|rLz [(29,_)] rfl gv1 ⟨rfl,rfl,trivial⟩ (fun g4_16 => zX rfl wN rfl) rfl<|rLz [(30,_)] rfl gv1 ⟨rfl,rfl,trivial⟩ (fun g4_16 => zC rfl wL rfl qB rfl) rfl<|rLz [(31,_)] rfl gv1 ⟨rfl,rfl,trivial⟩ (fun g4_16 => zR rfl ok90 (ih s (qC hs)) ⟨VLe.refl _,rfl,trivial⟩) rfl<|rLz [(32,_)] rfl gv1 ⟨rfl,rfl,trivial⟩ (fun g4_16 => yB rfl rfl) rfl<|zA rfl rfl (kA rfl rfl rfl rfl (fun h => (lzf h)))<|zB<|zG rfl (fun c2 => ?_) (fun c2 => ?_)
  ·refine sReg rfl<|rMv rfl<|zB<|zH<|fin1 (rs_c rfl) ?_
   rw [zMs,all_no hs (short_t c2)]
  ·refine zK<|zS rfl<|rMv rfl<|zA rfl rfl (qA rfl rfl rfl ⟨by omega,by omega⟩)<|rMv rfl<|zB ?_
   refine ⟨k + 1,⟨by omega,zJd hs hp (short_f c2)⟩,(by omega),Weak.mk [] ⟨VLe.refl _,VLe.refl _,trivial⟩ rfl⟩
 ·try simp only [sx] at c1
  refine qI<|sReg rfl<|rMv rfl<|zB<|zH<|fin1 (rs_c rfl) ?_
  rw [yD (by omega)] at hp; rw [zMs,hp]
theorem zLe (s : St) (hl : stsWt s.Body ≤ 536870912) : Pur cfg 90 [vSts s.Body] (vB (shortL s.Body)):= by
  induction s using St.ind with
  | _ s ih => exact zEj s.Body hl fun a ha => ih a ha (by have := yK ha; have := St.body_wt a; omega)
theorem law30_short (l : List St) (hl : stsWt l ≤ 536870912) : Pur cfg 90 [vSts l] (vB (shortL l)) :=
  zEj l hl fun s hs => zLe s (by have := yK hs; have := St.body_wt s; omega)
theorem law30_FewStmts (l : List St) (m : Nat) (x : Int) (hf : fitS l) (hl : l.length ≤ 140737488355328) (hm : m ≤ 5000) (hx : x = m) :
    Pur cfg 40 [vSts l,vI x] (vB (fewS l m)):= by
 refine zU Tryz.func40 rfl Tryz.ntmps40 Tryz.results40 rfl ?_
 intro z hz
 refine sReg rfl<|rMv rfl<|zB<|sReg rfl<|rMv rfl<|rMv rfl<|zA rfl rfl (zR rfl ok55 (zOx l m x hf hl hm hx) ⟨VLe.refl _,rfl,VLe.refl _,rfl,trivial⟩)<|rMv rfl<|zA rfl rfl (wM rfl rfl rfl)<|rMv rfl<|rLz [] rfl gv1 trivial (fun g1_5 => zO rfl rfl) rfl<|rLz [(11,_)] rfl gv1 ⟨rfl,rfl,trivial⟩ (fun g1_5 => zR rfl ok90 (law30_short l (by simp only [Lz,cond_true,cond_false,Bool.and_eq_true,Bool.or_eq_true,Bool.not_eq_true',Bool.not_eq_false',Bool.or_eq_false_iff,Bool.and_eq_false_iff,decide_eq_true_eq,decide_eq_false_iff_not,Bool.not_eq_true,Bool.not_eq_false] at g1_5; have := zMc (l := l) (m := m) (by omega); omega)) ⟨VLe.refl _,rfl,trivial⟩) rfl<|zA rfl rfl (qP rfl rfl rfl (fun h => h) rfl)<|rMv rfl<|zB<|zH<|fin1 (rs_c rfl) ?_
 subst hx
 exact congrArg vB (by unfold fewS; congr 1; exact decide_eq_decide.2 (by omega))
theorem law30_Few (n : Ns) (m : Nat) (x : Int) (hf : n.Fit) (hm : m ≤ 5000) (hx : x = m) :
    Pur cfg 20 [vNs n,vI x] (vB (fewN n m)):= by
 refine zU Tryz.func20 rfl Tryz.ntmps20 Tryz.results20 rfl ?_
 intro z hz
 have hbl := hf.bufs
 refine sReg rfl<|zZ rfl rfl (qL rfl rfl) ?_
 rintro _ _ ⟨b1,rfl,rfl⟩
 refine rMv rfl<|zB<|zJ<|sReg rfl<|zA rfl rfl (zD rfl zAi rfl)<|zA rfl rfl (zC rfl zDa rfl (zF 0 rfl) rfl)<|zA rfl rfl (zP rfl el22 rfl)<|zA rfl rfl (yW rfl rfl rfl)<|zB<|zG rfl (fun c1 => ?_) (fun c1 => ?_)
 ·try simp only [sx] at c1
  refine sReg rfl<|rMv rfl<|zB<|zH<|fin1 (rs_c rfl) ?_
  rw [few_1 (by omega)]
 ·try simp only [sx] at c1
  refine zK<|zJ<|sReg rfl<|rMv rfl<|zB<|zQ<|zV ⟨[(5,.c _),(1,.c _),(2,.c _)],[_]⟩ (Weak.mk [true] ⟨VLe.of_eq rfl,VLe.of_eq rfl,VLe.of_eq rfl,trivial⟩ rfl)<|qE 1 0 rfl rfl (Nat) (fun k => [(5,vI k)]) (fun k => []) (fun k => k ≤ n.Bufs.length ∧ ((n.Bufs.take k).all fewBf = true)) (fun k => n.Bufs.length - k) ⟨0,⟨by omega,rfl⟩,Weak.mk [true] ⟨VLe.refl _,VLe.refl _,VLe.refl _,trivial⟩ rfl⟩ ?_
  rintro k ⟨hk,hp⟩
  refine zJ<|sReg rfl<|rMv rfl<|zA rfl rfl (zD rfl zAi rfl)<|zA rfl rfl (zC rfl zDa rfl (zF 0 rfl) rfl)<|zA rfl rfl (zP rfl el22 rfl)<|zA rfl rfl (qJ rfl rfl rfl)<|zB<|zG rfl (fun c2 => ?_) (fun c2 => ?_)
  ·try simp only [sx] at c2
   obtain ⟨b,hb⟩ := qT n.Bufs k (by omega)
   refine zK<|zJ<|zQ<|sReg rfl<|zA rfl rfl (zD rfl zAi rfl)<|zA rfl rfl (zC rfl zDa rfl (zF 0 rfl) rfl)<|rMv rfl<|zA rfl rfl (zN rfl el22 rfl rfl (by omega) (getm (by assumption)))<|zA rfl rfl (zX rfl zGr rfl)<|zA rfl rfl (zC rfl zEn rfl qB rfl)<|zA rfl rfl (zP rfl el33 rfl)<|zA rfl rfl (yW rfl rfl rfl)<|rMv rfl<|rLz [] rfl gv1 trivial (fun g6_8 => zD rfl zAi rfl) rfl<|rLz [(26,_)] rfl gv1 ⟨rfl,rfl,trivial⟩ (fun g6_8 => zC rfl zDa rfl (zF 0 rfl) rfl) rfl<|rLz [] rfl gv1 trivial (fun g6_8 => zO rfl rfl) rfl<|rLz [(27,_),(28,_)] rfl gv1 ⟨rfl,rfl,rfl,rfl,trivial⟩ (fun g6_8 => zN rfl el22 rfl rfl (by omega) (getm (by assumption))) rfl<|rLz [(29,_)] rfl gv1 ⟨rfl,rfl,trivial⟩ (fun g6_8 => zX rfl zGs rfl) rfl<|rLz [(30,_)] rfl gv1 ⟨rfl,rfl,trivial⟩ (fun g6_8 => zC rfl one9 rfl qB rfl) rfl<|rLz [(31,_)] rfl gv1 ⟨rfl,rfl,trivial⟩ (fun g6_8 => wE rfl un9 rfl) rfl<|rLz [(32,_)] rfl gv1 ⟨rfl,rfl,trivial⟩ (fun g6_8 => yW rfl rfl rfl) rfl<|zA rfl rfl (kA rfl rfl rfl rfl (fun h => (lzf h)))<|zB<|zG rfl (fun c3 => ?_) (fun c3 => ?_)
   ·refine sReg rfl<|rMv rfl<|zB<|zH<|fin1 (rs_c rfl) ?_
    rw [few_2 hb (fewB_t c3)]
   ·refine zK<|zS rfl<|rMv rfl<|zA rfl rfl (qA rfl rfl rfl ⟨by omega,by omega⟩)<|rMv rfl<|zB ?_
    refine ⟨k + 1,⟨by omega,zJd hb hp (fewB_f c3)⟩,(by omega),Weak.mk [true] ⟨VLe.refl _,VLe.refl _,VLe.refl _,trivial⟩ rfl⟩
  ·try simp only [sx] at c2
   refine qI<|sReg rfl<|zA rfl rfl (zD rfl zBn rfl)<|zA rfl rfl (zC rfl wL rfl (zF 0 rfl) rfl)<|rMv rfl<|zA rfl rfl (zR rfl ok40 (law30_FewStmts n.Body m x hf.body hf.len hm hx) ⟨VLe.refl _,rfl,VLe.refl _,rfl,trivial⟩)<|rMv rfl<|zB<|zH<|fin1 (rs_c rfl) ?_
   rw [yD (by omega)] at hp; exact congrArg vB (few_3 (by omega) hp)
theorem zEg (l : List St) (hl : stsWt l ≤ 1000000) (ih : ∀ s,s ∈ l → Pur cfg 104 [vSts s.Body] (vSts s.Body)) :
    Pur cfg 104 [vSts l] (vSts l):= by
 refine zU Tryz.func104 rfl Tryz.ntmps104 Tryz.results104 rfl ?_
 intro z hz
 have hll := kN l
 refine sReg rfl<|zA rfl rfl (qO 20 rfl rfl)<|zB<|sReg rfl<|rMv rfl<|yE _ (kB 54 20)<|zB<|zJ<|sReg rfl<|rMv rfl<|zB<|zQ<|zV ⟨[(4,.c _),(3,.c _),(0,.c _)],[_]⟩ (Weak.mk [true] ⟨VLe.of_eq rfl,VLe.of_eq rfl,VLe.of_eq rfl,trivial⟩ rfl)<|qE 2 1 rfl rfl (Nat × Value) (fun ⟨k,sv⟩ => [(4,vI k),(3,.c (.lit sv))]) (fun ⟨k,sv⟩ => [E.vec sv 54 20 ((l.take k).map St.cells)]) (fun ⟨k,sv⟩ => k ≤ l.length) (fun ⟨k,sv⟩ => l.length - k) ⟨⟨0,(.slice none 0 0)⟩,(by omega),Weak.mk [true] ⟨VLe.refl _,VLe.refl _,VLe.refl _,trivial⟩ rfl⟩ ?_
 rintro ⟨k,sv⟩ hk
 show AWP _ _ _ _ _ ⟨[(4,vI k),(3,.c (.lit sv))] ++ _,[E.vec sv 54 20 ((l.take k).map St.cells)] ++ _⟩
 refine zJ<|sReg rfl<|rMv rfl<|rMv rfl<|zA rfl rfl (zP rfl el23 rfl)<|zA rfl rfl (qJ rfl rfl rfl)<|zB<|zG rfl (fun c1 => ?_) (fun c1 => ?_)
 ·try simp only [sx] at c1
  obtain ⟨s,hs⟩ := qT l k (by omega)
  have hsw := yK (qC hs)
  have hse := St.wt_eq s
  refine zK<|zJ<|zQ<|sReg rfl<|rMv rfl<|rMv rfl<|zA rfl rfl (zN rfl el23 rfl rfl (by omega) (kW hs))<|zA rfl rfl (zE rfl zCt rfl qB rfl)<|zZ rfl rfl (qK [none,none,none,none,none,some 4,none,none,none,none,none,none,none,none,none,none,some 2,some 4,some 13,some 20] rfl zr54 rfl) ?_
  rintro _ _ ⟨b2,rfl,rfl⟩
  refine zY rfl rfl (zT rfl sz54 rfl rfl rfl (qF 0 rfl rfl))<|zB<|sReg rfl<|zA rfl rfl (zD rfl zBm rfl)<|zA rfl rfl (zC rfl kU rfl (zF 0 rfl) rfl)<|zA rfl rfl (yY [none,none,none,none,none,none,none,none,none,none,some 2,none,some 13] rfl zr52 pl52 rfl rfl)<|zA rfl rfl (zR rfl ok148 (ref14_Twin (rdZ s.Idx) (by rw [rdZ_wt]; omega)) ⟨VLe.refl _,rfl,trivial⟩)<|zA rfl rfl (det_part_one rfl kO kU rfl rfl)<|zA rfl rfl (zD rfl zBm rfl)<|zY rfl rfl (zT rfl sz44 rfl rfl rfl (qF 0 rfl rfl))<|zB<|sReg rfl<|zA rfl rfl (zD rfl zBa rfl)<|zA rfl rfl (zE rfl yX rfl (zF 0 rfl) rfl)<|zA rfl rfl (zR rfl ok148 (ref14_Twin s.E (by omega)) ⟨VLe.refl _,rfl,trivial⟩)<|zA rfl rfl (zD rfl zBa rfl)<|zY rfl rfl (zT rfl sz52 rfl rfl rfl (qF 0 rfl rfl))<|zB<|sReg rfl<|zA rfl rfl (zD rfl wN rfl)<|zA rfl rfl (zC rfl wL rfl (zF 0 rfl) rfl)<|zA rfl rfl (zR rfl ok104 (ih s (qC hs)) ⟨VLe.refl _,rfl,trivial⟩)<|zA rfl rfl (zD rfl wN rfl)<|zY rfl rfl (zT rfl sz23 rfl rfl rfl (qF 0 rfl rfl))<|zB<|zS rfl<|rMv rfl<|zA rfl rfl (zE rfl zCt rfl (zF 0 rfl) rfl)<|zA rfl rfl (qY rfl el23 zr54 rfl rfl rfl rfl)<|zZ rfl rfl (qU 1 rfl el23 rfl rfl rfl (by simp only [List.length_map,List.length_append,List.length_cons,List.length_nil,List.length_take,List.length_drop]; omega) (by simp only [List.length_map,List.length_append,List.length_cons,List.length_nil,List.length_take,List.length_drop]; omega)) ?_
  rintro _ _ ⟨sv3,rfl,rfl⟩
  refine rMv rfl<|zB<|zS rfl<|rMv rfl<|zA rfl rfl (qA rfl rfl rfl ⟨by omega,by omega⟩)<|rMv rfl<|zB ?_
  refine ⟨⟨k + 1,sv3⟩,(by omega),(by show l.length - (k + 1) < l.length - k; omega),Weak.mk [false,true] ⟨VLe.refl _,VLe.refl _,VLe.refl _,trivial⟩ (by exact zAr (by rw [qZ hs,List.map_append,List.map_singleton,St.cells_eq]; rfl))⟩
 ·try simp only [sx] at c1
  rw [yD (l := l) (k := k) (by omega)]
  refine qI<|zJ<|zV _ (yF 0 rfl (regs' := [(3,_)]) (μ' := []) ⟨FLe.sl,trivial⟩ trivial)<|zS rfl<|rMv rfl<|rMv rfl<|zB<|zH<|fin1 (rs_c rfl) ?_
  exact rfl
theorem zLa (s : St) (hl : stsWt s.Body ≤ 1000000) : Pur cfg 104 [vSts s.Body] (vSts s.Body):= by
  induction s using St.ind with
  | _ s ih => exact zEg s.Body hl fun a ha => ih a ha (by have := yK ha; have := St.body_wt a; omega)
theorem ref30_twins (l : List St) (hl : stsWt l ≤ 1000000) : Pur cfg 104 [vSts l] (vSts l) :=
  zEg l hl fun s hs => zLa s (by have := yK hs; have := St.body_wt s; omega)
end Go.W
