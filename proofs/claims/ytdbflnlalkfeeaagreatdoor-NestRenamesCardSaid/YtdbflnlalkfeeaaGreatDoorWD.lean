/-
  Walks: what functions of the program compute. Printed by wip/gen/mk2.py.
  Conditions: none.
-/
import Derived.Test.YtdbflnlalkfeeaaGreatDoorWC
set_option maxRecDepth 10000
namespace Go.W
open Go Go.Eng Go.Proofs Go.L41 Go.Br
attribute [local irreducible] AWP RWP TD finQ
theorem ok130 : callOk Tryz.prog 130 = true:= by kernel_rfl
theorem ok131 : callOk Tryz.prog 131 = true:= by kernel_rfl
theorem ok140 : callOk Tryz.prog 140 = true:= by kernel_rfl
theorem ok167 : callOk Tryz.prog 167 = true:= by kernel_rfl
theorem ok168 : callOk Tryz.prog 168 = true:= by kernel_rfl
theorem ok169 : callOk Tryz.prog 169 = true:= by kernel_rfl
theorem ok220 : callOk Tryz.prog 220 = true:= by kernel_rfl
theorem ok221 : callOk Tryz.prog 221 = true:= by kernel_rfl
theorem ok222 : callOk Tryz.prog 222 = true:= by kernel_rfl
theorem ok260 : callOk Tryz.prog 260 = true:= by kernel_rfl
theorem ok261 : callOk Tryz.prog 261 = true:= by kernel_rfl
theorem ok262 : callOk Tryz.prog 262 = true:= by kernel_rfl
theorem ok263 : callOk Tryz.prog 263 = true:= by kernel_rfl
theorem ok264 : callOk Tryz.prog 264 = true:= by kernel_rfl
theorem zJj : oneT Tryz.prog 29 = true:= by kernel_rfl
theorem sz3 : (Tryz.prog.info? 3).map (·.size) = some 1:= by kernel_rfl
theorem sz29 : (Tryz.prog.info? 29).map (·.size) = some 1:= by kernel_rfl
theorem sz49 : (Tryz.prog.info? 49).map (·.size) = some 2:= by kernel_rfl
theorem zr3 : zeroT Tryz.prog 3 = some [(Value.int IntKind.i64 0)]:= by kernel_rfl
theorem zr29 : zeroT Tryz.prog 29 = some [(Value.int IntKind.i64 0)]:= by kernel_rfl
theorem zr49 : zeroT Tryz.prog 49 = some [(Value.int IntKind.i64 0),(Value.slice none 0 0)]:= by kernel_rfl
theorem expr_forms (e : Ex) :
    Pur cfg 131 [vE e] (.c (.fn (.func 169) [] [.iptr e.cs])):= by
 refine zV Tryz.func131 rfl Tryz.ntmps131 Tryz.results131 rfl ?_
 intro z hz
 refine sReg rfl<|zY rfl rfl (qM rfl rfl) ?_
 rintro _ _ ⟨b1,rfl,rfl⟩
 refine rMv rfl<|zB<|sReg rfl<|zA rfl rfl (zAg rfl rfl rfl rfl rfl)<|qY _ (yF 0 rfl 3 (.c (.fn _ _ [_])) (PLe.fn ⟨.inr ⟨rfl,rfl⟩,trivial⟩))<|rMv rfl<|zB<|zH<|fin1 (rs_c rfl) ?_
 exact rfl
theorem forms_iter (e : Ex) (he : e.wt ≤ 6000000000000) :
    Iter cfg 169 [] [.iptr e.cs] (formsL e) fun l => [vLin l]:= by
 obtain ⟨hL,hI,hA⟩ := e.parts he
 intro y J Jx μ hy0 h0
 have hy := fun pre x suf μ h1 h2 => fn_bool (hy0 pre x suf μ h1 h2)
 refine zV Tryz.func169 rfl Tryz.ntmps169 Tryz.results169 rfl ?_
 intro z hz
 refine zJ<|sReg rfl<|rMv rfl<|zA rfl rfl (zZ rfl zCy rfl)<|zA rfl rfl (zF rfl yI rfl qA rfl)<|zY rfl rfl (kU rfl rfl (hy [] e.Lin _ _ rfl h0) ⟨VLe.refl _,rfl,trivial⟩) ?_
 rintro _ m0 ⟨y0,rfl,t0,f0⟩
 refine zA rfl rfl (yA rfl rfl)<|zB<|zG rfl (fun c1 => ?_) (fun c1 => ?_)
 ·try simp only [sx] at c1
  refine zH<|fin0 ?_
  exact .inr ⟨[],e.Lin,_,rfl,f0 c1⟩
 ·try simp only [sx] at c1
  refine zK<|sReg rfl<|zA rfl rfl (zZ rfl kR rfl)<|zA rfl rfl (zD rfl wF rfl qA rfl)<|zA rfl rfl (zT rfl el44 rfl)<|rMv rfl<|zB<|zU<|zX ⟨[(15,.c _),(0,.c _),(13,.c _),(14,.c _)],_⟩ (Weak.regs ⟨VLe.of_eq rfl,VLe.of_eq rfl,VLe.of_eq rfl,VLe.of_eq rfl,trivial⟩)<|zBu 1 rfl (Nat × List E) (fun ⟨k,m⟩ => [(15,vI k)]) (fun ⟨k,m⟩ => m) (fun ⟨k,m⟩ => k ≤ e.Idx.length ∧ (J (e.Lin :: (e.Idx.take k).flatMap ixF) m)) (fun ⟨k,m⟩ => e.Idx.length - k) ⟨⟨0,m0⟩,⟨by omega,t0 c1⟩,Weak.regs ⟨VLe.refl _,VLe.refl _,VLe.refl _,VLe.refl _,trivial⟩⟩ ?_
  rintro ⟨k,m⟩ ⟨hk,hJ⟩
  refine sReg rfl<|zA rfl rfl (qL rfl rfl rfl)<|zB<|zJ<|zG rfl (fun c2 => ?_) (fun c2 => ?_)
  ·try simp only [sx] at c2
   obtain ⟨x,hx⟩ := qZ e.Idx k (by omega)
   have hxw := Ex.idx_wt (qB hx)
   refine zK<|zJ<|zU<|sReg rfl<|zA rfl rfl (zP rfl el44 rfl rfl (by omega) (getm (by assumption)))<|zA rfl rfl (zF rfl zAq rfl qA rfl)<|zY rfl rfl (qH [none,some 2,none,some 2] rfl zCp rfl) ?_
   rintro _ _ ⟨b1,rfl,rfl⟩
   refine zS rfl rfl (zO rfl zKs rfl rfl rfl (qE 0 rfl rfl))<|qY _ (yF 0 rfl 4 _ PLe.ptr)<|zB<|zJ<|sReg rfl<|rMv rfl<|zA rfl rfl (zZ rfl zAy rfl)<|zA rfl rfl (zF rfl yI rfl qA rfl)<|zY rfl rfl (kU rfl rfl (hy _ x.Lin _ _ (forms_at hx) hJ) ⟨VLe.refl _,rfl,trivial⟩) ?_
   rintro _ m1 ⟨y1,rfl,t1,f1⟩
   refine zA rfl rfl (yA rfl rfl)<|zB<|zG rfl (fun c3 => ?_) (fun c3 => ?_)
   ·try simp only [sx] at c3
    refine zH<|fin0 ?_
    exact .inr ⟨_,x.Lin,_,forms_at hx,f1 c3⟩
   ·try simp only [sx] at c3
    refine zK<|sReg rfl<|zA rfl rfl (zZ rfl kG rfl)<|zA rfl rfl (zD rfl wI rfl qA rfl)<|zA rfl rfl (zT rfl wK rfl)<|rMv rfl<|zB<|zU<|zX ⟨[(27,.c _),(0,.c _),(13,.c _),(14,.c _),(15,.c _),(25,.c _),(26,.c _)],_⟩ (Weak.regs ⟨VLe.of_eq rfl,VLe.of_eq rfl,VLe.of_eq rfl,VLe.of_eq rfl,VLe.of_eq rfl,VLe.of_eq rfl,VLe.of_eq rfl,trivial⟩)<|zBu 1 rfl (Nat × List E) (fun ⟨j,n⟩ => [(27,vI j)]) (fun ⟨j,n⟩ => n) (fun ⟨j,n⟩ => j ≤ x.At.length ∧ (J ((e.Lin :: (e.Idx.take k).flatMap ixF) ++ [x.Lin] ++ x.At.take j) n)) (fun ⟨j,n⟩ => x.At.length - j) ⟨⟨0,m1⟩,⟨by omega,by simpa using t1 c3⟩,Weak.regs ⟨VLe.refl _,VLe.refl _,VLe.refl _,VLe.refl _,VLe.refl _,VLe.refl _,VLe.refl _,trivial⟩⟩ ?_
    rintro ⟨j,n⟩ ⟨hj,hJ2⟩
    refine sReg rfl<|zA rfl rfl (qL rfl rfl rfl)<|zB<|zJ<|zG rfl (fun c4 => ?_) (fun c4 => ?_)
    ·try simp only [sx] at c4
     obtain ⟨l,hl⟩ := qZ x.At j (by omega)
     refine zK<|zJ<|zU<|sReg rfl<|zA rfl rfl (zP rfl wK rfl rfl (by omega) (getm (by assumption)))<|zA rfl rfl (zF rfl yI rfl qA rfl)<|zY rfl rfl (qH [none,some 2] rfl zr49 rfl) ?_
     rintro _ _ ⟨b2,rfl,rfl⟩
     refine zS rfl rfl (zO rfl sz49 rfl rfl rfl (qE 0 rfl rfl))<|qY _ (yF 0 rfl 6 _ PLe.ptr)<|zB<|sReg rfl<|rMv rfl<|zA rfl rfl (zF rfl yI rfl qA rfl)<|zY rfl rfl (kU rfl rfl (hy _ l _ _ (forms_at2 hx hl) hJ2) ⟨VLe.refl _,rfl,trivial⟩) ?_
     rintro _ m2 ⟨y2,rfl,t2,f2⟩
     refine zA rfl rfl (yA rfl rfl)<|zB<|zG rfl (fun c5 => ?_) (fun c5 => ?_)
     ·try simp only [sx] at c5
      refine zH<|fin0 ?_
      exact .inr ⟨_,l,_,forms_at2 hx hl,f2 c5⟩
     ·try simp only [sx] at c5
      refine zK<|zR rfl<|zA rfl rfl (qC rfl rfl rfl ⟨by omega,by omega⟩)<|rMv rfl<|zB ?_
      refine ⟨⟨j + 1,m2⟩,⟨by omega,by rw [yC hl]; simpa [List.append_assoc] using t2 c5⟩,(by show x.At.length - (j + 1) < x.At.length - j; omega),Weak.regs ⟨VLe.refl _,VLe.refl _,VLe.refl _,VLe.refl _,VLe.refl _,VLe.refl _,VLe.refl _,trivial⟩⟩
    ·try simp only [sx] at c4
     refine qO<|zR rfl<|zA rfl rfl (qC rfl rfl rfl ⟨by omega,by omega⟩)<|rMv rfl<|zB ?_
     refine ⟨⟨k + 1,n⟩,⟨by omega,by rw [forms_next hx]; rw [yN (l := x.At) (by omega)] at hJ2; exact hJ2⟩,(by show e.Idx.length - (k + 1) < e.Idx.length - k; omega),Weak.regs ⟨VLe.refl _,VLe.refl _,VLe.refl _,VLe.refl _,trivial⟩⟩
  ·try simp only [sx] at c2
   refine qO ?_
   repeat (first | refine zFn ?_ | refine zDz ?_)
   refine zPr <| fin0 ?_
   rw [yN (by omega)] at hJ; exact .inl hJ
theorem zJw (e : Ex) :
    Pur cfg 130 [vE e] (.c (.fn (.func 167) [] [.iptr e.cs])):= by
 refine zV Tryz.func130 rfl Tryz.ntmps130 Tryz.results130 rfl ?_
 intro z hz
 refine sReg rfl<|zY rfl rfl (qM rfl rfl) ?_
 rintro _ _ ⟨b1,rfl,rfl⟩
 refine rMv rfl<|zB<|sReg rfl<|zA rfl rfl (zAg rfl rfl rfl rfl rfl)<|qY _ (yF 0 rfl 3 (.c (.fn _ _ [_])) (PLe.fn ⟨.inr ⟨rfl,rfl⟩,trivial⟩))<|rMv rfl<|zB<|zH<|fin1 (rs_c rfl) ?_
 exact rfl
theorem walk_step (e : Ex) (he : e.wt ≤ 6000000000000) (ih : ∀ a,a ∈ e.Args → a.wt ≤ 6000000000000 → (∀ (y : C) (J Jx : List Ex → List E → Prop) (pre0 : List Ex) (μ : List E),(∀ pre x suf μ,nodes a = pre ++ x :: suf → J (pre0 ++ pre) μ → FnCon cfg y [vE x] μ fun r μ' => ∃ b,r = .c (.lit (.bool b)) ∧ (b = true → J (pre0 ++ pre ++ [x]) μ') ∧ (b = false → Jx (pre0 ++ pre ++ [x]) μ')) → J pre0 μ → Con cfg 168 [vE a,.c y] μ fun r μ' => ∃ b,r = .c (.lit (.bool b)) ∧ (b = true → J (pre0 ++ nodes a) μ') ∧ (b = false → ∃ pre x suf,nodes a = pre ++ x :: suf ∧ Jx (pre0 ++ pre ++ [x]) μ'))) :
    ∀ (y : C) (J Jx : List Ex → List E → Prop) (pre0 : List Ex) (μ : List E),(∀ pre x suf μ,nodes e = pre ++ x :: suf → J (pre0 ++ pre) μ → FnCon cfg y [vE x] μ fun r μ' => ∃ b,r = .c (.lit (.bool b)) ∧ (b = true → J (pre0 ++ pre ++ [x]) μ') ∧ (b = false → Jx (pre0 ++ pre ++ [x]) μ')) → J pre0 μ → Con cfg 168 [vE e,.c y] μ fun r μ' => ∃ b,r = .c (.lit (.bool b)) ∧ (b = true → J (pre0 ++ nodes e) μ') ∧ (b = false → ∃ pre x suf,nodes e = pre ++ x :: suf ∧ Jx (pre0 ++ pre ++ [x]) μ'):= by
 obtain ⟨hL,hI,hA⟩ := e.parts he
 intro y J Jx pre0 μ hy h0
 refine zV Tryz.func168 rfl Tryz.ntmps168 Tryz.results168 rfl ?_
 intro z hz
 refine sReg rfl<|zY rfl rfl (qM rfl rfl) ?_
 rintro _ _ ⟨b1,rfl,rfl⟩
 refine qY _ (yF 0 rfl 2 _ PLe.ptr)<|rMv rfl<|zB<|zJ<|sReg rfl<|rMv rfl<|zA rfl rfl (zF rfl yY rfl qA rfl)<|zY rfl rfl (kU rfl rfl (hy [] e _ _ (kS e) (show J (pre0 ++ []) μ by simpa using h0)) ⟨VLe.refl _,rfl,trivial⟩) ?_
 rintro _ m0 ⟨y0,rfl,t0,f0⟩
 refine zA rfl rfl (yA rfl rfl)<|zB<|zG rfl (fun c1 => ?_) (fun c1 => ?_)
 ·try simp only [sx] at c1
  refine sReg rfl<|rMv rfl<|zB<|zH<|fin1 (rs_c rfl) ?_
  exact ⟨false,rfl,fun h => (by cases h),fun _ => ⟨[],e,_,kS e,by simpa using f0 c1⟩⟩
 ·try simp only [sx] at c1
  refine zK<|zJ<|sReg rfl<|zA rfl rfl (zZ rfl wM rfl)<|zA rfl rfl (zD rfl zCu rfl qA rfl)<|zA rfl rfl (zT rfl el50 rfl)<|rMv rfl<|zB<|zU<|zX ⟨[(14,.c _),(1,.c _),(12,.c _),(13,.c _)],_⟩ (Weak.regs ⟨VLe.of_eq rfl,VLe.of_eq rfl,VLe.of_eq rfl,VLe.of_eq rfl,trivial⟩)<|zBu 1 rfl (Nat × List E) (fun ⟨k,m⟩ => [(14,vI k)]) (fun ⟨k,m⟩ => m) (fun ⟨k,m⟩ => k ≤ e.Args.length ∧ (J (pre0 ++ e :: nodesL (e.Args.take k)) m)) (fun ⟨k,m⟩ => e.Args.length - k) ⟨⟨0,m0⟩,⟨by omega,by simpa [nodesL] using t0 c1⟩,Weak.regs ⟨VLe.refl _,VLe.refl _,VLe.refl _,VLe.refl _,trivial⟩⟩ ?_
  rintro ⟨k,m⟩ ⟨hk,hJ⟩
  refine sReg rfl<|zA rfl rfl (qL rfl rfl rfl)<|zB<|zJ<|zG rfl (fun c2 => ?_) (fun c2 => ?_)
  ·try simp only [sx] at c2
   obtain ⟨a,ha⟩ := qZ e.Args k (by omega)
   refine zK<|zJ<|zU<|sReg rfl<|zA rfl rfl (zP rfl el50 rfl rfl (by omega) (zLm (by assumption)))<|zA rfl rfl (zF rfl yY rfl qA rfl)<|zY rfl rfl (qH [none,none,none,none,none,none,none,none,none,none,some 2,some 4,some 13] rfl zr52 rfl) ?_
   rintro _ _ ⟨b2,rfl,rfl⟩
   refine zS rfl rfl (zO rfl sz52 rfl rfl rfl (qE 0 rfl rfl))<|qY _ (yF 0 rfl 6 _ PLe.ptr)<|zB<|sReg rfl<|zA rfl rfl (zF rfl yY rfl qA rfl)<|rMv rfl<|zY rfl rfl (wV rfl ok168 (ih a (qB ha) (by have := Ex.arg_wt (qB ha); omega) y J Jx (pre0 ++ e :: nodesL (e.Args.take k)) _ (fun pre x suf μ hx hj => by have := hy _ x _ μ (nodes_at ha hx) (by simpa using hj); simpa using this) hJ) ⟨VLe.refl _,rfl,VLe.refl _,rfl,trivial⟩) ?_
   rintro _ m1 ⟨y1,rfl,t1,f1⟩
   refine zA rfl rfl (yA rfl rfl)<|zB<|zG rfl (fun c3 => ?_) (fun c3 => ?_)
   ·try simp only [sx] at c3
    refine sReg rfl<|rMv rfl<|zB<|zH<|fin1 (rs_c rfl) ?_
    obtain ⟨pre,x,suf,h1,h2⟩ := f1 c3
    exact ⟨false,rfl,fun h => (by cases h),fun _ => ⟨_,x,_,nodes_at ha h1,by simpa using h2⟩⟩
   ·try simp only [sx] at c3
    refine zK<|zR rfl<|zA rfl rfl (qC rfl rfl rfl ⟨by omega,by omega⟩)<|rMv rfl<|zB ?_
    refine ⟨⟨k + 1,m1⟩,⟨by omega,by rw [nodesL_next ha]; simpa using t1 c3⟩,(by show e.Args.length - (k + 1) < e.Args.length - k; omega),Weak.regs ⟨VLe.refl _,VLe.refl _,VLe.refl _,VLe.refl _,trivial⟩⟩
  ·try simp only [sx] at c2
   refine qO<|sReg rfl<|rMv rfl<|zB<|zH<|fin1 (rs_c rfl) ?_
   rw [yN (by omega)] at hJ
   exact ⟨true,rfl,fun _ => (by rw [kS]; exact hJ),fun h => (by cases h)⟩
theorem walk_con (e : Ex) (he : e.wt ≤ 6000000000000) : ∀ (y : C) (J Jx : List Ex → List E → Prop) (pre0 : List Ex) (μ : List E),(∀ pre x suf μ,nodes e = pre ++ x :: suf → J (pre0 ++ pre) μ → FnCon cfg y [vE x] μ fun r μ' => ∃ b,r = .c (.lit (.bool b)) ∧ (b = true → J (pre0 ++ pre ++ [x]) μ') ∧ (b = false → Jx (pre0 ++ pre ++ [x]) μ')) → J pre0 μ → Con cfg 168 [vE e,.c y] μ fun r μ' => ∃ b,r = .c (.lit (.bool b)) ∧ (b = true → J (pre0 ++ nodes e) μ') ∧ (b = false → ∃ pre x suf,nodes e = pre ++ x :: suf ∧ Jx (pre0 ++ pre ++ [x]) μ'):= by
  induction e using Ex.ind with
  | _ e ih => exact walk_step e he ih
theorem zIt (e : Ex) (he : e.wt ≤ 6000000000000) :
    Iter cfg 167 [] [.iptr e.cs] (nodes e) fun x => [vE x]:= by
 intro y J Jx μ hy0 h0
 have hy := fun pre x suf μ h1 h2 => fn_bool (hy0 pre x suf μ h1 h2)
 refine zV Tryz.func167 rfl Tryz.ntmps167 Tryz.results167 rfl ?_
 intro z hz
 refine zR rfl<|zA rfl rfl (zF rfl yY rfl qA rfl)<|rMv rfl<|zY rfl rfl (wV rfl ok168 (walk_con e he y J Jx [] _ (fun pre x suf μ h1 h2 => hy pre x suf μ h1 h2) h0) ⟨VLe.refl _,rfl,VLe.refl _,rfl,trivial⟩) ?_
 rintro _ m0 ⟨y0,rfl,t0,f0⟩
 refine zB ?_
 repeat (first | refine zFn ?_ | refine zDz ?_)
 refine zPr <| fin0 ?_
 cases y0
 · exact .inr (f0 rfl)
 · exact .inl (t0 rfl)
theorem expr_validNode (e : Ex) (he : e.wt ≤ 6000000000000) :
    Pur cfg 222 [vE e] (vI (nodeErr e)):= by
 refine zV Tryz.func222 rfl Tryz.ntmps222 Tryz.results222 rfl ?_
 intro z hz
 obtain ⟨hL,hI,hA⟩ := e.parts he
 refine sReg rfl<|zY rfl rfl (qM rfl rfl) ?_
 rintro _ _ ⟨b1,rfl,rfl⟩
 refine zY rfl rfl (yJ rfl zr29) ?_
 rintro _ _ ⟨b2,rfl,rfl⟩
 refine zB<|zJ<|zU<|sReg rfl<|zA rfl rfl (zF rfl yY rfl (zE 1 rfl) rfl)<|zA rfl rfl (zQ rfl ok260 (expr_syntax e he) ⟨VLe.refl _,rfl,trivial⟩)<|zA rfl rfl (yA rfl rfl)<|rMv rfl<|zB<|zG rfl (fun c1 => ?_) (fun c1 => ?_)
 ·try simp only [sx] at c1
  refine sReg rfl<|zS rfl rfl (zO rfl sz29 rfl rfl rfl (qE 0 rfl rfl))<|zB<|zH<|fin1 (kM zJj rfl (zE 0 rfl) rfl) ?_
  rw [nodeErr,c1]; rfl
 ·try simp only [sx] at c1
  refine sReg rfl<|zA rfl rfl (zF rfl yY rfl (zE 1 rfl) rfl)<|zA rfl rfl (zQ rfl ok261 (expr_names e he) ⟨VLe.refl _,rfl,trivial⟩)<|zA rfl rfl (yA rfl rfl)<|rMv rfl<|zB<|zG rfl (fun c2 => ?_) (fun c2 => ?_)
  ·try simp only [sx] at c2
   refine sReg rfl<|zS rfl rfl (zO rfl sz29 rfl rfl rfl (qE 0 rfl rfl))<|zB<|zH<|fin1 (kM zJj rfl (zE 0 rfl) rfl) ?_
   rw [nodeErr,c1,c2]; rfl
  ·try simp only [sx] at c2
   refine sReg rfl<|zA rfl rfl (zF rfl yY rfl (zE 1 rfl) rfl)<|zA rfl rfl (zQ rfl ok262 (expr_rank e he) ⟨VLe.refl _,rfl,trivial⟩)<|zA rfl rfl (yA rfl rfl)<|rMv rfl<|zB<|zG rfl (fun c3 => ?_) (fun c3 => ?_)
   ·try simp only [sx] at c3
    refine sReg rfl<|zS rfl rfl (zO rfl sz29 rfl rfl rfl (qE 0 rfl rfl))<|zB<|zH<|fin1 (kM zJj rfl (zE 0 rfl) rfl) ?_
    rw [nodeErr,c1,c2,c3]; rfl
   ·try simp only [sx] at c3
    refine sReg rfl<|zA rfl rfl (zF rfl yY rfl (zE 1 rfl) rfl)<|zA rfl rfl (zQ rfl ok263 (expr_types e he) ⟨VLe.refl _,rfl,trivial⟩)<|zA rfl rfl (yA rfl rfl)<|rMv rfl<|zB<|zG rfl (fun c4 => ?_) (fun c4 => ?_)
    ·try simp only [sx] at c4
     refine sReg rfl<|zS rfl rfl (zO rfl sz29 rfl rfl rfl (qE 0 rfl rfl))<|zB<|zH<|fin1 (kM zJj rfl (zE 0 rfl) rfl) ?_
     rw [nodeErr,c1,c2,c3,c4]; rfl
    ·try simp only [sx] at c4
     refine sReg rfl<|zA rfl rfl (zC rfl zAb rfl)<|zA rfl rfl (zD rfl one3 rfl (zE 1 rfl) rfl)<|zA rfl rfl (qJ rfl rfl rfl)<|rMv rfl<|rLz [] rfl gv1 trivial (fun g9_3 => zC rfl zGk rfl) rfl<|rLz [(25,_)] rfl gv1 ⟨rfl,rfl,trivial⟩ (fun g9_3 => zF rfl yU rfl (zE 1 rfl) rfl) rfl<|rLz [] rfl gv1 trivial (fun g9_3 => zC rfl zHw rfl) rfl<|rLz [(27,_)] rfl gv1 ⟨rfl,rfl,trivial⟩ (fun g9_3 => zF rfl agg46 rfl (zE 1 rfl) rfl) rfl<|rLz [(26,_),(28,_)] rfl gv1 ⟨rfl,rfl,rfl,rfl,trivial⟩ (fun g9_3 => zQ rfl ok264 (value_Valid e.Ty e.Val) ⟨VLe.refl _,rfl,VLe.refl _,rfl,trivial⟩) rfl<|rLz [(29,_)] rfl gv1 ⟨rfl,rfl,trivial⟩ (fun g9_3 => yA rfl rfl) rfl<|zA rfl rfl (qP rfl rfl rfl (fun h => h) rfl)<|rMv rfl<|zB<|zG rfl (fun c5 => ?_) (fun c5 => ?_)
     ·have h5 := node5 c4 c5
      refine sReg rfl<|zS rfl rfl (zO rfl sz29 rfl rfl rfl (qE 0 rfl rfl))<|zB<|zH<|fin1 (kM zJj rfl (zE 0 rfl) rfl) ?_
      rw [nodeErr,c1,c2,c3,c4,formOk,h5]; rfl
     ·have h5 := node5 c4 c5
      refine zK<|zJ<|sReg rfl<|zA rfl rfl (zF rfl yY rfl (zE 1 rfl) rfl)<|zA rfl rfl (zQ rfl ok131 (expr_forms _) ⟨VLe.refl _,rfl,trivial⟩)<|zB<|zU<|zX _ (Weak.mem [true,false] rfl)<|zEw (ps := [34]) hz 1 rfl rfl ok169 (forms_iter e he) (fun _ _ => rfl) rfl (fun pre => pre.all linOk = true) (fun pre => [E.row b2 29 [cI 0]]) (fun c pre => (c = .ret ∧ pre.all linOk = false)) (fun c pre => [E.row b2 29 [cI 1]]) ⟨rfl,rfl⟩ ?_ ?_ ?_ ?_
      ·intro pre x suf hxs hi z hz
       refine zR rfl<|zY rfl rfl (qH [none,some 2] rfl zr49 rfl) ?_
       rintro _ _ ⟨b3,rfl,rfl⟩
       refine zS rfl rfl (zO rfl sz49 rfl rfl rfl (qE 0 rfl rfl))<|zB ?_
       intro z hz
       refine zU<|sReg rfl<|zA rfl rfl (zF rfl yI rfl (zE 0 rfl) rfl)<|zA rfl rfl (zQ rfl ok140 (zBd x (forms_wt he (by rw [hxs]; simp))) ⟨VLe.refl _,rfl,trivial⟩)<|zA rfl rfl (qS rfl rfl rfl)<|zB<|zG rfl (fun c6 => ?_) (fun c6 => ?_)
       ·try simp only [sx] at c6
        refine sReg rfl<|zS rfl rfl (zO rfl sz29 rfl rfl rfl (qE 1 rfl rfl))<|zB<|zH ?_
        exact zAl (τ := ⟨[],_⟩) (Weak.mk [false,true] trivial rfl) ⟨⟨rfl,by simp only [List.all_append,List.all_cons,zGg c6,Bool.false_and,Bool.and_false]⟩,rfl⟩
       ·try simp only [sx] at c6
        refine zK ?_
        exact zAl (τ := ⟨[],_⟩) (Weak.mk [false,true] trivial rfl) ⟨by simp only [List.all_append,hi,List.all_cons,List.all_nil,zGh c6,Bool.and_self],rfl⟩
      ·intro hd
       refine sReg rfl<|zS rfl rfl (zO rfl sz29 rfl rfl rfl (qE 0 rfl rfl))<|zB<|zH<|fin1 (kM zJj rfl (zE 0 rfl) rfl) ?_
       rw [nodeErr,c1,c2,c3,c4,formOk,h5,hd]; rfl
      ·rintro pre x suf hxs hx
       rcases hx with ⟨hc,hx⟩
       clear hc
       repeat (first | refine zNw ?_ | refine zLt ?_)
       refine fin1 (kM zJj rfl (zE 0 rfl) rfl) ?_
       rw [nodeErr,c1,c2,c3,c4,formOk,h5,hxs,all_app_no hx]; rfl
      ·rintro i pre x suf hxs hx
       rcases hx with ⟨hc,hx⟩
       cases hc
theorem expr_Size (e : Ex) (he : e.wt ≤ 6000000000000) :
    Pur cfg 221 [vE e] (vI (szT e)):= by
 refine zV Tryz.func221 rfl Tryz.ntmps221 Tryz.results221 rfl ?_
 intro z hz
 refine sReg rfl<|zY rfl rfl (qM rfl rfl) ?_
 rintro _ _ ⟨b1,rfl,rfl⟩
 refine rMv rfl<|zB<|sReg rfl<|zY rfl rfl (yJ rfl zr3) ?_
 rintro _ _ ⟨b2,rfl,rfl⟩
 refine zS rfl rfl (zO rfl sz3 rfl rfl rfl (qE 0 rfl rfl))<|zB<|zJ<|sReg rfl<|zA rfl rfl (zF rfl yY rfl (zE 1 rfl) rfl)<|zA rfl rfl (zQ rfl ok130 (zJw _) ⟨VLe.refl _,rfl,trivial⟩)<|zB<|zU<|zX _ (Weak.mem [true,false] rfl)<|zEw (ps := [6]) hz 1 rfl rfl ok167 (zIt e he) (fun _ _ => rfl) rfl (fun pre => pre.length ≤ 2000) (fun pre => [E.row b2 3 [cI (pre.length : Int)]]) (fun c pre => (c = .exit 0 ∧ pre.length = 2001)) (fun c pre => [E.row b2 3 [cI (pre.length : Int)]]) ⟨by simp,rfl⟩ ?_ ?_ ?_ ?_
 ·intro pre x suf hxs hi z hz
  refine zK ?_
  intro z hz
  refine zU<|sReg rfl<|zA rfl rfl (zD rfl one3 rfl (zE 0 rfl) rfl)<|zA rfl rfl (qC rfl rfl rfl ⟨by omega,by omega⟩)<|zS rfl rfl (zO rfl sz3 rfl rfl rfl (qE 0 rfl rfl))<|zB<|sReg rfl<|zA rfl rfl (zD rfl one3 rfl (zE 0 rfl) rfl)<|zA rfl rfl (yV rfl rfl rfl)<|zB<|zG rfl (fun c1 => ?_) (fun c1 => ?_)
  ·try simp only [sx] at c1
   refine qO ?_
   exact zAl (τ := ⟨[],_⟩) (Weak.mk [true] trivial rfl) ⟨⟨rfl,by simp; omega⟩,(by dsimp only; rw [show ((pre ++ [x]).length : Int) = pre.length + 1 by simp]; rfl)⟩
  ·try simp only [sx] at c1
   refine zK ?_
   exact zAl (τ := ⟨[],_⟩) (Weak.mk [true] trivial rfl) ⟨(by simp; omega),(by dsimp only; rw [show ((pre ++ [x]).length : Int) = pre.length + 1 by simp]; rfl)⟩
 ·intro hd
  refine sReg rfl<|zA rfl rfl (zD rfl one3 rfl (zE 0 rfl) rfl)<|rMv rfl<|zB<|zH<|fin1 (rs_c rfl) ?_
  exact congrArg vI (by rw [szT]; omega)
 ·rintro pre x suf hxs hx
  rcases hx with ⟨hc,hx⟩
  cases hc
 ·rintro i pre x suf hxs hx
  rcases hx with ⟨hc,hx⟩
  injection hc with hc
  subst hc
  refine sReg rfl<|zA rfl rfl (zD rfl one3 rfl (zE 0 rfl) rfl)<|rMv rfl<|zB<|zH<|fin1 (rs_c rfl) ?_
  exact congrArg vI (by rw [szT,hxs]; simp at hx ⊢; omega)
theorem expr_Validate (e : Ex) (he : e.wt ≤ 6000000000000) :
    Pur cfg 192 [vE e] (vI (validE e)):= by
 refine zV Tryz.func192 rfl Tryz.ntmps192 Tryz.results192 rfl ?_
 intro z hz
 refine sReg rfl<|zY rfl rfl (qM rfl rfl) ?_
 rintro _ _ ⟨b1,rfl,rfl⟩
 refine zY rfl rfl (yJ rfl zr29) ?_
 rintro _ _ ⟨b2,rfl,rfl⟩
 refine zB<|zJ<|sReg rfl<|zA rfl rfl (zF rfl yY rfl (zE 1 rfl) rfl)<|zA rfl rfl (zQ rfl ok220 (expr_Depth e he) ⟨VLe.refl _,rfl,trivial⟩)<|zA rfl rfl (yV rfl rfl rfl)<|zB<|zG rfl (fun c1 => ?_) (fun c1 => ?_)
 ·try simp only [sx] at c1
  refine sReg rfl<|zS rfl rfl (zO rfl sz29 rfl rfl rfl (qE 0 rfl rfl))<|zB<|zH<|fin1 (kM zJj rfl (zE 0 rfl) rfl) ?_
  rw [validE,wR c1]; rfl
 ·try simp only [sx] at c1
  refine zK<|zJ<|sReg rfl<|zA rfl rfl (zF rfl yY rfl (zE 1 rfl) rfl)<|zA rfl rfl (zQ rfl ok221 (expr_Size e he) ⟨VLe.refl _,rfl,trivial⟩)<|zA rfl rfl (yV rfl rfl rfl)<|zB<|zG rfl (fun c2 => ?_) (fun c2 => ?_)
  ·try simp only [sx] at c2
   refine sReg rfl<|zS rfl rfl (zO rfl sz29 rfl rfl rfl (qE 0 rfl rfl))<|zB<|zH<|fin1 (kM zJj rfl (zE 0 rfl) rfl) ?_
   rw [validE,yW (by omega),wR c2]; rfl
  ·try simp only [sx] at c2
   refine zK<|zJ<|sReg rfl<|zA rfl rfl (zF rfl yY rfl (zE 1 rfl) rfl)<|zA rfl rfl (zQ rfl ok130 (zJw _) ⟨VLe.refl _,rfl,trivial⟩)<|zB<|zU<|zX _ (Weak.mem [true,false] rfl)<|zEw (ps := [13]) hz 1 rfl rfl ok167 (zIt e he) (fun _ _ => rfl) rfl (fun pre => errsL pre = 0) (fun pre => [E.row b2 29 [cI 0]]) (fun c pre => (c = .ret ∧ ¬ errsL pre = 0)) (fun c pre => [E.row b2 29 [cI (errsL pre)]]) ⟨rfl,rfl⟩ ?_ ?_ ?_ ?_
   ·intro pre x suf hxs hi z hz
    have hxw : x.wt ≤ 6000000000000:= by have := zEk e x (by rw [hxs]; simp); omega
    refine zR rfl<|zY rfl rfl (qH [none,none,none,none,none,none,none,none,none,none,some 2,some 4,some 13] rfl zr52 rfl) ?_
    rintro _ _ ⟨b3,rfl,rfl⟩
    refine zS rfl rfl (zO rfl sz52 rfl rfl rfl (qE 0 rfl rfl))<|zB ?_
    intro z hz
    refine zU<|sReg rfl<|zA rfl rfl (zF rfl yY rfl (zE 0 rfl) rfl)<|zA rfl rfl (zQ rfl ok222 (expr_validNode x hxw) ⟨VLe.refl _,rfl,trivial⟩)<|rMv rfl<|zB<|sReg rfl<|rMv rfl<|zA rfl rfl (qS rfl rfl rfl)<|zB<|zG rfl (fun c3 => ?_) (fun c3 => ?_)
    ·try simp only [sx] at c3
     refine sReg rfl<|rMv rfl<|zS rfl rfl (zO rfl sz29 rfl rfl rfl (qE 1 rfl rfl))<|zB<|zH ?_
     exact zAl (τ := ⟨[],_⟩) (Weak.mk [false,true] trivial rfl) ⟨⟨rfl,by rw [errs_one hi c3]; exact c3⟩,(by dsimp only; rw [errs_one hi c3]; rfl)⟩
    ·try simp only [sx] at c3
     refine zK ?_
     exact zAl (τ := ⟨[],_⟩) (Weak.mk [false,true] trivial rfl) ⟨(by dsimp only; rw [zDd,hi,errsL,c3]; rfl),rfl⟩
   ·intro hd
    refine sReg rfl<|zS rfl rfl (zO rfl sz29 rfl rfl rfl (qE 0 rfl rfl))<|zB<|zH<|fin1 (kM zJj rfl (zE 0 rfl) rfl) ?_
    rw [validE,yW (by omega),yW (by omega),cond_false,cond_false,partE,hd]
   ·rintro pre x suf hxs hx
    rcases hx with ⟨hc,hx⟩
    clear hc
    repeat (first | refine zNw ?_ | refine zLt ?_)
    refine fin1 (kM zJj rfl (zE 0 rfl) rfl) ?_
    rw [validE,yW (by omega),yW (by omega),cond_false,cond_false,partE,hxs,errs_pre (suf := suf) hx]
   ·rintro i pre x suf hxs hx
    rcases hx with ⟨hc,hx⟩
    cases hc
end Go.W
