/-
  Walks: what functions of the program compute. Printed by wip/gen/mk2.py.
  Conditions: none.
-/
import Derived.Test.YtdbflnlalkfeeaaGreatDoorNC
import Derived.Test.YtdbflnlalkfeeaaGreatDoorPlain2
import Derived.Test.YtdbflnlalkfeeaaGreatDoorEngZ
set_option maxRecDepth 10000
namespace Go.W
open Go Go.Eng Go.Proofs Go.L41 Go.Br
attribute [local irreducible] AWP RWP TD finQ
theorem ok72 : callOk Tryz.prog 72 = true:= by kernel_rfl
theorem ok73 : callOk Tryz.prog 73 = true:= by kernel_rfl
theorem ok74 : callOk Tryz.prog 74 = true:= by kernel_rfl
theorem ok76 : callOk Tryz.prog 76 = true:= by kernel_rfl
theorem zr33 : zeroT Tryz.prog 33 = some [(Value.slice none 0 0)]:= by kernel_rfl
theorem visit_step (y : C) (J Jx : List (St × List Int) → List E → Prop) (M : Nat) (hy : ∀ (pre : List (St × List Int)) (x : St × List Int) (μ : List E),x.2 ≠ [] → x.1.wt ≤ 536870912 → pre.length + 1 ≤ M → J pre μ → FnCon cfg y [vSt x.1,vIs x.2] μ fun r μ' => ∃ b,r = .c (.lit (.bool b)) ∧ (b = true → J (pre ++ [x]) μ') ∧ (b = false → Jx (pre ++ [x]) μ')) (l : List St) (hl : stsWt l ≤ 536870912) (ih : ∀ s,s ∈ l → ∀ (way : List Int) (pre0 : List (St × List Int)) (μ : List E),way.length + stsN s.Body ≤ 1073741824 → pre0.length + stsN s.Body ≤ M → J pre0 μ → Con cfg 72 [vSts s.Body,vIs way,.c y] μ fun r μ' => ∃ b,r = .c (.lit (.bool b)) ∧ (b = true → J (pre0 ++ preL way 0 s.Body) μ') ∧ (b = false → ∃ pre x suf,preL way 0 s.Body = pre ++ x :: suf ∧ Jx (pre0 ++ pre ++ [x]) μ')) (way : List Int) (hw : way.length + stsN l ≤ 1073741824) (pre0 : List (St × List Int)) (hM : pre0.length + stsN l ≤ M) (μ : List E) (h0 : J pre0 μ) :
    Con cfg 72 [vSts l,vIs way,.c y] μ fun r μ' => ∃ b,r = .c (.lit (.bool b)) ∧ (b = true → J (pre0 ++ preL way 0 l) μ') ∧ (b = false → ∃ pre x suf,preL way 0 l = pre ++ x :: suf ∧ Jx (pre0 ++ pre ++ [x]) μ'):= by
 refine zV Tryz.func72 rfl Tryz.ntmps72 Tryz.results72 rfl ?_
 intro z hz
 have hll := wD l
 have hlN := zAs l
 refine sReg rfl<|rMv rfl<|zB<|zJ<|sReg rfl<|rMv rfl<|zA rfl rfl (zT rfl el23 rfl)<|rMv rfl<|zB<|zU<|zX ⟨[(11,.c _),(0,.c _),(1,.c _),(2,.c _),(10,.c _)],_⟩ (Weak.regs ⟨VLe.of_eq rfl,VLe.of_eq rfl,VLe.of_eq rfl,VLe.of_eq rfl,VLe.of_eq rfl,trivial⟩)<|zBu 1 rfl (Nat × List E) (fun ⟨k,m⟩ => [(11,vI k)]) (fun ⟨k,m⟩ => m) (fun ⟨k,m⟩ => k ≤ l.length ∧ (J (pre0 ++ preL way 0 (l.take k)) m)) (fun ⟨k,m⟩ => l.length - k) ⟨⟨0,μ⟩,⟨by omega,by simpa [preL] using h0⟩,Weak.regs ⟨VLe.refl _,VLe.refl _,VLe.refl _,VLe.refl _,VLe.refl _,trivial⟩⟩ ?_
 rintro ⟨k,m⟩ ⟨hk,hJ⟩
 refine sReg rfl<|zA rfl rfl (qL rfl rfl rfl)<|zB<|zJ<|zG rfl (fun c1 => ?_) (fun c1 => ?_)
 ·try simp only [sx] at c1
  obtain ⟨s,hs⟩ := qZ l k (by omega)
  have hsN := stsN_mem (qB hs)
  have hse := zJb s
  have hst := stsN_take hs
  refine zK<|zJ<|zU<|sReg rfl<|rMv rfl<|rMv rfl<|zB<|sReg rfl<|rMv rfl<|zY rfl rfl (wX rfl ok125 (zFa way (by omega)) ⟨VLe.refl _,rfl,trivial⟩) ?_
  rintro _ _ ⟨sv1,rfl,rfl⟩
  refine rMv rfl<|zA rfl rfl (qV rfl el33 zr3 rfl rfl rfl rfl)<|zY rfl rfl (yB 0 rfl el33 rfl rfl rfl (by simp only [List.length_map,List.length_append,List.length_cons,List.length_nil,List.length_take,List.length_drop]; omega) (by simp only [List.length_map,List.length_append,List.length_cons,List.length_nil,List.length_take,List.length_drop]; omega)) ?_
  rintro _ _ ⟨sv2,rfl,rfl⟩
  refine rMv rfl<|zB<|zJ<|zX _ (Weak.vecEq 0 rfl (rows' := (way ++ [(k : Int)]).map fun n => [cI n]) (by first | rfl | simp | rw [List.take_of_length_le (by simp)]))<|zX _ (qX 0 rfl (regs' := [(18,_),(8,_)]) (μ' := _) ⟨FLe.sl,FLe.sl,trivial⟩ (efles_refl _))<|zR rfl<|rMv rfl<|rMv rfl<|rMv rfl<|zA rfl rfl (zP rfl el23 rfl rfl (by omega) (zBk hs))<|zA rfl rfl (zF rfl zGu rfl qA rfl)<|rMv rfl<|zY rfl rfl (kU rfl rfl (hy _ (s,(way ++ [(k : Int)])) _ (by simp) (by have := kA (qB hs); show s.wt ≤ _; omega) (by rw [List.length_append,zJi]; omega) hJ) ⟨VLe.refl _,rfl,VLe.refl _,rfl,trivial⟩) ?_
  rintro _ m1 ⟨y1,rfl,t1,f1⟩
  refine zA rfl rfl (yA rfl rfl)<|rMv rfl<|rwp_split 27 rfl (fun h1 => ?_) (fun h1 => ?_)
  ·have hy1 : y1 = false:= by simpa using h1
   subst hy1
   refine zJf rfl rfl rfl rfl gv1 (by simp [Lz,h1])<|zJf rfl rfl rfl rfl gv1 (by simp [Lz,h1])<|zJf rfl rfl rfl rfl gv1 (by simp [Lz,h1])<|zJf rfl rfl rfl rfl gv1 (by simp [Lz,h1])<|zJf rfl rfl rfl rfl gv1 (by simp [Lz,h1])<|zJf rfl rfl rfl rfl gv1 (by simp [Lz,h1])<|zJf rfl rfl rfl rfl gv1 (by simp [Lz,h1])<|zJf rfl rfl rfl rfl gv1 (by simp [Lz,h1])<|zJf rfl rfl rfl rfl gv1 (by simp [Lz,h1])<|zA rfl rfl (det_pick rfl rfl)<|zB<|zG rfl (fun c2 => ?_) (fun c2 => ?_)
   ·refine sReg rfl<|rMv rfl<|zB<|zH<|fin1 (rs_c rfl) ?_
    exact ⟨false,rfl,fun h => (by cases h),fun _ => ⟨_,(s,(way ++ [(k : Int)])),_,pre_at1 hs,by simpa using f1 rfl⟩⟩
   ·exact absurd c2 (by decide)
  ·have hy1 : y1 = true:= by simpa using h1
   subst hy1
   refine wW rfl rfl rfl rfl gv1 (by simp [Lz,h1]) (zN rfl rfl)<|wW rfl rfl rfl rfl gv1 (by simp [Lz,h1]) (zN rfl rfl)<|wW rfl rfl rfl rfl gv1 (by simp [Lz,h1]) (zP rfl el23 rfl rfl (by omega) (zBk hs))<|wW rfl rfl rfl rfl gv1 (by simp [Lz,h1]) (zZ rfl zAa rfl)<|wW rfl rfl rfl rfl gv1 (by simp [Lz,h1]) (zD rfl zCh rfl qA rfl)<|wW rfl rfl rfl rfl gv1 (by simp [Lz,h1]) (zN rfl rfl)<|wW rfl rfl rfl rfl gv1 (by simp [Lz,h1]) (zN rfl rfl)<|rwp_yes rfl rfl rfl rfl gv1 (by simp [Lz,h1]) (wV rfl ok72 (ih s (qB hs) (way ++ [(k : Int)]) _ _ (by simp; omega) (by rw [List.length_append,List.length_append,zJi,List.length_singleton]; omega) (t1 rfl)) ⟨VLe.refl _,rfl,VLe.refl _,rfl,VLe.refl _,rfl,trivial⟩) ?_
   rintro _ m2 ⟨y2,rfl,t2,f2⟩
   refine wW rfl rfl rfl rfl gv1 (by simp [Lz,h1]) (yA rfl rfl)<|zA rfl rfl (det_pick rfl rfl)<|zB<|zG rfl (fun c2 => ?_) (fun c2 => ?_)
   ·have hy2 : y2 = false:= by cases y2; rfl; exact absurd c2 (by decide)
    subst hy2
    refine sReg rfl<|rMv rfl<|zB<|zH<|fin1 (rs_c rfl) ?_
    obtain ⟨pre,x,suf,h1,h2⟩ := f2 rfl
    exact ⟨false,rfl,fun h => (by cases h),fun _ => ⟨_,x,_,pre_at2 hs h1,by simpa using h2⟩⟩
   ·have hy2 : y2 = true:= by cases y2; exact absurd c2 (by decide); rfl
    subst hy2
    refine zK<|zR rfl<|zA rfl rfl (qC rfl rfl rfl ⟨by omega,by omega⟩)<|rMv rfl<|zB ?_
    refine ⟨⟨k + 1,m2⟩,⟨by omega,by rw [preL_next hs,preS_eq,← List.append_assoc]; have := t2 rfl; simpa using this⟩,(by show l.length - (k + 1) < l.length - k; omega),Weak.regs ⟨VLe.refl _,VLe.refl _,VLe.refl _,VLe.refl _,VLe.refl _,trivial⟩⟩
 ·try simp only [sx] at c1
  refine qO<|sReg rfl<|rMv rfl<|zB<|zH<|fin1 (rs_c rfl) ?_
  rw [yN (by omega)] at hJ
  exact ⟨true,rfl,fun _ => hJ,fun h => (by cases h)⟩
theorem visit_body (y : C) (J Jx : List (St × List Int) → List E → Prop) (M : Nat) (hy : ∀ (pre : List (St × List Int)) (x : St × List Int) (μ : List E),x.2 ≠ [] → x.1.wt ≤ 536870912 → pre.length + 1 ≤ M → J pre μ → FnCon cfg y [vSt x.1,vIs x.2] μ fun r μ' => ∃ b,r = .c (.lit (.bool b)) ∧ (b = true → J (pre ++ [x]) μ') ∧ (b = false → Jx (pre ++ [x]) μ')) (s : St) (hl : stsWt s.Body ≤ 536870912) : ∀ (way : List Int) (pre0 : List (St × List Int)) (μ : List E),way.length + stsN s.Body ≤ 1073741824 → pre0.length + stsN s.Body ≤ M → J pre0 μ → Con cfg 72 [vSts s.Body,vIs way,.c y] μ fun r μ' => ∃ b,r = .c (.lit (.bool b)) ∧ (b = true → J (pre0 ++ preL way 0 s.Body) μ') ∧ (b = false → ∃ pre x suf,preL way 0 s.Body = pre ++ x :: suf ∧ Jx (pre0 ++ pre ++ [x]) μ'):= by
  induction s using St.ind with
  | _ s ih => exact fun way pre0 μ hw hM h0 => visit_step y J Jx M hy s.Body hl (fun a ha => ih a ha (by have := kA ha; have := St.body_wt a; omega)) way hw pre0 hM μ h0
theorem zNu (y : C) (J Jx : List (St × List Int) → List E → Prop) (M : Nat) (hy : ∀ (pre : List (St × List Int)) (x : St × List Int) (μ : List E),x.2 ≠ [] → x.1.wt ≤ 536870912 → pre.length + 1 ≤ M → J pre μ → FnCon cfg y [vSt x.1,vIs x.2] μ fun r μ' => ∃ b,r = .c (.lit (.bool b)) ∧ (b = true → J (pre ++ [x]) μ') ∧ (b = false → Jx (pre ++ [x]) μ')) (l : List St) (hl : stsWt l ≤ 536870912) (way : List Int) (hw : way.length + stsN l ≤ 1073741824) (pre0 : List (St × List Int)) (hM : pre0.length + stsN l ≤ M) (μ : List E) (h0 : J pre0 μ) : Con cfg 72 [vSts l,vIs way,.c y] μ fun r μ' => ∃ b,r = .c (.lit (.bool b)) ∧ (b = true → J (pre0 ++ preL way 0 l) μ') ∧ (b = false → ∃ pre x suf,preL way 0 l = pre ++ x :: suf ∧ Jx (pre0 ++ pre ++ [x]) μ') :=
  visit_step y J Jx M hy l hl (fun s hs => visit_body y J Jx M hy s (by have := kA hs; have := St.body_wt s; omega)) way hw pre0 hM μ h0
theorem loopnest_trail (l : List St) (way : List Int) (hw : way.length ≤ 1073741824) :
    Pur cfg 76 [vSts l,vIs way] (vSts (trailT l way)):= by
 refine zV Tryz.func76 rfl Tryz.ntmps76 Tryz.results76 rfl ?_
 intro z hz
 refine sReg rfl<|zA rfl rfl (qW 20 rfl rfl)<|zB<|sReg rfl<|rMv rfl<|qY _ (yR 54 20)<|zB<|zJ<|sReg rfl<|rMv rfl<|zA rfl rfl (zT rfl el33 rfl)<|rMv rfl<|zB<|zU<|zX ⟨[(10,.c _),(0,.c _),(5,.c _),(8,.c _),(9,.c _)],[_]⟩ (Weak.mk [true] ⟨VLe.of_eq rfl,VLe.of_eq rfl,VLe.of_eq rfl,VLe.of_eq rfl,VLe.of_eq rfl,trivial⟩ rfl)<|qI 3 1 rfl rfl (Nat × Value × List St × List St) (fun ⟨k,sv,lc,out⟩ => [(10,vI k),(0,vSts lc),(5,.c (.lit sv))]) (fun ⟨k,sv,lc,out⟩ => [E.vec sv 54 20 (out.map St.cells)]) (fun ⟨k,sv,lc,out⟩ => k ≤ way.length ∧ (out.length = k) ∧ (trailT l way = trl (way.drop k) lc out)) (fun ⟨k,sv,lc,out⟩ => way.length - k) ⟨⟨0,(.slice none 0 0),l,[]⟩,⟨by omega,rfl,rfl⟩,Weak.mk [true] ⟨VLe.refl _,VLe.refl _,VLe.refl _,VLe.refl _,VLe.refl _,trivial⟩ rfl⟩ ?_
 rintro ⟨k,sv,lc,out⟩ ⟨hk,ho,hp⟩
 show AWP _ _ _ _ _ ⟨[(10,vI k),(0,vSts lc),(5,.c (.lit sv))] ++ _,[E.vec sv 54 20 (out.map St.cells)] ++ _⟩
 refine sReg rfl<|zA rfl rfl (qL rfl rfl rfl)<|zB<|zJ<|zG rfl (fun c1 => ?_) (fun c1 => ?_)
 ·try simp only [sx] at c1
  obtain ⟨i,hi⟩ := qZ way k (by omega)
  refine zK<|zJ<|zU<|sReg rfl<|zA rfl rfl (zP rfl el33 rfl rfl (by omega) (getm (by assumption)))<|zA rfl rfl (zD rfl one3 rfl qA rfl)<|rMv rfl<|zB<|zJ<|sReg rfl<|rMv rfl<|zA rfl rfl (qL rfl rfl rfl)<|rMv rfl<|rLz [] rfl gv1 trivial (fun g5_2 => zN rfl rfl) rfl<|rLz [] rfl gv1 trivial (fun g5_2 => zN rfl rfl) rfl<|rLz [(18,_)] rfl gv1 ⟨rfl,rfl,trivial⟩ (fun g5_2 => zT rfl el23 rfl) rfl<|rLz [(17,_),(19,_)] rfl gv1 ⟨rfl,rfl,rfl,rfl,trivial⟩ (fun g5_2 => kZ rfl rfl rfl) rfl<|zA rfl rfl (yP rfl rfl rfl rfl (fun h => (lzf h)))<|zB<|zG rfl (fun c2 => ?_) (fun c2 => ?_)
  ·try simp only [sx] at c2
   refine sReg rfl<|zA rfl rfl (qW 20 rfl rfl)<|zB<|zH<|fin1 (rs_c rfl) ?_
   rw [show trailT l way = [] from trl_no hi hp (by omega)]; rfl
  ·try simp only [sx] at c2
   have hs := stD_get (l := lc) (i := i) (by omega)
   refine zK<|sReg rfl<|rMv rfl<|rMv rfl<|rMv rfl<|zA rfl rfl (zP rfl el23 rfl rfl (by omega) (zBk hs))<|zA rfl rfl (zF rfl zGu rfl qA rfl)<|zA rfl rfl (qV rfl el23 zr54 rfl rfl rfl rfl)<|zY rfl rfl (yB 0 rfl el23 rfl rfl rfl (by simp only [List.length_map,List.length_append,List.length_cons,List.length_nil,List.length_take,List.length_drop]; omega) (by simp only [List.length_map,List.length_append,List.length_cons,List.length_nil,List.length_take,List.length_drop]; omega)) ?_
   rintro _ _ ⟨sv2,rfl,rfl⟩
   refine rMv rfl<|zB<|zR rfl<|rMv rfl<|rMv rfl<|zA rfl rfl (zP rfl el23 rfl rfl (by omega) (zBk hs))<|zA rfl rfl (zZ rfl zAa rfl)<|zA rfl rfl (zD rfl zCh rfl qA rfl)<|rMv rfl<|zB<|zR rfl<|zA rfl rfl (qC rfl rfl rfl ⟨by omega,by omega⟩)<|rMv rfl<|zB ?_
   refine ⟨⟨k + 1,sv2,(lc.getD i.toNat zSt).Body,out ++ [lc.getD i.toNat zSt]⟩,⟨by omega,by simp; omega,trl_next hi hp (by omega)⟩,(by show way.length - (k + 1) < way.length - k; omega),Weak.mk [true] ⟨VLe.refl _,VLe.refl _,VLe.refl _,VLe.refl _,VLe.refl _,trivial⟩ (by exact zEm (by rw [List.map_append,List.map_singleton,St.cells_eq]; rfl))⟩
 ·try simp only [sx] at c1
  refine qO<|zJ<|zX _ (qX 0 rfl (regs' := [(5,_)]) (μ' := []) ⟨FLe.sl,trivial⟩ trivial)<|zR rfl<|rMv rfl<|rMv rfl<|zB<|zH<|fin1 (rs_c rfl) ?_
  rw [show trailT l way = out from trl_end hp (by omega)]
theorem zPh (bb : Nat) (n : Int) (s : St) (w : List Int) (h1 : 0 ≤ n) (h2 : n ≤ 1099511627776) :
    Con cfg 73 [vSt s,vIs w,.c (.lit (.pointer (some ⟨bb,0,none⟩)))] [E.row bb 3 [cI n]] fun r μ' => r = vB true ∧ μ' = [E.row bb 3 [cI (n + 1)]]:= by
 refine Con.drop<|zV Tryz.func73 rfl Tryz.ntmps73 Tryz.results73 rfl ?_
 intro z hz
 refine sReg rfl<|zY rfl rfl (qM rfl rfl) ?_
 rintro _ _ ⟨b1,rfl,rfl⟩
 refine rMv rfl<|zB<|sReg rfl<|zA rfl rfl (zD rfl one3 rfl (zE 1 rfl) rfl)<|zA rfl rfl (qC rfl rfl rfl ⟨by omega,by omega⟩)<|zS rfl rfl (zO rfl sz3 rfl rfl rfl (qE 1 rfl rfl))<|zB<|sReg rfl<|rMv rfl<|zB<|zH<|fin1 (rs_c rfl) ?_
 exact ⟨rfl,[_],rfl⟩
theorem visit_size (bb : Nat) (l : List St) (hl : stsWt l ≤ 536870912) : Con cfg 72 [vSts l,vIs [],.c (.fn (.func 73) [] [.lit (.pointer (some ⟨bb,0,none⟩))])] [E.row bb 3 [cI 0]] fun r μ' => r = vB true ∧ μ' = [E.row bb 3 [cI (stsN l)]]:= by
  have hN := zKu l
  refine (zNu (.fn (.func 73) [] [.lit (.pointer (some ⟨bb,0,none⟩))]) (fun pre μ => μ = [E.row bb 3 [cI pre.length]]) (fun _ _ => False) (stsN l) (fun pre x μ hx hxw hM hJ => ?_) l hl [] (by simp; omega) [] (by simp) _ rfl).mono ?_
  · subst hJ
    refine (FnCon.of_con (first := []) (cap := [.lit (.pointer (some ⟨bb,0,none⟩))]) ok73 (zPh bb pre.length x.1 x.2 (by omega) (by omega))).mono ?_
    rintro r μ' ⟨rfl,rfl⟩
    exact ⟨true,rfl,fun _ => by simp,fun h => by cases h⟩
  · rintro r μ' ⟨b,rfl,h1,h2⟩
    cases b with
    | true => exact ⟨rfl,by rw [h1 rfl]; simp [zJi]⟩
    | false => obtain ⟨_,_,_,_,h⟩ := h2 rfl; exact h.elim
theorem loopnest_Size (n : Ns) (hl : stsWt n.Body ≤ 536870912) :
    Pur cfg 24 [vNs n] (vI (stsN n.Body)):= by
 refine zV Tryz.func24 rfl Tryz.ntmps24 Tryz.results24 rfl ?_
 intro z hz
 refine sReg rfl<|zY rfl rfl (qM rfl rfl) ?_
 rintro _ _ ⟨b1,rfl,rfl⟩
 refine rMv rfl<|zB<|sReg rfl<|zY rfl rfl (yJ rfl zr3) ?_
 rintro _ _ ⟨b2,rfl,rfl⟩
 refine zS rfl rfl (zO rfl sz3 rfl rfl rfl (qE 0 rfl rfl))<|zB<|sReg rfl<|zA rfl rfl (zC rfl zMb rfl)<|zA rfl rfl (zD rfl zCh rfl (zE 1 rfl) rfl)<|zA rfl rfl (zAg rfl rfl rfl rfl rfl)<|zY rfl rfl (zCf 0 rfl rfl ok72 (visit_size _ n.Body hl) ⟨VLe.refl _,rfl,VLe.nil,rfl,VLe.refl _,rfl,trivial⟩) ?_
 rintro _ _ ⟨rfl,rfl⟩
 refine zB<|sReg rfl<|zA rfl rfl (zD rfl one3 rfl (zE 0 rfl) rfl)<|rMv rfl<|zB<|zH<|fin1 (rs_c rfl) ?_
 exact rfl
theorem zPj (bb : Nat) (t : ByteArray) (s : St) (w : List Int) (hw : w ≠ []) :
    Con cfg 74 [vSt s,vIs w,.c (.iptr [cS t]),.c (.lit (.pointer (some ⟨bb,0,none⟩)))] [E.row bb 33 [fndC none]] fun r μ' => r = vB (!isLoop t s) ∧ μ' = [E.row bb 33 [fndC (if isLoop t s = true then some w else none)]]:= by
 refine Con.drop<|zV Tryz.func74 rfl Tryz.ntmps74 Tryz.results74 rfl ?_
 intro z hz
 refine sReg rfl<|zY rfl rfl (qM rfl rfl) ?_
 rintro _ _ ⟨b1,rfl,rfl⟩
 refine rMv rfl<|zB<|zJ<|sReg rfl<|zA rfl rfl (zC rfl zCx rfl)<|zA rfl rfl (zD rfl one3 rfl (zE 0 rfl) rfl)<|zA rfl rfl (qJ rfl rfl rfl)<|rMv rfl<|rLz [] rfl gv1 trivial (fun g1_3 => zC rfl zBp rfl) rfl<|rLz [(11,_)] rfl gv1 ⟨rfl,rfl,trivial⟩ (fun g1_3 => zD rfl one9 rfl (zE 0 rfl) rfl) rfl<|rLz [] rfl gv1 trivial (fun g1_3 => zD rfl one9 rfl qA rfl) rfl<|rLz [(12,_),(13,_)] rfl gv1 ⟨rfl,rfl,rfl,rfl,trivial⟩ (fun g1_3 => yL rfl rfl rfl) rfl<|zA rfl rfl (qP rfl rfl rfl (fun h => h) rfl)<|zB<|zG rfl (fun c1 => ?_) (fun c1 => ?_)
 ·refine zR rfl<|rMv rfl<|zS rfl rfl (zO rfl sz33 rfl rfl rfl (qE 1 rfl rfl))<|zB<|sReg rfl<|zA rfl rfl (zD rfl zIh rfl (zE 1 rfl) rfl)<|zA rfl rfl (zQb (q := (some w)) rfl el33 rfl rfl (by intro u h; cases h; exact hw))<|rMv rfl<|zB<|zH<|fin1 (rs_c rfl) ?_
  have hc : isLoop t s = true := c1
  exact ⟨by rw [hc]; rfl,[_],by rw [if_pos hc]; rfl⟩
 ·refine zK<|sReg rfl<|zA rfl rfl (zD rfl zIh rfl (zE 1 rfl) rfl)<|zA rfl rfl (zQb (q := none) rfl el33 rfl rfl (by intro u h; cases h))<|rMv rfl<|zB<|zH<|fin1 (rs_c rfl) ?_
  have hc : isLoop t s = false := c1
  exact ⟨by rw [hc]; rfl,[_],by rw [if_neg (by rw [hc]; simp)]; rfl⟩
theorem visit_find (bb : Nat) (t : ByteArray) (l : List St) (hl : stsWt l ≤ 536870912) : Con cfg 72 [vSts l,vIs [],.c (.fn (.func 74) [] [.iptr [cS t],.lit (.pointer (some ⟨bb,0,none⟩))])] [E.row bb 33 [fndC none]] fun r μ' => r = vB (findN l t).isNone ∧ μ' = [E.row bb 33 [fndC (findN l t)]]:= by
  have hN := zKu l
  refine (zNu (.fn (.func 74) [] [.iptr [cS t],.lit (.pointer (some ⟨bb,0,none⟩))]) (fun pre μ => pre.any (hitN t) = false ∧ μ = [E.row bb 33 [fndC none]]) (fun pre μ => ∃ p x,pre = p ++ [x] ∧ p.any (hitN t) = false ∧ hitN t x = true ∧ μ = [E.row bb 33 [fndC (some x.2)]]) (stsN l) (fun pre x μ hx hxw hM hJ => ?_) l hl [] (by simp; omega) [] (by simp) _ ⟨rfl,rfl⟩).mono ?_
  · obtain ⟨h1,rfl⟩ := hJ
    refine (FnCon.of_con (first := []) (cap := [.iptr [cS t],.lit (.pointer (some ⟨bb,0,none⟩))]) ok74 (zPj bb t x.1 x.2 hx)).mono ?_
    rintro r μ' ⟨rfl,rfl⟩
    refine ⟨!isLoop t x.1,rfl,fun h => ?_,fun h => ?_⟩
    · have hc : isLoop t x.1 = false:= by simpa using h
      exact ⟨any_one h1 hc,by rw [hc]; rfl⟩
    · have hc : isLoop t x.1 = true:= by simpa using h
      exact ⟨pre,x,rfl,h1,hc,by rw [hc]; rfl⟩
  · rintro r μ' ⟨b,rfl,h1,h2⟩
    cases b with
    | true =>
      obtain ⟨k1,k2⟩ := h1 rfl
      have e : findN l t = none := findA_none k1
      exact ⟨by rw [e]; rfl,by rw [e]; exact k2⟩
    | false =>
      obtain ⟨pre,x,suf,h3,p,y,h4,h5,h6,h7⟩ := h2 rfl
      have e : findN l t = some y.2:= by
        obtain ⟨e1,e2⟩ := List.append_inj' h4 rfl
        have e3 : x = y:= by simpa using e2
        have e4 : pre = p:= by simpa using e1
        unfold findN
        rw [h3,e3,e4]
        exact findA_some h5 h6
      exact ⟨by rw [e]; rfl,by rw [e]; exact h7⟩
theorem loopnest_Find (n : Ns) (t : ByteArray) (hl : stsWt n.Body ≤ 536870912) :
    Pur cfg 25 [vNs n,vS t] (.tup [vIs ((findN n.Body t).getD []),vB (findN n.Body t).isSome]):= by
 refine zV Tryz.func25 rfl Tryz.ntmps25 Tryz.results25 rfl ?_
 intro z hz
 refine sReg rfl<|zY rfl rfl (qM rfl rfl) ?_
 rintro _ _ ⟨b1,rfl,rfl⟩
 refine zY rfl rfl (qM rfl rfl) ?_
 rintro _ _ ⟨b2,rfl,rfl⟩
 refine qY _ (yF 0 rfl 3 _ PLe.ptr)<|zA rfl rfl (qW 1 rfl rfl)<|rMv rfl<|zB<|sReg rfl<|zY rfl rfl (yJ rfl zr33) ?_
 rintro _ _ ⟨b3,rfl,rfl⟩
 refine zB<|sReg rfl<|zA rfl rfl (zC rfl zMb rfl)<|zA rfl rfl (zD rfl zCh rfl (zE 1 rfl) rfl)<|zA rfl rfl (zAg rfl rfl rfl rfl rfl)<|zY rfl rfl (zCf 0 rfl rfl ok72 (visit_find _ t n.Body hl) ⟨VLe.refl _,rfl,VLe.nil,rfl,VLe.refl _,rfl,trivial⟩) ?_
 rintro _ _ ⟨rfl,rfl⟩
 refine zB<|zJ<|yG 5 mixed (by kernel_rfl) rfl rfl<|zM rfl rfl (zD rfl zIh rfl (zE 0 rfl) rfl)<|zM rfl rfl (zD rfl zIh rfl (zE 0 rfl) rfl)<|zM rfl rfl (det_fnil_ne (q := (findN n.Body t)) rfl el33 rfl rfl (fun u h => findN_ne h))<|zM rfl rfl (yS rfl rfl)<|zM rfl rfl (yS rfl rfl)<|kI<|zB<|zX ⟨[(4,.c _),(5,.c _)],_⟩ (Weak.regs ⟨fndC_le _,VLe.of_eq rfl,trivial⟩)<|zH<|fin2 (rs_c rfl) (rs_c rfl) ?_
 exact rfl
theorem zJr (n : Ns) (way : List Int) (hw : way.length ≤ 1073741824) :
    Pur cfg 31 [vNs n,vIs way] (vBds (enclT n.Body way)):= by
 refine zV Tryz.func31 rfl Tryz.ntmps31 Tryz.results31 rfl ?_
 intro z hz
 have htl := trl_len way n.Body []
 have htl2 : (trailT n.Body way).length ≤ way.length:= by unfold trailT; simpa using htl
 refine sReg rfl<|zY rfl rfl (qM rfl rfl) ?_
 rintro _ _ ⟨b1,rfl,rfl⟩
 refine zA rfl rfl (qW 2 rfl rfl)<|zB<|sReg rfl<|rMv rfl<|qY _ (yR 70 2)<|zB<|sReg rfl<|zA rfl rfl (zC rfl zMb rfl)<|zA rfl rfl (zD rfl zCh rfl (zE 1 rfl) rfl)<|rMv rfl<|zA rfl rfl (zQ rfl ok76 (loopnest_trail n.Body way hw) ⟨VLe.refl _,rfl,VLe.refl _,rfl,trivial⟩)<|rMv rfl<|zB<|zJ<|sReg rfl<|rMv rfl<|zA rfl rfl (zT rfl el23 rfl)<|zA rfl rfl (yD rfl rfl rfl ⟨by omega,by omega⟩)<|zA rfl rfl (det_max rfl rfl rfl)<|rMv rfl<|zB<|zU<|zX ⟨[(16,.c _),(5,.c _),(6,.c _),(15,.c _)],[_]⟩ (Weak.mk [true,false] ⟨VLe.of_eq rfl,VLe.of_eq rfl,VLe.of_eq rfl,VLe.of_eq rfl,trivial⟩ rfl)<|qI 2 1 rfl rfl (Nat × Value) (fun ⟨k,sv⟩ => [(16,vI k),(5,.c (.lit sv))]) (fun ⟨k,sv⟩ => [E.vec sv 70 2 ((((trailT n.Body way).take k).flatMap bdNm).map Bd.cells)]) (fun ⟨k,sv⟩ => (k : Int) ≤ max 0 (((trailT n.Body way).length : Int) - 1)) (fun ⟨k,sv⟩ => (trailT n.Body way).length - k) ⟨⟨0,.slice none 0 0⟩,(by omega),Weak.mk [true] ⟨VLe.refl _,VLe.refl _,VLe.refl _,VLe.refl _,trivial⟩ rfl⟩ ?_
 rintro ⟨k,sv⟩ hk
 show AWP _ _ _ _ _ ⟨[(16,vI k),(5,.c (.lit sv))] ++ _,[E.vec sv 70 2 ((((trailT n.Body way).take k).flatMap bdNm).map Bd.cells)] ++ _⟩
 refine sReg rfl<|zA rfl rfl (qL rfl rfl rfl)<|zB<|zJ<|zG rfl (fun c1 => ?_) (fun c1 => ?_)
 ·try simp only [sx] at c1
  obtain ⟨s,hs⟩ := qZ (trailT n.Body way) k (by omega)
  have hel := enc_len ((trailT n.Body way).take k)
  have hel2 := List.length_take_le k (trailT n.Body way)
  refine zK<|zJ<|zU<|sReg rfl<|rMv rfl<|rMv rfl<|zB<|sReg rfl<|rMv rfl<|rMv rfl<|zA rfl rfl (zP rfl el23 rfl rfl (by omega) (zBk hs))<|zA rfl rfl (zZ rfl zCx rfl)<|zA rfl rfl (zD rfl one3 rfl qA rfl)<|zA rfl rfl (qJ rfl rfl rfl)<|zB<|zG rfl (fun c2 => ?_) (fun c2 => ?_)
  ·try simp only [sx] at c2
   refine yG 13 mixed (by kernel_rfl) rfl rfl<|zM rfl rfl (zN rfl rfl)<|zM rfl rfl (zN rfl rfl)<|zM rfl rfl (zN rfl rfl)<|zM rfl rfl (zP rfl el23 rfl rfl (by omega) (zBk hs))<|zM rfl rfl (zZ rfl zBp rfl)<|zM rfl rfl (zD rfl one9 rfl qA rfl)<|zM rfl rfl (zN rfl rfl)<|zM rfl rfl (zN rfl rfl)<|zM rfl rfl (zP rfl el23 rfl rfl (by omega) (zBk hs))<|zM rfl rfl (zZ rfl fd54_2 rfl)<|zM rfl rfl (zD rfl one3 rfl qA rfl)<|zM rfl rfl (qU rfl zr70 pl70 rfl)<|zM rfl rfl (qV rfl el67 zr70 rfl rfl rfl rfl)<|kI<|zY rfl rfl (yB 0 rfl el67 rfl rfl rfl (by simp only [List.length_map,List.length_append,List.length_cons,List.length_nil,List.length_take,List.length_drop]; omega) (by simp only [List.length_map,List.length_append,List.length_cons,List.length_nil,List.length_take,List.length_drop]; omega)) ?_
   rintro _ _ ⟨sv3,rfl,rfl⟩
   refine rMv rfl<|zB<|zR rfl<|zA rfl rfl (qC rfl rfl rfl ⟨by omega,by omega⟩)<|rMv rfl<|zB ?_
   refine ⟨⟨k + 1,sv3⟩,(by omega),(by show (trailT n.Body way).length - (k + 1) < (trailT n.Body way).length - k; omega),Weak.mk [true] ⟨VLe.refl _,VLe.refl _,VLe.refl _,VLe.refl _,trivial⟩ (by exact zEm (by rw [enc_step hs]; first | (rw [bdNm_yes c2,List.map_append]; rfl) | (rw [bdNm_no c2,List.append_nil])))⟩
  ·try simp only [sx] at c2
   refine zK<|zR rfl<|zA rfl rfl (qC rfl rfl rfl ⟨by omega,by omega⟩)<|rMv rfl<|zB ?_
   refine ⟨⟨k + 1,sv⟩,(by omega),(by show (trailT n.Body way).length - (k + 1) < (trailT n.Body way).length - k; omega),Weak.mk [true] ⟨VLe.refl _,VLe.refl _,VLe.refl _,VLe.refl _,trivial⟩ (by exact zEm (by rw [enc_step hs]; first | (rw [bdNm_yes c2,List.map_append]; rfl) | (rw [bdNm_no c2,List.append_nil])))⟩
 ·try simp only [sx] at c1
  refine qO<|zJ<|zX _ (qX 0 rfl (regs' := [(5,_)]) (μ' := []) ⟨FLe.sl,trivial⟩ trivial)<|zR rfl<|rMv rfl<|rMv rfl<|zB<|zH<|fin1 (rs_c rfl) ?_
  rw [← enc_all (l := n.Body) (way := way) (k := k) (by omega)]
end Go.W
