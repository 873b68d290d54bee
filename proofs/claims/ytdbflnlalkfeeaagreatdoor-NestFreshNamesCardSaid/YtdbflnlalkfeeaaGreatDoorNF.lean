/-
  Walks: what functions of the program compute. Printed by wip/gen/mk2.py.
  Conditions: none.
-/
import Derived.Test.YtdbflnlalkfeeaaGreatDoorNC
import Derived.Test.YtdbflnlalkfeeaaGreatDoorPlain2
import Derived.Test.YtdbflnlalkfeeaaGreatDoorEngZ
set_option maxRecDepth 10000
namespace Go.W
open Go Go.Eng Go.Proofs Go.L41 Go.Br
attribute [local irreducible] AWP RWP TD finQ
theorem ok72 : callOk Tryz.prog 72 = true:= by kernel_rfl
theorem ok73 : callOk Tryz.prog 73 = true:= by kernel_rfl
theorem ok74 : callOk Tryz.prog 74 = true:= by kernel_rfl
theorem ok76 : callOk Tryz.prog 76 = true:= by kernel_rfl
theorem ok79 : callOk Tryz.prog 79 = true:= by kernel_rfl
theorem zr33 : zeroT Tryz.prog 33 = some [(Value.slice none 0 0)]:= by kernel_rfl
theorem visit_step (y : C) (J Jx : List (St × List Int) → List E → Prop) (M : Nat) (hy : ∀ (pre : List (St × List Int)) (x : St × List Int) (μ : List E),x.2 ≠ [] → x.1.wt ≤ 536870912 → pre.length + 1 ≤ M → J pre μ → FnCon cfg y [vSt x.1,vIs x.2] μ fun r μ' => ∃ b,r = .c (.lit (.bool b)) ∧ (b = true → J (pre ++ [x]) μ') ∧ (b = false → Jx (pre ++ [x]) μ')) (l : List St) (hl : stsWt l ≤ 536870912) (ih : ∀ s,s ∈ l → ∀ (way : List Int) (pre0 : List (St × List Int)) (μ : List E),way.length + stsN s.Body ≤ 1073741824 → pre0.length + stsN s.Body ≤ M → J pre0 μ → Con cfg 72 [vSts s.Body,vIs way,.c y] μ fun r μ' => ∃ b,r = .c (.lit (.bool b)) ∧ (b = true → J (pre0 ++ preL way 0 s.Body) μ') ∧ (b = false → ∃ pre x suf,preL way 0 s.Body = pre ++ x :: suf ∧ Jx (pre0 ++ pre ++ [x]) μ')) (way : List Int) (hw : way.length + stsN l ≤ 1073741824) (pre0 : List (St × List Int)) (hM : pre0.length + stsN l ≤ M) (μ : List E) (h0 : J pre0 μ) :
    Con cfg 72 [vSts l,vIs way,.c y] μ fun r μ' => ∃ b,r = .c (.lit (.bool b)) ∧ (b = true → J (pre0 ++ preL way 0 l) μ') ∧ (b = false → ∃ pre x suf,preL way 0 l = pre ++ x :: suf ∧ Jx (pre0 ++ pre ++ [x]) μ'):= by
 refine zV Tryz.func72 rfl Tryz.ntmps72 Tryz.results72 rfl ?_
 intro z hz
 have hll := wA l
 have hlN := zBt l
 refine sReg rfl<|rMv rfl<|zB<|zK<|sReg rfl<|rMv rfl<|zA rfl (zR rfl el23 rfl)<|rMv rfl<|zB<|zS<|zY ⟨[(11,.c _),(0,.c _),(1,.c _),(2,.c _),(10,.c _)],_⟩ (Weak.regs ⟨zE,zE,zE,zE,zE,trivial⟩)<|zBr 1 rfl (Nat × List E) (fun ⟨k,m⟩ => [(11,vI k)]) (fun ⟨k,m⟩ => m) (fun ⟨k,m⟩ => k ≤ l.length ∧ (J (pre0 ++ preL way 0 (l.take k)) m)) (fun ⟨k,m⟩ => l.length - k) ⟨⟨0,μ⟩,⟨by omega,by simpa [preL] using h0⟩,Weak.regs ⟨zE,zE,zE,zE,zE,trivial⟩⟩ ?_
 rintro ⟨k,m⟩ ⟨hk,hJ⟩
 refine sReg rfl<|zA rfl (qM rfl rfl rfl)<|zB<|zK<|zH rfl (fun c1 => ?_) (fun c1 => ?_)
 ·try simp only [sx] at c1
  obtain ⟨s,hs⟩ := qX l k (by omega)
  have hsN := zJm (qE hs)
  have hse := zIc s
  have hst := stsN_take hs
  refine zJ<|zK<|zS<|sReg rfl<|rMv rfl<|rMv rfl<|zB<|sReg rfl<|rMv rfl<|qA rfl rfl (wY rfl ok125 (zFj way (by omega)) ⟨zE,rfl,trivial⟩) ?_
  rintro _ _ ⟨sv1,rfl,rfl⟩
  refine rMv rfl<|zA rfl (qZ rfl el33 zr3 rfl rfl rfl rfl)<|qA rfl rfl (yI 0 rfl el33 rfl rfl rfl (by simp only [List.length_map,List.length_append,List.length_cons,List.length_nil,List.length_take,List.length_drop]; omega) (by simp only [List.length_map,List.length_append,List.length_cons,List.length_nil,List.length_take,List.length_drop]; omega)) ?_
  rintro _ _ ⟨sv2,rfl,rfl⟩
  refine rMv rfl<|zB<|zK<|zY _ (Weak.vecEq 0 rfl (rows' := (way ++ [(k : Int)]).map fun n => [cI n]) (by first | rfl | simp | rw [List.take_of_length_le (by simp)]))<|zY _ (yL 0 rfl (regs' := [(18,_),(8,_)]) (μ' := _) ⟨FLe.sl,FLe.sl,trivial⟩ (efles_refl _))<|zU rfl<|rMv rfl<|rMv rfl<|rMv rfl<|zA rfl (zO rfl el23 rfl rfl (by omega) (wW hs))<|zA rfl (zG rfl zJd rfl qC rfl)<|rMv rfl<|qA rfl rfl (kT rfl rfl (hy _ (s,(way ++ [(k : Int)])) _ (by simp) (by have := yY (qE hs); show s.wt ≤ _; omega) (by rw [List.length_append,zJt]; omega) hJ) ⟨zE,rfl,zE,rfl,trivial⟩) ?_
  rintro _ m1 ⟨y1,rfl,t1,f1⟩
  refine zA rfl (qT rfl rfl)<|rMv rfl<|rwp_split 27 rfl (fun h1 => ?_) (fun h1 => ?_)
  ·have hy1 : y1 = false:= by simpa using h1
   subst hy1
   refine zJr rfl rfl rfl rfl gv1 (by simp [Lz,h1])<|zJr rfl rfl rfl rfl gv1 (by simp [Lz,h1])<|zJr rfl rfl rfl rfl gv1 (by simp [Lz,h1])<|zJr rfl rfl rfl rfl gv1 (by simp [Lz,h1])<|zJr rfl rfl rfl rfl gv1 (by simp [Lz,h1])<|zJr rfl rfl rfl rfl gv1 (by simp [Lz,h1])<|zJr rfl rfl rfl rfl gv1 (by simp [Lz,h1])<|zJr rfl rfl rfl rfl gv1 (by simp [Lz,h1])<|zJr rfl rfl rfl rfl gv1 (by simp [Lz,h1])<|zA rfl (det_pick rfl rfl)<|zB<|zH rfl (fun c2 => ?_) (fun c2 => ?_)
   ·refine sReg rfl<|rMv rfl<|zB<|zI<|zQ rfl ?_
    exact ⟨false,rfl,fun h => (by cases h),fun _ => ⟨_,(s,(way ++ [(k : Int)])),_,pre_at1 hs,by simpa using f1 rfl⟩⟩
   ·exact absurd c2 (by decide)
  ·have hy1 : y1 = true:= by simpa using h1
   subst hy1
   refine wX rfl rfl rfl rfl gv1 (by simp [Lz,h1]) (zN rfl rfl)<|wX rfl rfl rfl rfl gv1 (by simp [Lz,h1]) (zN rfl rfl)<|wX rfl rfl rfl rfl gv1 (by simp [Lz,h1]) (zO rfl el23 rfl rfl (by omega) (wW hs))<|wX rfl rfl rfl rfl gv1 (by simp [Lz,h1]) (zZ rfl zAn rfl)<|wX rfl rfl rfl rfl gv1 (by simp [Lz,h1]) (zD rfl zAa rfl qC rfl)<|wX rfl rfl rfl rfl gv1 (by simp [Lz,h1]) (zN rfl rfl)<|wX rfl rfl rfl rfl gv1 (by simp [Lz,h1]) (zN rfl rfl)<|rwp_yes rfl rfl rfl rfl gv1 (by simp [Lz,h1]) (wT rfl ok72 (ih s (qE hs) (way ++ [(k : Int)]) _ _ (by simp; omega) (by rw [List.length_append,List.length_append,zJt,List.length_singleton]; omega) (t1 rfl)) ⟨zE,rfl,zE,rfl,zE,rfl,trivial⟩) ?_
   rintro _ m2 ⟨y2,rfl,t2,f2⟩
   refine wX rfl rfl rfl rfl gv1 (by simp [Lz,h1]) (qT rfl rfl)<|zA rfl (det_pick rfl rfl)<|zB<|zH rfl (fun c2 => ?_) (fun c2 => ?_)
   ·have hy2 : y2 = false:= by cases y2; rfl; exact absurd c2 (by decide)
    subst hy2
    refine sReg rfl<|rMv rfl<|zB<|zI<|zQ rfl ?_
    obtain ⟨pre,x,suf,h1,h2⟩ := f2 rfl
    exact ⟨false,rfl,fun h => (by cases h),fun _ => ⟨_,x,_,pre_at2 hs h1,by simpa using h2⟩⟩
   ·have hy2 : y2 = true:= by cases y2; exact absurd c2 (by decide); rfl
    subst hy2
    refine zJ<|zU rfl<|zA rfl (qB rfl rfl rfl ⟨by omega,by omega⟩)<|rMv rfl<|zB ?_
    refine ⟨⟨k + 1,m2⟩,⟨by omega,by rw [preL_next hs,preS_eq,← List.append_assoc]; have := t2 rfl; simpa using this⟩,(by show l.length - (k + 1) < l.length - k; omega),Weak.regs ⟨zE,zE,zE,zE,zE,trivial⟩⟩
 ·try simp only [sx] at c1
  refine qN<|sReg rfl<|rMv rfl<|zB<|zI<|zQ rfl ?_
  rw [yO (by omega)] at hJ
  exact ⟨true,rfl,fun _ => hJ,fun h => (by cases h)⟩
theorem visit_body (y : C) (J Jx : List (St × List Int) → List E → Prop) (M : Nat) (hy : ∀ (pre : List (St × List Int)) (x : St × List Int) (μ : List E),x.2 ≠ [] → x.1.wt ≤ 536870912 → pre.length + 1 ≤ M → J pre μ → FnCon cfg y [vSt x.1,vIs x.2] μ fun r μ' => ∃ b,r = .c (.lit (.bool b)) ∧ (b = true → J (pre ++ [x]) μ') ∧ (b = false → Jx (pre ++ [x]) μ')) (s : St) (hl : stsWt s.Body ≤ 536870912) : ∀ (way : List Int) (pre0 : List (St × List Int)) (μ : List E),way.length + stsN s.Body ≤ 1073741824 → pre0.length + stsN s.Body ≤ M → J pre0 μ → Con cfg 72 [vSts s.Body,vIs way,.c y] μ fun r μ' => ∃ b,r = .c (.lit (.bool b)) ∧ (b = true → J (pre0 ++ preL way 0 s.Body) μ') ∧ (b = false → ∃ pre x suf,preL way 0 s.Body = pre ++ x :: suf ∧ Jx (pre0 ++ pre ++ [x]) μ'):= by
  induction s using St.ind with
  | _ s ih => exact fun way pre0 μ hw hM h0 => visit_step y J Jx M hy s.Body hl (fun a ha => ih a ha (by have := yY ha; have := St.body_wt a; omega)) way hw pre0 hM μ h0
theorem zJg (y : C) (J Jx : List (St × List Int) → List E → Prop) (M : Nat) (hy : ∀ (pre : List (St × List Int)) (x : St × List Int) (μ : List E),x.2 ≠ [] → x.1.wt ≤ 536870912 → pre.length + 1 ≤ M → J pre μ → FnCon cfg y [vSt x.1,vIs x.2] μ fun r μ' => ∃ b,r = .c (.lit (.bool b)) ∧ (b = true → J (pre ++ [x]) μ') ∧ (b = false → Jx (pre ++ [x]) μ')) (l : List St) (hl : stsWt l ≤ 536870912) (way : List Int) (hw : way.length + stsN l ≤ 1073741824) (pre0 : List (St × List Int)) (hM : pre0.length + stsN l ≤ M) (μ : List E) (h0 : J pre0 μ) : Con cfg 72 [vSts l,vIs way,.c y] μ fun r μ' => ∃ b,r = .c (.lit (.bool b)) ∧ (b = true → J (pre0 ++ preL way 0 l) μ') ∧ (b = false → ∃ pre x suf,preL way 0 l = pre ++ x :: suf ∧ Jx (pre0 ++ pre ++ [x]) μ') :=
  visit_step y J Jx M hy l hl (fun s hs => visit_body y J Jx M hy s (by have := yY hs; have := St.body_wt s; omega)) way hw pre0 hM μ h0
theorem loopnest_trail (l : List St) (way : List Int) (hw : way.length ≤ 1073741824) :
    Pur cfg 76 [vSts l,vIs way] (vSts (trailT l way)):= by
 refine zV Tryz.func76 rfl Tryz.ntmps76 Tryz.results76 rfl ?_
 intro z hz
 refine sReg rfl<|zA rfl (qY 20 rfl rfl)<|zB<|sReg rfl<|rMv rfl<|yK _ (kI 54 20)<|zB<|zK<|sReg rfl<|rMv rfl<|zA rfl (zR rfl el33 rfl)<|rMv rfl<|zB<|zS<|zY ⟨[(10,.c _),(0,.c _),(5,.c _),(8,.c _),(9,.c _)],[_]⟩ (Weak.mk [true] ⟨zE,zE,zE,zE,zE,trivial⟩ rfl)<|qI 3 1 rfl rfl (Nat × Value × List St × List St) (fun ⟨k,sv,lc,out⟩ => [(10,vI k),(0,vSts lc),(5,.c (.lit sv))]) (fun ⟨k,sv,lc,out⟩ => [E.vec sv 54 20 (out.map St.cells)]) (fun ⟨k,sv,lc,out⟩ => k ≤ way.length ∧ (out.length = k) ∧ (trailT l way = trl (way.drop k) lc out)) (fun ⟨k,sv,lc,out⟩ => way.length - k) ⟨⟨0,(.slice none 0 0),l,[]⟩,⟨by omega,rfl,rfl⟩,Weak.mk [true] ⟨zE,zE,zE,zE,zE,trivial⟩ rfl⟩ ?_
 rintro ⟨k,sv,lc,out⟩ ⟨hk,ho,hp⟩
 show AWP _ _ _ _ _ ⟨[(10,vI k),(0,vSts lc),(5,.c (.lit sv))] ++ _,[E.vec sv 54 20 (out.map St.cells)] ++ _⟩
 refine sReg rfl<|zA rfl (qM rfl rfl rfl)<|zB<|zK<|zH rfl (fun c1 => ?_) (fun c1 => ?_)
 ·try simp only [sx] at c1
  obtain ⟨i,hi⟩ := qX way k (by omega)
  refine zJ<|zK<|zS<|sReg rfl<|zA rfl (zO rfl el33 rfl rfl (by omega) (getm (by assumption)))<|zA rfl (zD rfl one3 rfl qC rfl)<|rMv rfl<|zB<|zK<|sReg rfl<|rMv rfl<|zA rfl (qM rfl rfl rfl)<|rMv rfl<|rLz [] rfl gv1 trivial (fun g5_2 => zN rfl rfl) rfl<|rLz [] rfl gv1 trivial (fun g5_2 => zN rfl rfl) rfl<|rLz [(18,_)] rfl gv1 ⟨rfl,rfl,trivial⟩ (fun g5_2 => zR rfl el23 rfl) rfl<|rLz [(17,_),(19,_)] rfl gv1 ⟨rfl,rfl,rfl,rfl,trivial⟩ (fun g5_2 => kZ rfl rfl rfl) rfl<|zA rfl (yB rfl rfl rfl rfl (fun h => (lzf h)))<|zB<|zH rfl (fun c2 => ?_) (fun c2 => ?_)
  ·try simp only [sx] at c2
   refine sReg rfl<|zA rfl (qY 20 rfl rfl)<|zB<|zI<|zQ rfl ?_
   rw [show trailT l way = [] from trl_no hi hp (by omega)]; rfl
  ·try simp only [sx] at c2
   have hs := stD_get (l := lc) (i := i) (by omega)
   refine zJ<|sReg rfl<|rMv rfl<|rMv rfl<|rMv rfl<|zA rfl (zO rfl el23 rfl rfl (by omega) (wW hs))<|zA rfl (zG rfl zJd rfl qC rfl)<|zA rfl (qZ rfl el23 zr54 rfl rfl rfl rfl)<|qA rfl rfl (yI 0 rfl el23 rfl rfl rfl (by simp only [List.length_map,List.length_append,List.length_cons,List.length_nil,List.length_take,List.length_drop]; omega) (by simp only [List.length_map,List.length_append,List.length_cons,List.length_nil,List.length_take,List.length_drop]; omega)) ?_
   rintro _ _ ⟨sv2,rfl,rfl⟩
   refine rMv rfl<|zB<|zU rfl<|rMv rfl<|rMv rfl<|zA rfl (zO rfl el23 rfl rfl (by omega) (wW hs))<|zA rfl (zZ rfl zAn rfl)<|zA rfl (zD rfl zAa rfl qC rfl)<|rMv rfl<|zB<|zU rfl<|zA rfl (qB rfl rfl rfl ⟨by omega,by omega⟩)<|rMv rfl<|zB ?_
   refine ⟨⟨k + 1,sv2,(lc.getD i.toNat zSt).Body,out ++ [lc.getD i.toNat zSt]⟩,⟨by omega,by simp; omega,trl_next hi hp (by omega)⟩,(by show way.length - (k + 1) < way.length - k; omega),Weak.mk [true] ⟨zE,zE,zE,zE,zE,trivial⟩ (by exact zEs (by rw [List.map_append,List.map_singleton,St.cells_eq]; rfl))⟩
 ·try simp only [sx] at c1
  refine qN<|zK<|zY _ (yL 0 rfl (regs' := [(5,_)]) (μ' := []) ⟨FLe.sl,trivial⟩ trivial)<|zU rfl<|rMv rfl<|rMv rfl<|zB<|zI<|zQ rfl ?_
  rw [show trailT l way = out from trl_end hp (by omega)]
theorem zQo (bb : Nat) (n : Int) (s : St) (w : List Int) (h1 : 0 ≤ n) (h2 : n ≤ 1099511627776) :
    Con cfg 73 [vSt s,vIs w,.c (.lit (.pointer (some ⟨bb,0,none⟩)))] [E.row bb 3 [cI n]] fun r μ' => r = vB true ∧ μ' = [E.row bb 3 [cI (n + 1)]]:= by
 refine Con.drop<|zV Tryz.func73 rfl Tryz.ntmps73 Tryz.results73 rfl ?_
 intro z hz
 refine sReg rfl<|qA rfl rfl (qL rfl rfl) ?_
 rintro _ _ ⟨b1,rfl,rfl⟩
 refine rMv rfl<|zB<|sReg rfl<|zA rfl (zD rfl one3 rfl (zF 1 rfl) rfl)<|zA rfl (qB rfl rfl rfl ⟨by omega,by omega⟩)<|zX rfl rfl (zT rfl sz3 rfl rfl rfl (qH 1 rfl rfl))<|zB<|sReg rfl<|rMv rfl<|zB<|zI<|zQ rfl ?_
 exact ⟨rfl,[_],rfl⟩
theorem visit_size (bb : Nat) (l : List St) (hl : stsWt l ≤ 536870912) : Con cfg 72 [vSts l,vIs [],.c (.fn (.func 73) [] [.lit (.pointer (some ⟨bb,0,none⟩))])] [E.row bb 3 [cI 0]] fun r μ' => r = vB true ∧ μ' = [E.row bb 3 [cI (stsN l)]]:= by
  have hN := zEh l
  refine (zJg (.fn (.func 73) [] [.lit (.pointer (some ⟨bb,0,none⟩))]) (fun pre μ => μ = [E.row bb 3 [cI pre.length]]) (fun _ _ => False) (stsN l) (fun pre x μ hx hxw hM hJ => ?_) l hl [] (by simp; omega) [] (by simp) _ rfl).mono ?_
  · subst hJ
    refine (FnCon.of_con (first := []) (cap := [.lit (.pointer (some ⟨bb,0,none⟩))]) ok73 (zQo bb pre.length x.1 x.2 (by omega) (by omega))).mono ?_
    rintro r μ' ⟨rfl,rfl⟩
    exact ⟨true,rfl,fun _ => by simp,fun h => by cases h⟩
  · rintro r μ' ⟨b,rfl,h1,h2⟩
    cases b with
    | true => exact ⟨rfl,by rw [h1 rfl]; simp [zJt]⟩
    | false => obtain ⟨_,_,_,_,h⟩ := h2 rfl; exact h.elim
theorem loopnest_Size (n : Ns) (hl : stsWt n.Body ≤ 536870912) :
    Pur cfg 24 [vNs n] (vI (stsN n.Body)):= by
 refine zV Tryz.func24 rfl Tryz.ntmps24 Tryz.results24 rfl ?_
 intro z hz
 refine sReg rfl<|qA rfl rfl (qL rfl rfl) ?_
 rintro _ _ ⟨b1,rfl,rfl⟩
 refine rMv rfl<|zB<|sReg rfl<|qA rfl rfl (yJ rfl zr3) ?_
 rintro _ _ ⟨b2,rfl,rfl⟩
 refine zX rfl rfl (zT rfl sz3 rfl rfl rfl (qH 0 rfl rfl))<|zB<|sReg rfl<|zA rfl (zC rfl zCa rfl)<|zA rfl (zD rfl zAa rfl (zF 1 rfl) rfl)<|zA rfl (zAj rfl rfl rfl rfl rfl)<|qA rfl rfl (zBv 0 rfl rfl ok72 (visit_size _ n.Body hl) ⟨zE,rfl,VLe.nil,rfl,zE,rfl,trivial⟩) ?_
 rintro _ _ ⟨rfl,rfl⟩
 refine zB<|sReg rfl<|zA rfl (zD rfl one3 rfl (zF 0 rfl) rfl)<|rMv rfl<|zB<|zI<|zQ rfl ?_
 exact rfl
theorem zQp (bb : Nat) (t : ByteArray) (s : St) (w : List Int) (hw : w ≠ []) :
    Con cfg 74 [vSt s,vIs w,.c (.iptr [cS t]),.c (.lit (.pointer (some ⟨bb,0,none⟩)))] [E.row bb 33 [fndC none]] fun r μ' => r = vB (!isLoop t s) ∧ μ' = [E.row bb 33 [fndC (if isLoop t s = true then some w else none)]]:= by
 refine Con.drop<|zV Tryz.func74 rfl Tryz.ntmps74 Tryz.results74 rfl ?_
 intro z hz
 refine sReg rfl<|qA rfl rfl (qL rfl rfl) ?_
 rintro _ _ ⟨b1,rfl,rfl⟩
 refine rMv rfl<|zB<|zK<|sReg rfl<|zA rfl (zC rfl zAc rfl)<|zA rfl (zD rfl one3 rfl (zF 0 rfl) rfl)<|zA rfl (qF rfl rfl rfl)<|rMv rfl<|rLz [] rfl gv1 trivial (fun g1_3 => zC rfl wQ rfl) rfl<|rLz [(11,_)] rfl gv1 ⟨rfl,rfl,trivial⟩ (fun g1_3 => zD rfl one9 rfl (zF 0 rfl) rfl) rfl<|rLz [] rfl gv1 trivial (fun g1_3 => zD rfl one9 rfl qC rfl) rfl<|rLz [(12,_),(13,_)] rfl gv1 ⟨rfl,rfl,rfl,rfl,trivial⟩ (fun g1_3 => yP rfl rfl rfl) rfl<|zA rfl (qK rfl rfl rfl (fun h => h) rfl)<|zB<|zH rfl (fun c1 => ?_) (fun c1 => ?_)
 ·refine zU rfl<|rMv rfl<|zX rfl rfl (zT rfl sz33 rfl rfl rfl (qH 1 rfl rfl))<|zB<|sReg rfl<|zA rfl (zD rfl zDp rfl (zF 1 rfl) rfl)<|zA rfl (zRl (q := (some w)) rfl el33 rfl rfl (by intro u h; cases h; exact hw))<|rMv rfl<|zB<|zI<|zQ rfl ?_
  have hc : isLoop t s = true := c1
  exact ⟨by rw [hc]; rfl,[_],by rw [if_pos hc]; rfl⟩
 ·refine zJ<|sReg rfl<|zA rfl (zD rfl zDp rfl (zF 1 rfl) rfl)<|zA rfl (zRl (q := none) rfl el33 rfl rfl (by intro u h; cases h))<|rMv rfl<|zB<|zI<|zQ rfl ?_
  have hc : isLoop t s = false := c1
  exact ⟨by rw [hc]; rfl,[_],by rw [if_neg (by rw [hc]; simp)]; rfl⟩
theorem visit_find (bb : Nat) (t : ByteArray) (l : List St) (hl : stsWt l ≤ 536870912) : Con cfg 72 [vSts l,vIs [],.c (.fn (.func 74) [] [.iptr [cS t],.lit (.pointer (some ⟨bb,0,none⟩))])] [E.row bb 33 [fndC none]] fun r μ' => r = vB (findN l t).isNone ∧ μ' = [E.row bb 33 [fndC (findN l t)]]:= by
  have hN := zEh l
  refine (zJg (.fn (.func 74) [] [.iptr [cS t],.lit (.pointer (some ⟨bb,0,none⟩))]) (fun pre μ => pre.any (hitN t) = false ∧ μ = [E.row bb 33 [fndC none]]) (fun pre μ => ∃ p x,pre = p ++ [x] ∧ p.any (hitN t) = false ∧ hitN t x = true ∧ μ = [E.row bb 33 [fndC (some x.2)]]) (stsN l) (fun pre x μ hx hxw hM hJ => ?_) l hl [] (by simp; omega) [] (by simp) _ ⟨rfl,rfl⟩).mono ?_
  · obtain ⟨h1,rfl⟩ := hJ
    refine (FnCon.of_con (first := []) (cap := [.iptr [cS t],.lit (.pointer (some ⟨bb,0,none⟩))]) ok74 (zQp bb t x.1 x.2 hx)).mono ?_
    rintro r μ' ⟨rfl,rfl⟩
    refine ⟨!isLoop t x.1,rfl,fun h => ?_,fun h => ?_⟩
    · have hc : isLoop t x.1 = false:= by simpa using h
      exact ⟨any_one h1 hc,by rw [hc]; rfl⟩
    · have hc : isLoop t x.1 = true:= by simpa using h
      exact ⟨pre,x,rfl,h1,hc,by rw [hc]; rfl⟩
  · rintro r μ' ⟨b,rfl,h1,h2⟩
    cases b with
    | true =>
      obtain ⟨k1,k2⟩ := h1 rfl
      have e : findN l t = none := findA_none k1
      exact ⟨by rw [e]; rfl,by rw [e]; exact k2⟩
    | false =>
      obtain ⟨pre,x,suf,h3,p,y,h4,h5,h6,h7⟩ := h2 rfl
      have e : findN l t = some y.2:= by
        obtain ⟨e1,e2⟩ := List.append_inj' h4 rfl
        have e3 : x = y:= by simpa using e2
        have e4 : pre = p:= by simpa using e1
        unfold findN
        rw [h3,e3,e4]
        exact findA_some h5 h6
      exact ⟨by rw [e]; rfl,by rw [e]; exact h7⟩
theorem zCc (n : Ns) (t : ByteArray) (hl : stsWt n.Body ≤ 536870912) :
    Pur cfg 25 [vNs n,vS t] (.tup [vIs ((findN n.Body t).getD []),vB (findN n.Body t).isSome]):= by
 refine zV Tryz.func25 rfl Tryz.ntmps25 Tryz.results25 rfl ?_
 intro z hz
 refine sReg rfl<|qA rfl rfl (qL rfl rfl) ?_
 rintro _ _ ⟨b1,rfl,rfl⟩
 refine qA rfl rfl (qL rfl rfl) ?_
 rintro _ _ ⟨b2,rfl,rfl⟩
 refine yK _ (yQ 0 rfl 3 _ PLe.ptr)<|zA rfl (qY 1 rfl rfl)<|rMv rfl<|zB<|sReg rfl<|qA rfl rfl (yJ rfl zr33) ?_
 rintro _ _ ⟨b3,rfl,rfl⟩
 refine zB<|sReg rfl<|zA rfl (zC rfl zCa rfl)<|zA rfl (zD rfl zAa rfl (zF 1 rfl) rfl)<|zA rfl (zAj rfl rfl rfl rfl rfl)<|qA rfl rfl (zBv 0 rfl rfl ok72 (visit_find _ t n.Body hl) ⟨zE,rfl,VLe.nil,rfl,zE,rfl,trivial⟩) ?_
 rintro _ _ ⟨rfl,rfl⟩
 refine zB<|zK<|yC 5 mixed (by kernel_rfl) rfl rfl<|zM rfl rfl (zD rfl zDp rfl (zF 0 rfl) rfl)<|zM rfl rfl (zD rfl zDp rfl (zF 0 rfl) rfl)<|zM rfl rfl (det_fnil_ne (q := (findN n.Body t)) rfl el33 rfl rfl (fun u h => findN_ne h))<|zM rfl rfl (yG rfl rfl)<|zM rfl rfl (yG rfl rfl)<|kA<|zB<|zY ⟨[(4,.c _),(5,.c _)],_⟩ (Weak.regs ⟨fndC_le _,zE,trivial⟩)<|zI<|fin2 (rs_c rfl) (rs_c rfl) ?_
 exact rfl
theorem zNg (bb : Nat) (sv : Value) (d : List ByteArray) (s : St) (w : List Int) (hd : d.length ≤ 1099511627776) :
    Con cfg 79 [vSt s,vIs w,.c (.lit (.pointer (some ⟨bb,0,none⟩)))] [E.vec sv 9 1 (strRows d),E.row bb 72 [.lit sv]] fun r μ' => r = vB true ∧ ∃ sv',μ' = [E.vec sv' 9 1 (strRows (d ++ loopNm s)),E.row bb 72 [.lit sv']]:= by
 refine Con.dropG<|zV Tryz.func79 rfl Tryz.ntmps79 Tryz.results79 rfl ?_
 intro z hz
 refine sReg rfl<|qA rfl rfl (qL rfl rfl) ?_
 rintro _ _ ⟨b1,rfl,rfl⟩
 refine rMv rfl<|zB<|zK<|sReg rfl<|zA rfl (zC rfl zAc rfl)<|zA rfl (zD rfl one3 rfl (zF 0 rfl) rfl)<|zA rfl (qF rfl rfl rfl)<|zB<|zH rfl (fun c1 => ?_) (fun c1 => ?_)
 ·try simp only [sx] at c1
  refine zU rfl<|zA rfl (zD rfl zLo rfl (zF 2 rfl) rfl)<|zA rfl (zC rfl wQ rfl)<|zA rfl (zD rfl one9 rfl (zF 0 rfl) rfl)<|zA rfl (qZ rfl el72 zr9 rfl rfl rfl rfl)<|qA rfl rfl (yI 1 rfl el72 rfl rfl rfl (by simp only [List.length_map,List.length_append,List.length_cons,List.length_nil,List.length_take,List.length_drop]; omega) (by simp only [List.length_map,List.length_append,List.length_cons,List.length_nil,List.length_take,List.length_drop]; omega)) ?_
  rintro _ _ ⟨sv2,rfl,rfl⟩
  refine zX rfl rfl (zT rfl sz72 rfl rfl rfl (qH 2 rfl rfl))<|zB<|sReg rfl<|rMv rfl<|zB<|zI<|zQ rfl ?_
  exact ⟨[E.vec _ _ _ _,E.row _ _ _],⟨[_],[],rfl⟩,rfl,sv2,by rw [show loopNm s = [s.Name] from if_pos c1]; simp only [strRows,List.map_append]; rfl⟩
 ·try simp only [sx] at c1
  refine zJ<|sReg rfl<|rMv rfl<|zB<|zI<|zQ rfl ?_
  exact ⟨[E.vec _ _ _ _,E.row _ _ _],⟨[_],[],rfl⟩,rfl,_,by rw [show loopNm s = [] from if_neg c1,List.append_nil]⟩
theorem visit_loops (bb : Nat) (sv : Value) (l : List St) (hl : stsWt l ≤ 536870912) : Con cfg 72 [vSts l,vIs [],.c (.fn (.func 79) [] [.lit (.pointer (some ⟨bb,0,none⟩))])] [E.vec sv 9 1 (strRows []),E.row bb 72 [.lit sv]] fun r μ' => r = vB true ∧ ∃ sv',μ' = [E.vec sv' 9 1 (strRows (loopsL l)),E.row bb 72 [.lit sv']]:= by
  have hN := zEh l
  refine (zJg (.fn (.func 79) [] [.lit (.pointer (some ⟨bb,0,none⟩))]) (fun pre μ => ∃ sv,μ = [E.vec sv 9 1 (strRows (loopsA pre)),E.row bb 72 [.lit sv]]) (fun _ _ => False) (stsN l) (fun pre x μ hx hxw hM hJ => ?_) l hl [] (by simp; omega) [] (by simp) _ ⟨sv,rfl⟩).mono ?_
  · obtain ⟨sv,rfl⟩ := hJ
    have hle := loopsA_le pre
    refine (FnCon.of_con (first := []) (cap := [.lit (.pointer (some ⟨bb,0,none⟩))]) ok79 (zNg bb sv (loopsA pre) x.1 x.2 (by omega))).mono ?_
    rintro r μ' ⟨rfl,sv',rfl⟩
    exact ⟨true,rfl,fun _ => ⟨sv',by rw [loopsA_one]⟩,fun h => by cases h⟩
  · rintro r μ' ⟨b,rfl,h1,h2⟩
    cases b with
    | true =>
      obtain ⟨sv',h⟩ := h1 rfl
      exact ⟨rfl,sv',by rw [h,List.nil_append,loopsA_L]⟩
    | false => obtain ⟨_,_,_,_,h⟩ := h2 rfl; exact h.elim
theorem loopnest_Loops (n : Ns) (hl : stsWt n.Body ≤ 536870912) :
    OwnR cfg 35 [vNs n] 9 1 (strRows (loopsL n.Body)):= by
 refine zV Tryz.func35 rfl Tryz.ntmps35 Tryz.results35 rfl ?_
 intro z hz
 refine sReg rfl<|qA rfl rfl (qL rfl rfl) ?_
 rintro _ _ ⟨b1,rfl,rfl⟩
 refine zA rfl (qY 1 rfl rfl)<|zB<|sReg rfl<|qA rfl rfl (yJ rfl zr72) ?_
 rintro _ _ ⟨b2,rfl,rfl⟩
 refine yK _ (kI 9 1)<|zB<|sReg rfl<|zA rfl (zC rfl zCa rfl)<|zA rfl (zD rfl zAa rfl (zF 2 rfl) rfl)<|zA rfl (zAj rfl rfl rfl rfl rfl)<|qA rfl rfl (zCy [0,0] rfl ok72 (visit_loops _ _ n.Body hl) ⟨zE,rfl,VLe.nil,rfl,zE,rfl,trivial⟩ rfl) ?_
 rintro _ _ ⟨_,⟨rfl,sv9,rfl⟩,rfl⟩
 refine zB<|sReg rfl<|zA rfl (zD rfl zLo rfl (zF 1 rfl) rfl)<|rMv rfl<|zB<|zY _ (Weak.mem [true,false,false] rfl)<|zI<|zQ rfl ?_
 exact ⟨_,rfl,rfl⟩
theorem zKd (n : Ns) (way : List Int) (hw : way.length ≤ 1073741824) :
    Pur cfg 31 [vNs n,vIs way] (vBds (enclT n.Body way)):= by
 refine zV Tryz.func31 rfl Tryz.ntmps31 Tryz.results31 rfl ?_
 intro z hz
 have htl := trl_len way n.Body []
 have htl2 : (trailT n.Body way).length ≤ way.length:= by unfold trailT; simpa using htl
 refine sReg rfl<|qA rfl rfl (qL rfl rfl) ?_
 rintro _ _ ⟨b1,rfl,rfl⟩
 refine zA rfl (qY 2 rfl rfl)<|zB<|sReg rfl<|rMv rfl<|yK _ (kI 70 2)<|zB<|sReg rfl<|zA rfl (zC rfl zCa rfl)<|zA rfl (zD rfl zAa rfl (zF 1 rfl) rfl)<|rMv rfl<|zA rfl (zP rfl ok76 (loopnest_trail n.Body way hw) ⟨zE,rfl,zE,rfl,trivial⟩)<|rMv rfl<|zB<|zK<|sReg rfl<|rMv rfl<|zA rfl (zR rfl el23 rfl)<|zA rfl (yD rfl rfl rfl ⟨by omega,by omega⟩)<|zA rfl (zJb rfl rfl rfl)<|rMv rfl<|zB<|zS<|zY ⟨[(16,.c _),(5,.c _),(6,.c _),(15,.c _)],[_]⟩ (Weak.mk [true,false] ⟨zE,zE,zE,zE,trivial⟩ rfl)<|qI 2 1 rfl rfl (Nat × Value) (fun ⟨k,sv⟩ => [(16,vI k),(5,.c (.lit sv))]) (fun ⟨k,sv⟩ => [E.vec sv 70 2 ((((trailT n.Body way).take k).flatMap bdNm).map Bd.cells)]) (fun ⟨k,sv⟩ => (k : Int) ≤ max 0 (((trailT n.Body way).length : Int) - 1)) (fun ⟨k,sv⟩ => (trailT n.Body way).length - k) ⟨⟨0,.slice none 0 0⟩,(by omega),Weak.mk [true] ⟨zE,zE,zE,zE,trivial⟩ rfl⟩ ?_
 rintro ⟨k,sv⟩ hk
 show AWP _ _ _ _ _ ⟨[(16,vI k),(5,.c (.lit sv))] ++ _,[E.vec sv 70 2 ((((trailT n.Body way).take k).flatMap bdNm).map Bd.cells)] ++ _⟩
 refine sReg rfl<|zA rfl (qM rfl rfl rfl)<|zB<|zK<|zH rfl (fun c1 => ?_) (fun c1 => ?_)
 ·try simp only [sx] at c1
  obtain ⟨s,hs⟩ := qX (trailT n.Body way) k (by omega)
  have hel := enc_len ((trailT n.Body way).take k)
  have hel2 := List.length_take_le k (trailT n.Body way)
  refine zJ<|zK<|zS<|sReg rfl<|rMv rfl<|rMv rfl<|zB<|sReg rfl<|rMv rfl<|rMv rfl<|zA rfl (zO rfl el23 rfl rfl (by omega) (wW hs))<|zA rfl (zZ rfl zAc rfl)<|zA rfl (zD rfl one3 rfl qC rfl)<|zA rfl (qF rfl rfl rfl)<|zB<|zH rfl (fun c2 => ?_) (fun c2 => ?_)
  ·try simp only [sx] at c2
   refine yC 13 mixed (by kernel_rfl) rfl rfl<|zM rfl rfl (zN rfl rfl)<|zM rfl rfl (zN rfl rfl)<|zM rfl rfl (zN rfl rfl)<|zM rfl rfl (zO rfl el23 rfl rfl (by omega) (wW hs))<|zM rfl rfl (zZ rfl wQ rfl)<|zM rfl rfl (zD rfl one9 rfl qC rfl)<|zM rfl rfl (zN rfl rfl)<|zM rfl rfl (zN rfl rfl)<|zM rfl rfl (zO rfl el23 rfl rfl (by omega) (wW hs))<|zM rfl rfl (zZ rfl zIh rfl)<|zM rfl rfl (zD rfl one3 rfl qC rfl)<|zM rfl rfl (qV rfl zr70 pl70 rfl)<|zM rfl rfl (qZ rfl el67 zr70 rfl rfl rfl rfl)<|kA<|qA rfl rfl (yI 0 rfl el67 rfl rfl rfl (by simp only [List.length_map,List.length_append,List.length_cons,List.length_nil,List.length_take,List.length_drop]; omega) (by simp only [List.length_map,List.length_append,List.length_cons,List.length_nil,List.length_take,List.length_drop]; omega)) ?_
   rintro _ _ ⟨sv3,rfl,rfl⟩
   refine rMv rfl<|zB<|zU rfl<|zA rfl (qB rfl rfl rfl ⟨by omega,by omega⟩)<|rMv rfl<|zB ?_
   refine ⟨⟨k + 1,sv3⟩,(by omega),(by show (trailT n.Body way).length - (k + 1) < (trailT n.Body way).length - k; omega),Weak.mk [true] ⟨zE,zE,zE,zE,trivial⟩ (by exact zEs (by rw [enc_step hs]; first | (rw [bdNm_yes c2,List.map_append]; rfl) | (rw [bdNm_no c2,List.append_nil])))⟩
  ·try simp only [sx] at c2
   refine zJ<|zU rfl<|zA rfl (qB rfl rfl rfl ⟨by omega,by omega⟩)<|rMv rfl<|zB ?_
   refine ⟨⟨k + 1,sv⟩,(by omega),(by show (trailT n.Body way).length - (k + 1) < (trailT n.Body way).length - k; omega),Weak.mk [true] ⟨zE,zE,zE,zE,trivial⟩ (by exact zEs (by rw [enc_step hs]; first | (rw [bdNm_yes c2,List.map_append]; rfl) | (rw [bdNm_no c2,List.append_nil])))⟩
 ·try simp only [sx] at c1
  refine qN<|zK<|zY _ (yL 0 rfl (regs' := [(5,_)]) (μ' := []) ⟨FLe.sl,trivial⟩ trivial)<|zU rfl<|rMv rfl<|rMv rfl<|zB<|zI<|zQ rfl ?_
  rw [← enc_all (l := n.Body) (way := way) (k := k) (by omega)]
end Go.W
