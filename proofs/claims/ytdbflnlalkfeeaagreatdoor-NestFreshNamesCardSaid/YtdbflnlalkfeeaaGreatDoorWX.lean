/-
  Walks: what functions of the program compute. Printed by wip/gen/mk2.py.
  Conditions: none.
-/
import Derived.Test.YtdbflnlalkfeeaaGreatDoorWV
import Derived.Test.YtdbflnlalkfeeaaGreatDoorPlain2
import Derived.Test.YtdbflnlalkfeeaaGreatDoorEngZ
set_option maxRecDepth 10000
namespace Go.W
open Go Go.Eng Go.Proofs Go.L41 Go.Br
attribute [local irreducible] AWP RWP TD finQ
theorem ik2 : intT Tryz.prog 2 = some .i64:= by kernel_rfl
theorem ok177 : callOk Tryz.prog 177 = true:= by kernel_rfl
theorem ok201 : callOk Tryz.prog 201 = true:= by kernel_rfl
theorem ok202 : callOk Tryz.prog 202 = true:= by kernel_rfl
theorem pl49 : placesT Tryz.prog 49 = some [(0,1),(1,1)]:= by kernel_rfl
theorem pl111 : placesT Tryz.prog 111 = some [(0,1),(1,1)]:= by kernel_rfl
theorem sz47 : (Tryz.prog.info? 47).map (·.size) = some 1:= by kernel_rfl
theorem us215 : (Tryz.prog.underlying 215).isSome = true:= by kernel_rfl
theorem lin_plus (a b : Int) (ha : r64 a) (hb : r64 b) :
    Pur cfg 178 [vI a,vI b] (.tup [vI (w64 (a + b)),vB (decide (r64 (a + b)))]):= by
 refine zV Tryz.func178 rfl Tryz.ntmps178 Tryz.results178 rfl ?_
 intro z hz
 refine sReg rfl<|rMv rfl<|rMv rfl<|zB<|sReg rfl<|rMv rfl<|rMv rfl<|zA rfl (det_add rfl rfl rfl)<|rMv rfl<|zB<|sReg rfl<|rMv rfl<|rMv rfl<|rMv rfl<|zA rfl (yA rfl rfl rfl)<|rMv rfl<|zA rfl (yA rfl rfl rfl)<|zA rfl (det_beql rfl un4 rfl rfl)<|rMv rfl<|rMv rfl<|zB<|zI<|fin2 (rs_c rfl) (rs_c rfl) ?_
 rw [← plus_ok ha hb]; rfl
theorem zKe (x : Int) (hx : r64 x) :
    Pur cfg 202 [vI x] (vUn x.natAbs):= by
 refine zV Tryz.func202 rfl Tryz.ntmps202 Tryz.results202 rfl ?_
 intro z hz
 refine sReg rfl<|rMv rfl<|zB<|zK<|sReg rfl<|rMv rfl<|zA rfl (qM rfl rfl rfl)<|zB<|zH rfl (fun c1 => ?_) (fun c1 => ?_)
 ·try simp only [sx] at c1
  refine sReg rfl<|rMv rfl<|zA rfl (zAz rfl us2 ik215 rfl)<|zA rfl (zMf rfl rfl)<|rMv rfl<|zB<|zI<|zQ rfl ?_
  exact congrArg (fun n => V.c (.lit (.int .u64 n))) (magn_neg hx c1)
 ·try simp only [sx] at c1
  refine zJ<|sReg rfl<|rMv rfl<|zA rfl (zAz rfl us2 ik215 rfl)<|rMv rfl<|zB<|zI<|zQ rfl ?_
  exact congrArg (fun n => V.c (.lit (.int .u64 n))) (magn_pos hx (by omega))
theorem lin_product (a b : Nat) (ha : a < 18446744073709551616) (hb : b < 18446744073709551616) :
    Pur cfg 201 [vUn a,vUn b] (.tup [vUn (hiN a b),vUn (a * b % 18446744073709551616)]):= by
 refine zV Tryz.func201 rfl Tryz.ntmps201 Tryz.results201 rfl ?_
 intro z hz
 obtain ⟨p1,p2,p3,p4⟩ := part_le ha hb
 obtain ⟨q1,q2,q3,q4⟩ := hi_bounds ha hb
 refine sReg rfl<|rMv rfl<|rMv rfl<|zB<|sReg rfl<|rMv rfl<|zA rfl (zKp rfl rfl rfl ha)<|rMv rfl<|zA rfl (zKp rfl rfl rfl hb)<|zA rfl (zOa rfl rfl rfl (by omega))<|rMv rfl<|zB<|sReg rfl<|rMv rfl<|zA rfl (zFc rfl rfl rfl )<|rMv rfl<|zA rfl (zKp rfl rfl rfl hb)<|zA rfl (zOa rfl rfl rfl (by omega))<|rMv rfl<|zA rfl (zFc rfl rfl rfl )<|zA rfl (zOb rfl rfl rfl q1)<|rMv rfl<|zB<|sReg rfl<|rMv rfl<|zA rfl (zKp rfl rfl rfl ha)<|rMv rfl<|zA rfl (zFc rfl rfl rfl )<|zA rfl (zOa rfl rfl rfl (by omega))<|rMv rfl<|zA rfl (zKp rfl rfl rfl q1)<|zA rfl (zOb rfl rfl rfl q2)<|rMv rfl<|zB<|sReg rfl<|rMv rfl<|zA rfl (zFc rfl rfl rfl )<|rMv rfl<|zA rfl (zFc rfl rfl rfl )<|zA rfl (zOa rfl rfl rfl (by omega))<|rMv rfl<|zA rfl (zFc rfl rfl rfl )<|zA rfl (zOb rfl rfl rfl q3)<|rMv rfl<|zA rfl (zFc rfl rfl rfl )<|zA rfl (zOb rfl rfl rfl q4)<|rMv rfl<|rMv rfl<|zA rfl (det_umod rfl rfl rfl )<|rMv rfl<|rMv rfl<|zB<|zI<|fin2 (rs_c rfl) (rs_c rfl) ?_
 exact rfl
theorem lin_times (x y : Int) (hx : r64 x) (hy : r64 y) :
    Pur cfg 177 [vI x,vI y] (.tup [vI (timesT x y).1,vB (timesT x y).2]):= by
 refine zV Tryz.func177 rfl Tryz.ntmps177 Tryz.results177 rfl ?_
 intro z hz
 have hm1 := magn_le hx
 have hm2 := magn_le hy
 refine sReg rfl<|rMv rfl<|rMv rfl<|zB<|sReg rfl<|rMv rfl<|zA rfl (zP rfl ok202 (zKe x hx) ⟨zE,rfl,trivial⟩)<|rMv rfl<|zA rfl (zP rfl ok202 (zKe y hy) ⟨zE,rfl,trivial⟩)<|zA rfl (zP rfl ok201 (lin_product x.natAbs y.natAbs (by omega) (by omega)) ⟨zE,rfl,zE,rfl,trivial⟩)<|zA rfl (qP rfl rfl)<|zA rfl (qU rfl rfl rfl)<|zA rfl (qU rfl rfl rfl)<|rMv rfl<|rMv rfl<|zB<|sReg rfl<|rMv rfl<|zA rfl (qM rfl rfl rfl)<|rMv rfl<|zA rfl (qM rfl rfl rfl)<|zA rfl (det_bneq rfl un4 rfl rfl)<|rMv rfl<|zB<|zK<|zS<|sReg rfl<|rMv rfl<|zA rfl (qR rfl rfl rfl)<|rMv rfl<|rLz [] rfl gv1 trivial (fun g3_2 => zN rfl rfl) rfl<|rLz [(26,_)] rfl gv1 ⟨rfl,rfl,trivial⟩ (fun g3_2 => yA rfl rfl rfl) rfl<|zA rfl (yB rfl rfl rfl rfl (fun h => (lzf h)))<|rMv rfl<|rLz [] rfl gv1 trivial (fun g3_6 => zN rfl rfl) rfl<|rLz [(30,_)] rfl gv1 ⟨rfl,rfl,trivial⟩ (fun g3_6 => qF rfl rfl rfl) rfl<|rLz [(31,_)] rfl gv1 ⟨rfl,rfl,trivial⟩ (fun g3_6 => zN rfl rfl) rfl<|rLz [] rfl gv2 trivial (fun g3_9 => zN rfl rfl) rfl<|rLz [(33,_)] rfl gv2 ⟨rfl,rfl,trivial⟩ (fun g3_9 => qT rfl rfl) rfl<|rLz [(32,_)] rfl gv1 ⟨rfl,rfl,trivial⟩ (fun g3_6 => qK rfl rfl rfl (fun h => yV (by assumption) h) rfl) rfl<|zA rfl (yB rfl rfl rfl rfl (fun h => (lzf h)))<|rMv rfl<|zB<|zH rfl (fun c1 => ?_) (fun c1 => ?_)
 ·try simp only [sx] at c1
  refine sReg rfl<|rMv rfl<|rMv rfl<|zB<|zI<|fin2 (rs_c rfl) (rs_c rfl) ?_
  rw [times_f hx hy c1]
 ·try simp only [sx] at c1
  refine sReg rfl<|rMv rfl<|rMv rfl<|zB<|zH rfl (fun c2 => ?_) (fun c2 => ?_)
  ·try simp only [sx] at c2
   refine sReg rfl<|rMv rfl<|zA rfl (zMf rfl rfl)<|zA rfl (zAz rfl us215 ik2 rfl)<|rMv rfl<|rMv rfl<|zB<|zI<|fin2 (rs_c rfl) (rs_c rfl) ?_
   rw [times_neg c2 (by have := c1.1.1; omega) (by have := c1.1.2; omega)]
  ·try simp only [sx] at c2
   refine zJ<|sReg rfl<|rMv rfl<|zA rfl (zAz rfl us215 ik2 rfl)<|rMv rfl<|rMv rfl<|zB<|zI<|fin2 (rs_c rfl) (rs_c rfl) ?_
   have hlt : x.natAbs * y.natAbs % 18446744073709551616 < 9223372036854775808:= by
     have h1 := c1.1.2
     rcases c1.2 with h | h
     · omega
     · rw [c2] at h; cases h
   rw [times_pos c2 (by have := c1.1.1; omega) hlt]
theorem lin_Scale (l : Lf) (by_ : Int) (hl : l.L.length ≤ 4294967296) (hr : l.rng) (hb : r64 by_) :
    Pur cfg 142 [vLin l,vI by_] (.tup [vLin (scaleL l by_).1,vI (scaleL l by_).2]):= by
 refine zV Tryz.func142 rfl Tryz.ntmps142 Tryz.results142 rfl ?_
 intro z hz
 refine sReg rfl<|qA rfl rfl (qL rfl rfl) ?_
 rintro _ _ ⟨b1,rfl,rfl⟩
 refine qA rfl rfl (qO [none,some 2] rfl zr49 rfl) ?_
 rintro _ _ ⟨b2,rfl,rfl⟩
 refine rMv rfl<|zB<|zK<|sReg rfl<|zA rfl (zG rfl kG rfl (zF 1 rfl) rfl)<|zA rfl (zP rfl ok140 (zBg l (by omega)) ⟨zE,rfl,trivial⟩)<|zA rfl (qR rfl rfl rfl)<|zB<|zH rfl (fun c1 => ?_) (fun c1 => ?_)
 ·try simp only [sx] at c1
  have hl0 := linErr_no c1
  refine sReg rfl<|zA rfl (yW [none,some 2] rfl zr49 pl49 rfl rfl)<|zX rfl rfl (zT rfl sz49 rfl rfl rfl (qH 0 rfl rfl))<|rMv rfl<|zB<|zI<|fin2 (qG kG rfl (zF 0 rfl) rfl) (rs_c rfl) ?_
  rw [scale_bad hl0]; rfl
 ·try simp only [sx] at c1
  have hl1 := zLy c1
  refine zJ<|zK<|sReg rfl<|rMv rfl<|zA rfl (qF rfl rfl rfl)<|zB<|zH rfl (fun c2 => ?_) (fun c2 => ?_)
  ·try simp only [sx] at c2
   refine sReg rfl<|zA rfl (yW [none,some 2] rfl zr49 pl49 rfl rfl)<|zX rfl rfl (zT rfl sz49 rfl rfl rfl (qH 0 rfl rfl))<|rMv rfl<|zB<|zI<|fin2 (qG kG rfl (zF 0 rfl) rfl) (rs_c rfl) ?_
   rw [scale_zero hl1 c2]; rfl
  ·try simp only [sx] at c2
   refine zJ<|sReg rfl<|zA rfl (zC rfl zDc rfl)<|zA rfl (zD rfl one2 rfl (zF 1 rfl) rfl)<|rMv rfl<|zA rfl (zP rfl ok177 (lin_times l.K by_ hr.1 hb) ⟨zE,rfl,zE,rfl,trivial⟩)<|zA rfl (qP rfl rfl)<|zA rfl (qU rfl rfl rfl)<|zA rfl (qU rfl rfl rfl)<|rMv rfl<|rMv rfl<|zB<|sReg rfl<|rMv rfl<|zA rfl (qV rfl zr49 pl49 rfl)<|qA rfl rfl (yJ rfl zr49) ?_
   rintro _ _ ⟨b3,rfl,rfl⟩
   refine yK _ (kI 111 2)<|zX rfl rfl (zT rfl sz49 rfl rfl rfl (qH 1 rfl rfl))<|zB<|zK<|sReg rfl<|zA rfl (zC rfl kO rfl)<|zA rfl (zD rfl wZ rfl (zF 3 rfl) rfl)<|zA rfl (zR rfl el47 rfl)<|rMv rfl<|zB<|zS<|zY ⟨[(32,.c _),(7,.c _),(1,.c _),(4,.c _),(8,.c _),(30,.c _),(31,.c _)],[_,_,_]⟩ (Weak.mk [true,true,true,false] ⟨zE,zE,zE,zE,zE,zE,zE,trivial⟩ rfl)<|qI 2 2 rfl rfl (Nat × Value) (fun ⟨k,sv⟩ => [(32,vI k),(7,vB ((timesT l.K by_).2 && scaleB by_ (l.L.take k)))]) (fun ⟨k,sv⟩ => [E.vec sv 111 2 ((scaleW by_ (l.L.take k)).map Mono.cells),E.row b3 49 [cI (timesT l.K by_).1,.lit sv]]) (fun ⟨k,sv⟩ => k ≤ l.L.length) (fun ⟨k,sv⟩ => l.L.length - k) ⟨⟨0,_⟩,(by omega),Weak.mk [true,true,true] ⟨zE,VLe.of_eq (by rw [show scaleB by_ (l.L.take 0) = true from rfl,Bool.and_true]; rfl),zE,zE,zE,zE,zE,trivial⟩ rfl⟩ ?_
   rintro ⟨k,sv⟩ hk
   show AWP _ _ _ _ _ ⟨[(32,vI k),(7,vB ((timesT l.K by_).2 && scaleB by_ (l.L.take k)))] ++ _,[E.vec sv 111 2 ((scaleW by_ (l.L.take k)).map Mono.cells),E.row b3 49 [cI (timesT l.K by_).1,.lit sv]] ++ _⟩
   refine sReg rfl<|zA rfl (qM rfl rfl rfl)<|zB<|zK<|zH rfl (fun c3 => ?_) (fun c3 => ?_)
   ·try simp only [sx] at c3
    obtain ⟨x,hx⟩ := qX l.L k (by omega)
    refine zJ<|zK<|zS<|sReg rfl<|zA rfl (zO rfl el47 rfl rfl (by omega) (getm (by assumption)))<|zA rfl (zG rfl zEc rfl qC rfl)<|qA rfl rfl (yJ rfl zFu) ?_
    rintro _ _ ⟨b5,rfl,rfl⟩
    refine zX rfl rfl (zT rfl sz111 rfl rfl rfl (qH 0 rfl rfl))<|zB<|sReg rfl<|zA rfl (zC rfl zDj rfl)<|zA rfl (zD rfl one2 rfl (zF 0 rfl) rfl)<|rMv rfl<|zA rfl (zP rfl ok177 (lin_times x.By by_ (hr.2 x (qE hx)) hb) ⟨zE,rfl,zE,rfl,trivial⟩)<|zA rfl (qP rfl rfl)<|zA rfl (qU rfl rfl rfl)<|zA rfl (qU rfl rfl rfl)<|rMv rfl<|rMv rfl<|zB<|sReg rfl<|rMv rfl<|rMv rfl<|rLz [] rfl gv1 trivial (fun g11_1 => zN rfl rfl) rfl<|zA rfl (qK rfl rfl rfl (fun h => h) rfl)<|rMv rfl<|zB<|zU rfl<|zA rfl (zC rfl kO rfl)<|zA rfl (zD rfl wZ rfl (zF 2 rfl) rfl)<|zA rfl (zC rfl wG rfl)<|zA rfl (zD rfl one9 rfl (zF 0 rfl) rfl)<|rMv rfl<|zA rfl (qV rfl zFu pl111 rfl)<|zA rfl (qZ rfl el47 zFu rfl rfl rfl rfl)<|qA rfl rfl (yI 1 rfl el47 rfl rfl rfl (by simp only [List.length_map,List.length_append,List.length_cons,List.length_nil,scaleW_len,List.length_take]; omega) (by simp only [List.length_map,List.length_append,List.length_cons,List.length_nil,scaleW_len,List.length_take]; omega)) ?_
    rintro _ _ ⟨sv6,rfl,rfl⟩
    refine zA rfl (zC rfl kO rfl)<|zX rfl rfl (zT rfl sz47 rfl rfl rfl (qH 2 rfl rfl))<|zB<|zU rfl<|zA rfl (qB rfl rfl rfl ⟨by omega,by omega⟩)<|rMv rfl<|zB ?_
    refine ⟨⟨k + 1,sv6⟩,(by omega),(by show l.L.length - (k + 1) < l.L.length - k; omega),Weak.mk [false,true,true,true] ⟨zE,VLe.of_eq (by rw [scaleB_next hx,← Bool.and_assoc]; rfl),zE,zE,zE,zE,zE,trivial⟩ (by show _ = [E.vec sv6 _ 2 ((scaleW by_ (l.L.take (k + 1))).map Mono.cells),E.row b3 _ [cI (timesT l.K by_).1,.lit sv6]] ++ _; rw [scaleW_next hx,List.map_append]; rfl)⟩
   ·try simp only [sx] at c3
    rw [yO (l := l.L) (k := k) (by omega)]
    refine qN<|zK<|sReg rfl<|rMv rfl<|zA rfl (qT rfl rfl)<|zB<|zH rfl (fun c4 => ?_) (fun c4 => ?_)
    ·try simp only [sx] at c4
     refine sReg rfl<|zA rfl (yW [none,some 2] rfl zr49 pl49 rfl rfl)<|zX rfl rfl (zT rfl sz49 rfl rfl rfl (qH 2 rfl rfl))<|rMv rfl<|zB<|zI<|fin2 (qG kG rfl (zF 2 rfl) rfl) (rs_c rfl) ?_
     rw [scale_no hl1 c2 c4]; rfl
    ·try simp only [sx] at c4
     refine zJ<|sReg rfl<|zA rfl (zG rfl kG rfl (zF 1 rfl) rfl)<|zX rfl rfl (zT rfl sz49 rfl rfl rfl (qH 2 rfl rfl))<|rMv rfl<|zB<|zY _ (yL 0 rfl (regs' := [(60,.agg [_,_])]) (μ' := [_,_]) ⟨FLe.agg ⟨.inl rfl,.inr ⟨rfl,rfl⟩,trivial⟩,trivial⟩ ⟨EFle.row (ds := [_,_]) ⟨.inl rfl,.inr ⟨rfl,rfl⟩,trivial⟩,EFle.row (ds := [_,_]) ⟨.inl rfl,.inr ⟨rfl,rfl⟩,trivial⟩,trivial⟩)<|zI<|fin2 (qG kG rfl (zF 1 rfl) rfl) (rs_c rfl) ?_
     rw [scale_ok hl1 c2 c4]; rfl
end Go.W
