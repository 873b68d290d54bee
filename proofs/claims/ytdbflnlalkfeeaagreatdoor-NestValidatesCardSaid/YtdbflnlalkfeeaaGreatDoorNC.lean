/-
  Walks: what functions of the program compute. Printed by wip/gen/mk2.py.
  Conditions: none.
-/
import Derived.Test.YtdbflnlalkfeeaaGreatDoorNB
import Derived.Test.YtdbflnlalkfeeaaGreatDoorPlain2
import Derived.Test.YtdbflnlalkfeeaaGreatDoorEngZ
set_option maxRecDepth 10000
namespace Go.W
open Go Go.Eng Go.Proofs Go.L41 Go.Br
attribute [local irreducible] AWP RWP TD finQ
abbrev vBds (l : List Bd) : V := .c (.sl 2 (l.map Bd.cells))
abbrev ckC (x : Ck) : V := .agg [.sl 1 (x.U.map fun s => [cS s]),.sl 1 (x.W.map fun i => [cI i]),cI x.E]
theorem bd_get {l : List Bd} {k : Nat} {x : Bd} (h : l[k]? = some x) : (l.map Bd.cells)[k]? = some [cS x.Name,cI x.Val]:= by rw [getm h]; rfl
theorem agg106 : aggT Tryz.prog 106 = some 3:= by kernel_rfl
theorem el67 : elemT Tryz.prog 67 = some (70,2,24):= by kernel_rfl
theorem fd70_0 : fieldT Tryz.prog 70 0 = some (0,9):= by kernel_rfl
theorem fd106_0 : fieldT Tryz.prog 106 0 = some (0,72):= by kernel_rfl
theorem fd106_1 : fieldT Tryz.prog 106 1 = some (1,33):= by kernel_rfl
theorem fd106_2 : fieldT Tryz.prog 106 2 = some (2,29):= by kernel_rfl
theorem ok30 : callOk Tryz.prog 30 = true:= by kernel_rfl
theorem ok64 : callOk Tryz.prog 64 = true:= by kernel_rfl
theorem ok65 : callOk Tryz.prog 65 = true:= by kernel_rfl
theorem ok114 : callOk Tryz.prog 114 = true:= by kernel_rfl
theorem ok151 : callOk Tryz.prog 151 = true:= by kernel_rfl
theorem ok152 : callOk Tryz.prog 152 = true:= by kernel_rfl
theorem ok154 : callOk Tryz.prog 154 = true:= by kernel_rfl
theorem ok186 : callOk Tryz.prog 186 = true:= by kernel_rfl
theorem ok187 : callOk Tryz.prog 187 = true:= by kernel_rfl
theorem ok188 : callOk Tryz.prog 188 = true:= by kernel_rfl
theorem ok216 : callOk Tryz.prog 216 = true:= by kernel_rfl
theorem ok217 : callOk Tryz.prog 217 = true:= by kernel_rfl
theorem pl70 : placesT Tryz.prog 70 = some [(0,1),(1,1)]:= by kernel_rfl
theorem pl106 : placesT Tryz.prog 106 = some [(0,1),(1,1),(2,1)]:= by kernel_rfl
theorem sz106 : (Tryz.prog.info? 106).map (·.size) = some 3:= by kernel_rfl
theorem zr70 : zeroT Tryz.prog 70 = some [(Value.string (ByteArray.mk #[])),(Value.int IntKind.i64 0)]:= by kernel_rfl
theorem zr106 : zeroT Tryz.prog 106 = some [(Value.slice none 0 0),(Value.slice none 0 0),(Value.int IntKind.i64 0)]:= by kernel_rfl
theorem zNa (l : List Lf) (bd : List Bd) (hl : l.length ≤ 4294967296) (hx : ∀ x,x ∈ l → x.L.length ≤ 4294967296) (hb : bd.length ≤ 4294967296) :
    Pur cfg 216 [vLins l,vBds bd] (vB (l.all (inSc (bd.map Bd.Name)))):= by
 refine zU Tryz.func216 rfl Tryz.ntmps216 Tryz.results216 rfl ?_
 intro z hz
 have hl0 := hx
 clear hx
 refine sReg rfl<|rMv rfl<|zB<|zK<|sReg rfl<|rMv rfl<|zB<|zO<|zV ⟨[(5,.c _),(0,.c _),(1,.c _)],[]⟩ (Weak.mk [] ⟨VLe.of_eq rfl,VLe.of_eq rfl,VLe.of_eq rfl,trivial⟩ rfl)<|qF 1 0 rfl rfl (Nat) (fun k => [(5,vI k)]) (fun k => []) (fun k => k ≤ l.length ∧ ((l.take k).all (inSc (bd.map Bd.Name)) = true)) (fun k => l.length - k) ⟨0,⟨by omega,rfl⟩,Weak.mk [] ⟨VLe.refl _,VLe.refl _,VLe.refl _,trivial⟩ rfl⟩ ?_
 rintro k ⟨hk,hp⟩
 refine zK<|sReg rfl<|rMv rfl<|rMv rfl<|zA rfl rfl (zP rfl kY rfl)<|zA rfl rfl (qJ rfl rfl rfl)<|zB<|zG rfl (fun c1 => ?_) (fun c1 => ?_)
 ·try simp only [sx] at c1
  obtain ⟨x,hx⟩ := qT l k (by omega)
  have hxl := hl0 x (qE hx)
  refine zJ<|zK<|zO<|sReg rfl<|rMv rfl<|zB<|zO<|zV ⟨[(6,.c _),(0,.c _),(1,.c _),(5,.c _)],[]⟩ (Weak.mk [] ⟨VLe.of_eq rfl,VLe.of_eq rfl,VLe.of_eq rfl,VLe.of_eq rfl,trivial⟩ rfl)<|qF 1 0 rfl rfl (Nat) (fun j => [(6,vI j)]) (fun j => []) (fun j => j ≤ x.L.length ∧ (x.L.take j).all (fun m => hasB (bd.map Bd.Name) m.Name) = true) (fun j => x.L.length - j) ⟨0,⟨by omega,rfl⟩,Weak.mk [] ⟨VLe.refl _,VLe.refl _,VLe.refl _,VLe.refl _,trivial⟩ rfl⟩ ?_
  rintro j ⟨hj,hq⟩
  refine zK<|sReg rfl<|rMv rfl<|rMv rfl<|rMv rfl<|zA rfl rfl (zQ rfl kY rfl rfl (by omega) (getm hx))<|zA rfl rfl (qA rfl wC rfl)<|zA rfl rfl (zD rfl zAw rfl qB rfl)<|zA rfl rfl (zP rfl el47 rfl)<|zA rfl rfl (qJ rfl rfl rfl)<|zB<|zG rfl (fun c2 => ?_) (fun c2 => ?_)
  ·try simp only [sx] at c2
   obtain ⟨m,hm⟩ := qT x.L j (by omega)
   refine zJ<|zK<|zO<|sReg rfl<|rMv rfl<|zB<|zK<|sReg rfl<|rMv rfl<|zB<|zO<|zV ⟨[(8,.c _),(7,.c _),(0,.c _),(1,.c _),(5,.c _),(6,.c _)],[]⟩ (Weak.mk [] ⟨VLe.of_eq rfl,VLe.of_eq rfl,VLe.of_eq rfl,VLe.of_eq rfl,VLe.of_eq rfl,VLe.of_eq rfl,trivial⟩ rfl)<|qF 2 0 rfl rfl (Nat) (fun i => [(8,vI i),(7,vB ((bd.take i).any fun d => decide (d.Name = m.Name)))]) (fun i => []) (fun i => i ≤ bd.length) (fun i => bd.length - i) ⟨0,(by omega),Weak.mk [] ⟨VLe.refl _,VLe.of_eq (rfl),VLe.refl _,VLe.refl _,VLe.refl _,VLe.refl _,trivial⟩ rfl⟩ ?_
   rintro i hi
   refine zK<|sReg rfl<|rMv rfl<|rMv rfl<|zA rfl rfl (zP rfl el67 rfl)<|zA rfl rfl (qJ rfl rfl rfl)<|zB<|zG rfl (fun c3 => ?_) (fun c3 => ?_)
   ·try simp only [sx] at c3
    obtain ⟨d,hd⟩ := qT bd i (by omega)
    refine zJ<|zK<|zO<|yC 19 mixed (by kernel_rfl) rfl rfl<|zM rfl rfl (zN rfl rfl)<|zM rfl rfl (zN rfl rfl)<|qI [] rfl rfl rfl rfl gv1 trivial (fun g11_1 => zN rfl rfl) rfl<|qI [] rfl rfl rfl rfl gv1 trivial (fun g11_1 => zN rfl rfl) rfl<|qI [(33,_),(34,_)] rfl rfl rfl rfl gv1 ⟨rfl,rfl,rfl,rfl,trivial⟩ (fun g11_1 => zQ rfl el67 rfl rfl (by omega) (bd_get hd)) rfl<|qI [(35,_)] rfl rfl rfl rfl gv1 ⟨rfl,rfl,trivial⟩ (fun g11_1 => qA rfl fd70_0 rfl) rfl<|qI [(36,_)] rfl rfl rfl rfl gv1 ⟨rfl,rfl,trivial⟩ (fun g11_1 => zD rfl one9 rfl qB rfl) rfl<|qI [] rfl rfl rfl rfl gv1 trivial (fun g11_1 => zN rfl rfl) rfl<|qI [] rfl rfl rfl rfl gv1 trivial (fun g11_1 => zN rfl rfl) rfl<|qI [(38,_),(39,_)] rfl rfl rfl rfl gv1 ⟨rfl,rfl,rfl,rfl,trivial⟩ (fun g11_1 => zQ rfl kY rfl rfl (by omega) (getm hx)) rfl<|qI [(40,_)] rfl rfl rfl rfl gv1 ⟨rfl,rfl,trivial⟩ (fun g11_1 => qA rfl wC rfl) rfl<|qI [(41,_)] rfl rfl rfl rfl gv1 ⟨rfl,rfl,trivial⟩ (fun g11_1 => zD rfl zAw rfl qB rfl) rfl<|qI [] rfl rfl rfl rfl gv1 trivial (fun g11_1 => zN rfl rfl) rfl<|qI [(42,_),(43,_)] rfl rfl rfl rfl gv1 ⟨rfl,rfl,rfl,rfl,trivial⟩ (fun g11_1 => zQ rfl el47 rfl rfl (by omega) (getm hm)) rfl<|qI [(44,_)] rfl rfl rfl rfl gv1 ⟨rfl,rfl,trivial⟩ (fun g11_1 => qA rfl zAu rfl) rfl<|qI [(45,_)] rfl rfl rfl rfl gv1 ⟨rfl,rfl,trivial⟩ (fun g11_1 => zD rfl one9 rfl qB rfl) rfl<|qI [(37,_),(46,_)] rfl rfl rfl rfl gv1 ⟨rfl,rfl,rfl,rfl,trivial⟩ (fun g11_1 => yJ rfl rfl rfl) rfl<|zM rfl rfl (qY rfl rfl rfl rfl (fun h => (lzf h)))<|zM rfl rfl (yE rfl rfl)<|kB<|zB<|zS rfl<|rMv rfl<|zA rfl rfl (zY rfl rfl rfl ⟨by omega,by omega⟩)<|rMv rfl<|zB ?_
    refine ⟨i + 1,(by omega),(by omega),Weak.mk [] ⟨VLe.refl _,VLe.of_eq (congrArg vB (any_step hd)),VLe.refl _,VLe.refl _,VLe.refl _,VLe.refl _,trivial⟩ rfl⟩
   ·try simp only [sx] at c3
    rw [yF (l := bd) (k := i) (by omega),any_hasB]
    refine qM<|sReg rfl<|rMv rfl<|zA rfl rfl (qQ rfl rfl)<|zB<|zG rfl (fun c4 => ?_) (fun c4 => ?_)
    ·try simp only [sx] at c4
     have hno := bound_no hx hm c4
     refine sReg rfl<|rMv rfl<|zB<|zH<|fin1 (rs_c rfl) ?_
     rw [hno]
    ·try simp only [sx] at c4
     refine zJ<|zS rfl<|rMv rfl<|zA rfl rfl (zY rfl rfl rfl ⟨by omega,by omega⟩)<|rMv rfl<|zB ?_
     refine ⟨j + 1,⟨by omega,zCd hm hq c4⟩,(by omega),Weak.mk [] ⟨VLe.refl _,VLe.refl _,VLe.refl _,VLe.refl _,trivial⟩ rfl⟩
  ·try simp only [sx] at c2
   rw [yF (l := x.L) (k := j) (by omega)] at hq
   refine qM<|zS rfl<|rMv rfl<|zA rfl rfl (zY rfl rfl rfl ⟨by omega,by omega⟩)<|rMv rfl<|zB ?_
   refine ⟨k + 1,⟨by omega,zCd hx hp (show inSc _ x = true from hq)⟩,(by omega),Weak.mk [] ⟨VLe.refl _,VLe.refl _,VLe.refl _,trivial⟩ rfl⟩
 ·try simp only [sx] at c1
  refine qM<|sReg rfl<|rMv rfl<|zB<|zH<|fin1 (rs_c rfl) ?_
  rw [yF (by omega)] at hp; rw [hp]
theorem ref30_lins (l : List Ix) (hl : l.length ≤ 4294967296) (hw : idxWt l ≤ 4294967296) :
    OwnR cfg 217 [vIndices l] 49 2 ((l.flatMap ixF).map Lf.cells):= by
 refine zU Tryz.func217 rfl Tryz.ntmps217 Tryz.results217 rfl ?_
 intro z hz
 refine sReg rfl<|rMv rfl<|zB<|sReg rfl<|rMv rfl<|yQ _ (kX 49 2)<|zB<|zK<|sReg rfl<|rMv rfl<|zB<|zO<|zV ⟨[(4,.c _),(3,.c _),(0,.c _)],[_]⟩ (Weak.mk [true] ⟨VLe.of_eq rfl,VLe.of_eq rfl,VLe.of_eq rfl,trivial⟩ rfl)<|qF 2 1 rfl rfl (Nat × Value) (fun ⟨k,sv⟩ => [(4,vI k),(3,.c (.lit sv))]) (fun ⟨k,sv⟩ => [E.vec sv 49 2 (((l.take k).flatMap ixF).map Lf.cells)]) (fun ⟨k,sv⟩ => k ≤ l.length) (fun ⟨k,sv⟩ => l.length - k) ⟨⟨0,(.slice none 0 0)⟩,(by omega),Weak.mk [true] ⟨VLe.refl _,VLe.refl _,VLe.refl _,trivial⟩ rfl⟩ ?_
 rintro ⟨k,sv⟩ hk
 show AWP _ _ _ _ _ ⟨[(4,vI k),(3,.c (.lit sv))] ++ _,[E.vec sv 49 2 (((l.take k).flatMap ixF).map Lf.cells)] ++ _⟩
 refine zK<|sReg rfl<|rMv rfl<|rMv rfl<|zA rfl rfl (zP rfl el44 rfl)<|zA rfl rfl (qJ rfl rfl rfl)<|zB<|zG rfl (fun c1 => ?_) (fun c1 => ?_)
 ·try simp only [sx] at c1
  obtain ⟨x,hx⟩ := qT l k (by omega)
  have hfl := ixs_len l k
  have hxw := zBx (qE hx)
  unfold Ix.wt at hxw
  refine zJ<|zK<|zO<|sReg rfl<|rMv rfl<|rMv rfl<|rMv rfl<|zA rfl rfl (zQ rfl el44 rfl rfl (by omega) (getm (by assumption)))<|zA rfl rfl (qA rfl zAj rfl)<|zA rfl rfl (zF rfl wH rfl qB rfl)<|zA rfl rfl (qZ rfl kY zr49 rfl rfl rfl rfl)<|zZ rfl rfl (yM 0 rfl kY rfl rfl rfl (by simp only [List.length_map,List.length_append,List.length_cons,List.length_nil]; omega) (by simp only [List.length_map,List.length_append,List.length_cons,List.length_nil]; omega)) ?_
  rintro _ _ ⟨sv2,rfl,rfl⟩
  refine rMv rfl<|zB<|zS rfl<|rMv rfl<|rMv rfl<|rMv rfl<|zA rfl rfl (zQ rfl el44 rfl rfl (by omega) (getm (by assumption)))<|zA rfl rfl (qA rfl kJ rfl)<|zA rfl rfl (zD rfl wI rfl qB rfl)<|zZ rfl rfl (yM 0 rfl kY rfl rfl rfl (by simp only [List.length_map,List.length_append,List.length_cons,List.length_nil]; omega) (by simp only [List.length_map,List.length_append,List.length_cons,List.length_nil]; omega)) ?_
  rintro _ _ ⟨sv3,rfl,rfl⟩
  refine rMv rfl<|zB<|zS rfl<|rMv rfl<|zA rfl rfl (zY rfl rfl rfl ⟨by omega,by omega⟩)<|rMv rfl<|zB ?_
  refine ⟨⟨k + 1,sv3⟩,(by omega),(by show l.length - (k + 1) < l.length - k; omega),Weak.mk [true] ⟨VLe.refl _,VLe.refl _,VLe.refl _,trivial⟩ (by exact zDr (by rw [yB hx,List.flatMap_append,List.map_append]; simp [ixF]; rfl))⟩
 ·try simp only [sx] at c1
  refine qM<|sReg rfl<|rMv rfl<|rMv rfl<|zB<|zH<|fin1 (rs_c rfl) ?_
  exact ⟨_,rfl,by rw [yF (by omega)]; rfl⟩
theorem ref30_node (n : Ns) (bd : List Bd) (e : Ex) (hn : n.Ok) (hb : bd.length ≤ 1000000) (he : e.wt ≤ 1073741824) :
    Pur cfg 187 [vNs n,vBds bd,vE e] (vI (nodeN n.Bufs (bd.map Bd.Name) e)):= by
 refine zU Tryz.func187 rfl Tryz.ntmps187 Tryz.results187 rfl ?_
 intro z hz
 obtain ⟨hL,hI,hA⟩ := e.parts he
 have hwt := Ex.wt_eq e
 refine sReg rfl<|zZ rfl rfl (qL rfl rfl) ?_
 rintro _ _ ⟨b1,rfl,rfl⟩
 refine zZ rfl rfl (qL rfl rfl) ?_
 rintro _ _ ⟨b2,rfl,rfl⟩
 refine rMv rfl<|zB<|zK<|sReg rfl<|zA rfl rfl (zC rfl zCz rfl)<|zA rfl rfl (zF rfl wH rfl (zE 0 rfl) rfl)<|zA rfl rfl (qZ rfl kY zr49 rfl rfl rfl rfl)<|rMv rfl<|zA rfl rfl (zR rfl ok216 (zNa [e.Lin] bd (by simp) (by simp; omega) (by omega)) ⟨VLe.refl _,rfl,VLe.refl _,rfl,trivial⟩)<|zA rfl rfl (qQ rfl rfl)<|rMv rfl<|rLz [] rfl gv1 trivial (fun g1_6 => zC rfl yZ rfl) rfl<|rLz [(19,_)] rfl gv1 ⟨rfl,rfl,trivial⟩ (fun g1_6 => zD rfl kK rfl (zE 0 rfl) rfl) rfl<|rLz [(20,_)] rfl gv1 ⟨rfl,rfl,trivial⟩ (fun g1_6 => zR rfl ok217 (OwnR.pur (ref30_lins e.Idx (by omega) (by omega))) ⟨VLe.refl _,rfl,trivial⟩) rfl<|rLz [] rfl gv1 trivial (fun g1_6 => zN rfl rfl) rfl<|rLz [(21,_),(22,_)] rfl gv1 ⟨rfl,rfl,rfl,rfl,trivial⟩ (fun g1_6 => zR rfl ok216 (zNa (e.Idx.flatMap ixF) bd (by have := ixs_len e.Idx e.Idx.length; rw [List.take_length] at this; omega) (fun x hx => by have := forms_wt he (show x ∈ formsL e by unfold formsL; exact List.mem_cons_of_mem _ hx); omega) (by omega)) ⟨VLe.refl _,rfl,VLe.refl _,rfl,trivial⟩) rfl<|rLz [(23,_)] rfl gv1 ⟨rfl,rfl,trivial⟩ (fun g1_6 => qQ rfl rfl) rfl<|zA rfl rfl (qY rfl rfl rfl rfl (fun h => (lzf h)))<|zB<|zG rfl (fun c1 => ?_) (fun c1 => ?_)
 ·have h9 := node_sc_f c1
  refine sReg rfl<|rMv rfl<|zB<|zH<|fin1 (rs_c rfl) ?_
  rw [nodeN_9 h9]
 ·have h9 := node_sc_t c1
  refine zJ<|zK<|sReg rfl<|zA rfl rfl (zC rfl kG rfl)<|zA rfl rfl (zD rfl one3 rfl (zE 0 rfl) rfl)<|zA rfl rfl (qR rfl rfl rfl)<|zB<|zG rfl (fun c2 => ?_) (fun c2 => ?_)
  ·try simp only [sx] at c2
   refine sReg rfl<|rMv rfl<|zB<|zH<|fin1 (rs_c rfl) ?_
   rw [nodeN_o h9 c2]
  ·try simp only [sx] at c2
   refine zJ<|sReg rfl<|zA rfl rfl (zF rfl wM rfl (zE 1 rfl) rfl)<|zA rfl rfl (zC rfl zCb rfl)<|zA rfl rfl (zD rfl one9 rfl (zE 0 rfl) rfl)<|zA rfl rfl (zR rfl ok30 (zAk n e.Name hn) ⟨VLe.refl _,rfl,VLe.refl _,rfl,trivial⟩)<|zA rfl rfl (qW rfl rfl)<|zA rfl rfl (yO rfl rfl rfl)<|zA rfl rfl (yN rfl rfl rfl)<|zZ rfl rfl (qN [none,none,none,none,none,none,some 1,none] rfl zr42 rfl) ?_
   rintro _ _ ⟨b3,rfl,rfl⟩
   refine zX rfl rfl (zT rfl sz42 rfl rfl rfl (qH 0 rfl rfl))<|rMv rfl<|zB<|zK<|sReg rfl<|rMv rfl<|zA rfl rfl (qQ rfl rfl)<|zB<|zG rfl (fun c3 => ?_) (fun c3 => ?_)
   ·try simp only [sx] at c3
    refine sReg rfl<|rMv rfl<|zB<|zH<|fin1 (rs_c rfl) ?_
    rw [nodeN_n h9 (by omega) c3]
   ·try simp only [sx] at c3
    refine zJ<|zK<|sReg rfl<|zA rfl rfl (zC rfl zFp rfl)<|zA rfl rfl (zD rfl zCt rfl (zE 0 rfl) rfl)<|zA rfl rfl (zP rfl el33 rfl)<|zA rfl rfl (zC rfl yZ rfl)<|zA rfl rfl (zD rfl kK rfl (zE 1 rfl) rfl)<|zA rfl rfl (zP rfl el44 rfl)<|zA rfl rfl (qR rfl rfl rfl)<|zB<|zG rfl (fun c4 => ?_) (fun c4 => ?_)
    ·try simp only [sx] at c4
     refine sReg rfl<|rMv rfl<|zB<|zH<|fin1 (rs_c rfl) ?_
     rw [nodeN_r h9 (by omega) c3 (by omega)]
    ·try simp only [sx] at c4
     refine zJ<|zK<|sReg rfl<|rMv rfl<|zB<|zO<|zV ⟨[(9,.c _),(3,.c _),(5,.c _)],[_,_]⟩ (Weak.mk [false,true,true] ⟨VLe.of_eq rfl,VLe.of_eq rfl,VLe.of_eq rfl,trivial⟩ rfl)<|qF 1 0 rfl rfl (Nat) (fun j => [(9,vI j)]) (fun j => []) (fun j => j ≤ e.Idx.length ∧ (gathL n.Bufs e.Idx = gathL n.Bufs (e.Idx.drop j))) (fun j => e.Idx.length - j) ⟨0,⟨by omega,rfl⟩,Weak.mk [true,true] ⟨VLe.refl _,VLe.refl _,VLe.refl _,trivial⟩ rfl⟩ ?_
     rintro j ⟨hk,hq⟩
     refine zK<|sReg rfl<|rMv rfl<|zA rfl rfl (zC rfl yZ rfl)<|zA rfl rfl (zD rfl kK rfl (zE 0 rfl) rfl)<|zA rfl rfl (zP rfl el44 rfl)<|zA rfl rfl (qJ rfl rfl rfl)<|zB<|zG rfl (fun c5 => ?_) (fun c5 => ?_)
     ·try simp only [sx] at c5
      obtain ⟨y,hy⟩ := qT e.Idx j (by omega)
      refine zJ<|zK<|zO<|zK<|sReg rfl<|zA rfl rfl (zC rfl yZ rfl)<|zA rfl rfl (zD rfl kK rfl (zE 0 rfl) rfl)<|rMv rfl<|zA rfl rfl (zQ rfl el44 rfl rfl (by omega) (getm (by assumption)))<|zA rfl rfl (qA rfl zAc rfl)<|zA rfl rfl (zD rfl one9 rfl qB rfl)<|zA rfl rfl (yJ rfl rfl rfl)<|zB<|zG rfl (fun c6 => ?_) (fun c6 => ?_)
      ·try simp only [sx] at c6
       refine qM<|zS rfl<|rMv rfl<|zA rfl rfl (zY rfl rfl rfl ⟨by omega,by omega⟩)<|rMv rfl<|zB ?_
       refine ⟨j + 1,⟨by omega,hq.trans (zGj hy (by first | exact gathE_0 c6 | exact zLm c6 c7 (by omega) (by omega)))⟩,(by omega),Weak.mk [true,true] ⟨VLe.refl _,VLe.refl _,VLe.refl _,trivial⟩ rfl⟩
      ·try simp only [sx] at c6
       refine zJ<|zK<|kA 13 1 [⟨0,.q [2]⟩,⟨1,.q []⟩,⟨2,.q [1]⟩,⟨3,.q []⟩,⟨4,.q []⟩,⟨5,.q []⟩,⟨6,.q []⟩,⟨7,.q []⟩,⟨8,.q []⟩,⟨9,.q []⟩,⟨10,.q []⟩,⟨11,.e 0 []⟩,⟨12,.e 0 []⟩] mixed (by kernel_rfl) (by kernel_rfl) rfl rfl rfl<|zW rfl<|zW rfl<|zW rfl<|zW rfl<|zW rfl<|zW rfl<|zW rfl<|zW rfl<|zW rfl<|zW rfl<|zW rfl<|zW rfl<|zW rfl<|zAq<|qD rfl (by decide) rfl rfl (zF rfl wM rfl (zE 0 rfl) rfl)<|qD rfl (by decide) rfl rfl (zC rfl yZ rfl)<|qD rfl (by decide) rfl rfl (zD rfl kK rfl (zE 0 rfl) rfl)<|qD rfl (by decide) rfl rfl (zN rfl rfl)<|qD rfl (by decide) rfl rfl (zQ rfl el44 rfl rfl (by omega) (getm (by assumption)))<|qD rfl (by decide) rfl rfl (qA rfl zAc rfl)<|qD rfl (by decide) rfl rfl (zD rfl one9 rfl qB rfl)<|qD rfl (by decide) rfl rfl (zR rfl ok30 (zAk n y.From hn) ⟨VLe.refl _,rfl,VLe.refl _,rfl,trivial⟩)<|qD rfl (by decide) rfl rfl (qW rfl rfl)<|qD rfl (by decide) rfl rfl (yO rfl rfl rfl)<|qD rfl (by decide) rfl rfl (yN rfl rfl rfl)<|zHc rfl rfl (by decide) rfl rfl (qN [none,none,none,none,none,none,some 1,none] rfl zr42 rfl) ?_
       rintro _ _ ⟨b4,rfl,rfl⟩
       refine ⟨_,rfl,?_⟩
       refine zHv rfl rfl (by decide) rfl rfl (zT rfl sz42 rfl rfl rfl (qH 0 rfl rfl)) ?_
       rintro _ _ ⟨rfl,rfl⟩
       refine ⟨_,rfl,?_⟩
       refine zAo rfl<|rMv rfl<|zB<|zO<|sReg rfl<|rMv rfl<|zA rfl rfl (qQ rfl rfl)<|rMv rfl<|zB<|zG rfl (fun c7 => ?_) (fun c7 => ?_)
       ·try simp only [sx] at c7
        refine sReg rfl<|rMv rfl<|zB<|zH<|fin1 (rs_c rfl) ?_
        rw [zFg h9 (by omega) c3 (by omega),hq,zGi hy (by rw [gathE_9 c6 c7]; decide),gathE_9 c6 c7]
       ·try simp only [sx] at c7
        refine sReg rfl<|zA rfl rfl (zC rfl zIo rfl)<|zA rfl rfl (zC rfl zDb rfl)<|zA rfl rfl (zD rfl one3 rfl (zE 0 rfl) rfl)<|zA rfl rfl (qR rfl rfl rfl)<|rMv rfl<|zB<|zG rfl (fun c8 => ?_) (fun c8 => ?_)
        ·try simp only [sx] at c8
         refine sReg rfl<|rMv rfl<|zB<|zH<|fin1 (rs_c rfl) ?_
         rw [zFg h9 (by omega) c3 (by omega),hq,zGi hy (by rw [zLo c6 c7 c8]; decide),zLo c6 c7 c8]
        ·try simp only [sx] at c8
         refine zK<|yC 12 mixed (by kernel_rfl) rfl rfl<|zM rfl rfl (zC rfl zFp rfl)<|zM rfl rfl (zD rfl zCt rfl (zE 0 rfl) rfl)<|zM rfl rfl (zP rfl el33 rfl)<|zM rfl rfl (zC rfl yZ rfl)<|zM rfl rfl (zD rfl kK rfl (zE 1 rfl) rfl)<|zM rfl rfl (zN rfl rfl)<|zM rfl rfl (zQ rfl el44 rfl rfl (by omega) (getm (by assumption)))<|zM rfl rfl (qA rfl kJ rfl)<|zM rfl rfl (zD rfl wI rfl qB rfl)<|zM rfl rfl (zP rfl kY rfl)<|zM rfl rfl (qR rfl rfl rfl)<|zM rfl rfl (yE rfl rfl)<|kB<|zB<|zG rfl (fun c9 => ?_) (fun c9 => ?_)
         ·try simp only [sx] at c9
          refine sReg rfl<|rMv rfl<|zB<|zH<|fin1 (rs_c rfl) ?_
          rw [zFg h9 (by omega) c3 (by omega),hq,zGi hy (by rw [zLn c6 c7 c8 (by omega)]; decide),zLn c6 c7 c8 (by omega)]
         ·try simp only [sx] at c9
          refine zJ<|zS rfl<|rMv rfl<|zA rfl rfl (zY rfl rfl rfl ⟨by omega,by omega⟩)<|rMv rfl<|zB ?_
          refine ⟨j + 1,⟨by omega,hq.trans (zGj hy (by first | exact gathE_0 c6 | exact zLm c6 c7 (by omega) (by omega)))⟩,(by omega),Weak.mk [false,true,true] ⟨VLe.refl _,VLe.refl _,VLe.refl _,trivial⟩ rfl⟩
     ·try simp only [sx] at c5
      refine qM<|sReg rfl<|rMv rfl<|zB<|zH<|fin1 (rs_c rfl) ?_
      rw [zFg h9 (by omega) c3 (by omega),hq,yY (by omega)]; rfl
theorem zNc (n : Ns) (hn : n.Ok) (e : Ex) (ih : ∀ a,a ∈ e.Args → partE a = 0 → a.wt ≤ 1073741824 → Pur cfg 188 [vNs n,vE a] (.tup [vTy (nodeT (kiN n.Bufs) a).1,vI (nodeT (kiN n.Bufs) a).2])) (hpart : partE e = 0) (he : e.wt ≤ 1073741824) :
    Pur cfg 188 [vNs n,vE e] (.tup [vTy (nodeT (kiN n.Bufs) e).1,vI (nodeT (kiN n.Bufs) e).2]):= by
 refine zU Tryz.func188 rfl Tryz.ntmps188 Tryz.results188 rfl ?_
 intro z hz
 obtain ⟨hLl,hIl,hAl⟩ := e.parts he
 have hwt := Ex.wt_eq e
 refine sReg rfl<|zZ rfl rfl (qL rfl rfl) ?_
 rintro _ _ ⟨b1,rfl,rfl⟩
 refine zZ rfl rfl (qL rfl rfl) ?_
 rintro _ _ ⟨b2,rfl,rfl⟩
 refine zZ rfl rfl (yL rfl zr40) ?_
 rintro _ _ ⟨b3,rfl,rfl⟩
 refine rMv rfl<|zB<|sReg rfl<|rMv rfl<|yQ _ (kX 40 5)<|zB<|zK<|sReg rfl<|rMv rfl<|zB<|zO<|zV ⟨[(7,.c _),(6,.c _),(2,.c _),(3,.c _),(4,.c _)],[_,_,_,_]⟩ (Weak.mk [true,true,true,true] ⟨VLe.of_eq rfl,VLe.of_eq rfl,VLe.of_eq rfl,VLe.of_eq rfl,VLe.of_eq rfl,trivial⟩ rfl)<|qF 2 1 rfl rfl (Nat × Value) (fun ⟨k,sv⟩ => [(7,vI k),(6,.c (.lit sv))]) (fun ⟨k,sv⟩ => [E.vec sv 40 5 ((nonC (e.Args.take k) (nodeL (kiN n.Bufs) (e.Args.take k)).1).map tyC)]) (fun ⟨k,sv⟩ => k ≤ e.Args.length ∧ ((nodeL (kiN n.Bufs) (e.Args.take k)).2 = 0)) (fun ⟨k,sv⟩ => e.Args.length - k) ⟨⟨0,(.slice none 0 0)⟩,⟨by omega,rfl⟩,Weak.mk [true,true,true,true] ⟨VLe.refl _,VLe.refl _,VLe.refl _,VLe.refl _,VLe.refl _,trivial⟩ rfl⟩ ?_
 rintro ⟨k,sv⟩ ⟨hk,hp⟩
 show AWP _ _ _ _ _ ⟨[(7,vI k),(6,.c (.lit sv))] ++ _,[E.vec sv 40 5 ((nonC (e.Args.take k) (nodeL (kiN n.Bufs) (e.Args.take k)).1).map tyC)] ++ _⟩
 refine zK<|sReg rfl<|rMv rfl<|zA rfl rfl (zC rfl wA rfl)<|zA rfl rfl (zD rfl zAv rfl (zE 2 rfl) rfl)<|zA rfl rfl (zP rfl el50 rfl)<|zA rfl rfl (qJ rfl rfl rfl)<|zB<|zG rfl (fun c1 => ?_) (fun c1 => ?_)
 ·try simp only [sx] at c1
  obtain ⟨x,hx⟩ := qT e.Args k (by omega)
  have hll := zCu _ _ hp
  have hcl := nonC_len (e.Args.take k) (nodeL (kiN n.Bufs) (e.Args.take k)).1
  have htk := List.length_take_le' k e.Args
  refine zJ<|zK<|zO<|zK<|kA 12 1 [⟨0,.q [4]⟩,⟨1,.q []⟩,⟨2,.q [3]⟩,⟨3,.q []⟩,⟨4,.q []⟩,⟨5,.q []⟩,⟨6,.q []⟩,⟨7,.q []⟩,⟨8,.q []⟩,⟨9,.q []⟩,⟨10,.e 0 []⟩,⟨11,.e 0 []⟩] mixed (by kernel_rfl) (by kernel_rfl) rfl rfl rfl<|zW rfl<|zW rfl<|zW rfl<|zW rfl<|zW rfl<|zW rfl<|zW rfl<|zW rfl<|zW rfl<|zW rfl<|zW rfl<|zW rfl<|zAq<|qD rfl (by decide) rfl rfl (zF rfl wM rfl (zE 0 rfl) rfl)<|qD rfl (by decide) rfl rfl (zC rfl wA rfl)<|qD rfl (by decide) rfl rfl (zD rfl zAv rfl (zE 0 rfl) rfl)<|qD rfl (by decide) rfl rfl (zN rfl rfl)<|qD rfl (by decide) rfl rfl (zQ rfl el50 rfl rfl (by omega) (zEn (by assumption)))<|qD rfl (by decide) rfl rfl (zF rfl yR rfl qB rfl)<|qD rfl (by decide) rfl rfl (zR rfl ok188 (ih x (qE hx) (zIb hpart (qE hx)) (by have := Ex.arg_wt (qE hx); omega)) ⟨VLe.refl _,rfl,VLe.refl _,rfl,trivial⟩)<|qD rfl (by decide) rfl rfl (qW rfl rfl)<|qD rfl (by decide) rfl rfl (yO rfl rfl rfl)<|qD rfl (by decide) rfl rfl (yN rfl rfl rfl)<|zHc rfl rfl (by decide) rfl rfl (yL rfl zr40) ?_
  rintro _ _ ⟨b5,rfl,rfl⟩
  refine ⟨_,rfl,?_⟩
  refine zHv rfl rfl (by decide) rfl rfl (zT rfl sz40 rfl rfl rfl (qH 0 rfl rfl)) ?_
  rintro _ _ ⟨rfl,rfl⟩
  refine ⟨_,rfl,?_⟩
  refine zAo rfl<|rMv rfl<|zB<|zK<|sReg rfl<|rMv rfl<|zA rfl rfl (qR rfl rfl rfl)<|zB<|zG rfl (fun c2 => ?_) (fun c2 => ?_)
  ·try simp only [sx] at c2
   refine sReg rfl<|zA rfl rfl (qS rfl zr40 pl40 rfl)<|rMv rfl<|zX rfl rfl (zT rfl sz40 rfl rfl rfl (qH 2 rfl rfl))<|rMv rfl<|zB<|zH<|fin2 (qG yA rfl (zE 2 rfl) rfl) (rs_c rfl) ?_
   rw [nodeT_no hx hp c2]; rfl
  ·try simp only [sx] at c2
   refine zJ<|sReg rfl<|zA rfl rfl (zC rfl wA rfl)<|zA rfl rfl (zD rfl zAv rfl (zE 3 rfl) rfl)<|rMv rfl<|zA rfl rfl (zQ rfl el50 rfl rfl (by omega) (zEn (by assumption)))<|zA rfl rfl (zF rfl yR rfl qB rfl)<|zA rfl rfl (zR rfl ok153 (yX x) ⟨VLe.refl _,rfl,trivial⟩)<|zA rfl rfl (qQ rfl rfl)<|zB<|zG rfl (fun c3 => ?_) (fun c3 => ?_)
   ·try simp only [sx] at c3
    refine zS rfl<|rMv rfl<|zA rfl rfl (zF rfl yA rfl (zE 0 rfl) rfl)<|zA rfl rfl (qZ rfl kV zr40 rfl rfl rfl rfl)<|zZ rfl rfl (yM 1 rfl kV rfl rfl rfl (by simp only [List.length_map,List.length_append,List.length_cons,List.length_nil,hll,List.length_take]; omega) (by simp only [List.length_map,List.length_append,List.length_cons,List.length_nil,hll,List.length_take]; omega)) ?_
    rintro _ _ ⟨sv6,rfl,rfl⟩
    refine rMv rfl<|zB<|zS rfl<|rMv rfl<|zA rfl rfl (zY rfl rfl rfl ⟨by omega,by omega⟩)<|rMv rfl<|zB ?_
    refine ⟨⟨k + 1,_⟩,⟨by omega,by rw [zBr hx hp c2]⟩,(by show e.Args.length - (k + 1) < e.Args.length - k; omega),Weak.mk [false,true,true,true,true] ⟨VLe.refl _,VLe.refl _,VLe.refl _,VLe.refl _,VLe.refl _,trivial⟩ (by exact zDr (by rw [zBr hx hp c2,yB hx,zNl hll.symm]; first | (rw [if_pos c3,List.append_nil]) | (rw [if_neg (by rw [c3]; simp),List.map_append]; rfl)))⟩
   ·try simp only [sx] at c3
    refine zJ<|zS rfl<|rMv rfl<|zA rfl rfl (zY rfl rfl rfl ⟨by omega,by omega⟩)<|rMv rfl<|zB ?_
    refine ⟨⟨k + 1,_⟩,⟨by omega,by rw [zBr hx hp c2]⟩,(by show e.Args.length - (k + 1) < e.Args.length - k; omega),Weak.mk [false,true,true,true,true] ⟨VLe.refl _,VLe.refl _,VLe.refl _,VLe.refl _,VLe.refl _,trivial⟩ (by exact zDr (by rw [zBr hx hp c2,yB hx,zNl hll.symm]; first | (rw [if_pos c3,List.append_nil]) | (rw [if_neg (by rw [c3]; simp),List.map_append]; rfl)))⟩
 ·try simp only [sx] at c1
  have hll := zCu _ _ hp
  have hta : e.Args.take k = e.Args := yF (by omega)
  have hT : nodeT (kiN n.Bufs) e = kiF n.Bufs e (nonC (e.Args.take k) (nodeL (kiN n.Bufs) (e.Args.take k)).1):= by have h := nodeT_ok (N := kiN n.Bufs) hta hp; rw [h]; show kiF n.Bufs e (nonC e.Args _) = _; rw [hta]
  refine qM<|zK<|zK<|yC 12 mixed (by kernel_rfl) rfl rfl<|zM rfl rfl (zN rfl rfl)<|zM rfl rfl (yK 0 rfl kV rfl rfl)<|zM rfl rfl (qC rfl rfl rfl)<|zM rfl rfl (zN rfl rfl)<|qI [] rfl rfl rfl rfl gv1 trivial (fun g10_3 => zN rfl rfl) rfl<|qI [(48,_)] rfl rfl rfl rfl gv1 ⟨rfl,rfl,trivial⟩ (fun g10_3 => qU 0 rfl kV rfl rfl rfl (by omega) (by simp only [Lz,cond_true,decide_eq_true_eq,List.length_map] at g10_3 ⊢; omega)) rfl<|qI [(49,_)] rfl rfl rfl rfl gv1 ⟨rfl,rfl,trivial⟩ (fun g10_3 => zF rfl yA rfl (kP 0 rfl (zGa (by simp only [Lz,cond_true,decide_eq_true_eq,List.length_map] at g10_3 ⊢; omega))) rfl) rfl<|qI [] rfl rfl rfl rfl gv1 trivial (fun g10_3 => zN rfl rfl) rfl<|qI [(51,_)] rfl rfl rfl rfl gv1 ⟨rfl,rfl,trivial⟩ (fun g10_3 => qU 0 rfl kV rfl rfl rfl (by omega) (by simp only [Lz,cond_true,decide_eq_true_eq,List.length_map] at g10_3 ⊢; omega)) rfl<|qI [(52,_)] rfl rfl rfl rfl gv1 ⟨rfl,rfl,trivial⟩ (fun g10_3 => zF rfl yA rfl (kP 0 rfl (zGa (by simp only [Lz,cond_true,decide_eq_true_eq,List.length_map] at g10_3 ⊢; omega))) rfl) rfl<|qI [(50,_),(53,_)] rfl rfl rfl rfl gv1 ⟨rfl,rfl,rfl,rfl,trivial⟩ (fun g10_3 => wN rfl fl40 rfl rfl rfl) rfl<|zM rfl rfl (qK rfl rfl rfl (fun h => h) rfl)<|kB<|zB<|zG rfl (fun c4 => ?_) (fun c4 => ?_)
  ·obtain ⟨q1,q2⟩ := ki10_t c4
   refine sReg rfl<|zA rfl rfl (qS rfl zr40 pl40 rfl)<|zX rfl rfl (zT rfl sz40 rfl rfl rfl (qH 1 rfl rfl))<|rMv rfl<|zB<|zH<|fin2 (qG yA rfl (zE 1 rfl) rfl) (rs_c rfl) ?_
   rw [hT]; first | (rw [zCy q1 q2]; rfl) | (rw [zJs hq (by omega)]; rfl) | (rw [zKz hq (by omega)]; rfl) | (rw [zKy hq (by omega)]; rfl) | (rw [zIk hq c9]; rfl) | (rw [zIj hq (by omega) c9]; rfl)
  ·have hq := ki10_f c4
   refine zJ<|zK<|sReg rfl<|zA rfl rfl (zC rfl kG rfl)<|zA rfl rfl (zD rfl one3 rfl (zE 2 rfl) rfl)<|zB<|zO<|zK<|sReg rfl<|zA rfl rfl (qC rfl rfl rfl)<|rMv rfl<|zB<|zG rfl (fun c5 => ?_) (fun c5 => ?_)
   ·try simp only [sx] at c5
    refine zJ<|zG rfl (fun c6 => ?_) (fun c6 => ?_)
    ·try simp only [sx] at c6
     refine sReg rfl<|zA rfl rfl (zC rfl zCa rfl)<|zA rfl rfl (zF rfl yA rfl (zE 2 rfl) rfl)<|zX rfl rfl (zT rfl sz40 rfl rfl rfl (qH 1 rfl rfl))<|rMv rfl<|zB<|zH<|fin2 (qG yA rfl (zE 1 rfl) rfl) (rs_c rfl) ?_
     rw [hT]; first | (rw [zCy q1 q2]; rfl) | (rw [zJs hq (by omega)]; rfl) | (rw [zKz hq (by omega)]; rfl) | (rw [zKy hq (by omega)]; rfl) | (rw [zIk hq c9]; rfl) | (rw [zIj hq (by omega) c9]; rfl)
    ·try simp only [sx] at c6
     refine sReg rfl<|zA rfl rfl (qC rfl rfl rfl)<|rMv rfl<|zB<|zG rfl (fun c7 => ?_) (fun c7 => ?_)
     ·try simp only [sx] at c7
      refine sReg rfl<|zA rfl rfl (qS rfl zr40 pl40 rfl)<|zX rfl rfl (zT rfl sz40 rfl rfl rfl (qH 1 rfl rfl))<|rMv rfl<|zB<|zH<|fin2 (qG yA rfl (zE 1 rfl) rfl) (rs_c rfl) ?_
      rw [hT]; first | (rw [zCy q1 q2]; rfl) | (rw [zJs hq (by omega)]; rfl) | (rw [zKz hq (by omega)]; rfl) | (rw [zKy hq (by omega)]; rfl) | (rw [zIk hq c9]; rfl) | (rw [zIj hq (by omega) c9]; rfl)
     ·try simp only [sx] at c7
      refine sReg rfl<|zA rfl rfl (qC rfl rfl rfl)<|rMv rfl<|zB<|zG rfl (fun c8 => ?_) (fun c8 => ?_)
      ·try simp only [sx] at c8
       refine sReg rfl<|zA rfl rfl (zF rfl wM rfl (zE 3 rfl) rfl)<|zA rfl rfl (zC rfl zCb rfl)<|zA rfl rfl (zD rfl one9 rfl (zE 2 rfl) rfl)<|zA rfl rfl (zR rfl ok30 (zAk n e.Name hn) ⟨VLe.refl _,rfl,VLe.refl _,rfl,trivial⟩)<|zA rfl rfl (qW rfl rfl)<|zA rfl rfl (yO rfl rfl rfl)<|zA rfl rfl (yN rfl rfl rfl)<|zZ rfl rfl (qN [none,none,none,none,none,none,some 1,none] rfl zr42 rfl) ?_
       rintro _ _ ⟨b7,rfl,rfl⟩
       refine zX rfl rfl (zT rfl sz42 rfl rfl rfl (qH 0 rfl rfl))<|rMv rfl<|zB<|sReg rfl<|zA rfl rfl (zC rfl zIo rfl)<|zA rfl rfl (zF rfl yA rfl (zE 0 rfl) rfl)<|zX rfl rfl (zT rfl sz40 rfl rfl rfl (qH 2 rfl rfl))<|rMv rfl<|zB<|zH<|fin2 (qG yA rfl (zE 2 rfl) rfl) (rs_c rfl) ?_
       rw [hT]; first | (rw [zCy q1 q2]; rfl) | (rw [zJs hq (by omega)]; rfl) | (rw [zKz hq (by omega)]; rfl) | (rw [zKy hq (by omega)]; rfl) | (rw [zIk hq c9]; rfl) | (rw [zIj hq (by omega) c9]; rfl)
      ·try simp only [sx] at c8
       refine zJ<|zK<|sReg rfl<|zA rfl rfl (zF rfl yR rfl (zE 2 rfl) rfl)<|zA rfl rfl (zR rfl ok153 (yX e) ⟨VLe.refl _,rfl,trivial⟩)<|zB<|zG rfl (fun c9 => ?_) (fun c9 => ?_)
       ·try simp only [sx] at c9
        refine sReg rfl<|zA rfl rfl (qS rfl zr40 pl40 rfl)<|zX rfl rfl (zT rfl sz40 rfl rfl rfl (qH 1 rfl rfl))<|rMv rfl<|zB<|zH<|fin2 (qG yA rfl (zE 1 rfl) rfl) (rs_c rfl) ?_
        rw [hT]; first | (rw [zCy q1 q2]; rfl) | (rw [zJs hq (by omega)]; rfl) | (rw [zKz hq (by omega)]; rfl) | (rw [zKy hq (by omega)]; rfl) | (rw [zIk hq c9]; rfl) | (rw [zIj hq (by omega) c9]; rfl)
       ·try simp only [sx] at c9
        have hq1 : 1 ≤ (nonC (e.Args.take k) (nodeL (kiN n.Bufs) (e.Args.take k)).1).length:= by have h := ki_one hpart (l := (nodeL (kiN n.Bufs) (e.Args.take k)).1) (by rw [hll,hta]) (by omega) c9; rw [hta]; rw [hta] at h; exact h
        refine zJ<|sReg rfl<|rMv rfl<|zA rfl rfl (qU 0 rfl kV rfl rfl rfl (by omega) (by simp only [List.length_map]; omega))<|zA rfl rfl (zF rfl yA rfl (kP 0 rfl (zGa (by omega))) rfl)<|zX rfl rfl (zT rfl sz40 rfl rfl rfl (qH 1 rfl rfl))<|rMv rfl<|zB<|zH<|fin2 (qG yA rfl (zE 1 rfl) rfl) (rs_c rfl) ?_
        rw [hT]; first | (rw [zCy q1 q2]; rfl) | (rw [zJs hq (by omega)]; rfl) | (rw [zKz hq (by omega)]; rfl) | (rw [zKy hq (by omega)]; rfl) | (rw [zIk hq c9]; rfl) | (rw [zIj hq (by omega) c9]; rfl)
   ·try simp only [sx] at c5
    refine zS rfl<|zA rfl rfl (qC rfl rfl rfl)<|rMv rfl<|zB<|zG rfl (fun c6 => ?_) (fun c6 => ?_)
    ·try simp only [sx] at c6
     refine sReg rfl<|zA rfl rfl (zC rfl zCa rfl)<|zA rfl rfl (zF rfl yA rfl (zE 2 rfl) rfl)<|zX rfl rfl (zT rfl sz40 rfl rfl rfl (qH 1 rfl rfl))<|rMv rfl<|zB<|zH<|fin2 (qG yA rfl (zE 1 rfl) rfl) (rs_c rfl) ?_
     rw [hT]; first | (rw [zCy q1 q2]; rfl) | (rw [zJs hq (by omega)]; rfl) | (rw [zKz hq (by omega)]; rfl) | (rw [zKy hq (by omega)]; rfl) | (rw [zIk hq c9]; rfl) | (rw [zIj hq (by omega) c9]; rfl)
    ·try simp only [sx] at c6
     refine sReg rfl<|zA rfl rfl (qC rfl rfl rfl)<|rMv rfl<|zB<|zG rfl (fun c7 => ?_) (fun c7 => ?_)
     ·try simp only [sx] at c7
      refine sReg rfl<|zA rfl rfl (qS rfl zr40 pl40 rfl)<|zX rfl rfl (zT rfl sz40 rfl rfl rfl (qH 1 rfl rfl))<|rMv rfl<|zB<|zH<|fin2 (qG yA rfl (zE 1 rfl) rfl) (rs_c rfl) ?_
      rw [hT]; first | (rw [zCy q1 q2]; rfl) | (rw [zJs hq (by omega)]; rfl) | (rw [zKz hq (by omega)]; rfl) | (rw [zKy hq (by omega)]; rfl) | (rw [zIk hq c9]; rfl) | (rw [zIj hq (by omega) c9]; rfl)
     ·try simp only [sx] at c7
      refine sReg rfl<|zA rfl rfl (qC rfl rfl rfl)<|rMv rfl<|zB<|zG rfl (fun c8 => ?_) (fun c8 => ?_)
      ·try simp only [sx] at c8
       refine sReg rfl<|zA rfl rfl (zF rfl wM rfl (zE 3 rfl) rfl)<|zA rfl rfl (zC rfl zCb rfl)<|zA rfl rfl (zD rfl one9 rfl (zE 2 rfl) rfl)<|zA rfl rfl (zR rfl ok30 (zAk n e.Name hn) ⟨VLe.refl _,rfl,VLe.refl _,rfl,trivial⟩)<|zA rfl rfl (qW rfl rfl)<|zA rfl rfl (yO rfl rfl rfl)<|zA rfl rfl (yN rfl rfl rfl)<|zZ rfl rfl (qN [none,none,none,none,none,none,some 1,none] rfl zr42 rfl) ?_
       rintro _ _ ⟨b8,rfl,rfl⟩
       refine zX rfl rfl (zT rfl sz42 rfl rfl rfl (qH 0 rfl rfl))<|rMv rfl<|zB<|sReg rfl<|zA rfl rfl (zC rfl zIo rfl)<|zA rfl rfl (zF rfl yA rfl (zE 0 rfl) rfl)<|zX rfl rfl (zT rfl sz40 rfl rfl rfl (qH 2 rfl rfl))<|rMv rfl<|zB<|zH<|fin2 (qG yA rfl (zE 2 rfl) rfl) (rs_c rfl) ?_
       rw [hT]; first | (rw [zCy q1 q2]; rfl) | (rw [zJs hq (by omega)]; rfl) | (rw [zKz hq (by omega)]; rfl) | (rw [zKy hq (by omega)]; rfl) | (rw [zIk hq c9]; rfl) | (rw [zIj hq (by omega) c9]; rfl)
      ·try simp only [sx] at c8
       refine zJ<|zK<|sReg rfl<|zA rfl rfl (zF rfl yR rfl (zE 2 rfl) rfl)<|zA rfl rfl (zR rfl ok153 (yX e) ⟨VLe.refl _,rfl,trivial⟩)<|zB<|zG rfl (fun c9 => ?_) (fun c9 => ?_)
       ·try simp only [sx] at c9
        refine sReg rfl<|zA rfl rfl (qS rfl zr40 pl40 rfl)<|zX rfl rfl (zT rfl sz40 rfl rfl rfl (qH 1 rfl rfl))<|rMv rfl<|zB<|zH<|fin2 (qG yA rfl (zE 1 rfl) rfl) (rs_c rfl) ?_
        rw [hT]; first | (rw [zCy q1 q2]; rfl) | (rw [zJs hq (by omega)]; rfl) | (rw [zKz hq (by omega)]; rfl) | (rw [zKy hq (by omega)]; rfl) | (rw [zIk hq c9]; rfl) | (rw [zIj hq (by omega) c9]; rfl)
       ·try simp only [sx] at c9
        have hq1 : 1 ≤ (nonC (e.Args.take k) (nodeL (kiN n.Bufs) (e.Args.take k)).1).length:= by have h := ki_one hpart (l := (nodeL (kiN n.Bufs) (e.Args.take k)).1) (by rw [hll,hta]) (by omega) c9; rw [hta]; rw [hta] at h; exact h
        refine zJ<|sReg rfl<|rMv rfl<|zA rfl rfl (qU 0 rfl kV rfl rfl rfl (by omega) (by simp only [List.length_map]; omega))<|zA rfl rfl (zF rfl yA rfl (kP 0 rfl (zGa (by omega))) rfl)<|zX rfl rfl (zT rfl sz40 rfl rfl rfl (qH 1 rfl rfl))<|rMv rfl<|zB<|zH<|fin2 (qG yA rfl (zE 1 rfl) rfl) (rs_c rfl) ?_
        rw [hT]; first | (rw [zCy q1 q2]; rfl) | (rw [zJs hq (by omega)]; rfl) | (rw [zKz hq (by omega)]; rfl) | (rw [zKy hq (by omega)]; rfl) | (rw [zIk hq c9]; rfl) | (rw [zIj hq (by omega) c9]; rfl)
theorem ref30_Kind (n : Ns) (e : Ex) (hn : n.Ok) (hpart : partE e = 0) (he : e.wt ≤ 1073741824) : Pur cfg 188 [vNs n,vE e] (.tup [vTy (nodeT (kiN n.Bufs) e).1,vI (nodeT (kiN n.Bufs) e).2]):= by
  induction e using Ex.ind with
  | _ e ih => exact zNc n hn e (fun a ha h1 h2 => ih a ha h1 h2) hpart he
theorem zDm (n : Ns) (bd : List Bd) (e : Ex) (hn : n.Ok) (hb : bd.length ≤ 1000000) (he : e.wt ≤ 1000000) :
    Pur cfg 152 [vNs n,vBds bd,vE e] (.tup [vTy (exprT n.Bufs (bd.map Bd.Name) e).1,vI (exprT n.Bufs (bd.map Bd.Name) e).2]):= by
 refine zU Tryz.func152 rfl Tryz.ntmps152 Tryz.results152 rfl ?_
 intro z hz
 have hnl := nodes_wt e
 refine sReg rfl<|zZ rfl rfl (qL rfl rfl) ?_
 rintro _ _ ⟨b1,rfl,rfl⟩
 refine zZ rfl rfl (qL rfl rfl) ?_
 rintro _ _ ⟨b2,rfl,rfl⟩
 refine zZ rfl rfl (yL rfl zr40) ?_
 rintro _ _ ⟨b3,rfl,rfl⟩
 refine rMv rfl<|zB<|zK<|sReg rfl<|zA rfl rfl (zF rfl yR rfl (zE 1 rfl) rfl)<|zA rfl rfl (zR rfl ok186 (ref14_Validate e (by omega)) ⟨VLe.refl _,rfl,trivial⟩)<|rMv rfl<|zB<|sReg rfl<|rMv rfl<|zA rfl rfl (qR rfl rfl rfl)<|zB<|zG rfl (fun c1 => ?_) (fun c1 => ?_)
 ·try simp only [sx] at c1
  refine sReg rfl<|zA rfl rfl (qS rfl zr40 pl40 rfl)<|rMv rfl<|zX rfl rfl (zT rfl sz40 rfl rfl rfl (qH 0 rfl rfl))<|rMv rfl<|zB<|zH<|fin2 (qG yA rfl (zE 0 rfl) rfl) (rs_c rfl) ?_
  rw [exprT_1 c1]; rfl
 ·try simp only [sx] at c1
  refine zJ<|sReg rfl<|zA rfl rfl (zF rfl yR rfl (zE 1 rfl) rfl)<|zA rfl rfl (zR rfl ok119 (OwnR.pur (ref14_All e (by omega))) ⟨VLe.refl _,rfl,trivial⟩)<|rMv rfl<|zB<|zK<|sReg rfl<|rMv rfl<|zB<|zO<|zV ⟨[(10,.c _),(1,.c _),(3,.c _),(5,.c _),(6,.c _),(9,.c _)],[_,_,_]⟩ (Weak.mk [true,true,true] ⟨VLe.of_eq rfl,VLe.of_eq rfl,VLe.of_eq rfl,VLe.of_eq rfl,VLe.of_eq rfl,VLe.of_eq rfl,trivial⟩ rfl)<|qF 1 0 rfl rfl (Nat) (fun k => [(10,vI k)]) (fun k => []) (fun k => k ≤ (nodes e).length ∧ (nodesN n.Bufs (bd.map Bd.Name) (nodes e) = nodesN n.Bufs (bd.map Bd.Name) ((nodes e).drop k))) (fun k => (nodes e).length - k) ⟨0,⟨by omega,rfl⟩,Weak.mk [true,true,true] ⟨VLe.refl _,VLe.refl _,VLe.refl _,VLe.refl _,VLe.refl _,VLe.refl _,trivial⟩ rfl⟩ ?_
  rintro k ⟨hk,hp⟩
  refine zK<|sReg rfl<|rMv rfl<|rMv rfl<|zA rfl rfl (zP rfl el50 rfl)<|zA rfl rfl (qJ rfl rfl rfl)<|zB<|zG rfl (fun c2 => ?_) (fun c2 => ?_)
  ·try simp only [sx] at c2
   obtain ⟨x,hx⟩ := qT (nodes e) k (by omega)
   refine zJ<|zK<|zO<|zK<|yC 8 mixed (by kernel_rfl) rfl rfl<|zM rfl rfl (zF rfl wM rfl (zE 2 rfl) rfl)<|zM rfl rfl (zN rfl rfl)<|zM rfl rfl (zN rfl rfl)<|zM rfl rfl (zN rfl rfl)<|zM rfl rfl (zQ rfl el50 rfl rfl (by omega) (zEn (by assumption)))<|zM rfl rfl (zF rfl yR rfl qB rfl)<|zM rfl rfl (zR rfl ok187 (ref30_node n bd x hn hb (by have := zBv e x (qE hx); omega)) ⟨VLe.refl _,rfl,VLe.refl _,rfl,VLe.refl _,rfl,trivial⟩)<|zM rfl rfl (yE rfl rfl)<|kB<|zB<|sReg rfl<|rMv rfl<|zA rfl rfl (qR rfl rfl rfl)<|zB<|zG rfl (fun c3 => ?_) (fun c3 => ?_)
   ·try simp only [sx] at c3
    refine sReg rfl<|zA rfl rfl (qS rfl zr40 pl40 rfl)<|rMv rfl<|zX rfl rfl (zT rfl sz40 rfl rfl rfl (qH 0 rfl rfl))<|rMv rfl<|zB<|zH<|fin2 (qG yA rfl (zE 0 rfl) rfl) (rs_c rfl) ?_
    rw [exprT_2 c1 (by rw [hp,nodesN_no hx c3]; exact c3),hp,nodesN_no hx c3]; rfl
   ·try simp only [sx] at c3
    refine zJ<|zS rfl<|rMv rfl<|zA rfl rfl (zY rfl rfl rfl ⟨by omega,by omega⟩)<|rMv rfl<|zB ?_
    refine ⟨k + 1,⟨by omega,hp.trans (nodesN_at hx c3)⟩,(by omega),Weak.mk [true,true,true] ⟨VLe.refl _,VLe.refl _,VLe.refl _,VLe.refl _,VLe.refl _,VLe.refl _,trivial⟩ rfl⟩
  ·try simp only [sx] at c2
   refine qM<|sReg rfl<|zA rfl rfl (zF rfl wM rfl (zE 2 rfl) rfl)<|zA rfl rfl (zF rfl yR rfl (zE 1 rfl) rfl)<|zA rfl rfl (zR rfl ok188 (ref30_Kind n e hn (zCr c1) (by omega)) ⟨VLe.refl _,rfl,VLe.refl _,rfl,trivial⟩)<|zA rfl rfl (yO rfl rfl rfl)<|zA rfl rfl (yN rfl rfl rfl)<|zX rfl rfl (zT rfl sz40 rfl rfl rfl (qH 0 rfl rfl))<|rMv rfl<|zB<|zH<|fin2 (qG yA rfl (zE 0 rfl) rfl) (rs_c rfl) ?_
   rw [exprT_k c1 (by rw [hp,yY (by omega)]; rfl)]; rfl
theorem ref30_plain (s : St) (hs : s.wt ≤ 900000000) :
    Pur cfg 151 [vSt s] (vB (synSt s)):= by
 refine zU Tryz.func151 rfl Tryz.ntmps151 Tryz.results151 rfl ?_
 intro z hz
 obtain ⟨hE,hI,hIw,hB,hBw⟩ := St.parts hs
 refine sReg rfl<|zZ rfl rfl (qL rfl rfl) ?_
 rintro _ _ ⟨b1,rfl,rfl⟩
 refine rMv rfl<|zB<|zK<|yC 8 mixed (by kernel_rfl) rfl rfl<|zM rfl rfl (zC rfl zAt rfl)<|zM rfl rfl (zD rfl one3 rfl (zE 0 rfl) rfl)<|zM rfl rfl (qC rfl rfl rfl)<|zM rfl rfl (zC rfl zAt rfl)<|zM rfl rfl (zD rfl one3 rfl (zE 0 rfl) rfl)<|zM rfl rfl (qC rfl rfl rfl)<|zM rfl rfl (yE rfl rfl)<|zM rfl rfl (yE rfl rfl)<|kB<|zB<|sReg rfl<|zA rfl rfl (zC rfl zAt rfl)<|zA rfl rfl (zD rfl one3 rfl (zE 0 rfl) rfl)<|zA rfl rfl (qC rfl rfl rfl)<|rMv rfl<|rLz [] rfl gv1 trivial (fun g2_3 => zC rfl zAt rfl) rfl<|rLz [(16,_)] rfl gv1 ⟨rfl,rfl,trivial⟩ (fun g2_3 => zD rfl one3 rfl (zE 0 rfl) rfl) rfl<|rLz [(17,_)] rfl gv1 ⟨rfl,rfl,trivial⟩ (fun g2_3 => qC rfl rfl rfl) rfl<|zA rfl rfl (qY rfl rfl rfl rfl (fun h => (lzf h)))<|rMv rfl<|zB<|zK<|sReg rfl<|rMv rfl<|zA rfl rfl (qQ rfl rfl)<|rMv rfl<|rLz [] rfl gv1 trivial (fun g3_2 => zN rfl rfl) rfl<|rLz [(23,_)] rfl gv1 ⟨rfl,rfl,trivial⟩ (fun g3_2 => qQ rfl rfl) rfl<|zA rfl rfl (qK rfl rfl rfl (fun h => h) rfl)<|rMv rfl<|rLz [] rfl gv1 trivial (fun g3_6 => zN rfl rfl) rfl<|rLz [(27,_)] rfl gv1 ⟨rfl,rfl,trivial⟩ (fun g3_6 => qQ rfl rfl) rfl<|zA rfl rfl (qK rfl rfl rfl (fun h => h) rfl)<|zB<|zG rfl (fun c1 => ?_) (fun c1 => ?_)
 ·refine sReg rfl<|rMv rfl<|zB<|zH<|fin1 (rs_c rfl) ?_
  exact congrArg vB (pln_1 c1)
 ·refine zJ<|zK<|sReg rfl<|rMv rfl<|zA rfl rfl (qQ rfl rfl)<|rMv rfl<|rLz [] rfl gv1 trivial (fun g5_2 => zC rfl zKn rfl) rfl<|rLz [(33,_)] rfl gv1 ⟨rfl,rfl,trivial⟩ (fun g5_2 => zD rfl one3 rfl (zE 0 rfl) rfl) rfl<|rLz [(34,_)] rfl gv1 ⟨rfl,rfl,trivial⟩ (fun g5_2 => qR rfl rfl rfl) rfl<|rLz [(35,_)] rfl gv1 ⟨rfl,rfl,trivial⟩ (fun g5_2 => zN rfl rfl) rfl<|rLz [] rfl gv2 trivial (fun g5_6 => zC rfl fd54_3 rfl) rfl<|rLz [(37,_)] rfl gv2 ⟨rfl,rfl,trivial⟩ (fun g5_6 => zD rfl one3 rfl (zE 0 rfl) rfl) rfl<|rLz [(38,_)] rfl gv2 ⟨rfl,rfl,trivial⟩ (fun g5_6 => qR rfl rfl rfl) rfl<|rLz [(36,_)] rfl gv1 ⟨rfl,rfl,trivial⟩ (fun g5_2 => qY rfl rfl rfl rfl (fun h => yP (by assumption) (lzf h))) rfl<|zA rfl rfl (qK rfl rfl rfl (fun h => h) rfl)<|rMv rfl<|rLz [] rfl gv1 trivial (fun g5_12 => zC rfl zAt rfl) rfl<|rLz [(43,_)] rfl gv1 ⟨rfl,rfl,trivial⟩ (fun g5_12 => zD rfl one3 rfl (zE 0 rfl) rfl) rfl<|rLz [(44,_)] rfl gv1 ⟨rfl,rfl,trivial⟩ (fun g5_12 => qR rfl rfl rfl) rfl<|rLz [(45,_)] rfl gv1 ⟨rfl,rfl,trivial⟩ (fun g5_12 => zN rfl rfl) rfl<|rLz [] rfl gv2 trivial (fun g5_16 => zC rfl fd54_4 rfl) rfl<|rLz [(47,_)] rfl gv2 ⟨rfl,rfl,trivial⟩ (fun g5_16 => zD rfl one3 rfl (zE 0 rfl) rfl) rfl<|rLz [(48,_)] rfl gv2 ⟨rfl,rfl,trivial⟩ (fun g5_16 => qR rfl rfl rfl) rfl<|rLz [(46,_)] rfl gv1 ⟨rfl,rfl,trivial⟩ (fun g5_12 => qK rfl rfl rfl (fun h => yP (by assumption) h) rfl) rfl<|zA rfl rfl (qY rfl rfl rfl rfl (fun h => (lzf h)))<|rMv rfl<|rLz [] rfl gv1 trivial (fun g5_22 => zN rfl rfl) rfl<|rLz [(53,_)] rfl gv1 ⟨rfl,rfl,trivial⟩ (fun g5_22 => zN rfl rfl) rfl<|rLz [] rfl gv2 trivial (fun g5_24 => zC rfl zAl rfl) rfl<|rLz [(55,_)] rfl gv2 ⟨rfl,rfl,trivial⟩ (fun g5_24 => zD rfl one9 rfl (zE 0 rfl) rfl) rfl<|rLz [(56,_)] rfl gv2 ⟨rfl,rfl,trivial⟩ (fun g5_24 => zBm rfl rfl rfl) rfl<|rLz [(54,_)] rfl gv1 ⟨rfl,rfl,trivial⟩ (fun g5_22 => qK rfl rfl rfl (fun h => yP (by assumption) h) rfl) rfl<|zA rfl rfl (qY rfl rfl rfl rfl (fun h => (lzf h)))<|zB<|zG rfl (fun c2 => ?_) (fun c2 => ?_)
  ·refine sReg rfl<|rMv rfl<|zB<|zH<|fin1 (rs_c rfl) ?_
   exact congrArg vB (pln_2 c2)
  ·refine zJ<|zK<|sReg rfl<|rMv rfl<|zA rfl rfl (qQ rfl rfl)<|rMv rfl<|rLz [] rfl gv1 trivial (fun g7_2 => zC rfl zGu rfl) rfl<|rLz [(63,_)] rfl gv1 ⟨rfl,rfl,trivial⟩ (fun g7_2 => zD rfl kK rfl (zE 0 rfl) rfl) rfl<|rLz [(64,_)] rfl gv1 ⟨rfl,rfl,trivial⟩ (fun g7_2 => zP rfl el44 rfl) rfl<|rLz [(65,_)] rfl gv1 ⟨rfl,rfl,trivial⟩ (fun g7_2 => qX rfl rfl rfl) rfl<|zA rfl rfl (qK rfl rfl rfl (fun h => h) rfl)<|rMv rfl<|rLz [] rfl gv1 trivial (fun g7_8 => zN rfl rfl) rfl<|rLz [(69,_)] rfl gv1 ⟨rfl,rfl,trivial⟩ (fun g7_8 => zN rfl rfl) rfl<|rLz [] rfl gv2 trivial (fun g7_10 => zC rfl zBk rfl) rfl<|rLz [(71,_)] rfl gv2 ⟨rfl,rfl,trivial⟩ (fun g7_10 => zD rfl zAx rfl (zE 0 rfl) rfl) rfl<|rLz [(72,_)] rfl gv2 ⟨rfl,rfl,trivial⟩ (fun g7_10 => zP rfl el23 rfl) rfl<|rLz [(73,_)] rfl gv2 ⟨rfl,rfl,trivial⟩ (fun g7_10 => qX rfl rfl rfl) rfl<|rLz [(70,_)] rfl gv1 ⟨rfl,rfl,trivial⟩ (fun g7_8 => qK rfl rfl rfl (fun h => yP (by assumption) h) rfl) rfl<|zA rfl rfl (qY rfl rfl rfl rfl (fun h => (lzf h)))<|zB<|zG rfl (fun c3 => ?_) (fun c3 => ?_)
   ·refine sReg rfl<|rMv rfl<|zB<|zH<|fin1 (rs_c rfl) ?_
    exact congrArg vB (pln_3 c3)
   ·refine zJ<|sReg rfl<|rMv rfl<|zA rfl rfl (qQ rfl rfl)<|rMv rfl<|rLz [] rfl gv1 trivial (fun g9_2 => zC rfl zBz rfl) rfl<|rLz [(80,_)] rfl gv1 ⟨rfl,rfl,trivial⟩ (fun g9_2 => zF rfl yR rfl (zE 0 rfl) rfl) rfl<|rLz [] rfl gv1 trivial (fun g9_2 => kO [none,none,none,none,none,none,none,none,none,none,some 2,some 4,some 13] rfl zr52 pl52 rfl rfl) rfl<|rLz [(81,_),(82,_)] rfl gv1 ⟨rfl,rfl,rfl,rfl,trivial⟩ (fun g9_2 => zR rfl ok82 (base_Expr s.E zEx (by omega)) ⟨VLe.refl _,rfl,VLe.refl _,rfl,trivial⟩) rfl<|zA rfl rfl (qY rfl rfl rfl rfl (fun h => (lzf h)))<|rMv rfl<|zB<|zH<|fin1 (rs_c rfl) ?_
    exact congrArg vB (pln_4 c1 c2 c3)
theorem ref30_store (n : Ns) (bd : List Bd) (s : St) (hn : n.Ok) (hb : bd.length ≤ 1000000) (hs : s.wt ≤ 900000) :
    Pur cfg 154 [vNs n,vBds bd,vSt s] (vI (storeE n.Bufs (bd.map Bd.Name) s)):= by
 refine zU Tryz.func154 rfl Tryz.ntmps154 Tryz.results154 rfl ?_
 intro z hz
 obtain ⟨hE,hI,hIw,hB,hBw⟩ := St.parts hs
 have hrd := rdE_wt s
 refine sReg rfl<|zZ rfl rfl (qL rfl rfl) ?_
 rintro _ _ ⟨b1,rfl,rfl⟩
 refine zZ rfl rfl (qL rfl rfl) ?_
 rintro _ _ ⟨b2,rfl,rfl⟩
 refine rMv rfl<|zB<|zK<|sReg rfl<|zA rfl rfl (zF rfl wM rfl (zE 1 rfl) rfl)<|rMv rfl<|zA rfl rfl (zC rfl zAl rfl)<|zA rfl rfl (zD rfl one9 rfl (zE 0 rfl) rfl)<|zA rfl rfl (zC rfl zGu rfl)<|zA rfl rfl (zD rfl kK rfl (zE 0 rfl) rfl)<|zA rfl rfl (kO [none,none,none,none,none,none,none,none,none,none,some 2,none,some 13] rfl zr52 pl52 rfl rfl)<|zA rfl rfl (zR rfl ok152 (zDm n bd (rdE s) hn hb (by omega)) ⟨VLe.refl _,rfl,VLe.refl _,rfl,VLe.refl _,rfl,trivial⟩)<|zA rfl rfl (qW rfl rfl)<|zA rfl rfl (yO rfl rfl rfl)<|zA rfl rfl (yN rfl rfl rfl)<|zZ rfl rfl (yL rfl zr40) ?_
 rintro _ _ ⟨b3,rfl,rfl⟩
 refine zX rfl rfl (zT rfl sz40 rfl rfl rfl (qH 0 rfl rfl))<|rMv rfl<|zB<|sReg rfl<|rMv rfl<|zA rfl rfl (qR rfl rfl rfl)<|zB<|zG rfl (fun c1 => ?_) (fun c1 => ?_)
 ·try simp only [sx] at c1
  refine sReg rfl<|rMv rfl<|rMv rfl<|zB<|zH<|fin1 (rs_c rfl) ?_
  rw [zLf c1]
 ·try simp only [sx] at c1
  refine zJ<|sReg rfl<|zA rfl rfl (zF rfl wM rfl (zE 2 rfl) rfl)<|zA rfl rfl (zC rfl zAl rfl)<|zA rfl rfl (zD rfl one9 rfl (zE 1 rfl) rfl)<|zA rfl rfl (zR rfl ok30 (zAk n s.Name hn) ⟨VLe.refl _,rfl,VLe.refl _,rfl,trivial⟩)<|zA rfl rfl (qW rfl rfl)<|zA rfl rfl (yO rfl rfl rfl)<|zA rfl rfl (yN rfl rfl rfl)<|zZ rfl rfl (qN [none,none,none,none,none,none,some 1,none] rfl zr42 rfl) ?_
  rintro _ _ ⟨b4,rfl,rfl⟩
  refine zX rfl rfl (zT rfl sz42 rfl rfl rfl (qH 0 rfl rfl))<|rMv rfl<|zB<|zK<|sReg rfl<|zA rfl rfl (zC rfl zOg rfl)<|zA rfl rfl (zD rfl one3 rfl (zE 0 rfl) rfl)<|zA rfl rfl (qC rfl rfl rfl)<|rMv rfl<|rLz [] rfl gv1 trivial (fun g5_3 => zC rfl zAt rfl) rfl<|rLz [(38,_)] rfl gv1 ⟨rfl,rfl,trivial⟩ (fun g5_3 => zD rfl one3 rfl (zE 2 rfl) rfl) rfl<|rLz [(39,_)] rfl gv1 ⟨rfl,rfl,trivial⟩ (fun g5_3 => qC rfl rfl rfl) rfl<|rLz [(40,_)] rfl gv1 ⟨rfl,rfl,trivial⟩ (fun g5_3 => zN rfl rfl) rfl<|rLz [] rfl gv2 trivial (fun g5_7 => zC rfl fd54_4 rfl) rfl<|rLz [(42,_)] rfl gv2 ⟨rfl,rfl,trivial⟩ (fun g5_7 => zD rfl one3 rfl (zE 2 rfl) rfl) rfl<|rLz [(43,_)] rfl gv2 ⟨rfl,rfl,trivial⟩ (fun g5_7 => qJ rfl rfl rfl) rfl<|rLz [(44,_)] rfl gv2 ⟨rfl,rfl,trivial⟩ (fun g5_7 => zN rfl rfl) rfl<|rLz [] rfl gv2 trivial (fun g5_11 => zC rfl fd54_4 rfl) rfl<|rLz [(46,_)] rfl gv2 ⟨rfl,rfl,trivial⟩ (fun g5_11 => zD rfl one3 rfl (zE 2 rfl) rfl) rfl<|rLz [(47,_)] rfl gv2 ⟨rfl,rfl,trivial⟩ (fun g5_11 => qX rfl rfl rfl) rfl<|rLz [(45,_)] rfl gv2 ⟨rfl,rfl,trivial⟩ (fun g5_7 => qY rfl rfl rfl rfl (fun h => yP (by assumption) (lzf h))) rfl<|rLz [(41,_)] rfl gv1 ⟨rfl,rfl,trivial⟩ (fun g5_3 => qK rfl rfl rfl (fun h => yP (by assumption) h) rfl) rfl<|zA rfl rfl (qY rfl rfl rfl rfl (fun h => (lzf h)))<|zB<|zG rfl (fun c2 => ?_) (fun c2 => ?_)
  ·try simp only [sx] at c2
   refine sReg rfl<|rMv rfl<|zB<|zH<|fin1 (rs_c rfl) ?_
   rw [zHu c1 c2]
  ·try simp only [sx] at c2
   refine zJ<|sReg rfl<|zA rfl rfl (zF rfl wM rfl (zE 3 rfl) rfl)<|rMv rfl<|zA rfl rfl (zC rfl zBz rfl)<|zA rfl rfl (zF rfl yR rfl (zE 2 rfl) rfl)<|zA rfl rfl (zR rfl ok152 (zDm n bd s.E hn hb (by omega)) ⟨VLe.refl _,rfl,VLe.refl _,rfl,VLe.refl _,rfl,trivial⟩)<|zA rfl rfl (qW rfl rfl)<|zA rfl rfl (yO rfl rfl rfl)<|zA rfl rfl (yN rfl rfl rfl)<|zZ rfl rfl (yL rfl zr40) ?_
   rintro _ _ ⟨b5,rfl,rfl⟩
   refine zX rfl rfl (zT rfl sz40 rfl rfl rfl (qH 0 rfl rfl))<|rMv rfl<|zB<|zK<|sReg rfl<|rMv rfl<|zA rfl rfl (qC rfl rfl rfl)<|rMv rfl<|rLz [] rfl gv1 trivial (fun g8_2 => zC rfl zBz rfl) rfl<|rLz [(63,_)] rfl gv1 ⟨rfl,rfl,trivial⟩ (fun g8_2 => zF rfl yR rfl (zE 3 rfl) rfl) rfl<|rLz [(64,_)] rfl gv1 ⟨rfl,rfl,trivial⟩ (fun g8_2 => zR rfl ok153 (yX _) ⟨VLe.refl _,rfl,trivial⟩) rfl<|rLz [(65,_)] rfl gv1 ⟨rfl,rfl,trivial⟩ (fun g8_2 => zN rfl rfl) rfl<|rLz [] rfl gv2 trivial (fun g8_6 => zF rfl yA rfl (zE 0 rfl) rfl) rfl<|rLz [] rfl gv2 trivial (fun g8_6 => zC rfl zIo rfl) rfl<|rLz [(68,_)] rfl gv2 ⟨rfl,rfl,trivial⟩ (fun g8_6 => zF rfl yA rfl (zE 1 rfl) rfl) rfl<|rLz [(67,_),(69,_)] rfl gv2 ⟨rfl,rfl,rfl,rfl,trivial⟩ (fun g8_6 => wN rfl fl40 rfl rfl rfl) rfl<|rLz [(66,_)] rfl gv1 ⟨rfl,rfl,trivial⟩ (fun g8_2 => qY rfl rfl rfl rfl (fun h => yP (by assumption) (lzf h))) rfl<|zA rfl rfl (qK rfl rfl rfl (fun h => h) rfl)<|zB<|zG rfl (fun c3 => ?_) (fun c3 => ?_)
   ·obtain ⟨h0,h10⟩ := st3_t c3
    refine sReg rfl<|rMv rfl<|zB<|zH<|fin1 (rs_c rfl) ?_
    rw [zMk c1 (by omega) h0 h10]
   ·have h3 := st3_f c3
    refine zJ<|sReg rfl<|rMv rfl<|rMv rfl<|zB<|zH<|fin1 (rs_c rfl) ?_
    rw [st_fin c1 (by omega) h3]
theorem ref30_one (n : Ns) (bd : List Bd) (U : List ByteArray) (s : St) (hn : n.Ok) (hb : bd.length ≤ 1000000) (hs : s.wt ≤ 900000) (hU : U.length ≤ 1000000) :
    Pur cfg 114 [vNs n,vBds bd,vSs U,vSt s] (vI (stE n.Bufs U (bd.map Bd.Name) s)):= by
 refine zU Tryz.func114 rfl Tryz.ntmps114 Tryz.results114 rfl ?_
 intro z hz
 obtain ⟨hE,hI,hIw,hB,hBw⟩ := St.parts hs
 refine sReg rfl<|zZ rfl rfl (qL rfl rfl) ?_
 rintro _ _ ⟨b1,rfl,rfl⟩
 refine zZ rfl rfl (qL rfl rfl) ?_
 rintro _ _ ⟨b2,rfl,rfl⟩
 refine rMv rfl<|zB<|zK<|sReg rfl<|zA rfl rfl (zF rfl zKd rfl (zE 0 rfl) rfl)<|zA rfl rfl (zR rfl ok151 (ref30_plain s (by omega)) ⟨VLe.refl _,rfl,trivial⟩)<|zA rfl rfl (qQ rfl rfl)<|zB<|zG rfl (fun c1 => ?_) (fun c1 => ?_)
 ·try simp only [sx] at c1
  refine sReg rfl<|rMv rfl<|zB<|zH<|fin1 (rs_c rfl) ?_
  rw [stE_5 c1]
 ·try simp only [sx] at c1
  refine zJ<|zK<|sReg rfl<|zA rfl rfl (zC rfl zAt rfl)<|zA rfl rfl (zD rfl one3 rfl (zE 0 rfl) rfl)<|zB<|zO<|sReg rfl<|zA rfl rfl (qC rfl rfl rfl)<|rMv rfl<|zB<|zG rfl (fun c2 => ?_) (fun c2 => ?_)
  ·try simp only [sx] at c2
   refine sReg rfl<|zA rfl rfl (zF rfl wM rfl (zE 1 rfl) rfl)<|zA rfl rfl (zC rfl zAl rfl)<|zA rfl rfl (zD rfl one9 rfl (zE 0 rfl) rfl)<|zA rfl rfl (zR rfl ok30 (zAk n s.Name hn) ⟨VLe.refl _,rfl,VLe.refl _,rfl,trivial⟩)<|zA rfl rfl (qW rfl rfl)<|zA rfl rfl (yO rfl rfl rfl)<|zA rfl rfl (yN rfl rfl rfl)<|zZ rfl rfl (qN [none,none,none,none,none,none,some 1,none] rfl zr42 rfl) ?_
   rintro _ _ ⟨b3,rfl,rfl⟩
   refine zX rfl rfl (zT rfl sz42 rfl rfl rfl (qH 0 rfl rfl))<|rMv rfl<|zB<|zK<|zO<|sReg rfl<|zA rfl rfl (zC rfl zAl rfl)<|zA rfl rfl (zD rfl one9 rfl (zE 1 rfl) rfl)<|zA rfl rfl (zR rfl ok50 (zFv s.Name) ⟨VLe.refl _,rfl,trivial⟩)<|zA rfl rfl (qQ rfl rfl)<|rMv rfl<|zB<|zG rfl (fun c3 => ?_) (fun c3 => ?_)
   ·try simp only [sx] at c3
    refine sReg rfl<|rMv rfl<|zB<|zH<|fin1 (rs_c rfl) ?_
    rw [stE_l c1 c2,loopE_7 c3]
   ·try simp only [sx] at c3
    refine sReg rfl<|rMv rfl<|rMv rfl<|rLz [] rfl gv1 trivial (fun g8_1 => zN rfl rfl) rfl<|rLz [] rfl gv1 trivial (fun g8_1 => zC rfl zAl rfl) rfl<|rLz [(36,_)] rfl gv1 ⟨rfl,rfl,trivial⟩ (fun g8_1 => zD rfl one9 rfl (zE 1 rfl) rfl) rfl<|rLz [(35,_),(37,_)] rfl gv1 ⟨rfl,rfl,rfl,rfl,trivial⟩ (fun g8_1 => zR rfl ok49 (base_Has U s.Name (by omega)) ⟨VLe.refl _,rfl,VLe.refl _,rfl,trivial⟩) rfl<|zA rfl rfl (qY rfl rfl rfl rfl (fun h => (lzf h)))<|rMv rfl<|zB<|zG rfl (fun c4 => ?_) (fun c4 => ?_)
    ·try simp only [sx] at c4
     refine sReg rfl<|rMv rfl<|zB<|zH<|fin1 (rs_c rfl) ?_
     rw [stE_l c1 c2,loopE_8 c3 c4]
    ·try simp only [sx] at c4
     have h8 : ¬ (hasBf n.Bufs s.Name = true ∨ hasB U s.Name = true):= by rw [c4.1,c4.2]; simp
     refine sReg rfl<|zA rfl rfl (zC rfl zKn rfl)<|zA rfl rfl (zD rfl one3 rfl (zE 1 rfl) rfl)<|zA rfl rfl (qJ rfl rfl rfl)<|rMv rfl<|rLz [] rfl gv1 trivial (fun g10_3 => zC rfl zKn rfl) rfl<|rLz [(45,_)] rfl gv1 ⟨rfl,rfl,trivial⟩ (fun g10_3 => zD rfl one3 rfl (zE 1 rfl) rfl) rfl<|rLz [(46,_)] rfl gv1 ⟨rfl,rfl,trivial⟩ (fun g10_3 => qX rfl rfl rfl) rfl<|zA rfl rfl (qY rfl rfl rfl rfl (fun h => (lzf h)))<|rMv rfl<|rLz [] rfl gv1 trivial (fun g10_8 => zC rfl fd54_3 rfl) rfl<|rLz [(50,_)] rfl gv1 ⟨rfl,rfl,trivial⟩ (fun g10_8 => zD rfl one3 rfl (zE 1 rfl) rfl) rfl<|rLz [(51,_)] rfl gv1 ⟨rfl,rfl,trivial⟩ (fun g10_8 => qJ rfl rfl rfl) rfl<|zA rfl rfl (qY rfl rfl rfl rfl (fun h => (lzf h)))<|rMv rfl<|rLz [] rfl gv1 trivial (fun g10_13 => zC rfl fd54_3 rfl) rfl<|rLz [(55,_)] rfl gv1 ⟨rfl,rfl,trivial⟩ (fun g10_13 => zD rfl one3 rfl (zE 1 rfl) rfl) rfl<|rLz [(56,_)] rfl gv1 ⟨rfl,rfl,trivial⟩ (fun g10_13 => qX rfl rfl rfl) rfl<|zA rfl rfl (qY rfl rfl rfl rfl (fun h => (lzf h)))<|rMv rfl<|zB<|zG rfl (fun c5 => ?_) (fun c5 => ?_)
     ·try simp only [sx] at c5
      refine sReg rfl<|rMv rfl<|zB<|zH<|fin1 (rs_c rfl) ?_
      rw [stE_l c1 c2,loopE_1 c3 h8 (by omega)]
     ·try simp only [sx] at c5
      refine zJ<|sReg rfl<|rMv rfl<|zB<|zH<|fin1 (rs_c rfl) ?_
      rw [stE_l c1 c2,loopE_0 c3 h8 (by omega)]
  ·try simp only [sx] at c2
   refine sReg rfl<|zA rfl rfl (qC rfl rfl rfl)<|rMv rfl<|zB<|zG rfl (fun c6 => ?_) (fun c6 => ?_)
   ·try simp only [sx] at c6
    refine sReg rfl<|zA rfl rfl (zF rfl wM rfl (zE 1 rfl) rfl)<|rMv rfl<|zA rfl rfl (zC rfl zBz rfl)<|zA rfl rfl (zF rfl yR rfl (zE 0 rfl) rfl)<|zA rfl rfl (zR rfl ok152 (zDm n bd s.E hn hb (by omega)) ⟨VLe.refl _,rfl,VLe.refl _,rfl,VLe.refl _,rfl,trivial⟩)<|zA rfl rfl (qW rfl rfl)<|zA rfl rfl (yO rfl rfl rfl)<|zA rfl rfl (yN rfl rfl rfl)<|zZ rfl rfl (yL rfl zr40) ?_
    rintro _ _ ⟨b4,rfl,rfl⟩
    refine zX rfl rfl (zT rfl sz40 rfl rfl rfl (qH 0 rfl rfl))<|rMv rfl<|zB<|zK<|sReg rfl<|rMv rfl<|zA rfl rfl (qC rfl rfl rfl)<|rMv rfl<|rLz [] rfl gv1 trivial (fun g15_2 => zC rfl zBz rfl) rfl<|rLz [(72,_)] rfl gv1 ⟨rfl,rfl,trivial⟩ (fun g15_2 => zF rfl yR rfl (zE 1 rfl) rfl) rfl<|rLz [(73,_)] rfl gv1 ⟨rfl,rfl,trivial⟩ (fun g15_2 => zR rfl ok153 (yX _) ⟨VLe.refl _,rfl,trivial⟩) rfl<|rLz [(74,_)] rfl gv1 ⟨rfl,rfl,trivial⟩ (fun g15_2 => qQ rfl rfl) rfl<|zA rfl rfl (qK rfl rfl rfl (fun h => h) rfl)<|zB<|zG rfl (fun c7 => ?_) (fun c7 => ?_)
    ·refine sReg rfl<|rMv rfl<|zB<|zH<|fin1 (rs_c rfl) ?_
     rw [stE_i c1 c6,if_t c7]
    ·refine zJ<|sReg rfl<|rMv rfl<|rMv rfl<|zB<|zH<|fin1 (rs_c rfl) ?_
     rw [stE_i c1 c6,if_fin c7]
   ·try simp only [sx] at c6
    refine zJ<|sReg rfl<|zA rfl rfl (zF rfl wM rfl (zE 1 rfl) rfl)<|rMv rfl<|zA rfl rfl (zF rfl zKd rfl (zE 0 rfl) rfl)<|zA rfl rfl (zR rfl ok154 (ref30_store n bd s hn hb hs) ⟨VLe.refl _,rfl,VLe.refl _,rfl,VLe.refl _,rfl,trivial⟩)<|rMv rfl<|zB<|zH<|fin1 (rs_c rfl) ?_
    rw [stE_s c1 c2 c6]
set_option maxHeartbeats 2000000 in
theorem zFb (n : Ns) (bd : List Bd) (U : List ByteArray) (l : List St) (W : List Int) (hn : n.Ok) (hU : U.length + stsN l ≤ 1000000) (hb : bd.length + stsN l ≤ 1000000) (hW : W.length + stsN l ≤ 1000000) (hl : stsWt l ≤ 900000) (ih : ∀ s,s ∈ l → ∀ (bd : List Bd) (U : List ByteArray) (W : List Int),U.length + stsN s.Body ≤ 1000000 → bd.length + stsN s.Body ≤ 1000000 → W.length + stsN s.Body ≤ 1000000 → Pur cfg 65 [vNs n,vBds bd,vSs U,vSts s.Body,vIs W] (ckC (chkL n.Bufs U (bd.map Bd.Name) W 0 s.Body))) :
    Pur cfg 65 [vNs n,vBds bd,vSs U,vSts l,vIs W] (ckC (chkL n.Bufs U (bd.map Bd.Name) W 0 l)):= by
 refine zU Tryz.func65 rfl Tryz.ntmps65 Tryz.results65 rfl ?_
 intro z hz
 have hll := wD l
 have hlN := wV l
 refine sReg rfl<|zZ rfl rfl (qL rfl rfl) ?_
 rintro _ _ ⟨b1,rfl,rfl⟩
 refine zZ rfl rfl (qN [some 1,some 1,none] rfl zr106 rfl) ?_
 rintro _ _ ⟨b2,rfl,rfl⟩
 refine zB<|zK<|sReg rfl<|rMv rfl<|zB<|zO<|zV ⟨[(11,.c _),(2,.c _),(1,.c _),(3,.c _),(4,.c _),(5,.c _),(10,.c _)],[_,_]⟩ (Weak.mk [true,true] ⟨VLe.of_eq rfl,VLe.of_eq rfl,VLe.of_eq rfl,VLe.of_eq rfl,VLe.of_eq rfl,VLe.of_eq rfl,VLe.of_eq rfl,trivial⟩ rfl)<|qF 2 0 rfl rfl (Nat × List ByteArray) (fun ⟨k,u⟩ => [(11,vI k),(2,vSs u)]) (fun ⟨k,u⟩ => []) (fun ⟨k,u⟩ => k ≤ l.length ∧ (u.length + stsN (l.drop k) ≤ 1000000) ∧ ((chkL n.Bufs U (bd.map Bd.Name) W 0 l) = chkL n.Bufs u (bd.map Bd.Name) W k (l.drop k))) (fun ⟨k,u⟩ => l.length - k) ⟨⟨0,U⟩,⟨by omega,by simpa using hU,rfl⟩,Weak.mk [true,true] ⟨VLe.refl _,VLe.of_eq (rfl),VLe.refl _,VLe.refl _,VLe.refl _,VLe.refl _,VLe.refl _,trivial⟩ rfl⟩ ?_
 rintro ⟨k,u⟩ ⟨hk,hub,hp⟩
 show AWP _ _ _ _ _ ⟨[(11,vI k),(2,vSs u)] ++ _,[] ++ _⟩
 refine zK<|sReg rfl<|rMv rfl<|rMv rfl<|zA rfl rfl (zP rfl el23 rfl)<|zA rfl rfl (qJ rfl rfl rfl)<|zB<|zG rfl (fun c1 => ?_) (fun c1 => ?_)
 ·try simp only [sx] at c1
  obtain ⟨s,hs⟩ := qT l k (by omega)
  have hsw := kC (qE hs)
  have hsb := St.body_wt s
  have hsn := stsN_drop hs
  have hse := zEs s
  have hsm := zHt (qE hs)
  have hcl := chkS_len n.Bufs s u (bd.map Bd.Name) (W ++ [(k : Int)])
  refine zJ<|zK<|zO<|sReg rfl<|zA rfl rfl (zDz rfl el33 zr3)<|rMv rfl<|zZ rfl rfl (zDo rfl el33 rfl rfl (by simp only [List.length_map,List.length_append,List.length_cons,List.length_nil]; omega) (by simp only [List.length_map,List.length_append,List.length_cons,List.length_nil]; omega)) ?_
  rintro _ _ ⟨sv3,rfl,rfl⟩
  refine rMv rfl<|zA rfl rfl (qZ rfl el33 zr3 rfl rfl rfl rfl)<|zZ rfl rfl (yM 0 rfl el33 rfl rfl rfl (by simp only [List.length_map,List.length_append,List.length_cons,List.length_nil]; omega) (by simp only [List.length_map,List.length_append,List.length_cons,List.length_nil]; omega)) ?_
  rintro _ _ ⟨sv4,rfl,rfl⟩
  refine rMv rfl<|zB<|zK<|zK<|zV _ (Weak.vecEq 0 rfl (rows' := (W ++ [(k : Int)]).map fun i => [cI i]) (by first | rfl | simp | rw [List.take_of_length_le (by simp)]))<|zV _ (yU 0 rfl (regs' := [(27,_),(12,_)]) (μ' := [_,_]) ⟨FLe.sl,FLe.sl,trivial⟩ ⟨EFle.refl _,EFle.refl _,trivial⟩)<|yC 9 mixed (by kernel_rfl) rfl rfl<|zM rfl rfl (zF rfl wM rfl (zE 1 rfl) rfl)<|zM rfl rfl (zN rfl rfl)<|zM rfl rfl (zN rfl rfl)<|zM rfl rfl (zN rfl rfl)<|zM rfl rfl (zN rfl rfl)<|zM rfl rfl (zQ rfl el23 rfl rfl (by omega) (zBh (by assumption)))<|zM rfl rfl (zF rfl zKd rfl qB rfl)<|zM rfl rfl (zR rfl ok114 (ref30_one n bd u s hn (by omega) (by have := kC (qE hs); omega) (by omega)) ⟨VLe.refl _,rfl,VLe.refl _,rfl,VLe.refl _,rfl,VLe.refl _,rfl,trivial⟩)<|zM rfl rfl (yE rfl rfl)<|kB<|zB<|sReg rfl<|rMv rfl<|zA rfl rfl (qR rfl rfl rfl)<|zB<|zG rfl (fun c2 => ?_) (fun c2 => ?_)
  ·try simp only [sx] at c2
   have hx0 := zOv (here := W ++ [(k : Int)]) (B := n.Bufs) (U := u) (sc := (bd.map Bd.Name)) (s := s) c2
   refine sReg rfl<|rMv rfl<|rMv rfl<|zA rfl rfl (kO [some 1,none,none] rfl zr106 pl106 rfl rfl)<|zX rfl rfl (zT rfl sz106 rfl rfl rfl (qH 0 rfl rfl))<|zB<|zH<|fin1 (qG agg106 rfl (zE 0 rfl) rfl) ?_
   rw [zBi hs hp (by rw [hx0]; exact c2),hx0]; rfl
  ·try simp only [sx] at c2
   have hin := zKa (here := W ++ [(k : Int)]) (B := n.Bufs) (U := u) (sc := (bd.map Bd.Name)) (s := s) c2
   refine zJ<|sReg rfl<|rMv rfl<|rMv rfl<|zB<|zK<|sReg rfl<|rMv rfl<|rMv rfl<|zA rfl rfl (zQ rfl el23 rfl rfl (by omega) (zBh (by assumption)))<|zA rfl rfl (qA rfl zAt rfl)<|zA rfl rfl (zD rfl one3 rfl qB rfl)<|zA rfl rfl (qC rfl rfl rfl)<|zB<|zG rfl (fun c3 => ?_) (fun c3 => ?_)
   ·try simp only [sx] at c3
    rw [zFi c3,zFi c3,← map_bd] at hin
    refine zK<|kA 9 1 [⟨0,.q []⟩,⟨1,.q []⟩,⟨3,.q []⟩,⟨4,.q []⟩,⟨5,.q []⟩,⟨6,.q []⟩,⟨7,.q []⟩,⟨8,.q []⟩,⟨2,.e 0 []⟩] mixed (by kernel_rfl) (by kernel_rfl) rfl rfl rfl<|zW rfl<|zW rfl<|zW rfl<|zW rfl<|zW rfl<|zW rfl<|zW rfl<|zW rfl<|zW rfl<|zAq<|qD rfl (by decide) rfl rfl (zDz rfl el72 zr9)<|qD rfl (by decide) rfl rfl (zN rfl rfl)<|qD rfl (by decide) rfl rfl (zN rfl rfl)<|qD rfl (by decide) rfl rfl (zN rfl rfl)<|qD rfl (by decide) rfl rfl (zQ rfl el23 rfl rfl (by omega) (zBh (by assumption)))<|qD rfl (by decide) rfl rfl (qA rfl zAl rfl)<|qD rfl (by decide) rfl rfl (zD rfl one9 rfl qB rfl)<|qD rfl (by decide) rfl rfl (qZ rfl el72 zr9 rfl rfl rfl rfl)<|zHc rfl rfl (by decide) rfl rfl (zDo rfl el72 rfl rfl (by simp only [List.length_map,List.length_append,List.length_cons,List.length_nil]; omega) (by simp only [List.length_map,List.length_append,List.length_cons,List.length_nil]; omega)) ?_
    rintro _ _ ⟨sv5,rfl,rfl⟩
    refine ⟨_,rfl,?_⟩
    refine zAo rfl<|zZ rfl rfl (yM 0 rfl el72 rfl rfl rfl (by simp only [List.length_map,List.length_append,List.length_cons,List.length_nil]; omega) (by simp only [List.length_map,List.length_append,List.length_cons,List.length_nil]; omega)) ?_
    rintro _ _ ⟨sv6,rfl,rfl⟩
    refine rMv rfl<|zB<|kA 15 1 [⟨0,.q []⟩,⟨1,.q []⟩,⟨3,.q []⟩,⟨4,.q []⟩,⟨5,.q []⟩,⟨6,.q []⟩,⟨7,.q []⟩,⟨8,.q []⟩,⟨9,.q []⟩,⟨10,.q []⟩,⟨11,.q []⟩,⟨12,.q []⟩,⟨13,.q []⟩,⟨14,.q []⟩,⟨2,.e 0 []⟩] mixed (by kernel_rfl) (by kernel_rfl) rfl rfl rfl<|zW rfl<|zW rfl<|zW rfl<|zW rfl<|zW rfl<|zW rfl<|zW rfl<|zW rfl<|zW rfl<|zW rfl<|zW rfl<|zW rfl<|zW rfl<|zW rfl<|zW rfl<|zAq<|qD rfl (by decide) rfl rfl (zDz rfl el67 zr70)<|qD rfl (by decide) rfl rfl (zN rfl rfl)<|qD rfl (by decide) rfl rfl (zN rfl rfl)<|qD rfl (by decide) rfl rfl (zN rfl rfl)<|qD rfl (by decide) rfl rfl (zQ rfl el23 rfl rfl (by omega) (zBh (by assumption)))<|qD rfl (by decide) rfl rfl (qA rfl zAl rfl)<|qD rfl (by decide) rfl rfl (zD rfl one9 rfl qB rfl)<|qD rfl (by decide) rfl rfl (zN rfl rfl)<|qD rfl (by decide) rfl rfl (zN rfl rfl)<|qD rfl (by decide) rfl rfl (zQ rfl el23 rfl rfl (by omega) (zBh (by assumption)))<|qD rfl (by decide) rfl rfl (qA rfl zKn rfl)<|qD rfl (by decide) rfl rfl (zD rfl one3 rfl qB rfl)<|qD rfl (by decide) rfl rfl (qS rfl zr70 pl70 rfl)<|qD rfl (by decide) rfl rfl (qZ rfl el67 zr70 rfl rfl rfl rfl)<|zHc rfl rfl (by decide) rfl rfl (zDo rfl el67 rfl rfl (by simp only [List.length_map,List.length_append,List.length_cons,List.length_nil]; omega) (by simp only [List.length_map,List.length_append,List.length_cons,List.length_nil]; omega)) ?_
    rintro _ _ ⟨sv7,rfl,rfl⟩
    refine ⟨_,rfl,?_⟩
    refine zAo rfl<|zZ rfl rfl (yM 0 rfl el67 rfl rfl rfl (by simp only [List.length_map,List.length_append,List.length_cons,List.length_nil]; omega) (by simp only [List.length_map,List.length_append,List.length_cons,List.length_nil]; omega)) ?_
    rintro _ _ ⟨sv8,rfl,rfl⟩
    refine rMv rfl<|zB<|zK<|zV _ (Weak.vecEq 1 rfl (rows' := (u ++ [s.Name]).map fun s => [cS s]) (by first | rfl | simp | rw [List.take_of_length_le (by simp)]))<|zV _ (yU 1 rfl (regs' := [(2,_),(57,_)]) (μ' := [_,_,_]) ⟨FLe.sl,FLe.sl,trivial⟩ ⟨EFle.refl _,EFle.refl _,EFle.refl _,trivial⟩)<|zV _ (Weak.vecEq 0 rfl (rows' := (bd ++ [(⟨s.Name,s.Many⟩ : Bd)]).map Bd.cells) (by rw [List.map_append]; rfl))<|zV _ (yU 0 rfl (regs' := [(14,_),(73,_)]) (μ' := [_,_]) ⟨FLe.sl,FLe.sl,trivial⟩ ⟨EFle.refl _,EFle.refl _,trivial⟩)<|kA 11 1 [⟨0,.q [2]⟩,⟨1,.q []⟩,⟨2,.q []⟩,⟨3,.q []⟩,⟨4,.q []⟩,⟨5,.q []⟩,⟨6,.q []⟩,⟨7,.q []⟩,⟨8,.q []⟩,⟨9,.q []⟩,⟨10,.f 0⟩] mixed (by kernel_rfl) (by kernel_rfl) rfl rfl rfl<|zW rfl<|zW rfl<|zW rfl<|zW rfl<|zW rfl<|zW rfl<|zW rfl<|zW rfl<|zW rfl<|zW rfl<|zLp rfl rfl (zCk (qN [some 1,some 1,none] rfl zr106 rfl))<|zAq<|qD rfl (by decide) rfl rfl (zF rfl wM rfl (zE 0 rfl) rfl)<|qD rfl (by decide) rfl rfl (zN rfl rfl)<|qD rfl (by decide) rfl rfl (zN rfl rfl)<|qD rfl (by decide) rfl rfl (zN rfl rfl)<|qD rfl (by decide) rfl rfl (zN rfl rfl)<|qD rfl (by decide) rfl rfl (zQ rfl el23 rfl rfl (by omega) (zBh (by assumption)))<|qD rfl (by decide) rfl rfl (qA rfl zBk rfl)<|qD rfl (by decide) rfl rfl (zD rfl zAx rfl qB rfl)<|qD rfl (by decide) rfl rfl (zN rfl rfl)<|qD rfl (by decide) rfl rfl (zR rfl ok65 (ih s (qE hs) (bd ++ [(⟨s.Name,s.Many⟩ : Bd)]) (u ++ [s.Name]) (W ++ [(k : Int)]) (by first | omega | (simp; omega)) (by first | omega | (simp; omega)) (by simp; omega)) ⟨VLe.refl _,rfl,VLe.refl _,rfl,VLe.refl _,rfl,VLe.refl _,rfl,VLe.refl _,rfl,trivial⟩)<|zLg rfl rfl ?_
    rintro _ _ ⟨b9,rfl,rfl⟩
    refine zAo rfl<|zX rfl rfl (zT rfl sz106 rfl rfl rfl (qH 0 rfl rfl))<|zB<|zK<|sReg rfl<|zA rfl rfl (zC rfl fd106_2 rfl)<|zA rfl rfl (zD rfl zFe rfl (zE 0 rfl) rfl)<|zA rfl rfl (qR rfl rfl rfl)<|zB<|zG rfl (fun c4 => ?_) (fun c4 => ?_)
    ·try simp only [sx] at c4
     rw [← hin] at c4
     refine sReg rfl<|zA rfl rfl (zF rfl agg106 rfl (zE 0 rfl) rfl)<|zX rfl rfl (zT rfl sz106 rfl rfl rfl (qH 1 rfl rfl))<|zB<|zH<|fin1 (qG agg106 rfl (zE 1 rfl) rfl) ?_
     rw [zBi hs hp c4,hin]; rfl
    ·try simp only [sx] at c4
     rw [← hin] at c4
     refine zJ<|zS rfl<|zA rfl rfl (zC rfl fd106_0 rfl)<|zA rfl rfl (zD rfl zNk rfl (zE 0 rfl) rfl)<|rMv rfl<|zB<|zS rfl<|rMv rfl<|zA rfl rfl (zY rfl rfl rfl ⟨by omega,by omega⟩)<|rMv rfl<|zB ?_
     refine ⟨⟨k + 1,(chkS n.Bufs u (bd.map Bd.Name) (W ++ [(k : Int)]) s).U⟩,⟨by omega,by omega,zIz hs hp c4⟩,(by show l.length - (k + 1) < l.length - k; omega),Weak.mk [false,true,true] ⟨VLe.refl _,VLe.of_eq (congrArg vSs (by rw [hin])),VLe.refl _,VLe.refl _,VLe.refl _,VLe.refl _,VLe.refl _,trivial⟩ rfl⟩
   ·try simp only [sx] at c3
    rw [zIe c3,zIe c3] at hin
    refine zJ<|zK<|kA 11 1 [⟨0,.q [2]⟩,⟨1,.q []⟩,⟨2,.q []⟩,⟨3,.q []⟩,⟨4,.q []⟩,⟨5,.q []⟩,⟨6,.q []⟩,⟨7,.q []⟩,⟨8,.q []⟩,⟨9,.q []⟩,⟨10,.f 0⟩] mixed (by kernel_rfl) (by kernel_rfl) rfl rfl rfl<|zW rfl<|zW rfl<|zW rfl<|zW rfl<|zW rfl<|zW rfl<|zW rfl<|zW rfl<|zW rfl<|zW rfl<|zLp rfl rfl (zCk (qN [some 1,some 1,none] rfl zr106 rfl))<|zAq<|qD rfl (by decide) rfl rfl (zF rfl wM rfl (zE 0 rfl) rfl)<|qD rfl (by decide) rfl rfl (zN rfl rfl)<|qD rfl (by decide) rfl rfl (zN rfl rfl)<|qD rfl (by decide) rfl rfl (zN rfl rfl)<|qD rfl (by decide) rfl rfl (zN rfl rfl)<|qD rfl (by decide) rfl rfl (zQ rfl el23 rfl rfl (by omega) (zBh (by assumption)))<|qD rfl (by decide) rfl rfl (qA rfl zBk rfl)<|qD rfl (by decide) rfl rfl (zD rfl zAx rfl qB rfl)<|qD rfl (by decide) rfl rfl (zN rfl rfl)<|qD rfl (by decide) rfl rfl (zR rfl ok65 (ih s (qE hs) bd u (W ++ [(k : Int)]) (by first | omega | (simp; omega)) (by first | omega | (simp; omega)) (by simp; omega)) ⟨VLe.refl _,rfl,VLe.refl _,rfl,VLe.refl _,rfl,VLe.refl _,rfl,VLe.refl _,rfl,trivial⟩)<|zLg rfl rfl ?_
    rintro _ _ ⟨b10,rfl,rfl⟩
    refine zAo rfl<|zX rfl rfl (zT rfl sz106 rfl rfl rfl (qH 0 rfl rfl))<|zB<|zK<|sReg rfl<|zA rfl rfl (zC rfl fd106_2 rfl)<|zA rfl rfl (zD rfl zFe rfl (zE 0 rfl) rfl)<|zA rfl rfl (qR rfl rfl rfl)<|zB<|zG rfl (fun c4 => ?_) (fun c4 => ?_)
    ·try simp only [sx] at c4
     rw [← hin] at c4
     refine sReg rfl<|zA rfl rfl (zF rfl agg106 rfl (zE 0 rfl) rfl)<|zX rfl rfl (zT rfl sz106 rfl rfl rfl (qH 1 rfl rfl))<|zB<|zH<|fin1 (qG agg106 rfl (zE 1 rfl) rfl) ?_
     rw [zBi hs hp c4,hin]; rfl
    ·try simp only [sx] at c4
     rw [← hin] at c4
     refine zJ<|zS rfl<|zA rfl rfl (zC rfl fd106_0 rfl)<|zA rfl rfl (zD rfl zNk rfl (zE 0 rfl) rfl)<|rMv rfl<|zB<|zS rfl<|rMv rfl<|zA rfl rfl (zY rfl rfl rfl ⟨by omega,by omega⟩)<|rMv rfl<|zB ?_
     refine ⟨⟨k + 1,(chkS n.Bufs u (bd.map Bd.Name) (W ++ [(k : Int)]) s).U⟩,⟨by omega,by omega,zIz hs hp c4⟩,(by show l.length - (k + 1) < l.length - k; omega),Weak.mk [false,true,true] ⟨VLe.refl _,VLe.of_eq (congrArg vSs (by rw [hin])),VLe.refl _,VLe.refl _,VLe.refl _,VLe.refl _,VLe.refl _,trivial⟩ rfl⟩
 ·try simp only [sx] at c1
  refine qM<|sReg rfl<|rMv rfl<|zA rfl rfl (kO [none,some 1,none] rfl zr106 pl106 rfl rfl)<|zX rfl rfl (zT rfl sz106 rfl rfl rfl (qH 0 rfl rfl))<|zB<|zH<|fin1 (qG agg106 rfl (zE 0 rfl) rfl) ?_
  rw [zLv hp (by omega)]; rfl
theorem zNb (n : Ns) (hn : n.Ok) (s : St) (hl : stsWt s.Body ≤ 900000) : ∀ (bd : List Bd) (U : List ByteArray) (W : List Int),U.length + stsN s.Body ≤ 1000000 → bd.length + stsN s.Body ≤ 1000000 → W.length + stsN s.Body ≤ 1000000 → Pur cfg 65 [vNs n,vBds bd,vSs U,vSts s.Body,vIs W] (ckC (chkL n.Bufs U (bd.map Bd.Name) W 0 s.Body)):= by
  induction s using St.ind with
  | _ s ih =>
    intro bd U W hU hb hW
    refine zFb n bd U s.Body W hn hU hb hW hl fun a ha => ih a ha ?_
    have := kC ha; have := St.body_wt a; omega
theorem ref30_body (n : Ns) (bd : List Bd) (U : List ByteArray) (l : List St) (W : List Int)  (hn : n.Ok) (hU : U.length + stsN l ≤ 1000000) (hb : bd.length + stsN l ≤ 1000000) (hW : W.length + stsN l ≤ 1000000) (hl : stsWt l ≤ 900000) : Pur cfg 65 [vNs n,vBds bd,vSs U,vSts l,vIs W] (ckC (chkL n.Bufs U (bd.map Bd.Name) W 0 l)) :=
  zFb n bd U l W hn hU hb hW hl fun s hs => zNb n hn s (by have := kC hs; have := St.body_wt s; omega)
theorem ref30_Validate (n : Ns) (hn : n.Ok) (hw : stsWt n.Body ≤ 900000) :
    Pur cfg 17 [vNs n] (.tup [vIs (validN n).1,vI (validN n).2]):= by
 refine zU Tryz.func17 rfl Tryz.ntmps17 Tryz.results17 rfl ?_
 intro z hz
 refine sReg rfl<|zZ rfl rfl (qL rfl rfl) ?_
 rintro _ _ ⟨b1,rfl,rfl⟩
 refine zA rfl rfl (yI 1 rfl rfl)<|rMv rfl<|zB<|zK<|sReg rfl<|zA rfl rfl (zC rfl zEk rfl)<|zA rfl rfl (zD rfl zAx rfl (zE 0 rfl) rfl)<|zA rfl rfl (zR rfl ok62 (ref30_depth 41 n.Body 41 (by omega) (by omega) rfl) ⟨VLe.refl _,rfl,VLe.refl _,rfl,trivial⟩)<|zA rfl rfl (qX rfl rfl rfl)<|zB<|zG rfl (fun c1 => ?_) (fun c1 => ?_)
 ·try simp only [sx] at c1
  have hwi := within_f c1
  refine sReg rfl<|zA rfl rfl (yI 1 rfl rfl)<|rMv rfl<|zB<|zH<|fin2 (rs_c rfl) (rs_c rfl) ?_
  rw [validN_13 hwi]; rfl
 ·try simp only [sx] at c1
  have hwi := within_t c1
  refine zJ<|zK<|sReg rfl<|zA rfl rfl (zC rfl zEk rfl)<|zA rfl rfl (zD rfl zAx rfl (zE 0 rfl) rfl)<|zA rfl rfl (zR rfl ok63 (ref30_size n.Body 2000 2000 (by omega) (by omega) rfl) ⟨VLe.refl _,rfl,VLe.refl _,rfl,trivial⟩)<|zA rfl rfl (qX rfl rfl rfl)<|rMv rfl<|rLz [] rfl gv1 trivial (fun g3_4 => zC rfl wQ rfl) rfl<|rLz [(15,_)] rfl gv1 ⟨rfl,rfl,trivial⟩ (fun g3_4 => zD rfl zCf rfl (zE 0 rfl) rfl) rfl<|rLz [(16,_)] rfl gv1 ⟨rfl,rfl,trivial⟩ (fun g3_4 => zP rfl el22 rfl) rfl<|rLz [(17,_)] rfl gv1 ⟨rfl,rfl,trivial⟩ (fun g3_4 => qX rfl rfl rfl) rfl<|zA rfl rfl (qY rfl rfl rfl rfl (fun h => (lzf h)))<|zB<|zG rfl (fun c2 => ?_) (fun c2 => ?_)
  ·try simp only [sx] at c2
   refine sReg rfl<|zA rfl rfl (yI 1 rfl rfl)<|rMv rfl<|zB<|zH<|fin2 (rs_c rfl) (rs_c rfl) ?_
   rw [validN_2 hwi (by omega)]; rfl
  ·try simp only [sx] at c2
   have hnum := numB_ok (l := n.Body) (m := 2000) (by omega)
   refine zJ<|zK<|sReg rfl<|zA rfl rfl (zF rfl wM rfl (zE 0 rfl) rfl)<|zA rfl rfl (zR rfl ok64 (ref30_bufs n hn) ⟨VLe.refl _,rfl,trivial⟩)<|rMv rfl<|zB<|sReg rfl<|rMv rfl<|zA rfl rfl (qR rfl rfl rfl)<|zB<|zG rfl (fun c3 => ?_) (fun c3 => ?_)
   ·try simp only [sx] at c3
    refine sReg rfl<|rMv rfl<|zA rfl rfl (yI 1 rfl rfl)<|rMv rfl<|zB<|zH<|fin2 (rs_c rfl) (rs_c rfl) ?_
    rw [validN_b hwi (by omega) c3]; rfl
   ·try simp only [sx] at c3
    refine zJ<|sReg rfl<|zA rfl rfl (zF rfl wM rfl (zE 0 rfl) rfl)<|zA rfl rfl (zC rfl zEk rfl)<|zA rfl rfl (zD rfl zAx rfl (zE 0 rfl) rfl)<|zA rfl rfl (zR rfl ok65 (ref30_body n [] [] n.Body [] hn (by simp; omega) (by simp; omega) (by simp; omega) hw) ⟨VLe.refl _,rfl,VLe.nil,rfl,VLe.nil,rfl,VLe.refl _,rfl,VLe.nil,rfl,trivial⟩)<|zZ rfl rfl (qN [some 1,some 1,none] rfl zr106 rfl) ?_
    rintro _ _ ⟨b2,rfl,rfl⟩
    refine zX rfl rfl (zT rfl sz106 rfl rfl rfl (qH 0 rfl rfl))<|zB<|zK<|yC 6 mixed (by kernel_rfl) rfl rfl<|zM rfl rfl (zC rfl fd106_1 rfl)<|zM rfl rfl (zD rfl zCt rfl (zE 0 rfl) rfl)<|zM rfl rfl (zC rfl fd106_2 rfl)<|zM rfl rfl (zD rfl zFe rfl (zE 0 rfl) rfl)<|zM rfl rfl (yE rfl rfl)<|zM rfl rfl (yE rfl rfl)<|kB<|zB<|zH<|fin2 (rs_c rfl) (rs_c rfl) ?_
    rw [validN_c hwi (by omega) c3]; rfl
end Go.W
