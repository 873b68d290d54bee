/-
  Walks: what functions of the program compute. Printed by wip/gen/mk2.py.
  Conditions: none.
-/
import Derived.Test.YtdbflnlalkfeeaaGreatDoorNB
import Derived.Test.YtdbflnlalkfeeaaGreatDoorPlain2
import Derived.Test.YtdbflnlalkfeeaaGreatDoorEngZ
set_option maxRecDepth 10000
namespace Go.W
open Go Go.Eng Go.Proofs Go.L41 Go.Br
attribute [local irreducible] AWP RWP TD finQ
abbrev vBds (l : List Bd) : V := .c (.sl 2 (l.map Bd.cells))
abbrev ckC (x : Ck) : V := .agg [.sl 1 (x.U.map fun s => [cS s]),.sl 1 (x.W.map fun i => [cI i]),cI x.E]
theorem bd_get {l : List Bd} {k : Nat} {x : Bd} (h : l[k]? = some x) : (l.map Bd.cells)[k]? = some [cS x.Name,cI x.Val]:= by rw [getm h]; rfl
theorem agg106 : aggT Tryz.prog 106 = some 3:= by kernel_rfl
theorem el67 : elemT Tryz.prog 67 = some (70,2,24):= by kernel_rfl
theorem fd70_0 : fieldT Tryz.prog 70 0 = some (0,9):= by kernel_rfl
theorem fd106_0 : fieldT Tryz.prog 106 0 = some (0,72):= by kernel_rfl
theorem fd106_1 : fieldT Tryz.prog 106 1 = some (1,33):= by kernel_rfl
theorem fd106_2 : fieldT Tryz.prog 106 2 = some (2,29):= by kernel_rfl
theorem ok30 : callOk Tryz.prog 30 = true:= by kernel_rfl
theorem ok64 : callOk Tryz.prog 64 = true:= by kernel_rfl
theorem ok65 : callOk Tryz.prog 65 = true:= by kernel_rfl
theorem ok114 : callOk Tryz.prog 114 = true:= by kernel_rfl
theorem ok151 : callOk Tryz.prog 151 = true:= by kernel_rfl
theorem ok152 : callOk Tryz.prog 152 = true:= by kernel_rfl
theorem ok154 : callOk Tryz.prog 154 = true:= by kernel_rfl
theorem ok186 : callOk Tryz.prog 186 = true:= by kernel_rfl
theorem ok187 : callOk Tryz.prog 187 = true:= by kernel_rfl
theorem ok188 : callOk Tryz.prog 188 = true:= by kernel_rfl
theorem ok216 : callOk Tryz.prog 216 = true:= by kernel_rfl
theorem ok217 : callOk Tryz.prog 217 = true:= by kernel_rfl
theorem pl70 : placesT Tryz.prog 70 = some [(0,1),(1,1)]:= by kernel_rfl
theorem pl106 : placesT Tryz.prog 106 = some [(0,1),(1,1),(2,1)]:= by kernel_rfl
theorem sz106 : (Tryz.prog.info? 106).map (·.size) = some 3:= by kernel_rfl
theorem zr70 : zeroT Tryz.prog 70 = some [(Value.string (ByteArray.mk #[])),(Value.int IntKind.i64 0)]:= by kernel_rfl
theorem zr106 : zeroT Tryz.prog 106 = some [(Value.slice none 0 0),(Value.slice none 0 0),(Value.int IntKind.i64 0)]:= by kernel_rfl
theorem zPp (l : List Lf) (bd : List Bd) (hl : l.length ≤ 4294967296) (hx : ∀ x,x ∈ l → x.L.length ≤ 4294967296) (hb : bd.length ≤ 4294967296) :
    Pur cfg 216 [vLins l,vBds bd] (vB (l.all (inSc (bd.map Bd.Name)))):= by
 refine zV Tryz.func216 rfl Tryz.ntmps216 Tryz.results216 rfl ?_
 intro z hz
 have hl0 := hx
 clear hx
 refine sReg rfl<|rMv rfl<|zB<|zK<|sReg rfl<|rMv rfl<|zB<|zS<|zY ⟨[(5,.c _),(0,.c _),(1,.c _)],[]⟩ (Weak.mk [] ⟨zE,zE,zE,trivial⟩ rfl)<|qI 1 0 rfl rfl (Nat) (fun k => [(5,vI k)]) (fun k => []) (fun k => k ≤ l.length ∧ ((l.take k).all (inSc (bd.map Bd.Name)) = true)) (fun k => l.length - k) ⟨0,⟨by omega,rfl⟩,Weak.mk [] ⟨zE,zE,zE,trivial⟩ rfl⟩ ?_
 rintro k ⟨hk,hp⟩
 refine zK<|sReg rfl<|rMv rfl<|rMv rfl<|zA rfl (zR rfl wE rfl)<|zA rfl (qM rfl rfl rfl)<|zB<|zH rfl (fun c1 => ?_) (fun c1 => ?_)
 ·try simp only [sx] at c1
  obtain ⟨x,hx⟩ := qX l k (by omega)
  have hxl := hl0 x (qE hx)
  refine zJ<|zK<|zS<|sReg rfl<|rMv rfl<|zB<|zS<|zY ⟨[(6,.c _),(0,.c _),(1,.c _),(5,.c _)],[]⟩ (Weak.mk [] ⟨zE,zE,zE,zE,trivial⟩ rfl)<|qI 1 0 rfl rfl (Nat) (fun j => [(6,vI j)]) (fun j => []) (fun j => j ≤ x.L.length ∧ (x.L.take j).all (fun m => hasB (bd.map Bd.Name) m.Name) = true) (fun j => x.L.length - j) ⟨0,⟨by omega,rfl⟩,Weak.mk [] ⟨zE,zE,zE,zE,trivial⟩ rfl⟩ ?_
  rintro j ⟨hj,hq⟩
  refine zK<|sReg rfl<|rMv rfl<|rMv rfl<|rMv rfl<|zA rfl (zO rfl wE rfl rfl (by omega) (getm hx))<|zA rfl (zZ rfl kO rfl)<|zA rfl (zD rfl wZ rfl qC rfl)<|zA rfl (zR rfl el47 rfl)<|zA rfl (qM rfl rfl rfl)<|zB<|zH rfl (fun c2 => ?_) (fun c2 => ?_)
  ·try simp only [sx] at c2
   obtain ⟨m,hm⟩ := qX x.L j (by omega)
   refine zJ<|zK<|zS<|sReg rfl<|rMv rfl<|zB<|zK<|sReg rfl<|rMv rfl<|zB<|zS<|zY ⟨[(8,.c _),(7,.c _),(0,.c _),(1,.c _),(5,.c _),(6,.c _)],[]⟩ (Weak.mk [] ⟨zE,zE,zE,zE,zE,zE,trivial⟩ rfl)<|qI 2 0 rfl rfl (Nat) (fun i => [(8,vI i),(7,vB ((bd.take i).any fun d => decide (d.Name = m.Name)))]) (fun i => []) (fun i => i ≤ bd.length) (fun i => bd.length - i) ⟨0,(by omega),Weak.mk [] ⟨zE,VLe.of_eq (rfl),zE,zE,zE,zE,trivial⟩ rfl⟩ ?_
   rintro i hi
   refine zK<|sReg rfl<|rMv rfl<|rMv rfl<|zA rfl (zR rfl el67 rfl)<|zA rfl (qM rfl rfl rfl)<|zB<|zH rfl (fun c3 => ?_) (fun c3 => ?_)
   ·try simp only [sx] at c3
    obtain ⟨d,hd⟩ := qX bd i (by omega)
    refine zJ<|zK<|zS<|yC 19 mixed (by kernel_rfl) rfl rfl<|zM rfl rfl (zN rfl rfl)<|zM rfl rfl (zN rfl rfl)<|qJ [] rfl rfl rfl rfl gv1 trivial (fun g11_1 => zN rfl rfl) rfl<|qJ [] rfl rfl rfl rfl gv1 trivial (fun g11_1 => zN rfl rfl) rfl<|qJ [(33,_),(34,_)] rfl rfl rfl rfl gv1 ⟨rfl,rfl,rfl,rfl,trivial⟩ (fun g11_1 => zO rfl el67 rfl rfl (by omega) (bd_get hd)) rfl<|qJ [(35,_)] rfl rfl rfl rfl gv1 ⟨rfl,rfl,trivial⟩ (fun g11_1 => zZ rfl fd70_0 rfl) rfl<|qJ [(36,_)] rfl rfl rfl rfl gv1 ⟨rfl,rfl,trivial⟩ (fun g11_1 => zD rfl one9 rfl qC rfl) rfl<|qJ [] rfl rfl rfl rfl gv1 trivial (fun g11_1 => zN rfl rfl) rfl<|qJ [] rfl rfl rfl rfl gv1 trivial (fun g11_1 => zN rfl rfl) rfl<|qJ [(38,_),(39,_)] rfl rfl rfl rfl gv1 ⟨rfl,rfl,rfl,rfl,trivial⟩ (fun g11_1 => zO rfl wE rfl rfl (by omega) (getm hx)) rfl<|qJ [(40,_)] rfl rfl rfl rfl gv1 ⟨rfl,rfl,trivial⟩ (fun g11_1 => zZ rfl kO rfl) rfl<|qJ [(41,_)] rfl rfl rfl rfl gv1 ⟨rfl,rfl,trivial⟩ (fun g11_1 => zD rfl wZ rfl qC rfl) rfl<|qJ [] rfl rfl rfl rfl gv1 trivial (fun g11_1 => zN rfl rfl) rfl<|qJ [(42,_),(43,_)] rfl rfl rfl rfl gv1 ⟨rfl,rfl,rfl,rfl,trivial⟩ (fun g11_1 => zO rfl el47 rfl rfl (by omega) (getm hm)) rfl<|qJ [(44,_)] rfl rfl rfl rfl gv1 ⟨rfl,rfl,trivial⟩ (fun g11_1 => zZ rfl wG rfl) rfl<|qJ [(45,_)] rfl rfl rfl rfl gv1 ⟨rfl,rfl,trivial⟩ (fun g11_1 => zD rfl one9 rfl qC rfl) rfl<|qJ [(37,_),(46,_)] rfl rfl rfl rfl gv1 ⟨rfl,rfl,rfl,rfl,trivial⟩ (fun g11_1 => yP rfl rfl rfl) rfl<|zM rfl rfl (yB rfl rfl rfl rfl (fun h => (lzf h)))<|zM rfl rfl (yG rfl rfl)<|kA<|zB<|zU rfl<|rMv rfl<|zA rfl (qB rfl rfl rfl ⟨by omega,by omega⟩)<|rMv rfl<|zB ?_
    refine ⟨i + 1,(by omega),(by omega),Weak.mk [] ⟨zE,VLe.of_eq (congrArg vB (any_step hd)),zE,zE,zE,zE,trivial⟩ rfl⟩
   ·try simp only [sx] at c3
    rw [yO (l := bd) (k := i) (by omega),any_hasB]
    refine qN<|sReg rfl<|rMv rfl<|zA rfl (qT rfl rfl)<|zB<|zH rfl (fun c4 => ?_) (fun c4 => ?_)
    ·try simp only [sx] at c4
     have hno := bound_no hx hm c4
     refine sReg rfl<|rMv rfl<|zB<|zI<|zQ rfl ?_
     rw [hno]
    ·try simp only [sx] at c4
     refine zJ<|zU rfl<|rMv rfl<|zA rfl (qB rfl rfl rfl ⟨by omega,by omega⟩)<|rMv rfl<|zB ?_
     refine ⟨j + 1,⟨by omega,zCu hm hq c4⟩,(by omega),Weak.mk [] ⟨zE,zE,zE,zE,trivial⟩ rfl⟩
  ·try simp only [sx] at c2
   rw [yO (l := x.L) (k := j) (by omega)] at hq
   refine qN<|zU rfl<|rMv rfl<|zA rfl (qB rfl rfl rfl ⟨by omega,by omega⟩)<|rMv rfl<|zB ?_
   refine ⟨k + 1,⟨by omega,zCu hx hp (show inSc _ x = true from hq)⟩,(by omega),Weak.mk [] ⟨zE,zE,zE,trivial⟩ rfl⟩
 ·try simp only [sx] at c1
  refine qN<|sReg rfl<|rMv rfl<|zB<|zI<|zQ rfl ?_
  rw [yO (by omega)] at hp; rw [hp]
theorem ref30_lins (l : List Ix) (hl : l.length ≤ 4294967296) (hw : idxWt l ≤ 4294967296) :
    OwnR cfg 217 [vIndices l] 49 2 ((l.flatMap ixF).map Lf.cells):= by
 refine zV Tryz.func217 rfl Tryz.ntmps217 Tryz.results217 rfl ?_
 intro z hz
 refine sReg rfl<|rMv rfl<|zB<|sReg rfl<|rMv rfl<|yK _ (kI 49 2)<|zB<|zK<|sReg rfl<|rMv rfl<|zB<|zS<|zY ⟨[(4,.c _),(3,.c _),(0,.c _)],[_]⟩ (Weak.mk [true] ⟨zE,zE,zE,trivial⟩ rfl)<|qI 2 1 rfl rfl (Nat × Value) (fun ⟨k,sv⟩ => [(4,vI k),(3,.c (.lit sv))]) (fun ⟨k,sv⟩ => [E.vec sv 49 2 (((l.take k).flatMap ixF).map Lf.cells)]) (fun ⟨k,sv⟩ => k ≤ l.length) (fun ⟨k,sv⟩ => l.length - k) ⟨⟨0,(.slice none 0 0)⟩,(by omega),Weak.mk [true] ⟨zE,zE,zE,trivial⟩ rfl⟩ ?_
 rintro ⟨k,sv⟩ hk
 show AWP _ _ _ _ _ ⟨[(4,vI k),(3,.c (.lit sv))] ++ _,[E.vec sv 49 2 (((l.take k).flatMap ixF).map Lf.cells)] ++ _⟩
 refine zK<|sReg rfl<|rMv rfl<|rMv rfl<|zA rfl (zR rfl el44 rfl)<|zA rfl (qM rfl rfl rfl)<|zB<|zH rfl (fun c1 => ?_) (fun c1 => ?_)
 ·try simp only [sx] at c1
  obtain ⟨x,hx⟩ := qX l k (by omega)
  have hfl := ixs_len l k
  have hxw := zBj (qE hx)
  unfold Ix.wt at hxw
  refine zJ<|zK<|zS<|sReg rfl<|rMv rfl<|rMv rfl<|rMv rfl<|zA rfl (zO rfl el44 rfl rfl (by omega) (getm (by assumption)))<|zA rfl (zZ rfl zAd rfl)<|zA rfl (zG rfl kG rfl qC rfl)<|zA rfl (qZ rfl wE zr49 rfl rfl rfl rfl)<|qA rfl rfl (yI 0 rfl wE rfl rfl rfl (by simp only [List.length_map,List.length_append,List.length_cons,List.length_nil]; omega) (by simp only [List.length_map,List.length_append,List.length_cons,List.length_nil]; omega)) ?_
  rintro _ _ ⟨sv2,rfl,rfl⟩
  refine rMv rfl<|zB<|zU rfl<|rMv rfl<|rMv rfl<|rMv rfl<|zA rfl (zO rfl el44 rfl rfl (by omega) (getm (by assumption)))<|zA rfl (zZ rfl kH rfl)<|zA rfl (zD rfl wJ rfl qC rfl)<|qA rfl rfl (yI 0 rfl wE rfl rfl rfl (by simp only [List.length_map,List.length_append,List.length_cons,List.length_nil]; omega) (by simp only [List.length_map,List.length_append,List.length_cons,List.length_nil]; omega)) ?_
  rintro _ _ ⟨sv3,rfl,rfl⟩
  refine rMv rfl<|zB<|zU rfl<|rMv rfl<|zA rfl (qB rfl rfl rfl ⟨by omega,by omega⟩)<|rMv rfl<|zB ?_
  refine ⟨⟨k + 1,sv3⟩,(by omega),(by show l.length - (k + 1) < l.length - k; omega),Weak.mk [true] ⟨zE,zE,zE,trivial⟩ (by exact zEs (by rw [yE hx,List.flatMap_append,List.map_append]; simp [ixF]; rfl))⟩
 ·try simp only [sx] at c1
  refine qN<|sReg rfl<|rMv rfl<|rMv rfl<|zB<|zI<|zQ rfl ?_
  exact ⟨_,rfl,by rw [yO (by omega)]; rfl⟩
theorem ref30_node (n : Ns) (bd : List Bd) (e : Ex) (hn : n.Ok) (hb : bd.length ≤ 1000000) (he : e.wt ≤ 1073741824) :
    Pur cfg 187 [vNs n,vBds bd,vE e] (vI (nodeN n.Bufs (bd.map Bd.Name) e)):= by
 refine zV Tryz.func187 rfl Tryz.ntmps187 Tryz.results187 rfl ?_
 intro z hz
 obtain ⟨hL,hI,hA⟩ := e.parts he
 have hwt := Ex.wt_eq e
 refine sReg rfl<|qA rfl rfl (qL rfl rfl) ?_
 rintro _ _ ⟨b1,rfl,rfl⟩
 refine qA rfl rfl (qL rfl rfl) ?_
 rintro _ _ ⟨b2,rfl,rfl⟩
 refine rMv rfl<|zB<|zK<|sReg rfl<|zA rfl (zC rfl zCq rfl)<|zA rfl (zG rfl kG rfl (zF 0 rfl) rfl)<|zA rfl (qZ rfl wE zr49 rfl rfl rfl rfl)<|rMv rfl<|zA rfl (zP rfl ok216 (zPp [e.Lin] bd (by simp) (by simp; omega) (by omega)) ⟨zE,rfl,zE,rfl,trivial⟩)<|zA rfl (qT rfl rfl)<|rMv rfl<|rLz [] rfl gv1 trivial (fun g1_6 => zC rfl kE rfl) rfl<|rLz [(19,_)] rfl gv1 ⟨rfl,rfl,trivial⟩ (fun g1_6 => zD rfl kM rfl (zF 0 rfl) rfl) rfl<|rLz [(20,_)] rfl gv1 ⟨rfl,rfl,trivial⟩ (fun g1_6 => zP rfl ok217 (OwnR.pur (ref30_lins e.Idx (by omega) (by omega))) ⟨zE,rfl,trivial⟩) rfl<|rLz [] rfl gv1 trivial (fun g1_6 => zN rfl rfl) rfl<|rLz [(21,_),(22,_)] rfl gv1 ⟨rfl,rfl,rfl,rfl,trivial⟩ (fun g1_6 => zP rfl ok216 (zPp (e.Idx.flatMap ixF) bd (by have := ixs_len e.Idx e.Idx.length; rw [List.take_length] at this; omega) (fun x hx => by have := forms_wt he (show x ∈ formsL e by unfold formsL; exact List.mem_cons_of_mem _ hx); omega) (by omega)) ⟨zE,rfl,zE,rfl,trivial⟩) rfl<|rLz [(23,_)] rfl gv1 ⟨rfl,rfl,trivial⟩ (fun g1_6 => qT rfl rfl) rfl<|zA rfl (yB rfl rfl rfl rfl (fun h => (lzf h)))<|zB<|zH rfl (fun c1 => ?_) (fun c1 => ?_)
 ·have h9 := node_sc_f c1
  refine sReg rfl<|rMv rfl<|zB<|zI<|zQ rfl ?_
  rw [nodeN_9 h9]
 ·have h9 := node_sc_t c1
  refine zJ<|zK<|sReg rfl<|zA rfl (zC rfl kN rfl)<|zA rfl (zD rfl one3 rfl (zF 0 rfl) rfl)<|zA rfl (qR rfl rfl rfl)<|zB<|zH rfl (fun c2 => ?_) (fun c2 => ?_)
  ·try simp only [sx] at c2
   refine sReg rfl<|rMv rfl<|zB<|zI<|zQ rfl ?_
   rw [nodeN_o h9 c2]
  ·try simp only [sx] at c2
   refine zJ<|sReg rfl<|zA rfl (zG rfl wM rfl (zF 1 rfl) rfl)<|zA rfl (zC rfl zCs rfl)<|zA rfl (zD rfl one9 rfl (zF 0 rfl) rfl)<|zA rfl (zP rfl ok30 (zBd n e.Name hn) ⟨zE,rfl,zE,rfl,trivial⟩)<|zA rfl (qP rfl rfl)<|zA rfl (yF rfl rfl rfl)<|zA rfl (qU rfl rfl rfl)<|qA rfl rfl (qO [none,none,none,none,none,none,some 1,none] rfl zr42 rfl) ?_
   rintro _ _ ⟨b3,rfl,rfl⟩
   refine zX rfl rfl (zT rfl sz42 rfl rfl rfl (qH 0 rfl rfl))<|rMv rfl<|zB<|zK<|sReg rfl<|rMv rfl<|zA rfl (qT rfl rfl)<|zB<|zH rfl (fun c3 => ?_) (fun c3 => ?_)
   ·try simp only [sx] at c3
    refine sReg rfl<|rMv rfl<|zB<|zI<|zQ rfl ?_
    rw [nodeN_n h9 (by omega) c3]
   ·try simp only [sx] at c3
    refine zJ<|zK<|sReg rfl<|zA rfl (zC rfl zHa rfl)<|zA rfl (zD rfl zDp rfl (zF 0 rfl) rfl)<|zA rfl (zR rfl el33 rfl)<|zA rfl (zC rfl kE rfl)<|zA rfl (zD rfl kM rfl (zF 1 rfl) rfl)<|zA rfl (zR rfl el44 rfl)<|zA rfl (qR rfl rfl rfl)<|zB<|zH rfl (fun c4 => ?_) (fun c4 => ?_)
    ·try simp only [sx] at c4
     refine sReg rfl<|rMv rfl<|zB<|zI<|zQ rfl ?_
     rw [nodeN_r h9 (by omega) c3 (by omega)]
    ·try simp only [sx] at c4
     refine zJ<|zK<|sReg rfl<|rMv rfl<|zB<|zS<|zY ⟨[(9,.c _),(3,.c _),(5,.c _)],[_,_]⟩ (Weak.mk [false,true,true] ⟨zE,zE,zE,trivial⟩ rfl)<|qI 1 0 rfl rfl (Nat) (fun j => [(9,vI j)]) (fun j => []) (fun j => j ≤ e.Idx.length ∧ (gathL n.Bufs e.Idx = gathL n.Bufs (e.Idx.drop j))) (fun j => e.Idx.length - j) ⟨0,⟨by omega,rfl⟩,Weak.mk [true,true] ⟨zE,zE,zE,trivial⟩ rfl⟩ ?_
     rintro j ⟨hk,hq⟩
     refine zK<|sReg rfl<|rMv rfl<|zA rfl (zC rfl kE rfl)<|zA rfl (zD rfl kM rfl (zF 0 rfl) rfl)<|zA rfl (zR rfl el44 rfl)<|zA rfl (qM rfl rfl rfl)<|zB<|zH rfl (fun c5 => ?_) (fun c5 => ?_)
     ·try simp only [sx] at c5
      obtain ⟨y,hy⟩ := qX e.Idx j (by omega)
      refine zJ<|zK<|zS<|zK<|sReg rfl<|zA rfl (zC rfl kE rfl)<|zA rfl (zD rfl kM rfl (zF 0 rfl) rfl)<|rMv rfl<|zA rfl (zO rfl el44 rfl rfl (by omega) (getm (by assumption)))<|zA rfl (zZ rfl zAr rfl)<|zA rfl (zD rfl one9 rfl qC rfl)<|zA rfl (yP rfl rfl rfl)<|zB<|zH rfl (fun c6 => ?_) (fun c6 => ?_)
      ·try simp only [sx] at c6
       refine qN<|zU rfl<|rMv rfl<|zA rfl (qB rfl rfl rfl ⟨by omega,by omega⟩)<|rMv rfl<|zB ?_
       refine ⟨j + 1,⟨by omega,hq.trans (zHu hy (by first | exact gathE_0 c6 | exact zNv c6 c7 (by omega) (by omega)))⟩,(by omega),Weak.mk [true,true] ⟨zE,zE,zE,trivial⟩ rfl⟩
      ·try simp only [sx] at c6
       refine zJ<|zK<|yZ 13 1 [⟨0,.q [2]⟩,⟨1,.q []⟩,⟨2,.q [1]⟩,⟨3,.q []⟩,⟨4,.q []⟩,⟨5,.q []⟩,⟨6,.q []⟩,⟨7,.q []⟩,⟨8,.q []⟩,⟨9,.q []⟩,⟨10,.q []⟩,⟨11,.e 0 []⟩,⟨12,.e 0 []⟩] mixed (by kernel_rfl) (by kernel_rfl) rfl rfl rfl<|zW rfl<|zW rfl<|zW rfl<|zW rfl<|zW rfl<|zW rfl<|zW rfl<|zW rfl<|zW rfl<|zW rfl<|zW rfl<|zW rfl<|zW rfl<|zAl<|qD rfl (by decide) rfl rfl (zG rfl wM rfl (zF 0 rfl) rfl)<|qD rfl (by decide) rfl rfl (zC rfl kE rfl)<|qD rfl (by decide) rfl rfl (zD rfl kM rfl (zF 0 rfl) rfl)<|qD rfl (by decide) rfl rfl (zN rfl rfl)<|qD rfl (by decide) rfl rfl (zO rfl el44 rfl rfl (by omega) (getm (by assumption)))<|qD rfl (by decide) rfl rfl (zZ rfl zAr rfl)<|qD rfl (by decide) rfl rfl (zD rfl one9 rfl qC rfl)<|qD rfl (by decide) rfl rfl (zP rfl ok30 (zBd n y.From hn) ⟨zE,rfl,zE,rfl,trivial⟩)<|qD rfl (by decide) rfl rfl (qP rfl rfl)<|qD rfl (by decide) rfl rfl (yF rfl rfl rfl)<|qD rfl (by decide) rfl rfl (qU rfl rfl rfl)<|zIp rfl rfl (by decide) rfl rfl (qO [none,none,none,none,none,none,some 1,none] rfl zr42 rfl) ?_
       rintro _ _ ⟨b4,rfl,rfl⟩
       refine ⟨_,rfl,?_⟩
       refine zFy rfl rfl (by decide) rfl rfl (zT rfl sz42 rfl rfl rfl (qH 0 rfl rfl)) ?_
       rintro _ _ ⟨rfl,rfl⟩
       refine ⟨_,rfl,?_⟩
       refine zAk rfl<|rMv rfl<|zB<|zS<|sReg rfl<|rMv rfl<|zA rfl (qT rfl rfl)<|rMv rfl<|zB<|zH rfl (fun c7 => ?_) (fun c7 => ?_)
       ·try simp only [sx] at c7
        refine sReg rfl<|rMv rfl<|zB<|zI<|zQ rfl ?_
        rw [zGk h9 (by omega) c3 (by omega),hq,zHt hy (by rw [gathE_9 c6 c7]; decide),gathE_9 c6 c7]
       ·try simp only [sx] at c7
        refine sReg rfl<|zA rfl (zC rfl zKl rfl)<|zA rfl (zC rfl zDx rfl)<|zA rfl (zD rfl one3 rfl (zF 0 rfl) rfl)<|zA rfl (qR rfl rfl rfl)<|rMv rfl<|zB<|zH rfl (fun c8 => ?_) (fun c8 => ?_)
        ·try simp only [sx] at c8
         refine sReg rfl<|rMv rfl<|zB<|zI<|zQ rfl ?_
         rw [zGk h9 (by omega) c3 (by omega),hq,zHt hy (by rw [zNx c6 c7 c8]; decide),zNx c6 c7 c8]
        ·try simp only [sx] at c8
         refine zK<|yC 12 mixed (by kernel_rfl) rfl rfl<|zM rfl rfl (zC rfl zHa rfl)<|zM rfl rfl (zD rfl zDp rfl (zF 0 rfl) rfl)<|zM rfl rfl (zR rfl el33 rfl)<|zM rfl rfl (zC rfl kE rfl)<|zM rfl rfl (zD rfl kM rfl (zF 1 rfl) rfl)<|zM rfl rfl (zN rfl rfl)<|zM rfl rfl (zO rfl el44 rfl rfl (by omega) (getm (by assumption)))<|zM rfl rfl (zZ rfl kH rfl)<|zM rfl rfl (zD rfl wJ rfl qC rfl)<|zM rfl rfl (zR rfl wE rfl)<|zM rfl rfl (qR rfl rfl rfl)<|zM rfl rfl (yG rfl rfl)<|kA<|zB<|zH rfl (fun c9 => ?_) (fun c9 => ?_)
         ·try simp only [sx] at c9
          refine sReg rfl<|rMv rfl<|zB<|zI<|zQ rfl ?_
          rw [zGk h9 (by omega) c3 (by omega),hq,zHt hy (by rw [zNw c6 c7 c8 (by omega)]; decide),zNw c6 c7 c8 (by omega)]
         ·try simp only [sx] at c9
          refine zJ<|zU rfl<|rMv rfl<|zA rfl (qB rfl rfl rfl ⟨by omega,by omega⟩)<|rMv rfl<|zB ?_
          refine ⟨j + 1,⟨by omega,hq.trans (zHu hy (by first | exact gathE_0 c6 | exact zNv c6 c7 (by omega) (by omega)))⟩,(by omega),Weak.mk [false,true,true] ⟨zE,zE,zE,trivial⟩ rfl⟩
     ·try simp only [sx] at c5
      refine qN<|sReg rfl<|rMv rfl<|zB<|zI<|zQ rfl ?_
      rw [zGk h9 (by omega) c3 (by omega),hq,yT (by omega)]; rfl
theorem zPr (n : Ns) (hn : n.Ok) (e : Ex) (ih : ∀ a,a ∈ e.Args → partE a = 0 → a.wt ≤ 1073741824 → Pur cfg 188 [vNs n,vE a] (.tup [vTy (nodeT (kiN n.Bufs) a).1,vI (nodeT (kiN n.Bufs) a).2])) (hpart : partE e = 0) (he : e.wt ≤ 1073741824) :
    Pur cfg 188 [vNs n,vE e] (.tup [vTy (nodeT (kiN n.Bufs) e).1,vI (nodeT (kiN n.Bufs) e).2]):= by
 refine zV Tryz.func188 rfl Tryz.ntmps188 Tryz.results188 rfl ?_
 intro z hz
 obtain ⟨hLl,hIl,hAl⟩ := e.parts he
 have hwt := Ex.wt_eq e
 refine sReg rfl<|qA rfl rfl (qL rfl rfl) ?_
 rintro _ _ ⟨b1,rfl,rfl⟩
 refine qA rfl rfl (qL rfl rfl) ?_
 rintro _ _ ⟨b2,rfl,rfl⟩
 refine qA rfl rfl (yJ rfl zr40) ?_
 rintro _ _ ⟨b3,rfl,rfl⟩
 refine rMv rfl<|zB<|sReg rfl<|rMv rfl<|yK _ (kI 40 5)<|zB<|zK<|sReg rfl<|rMv rfl<|zB<|zS<|zY ⟨[(7,.c _),(6,.c _),(2,.c _),(3,.c _),(4,.c _)],[_,_,_,_]⟩ (Weak.mk [true,true,true,true] ⟨zE,zE,zE,zE,zE,trivial⟩ rfl)<|qI 2 1 rfl rfl (Nat × Value) (fun ⟨k,sv⟩ => [(7,vI k),(6,.c (.lit sv))]) (fun ⟨k,sv⟩ => [E.vec sv 40 5 ((nonC (e.Args.take k) (nodeL (kiN n.Bufs) (e.Args.take k)).1).map tyC)]) (fun ⟨k,sv⟩ => k ≤ e.Args.length ∧ ((nodeL (kiN n.Bufs) (e.Args.take k)).2 = 0)) (fun ⟨k,sv⟩ => e.Args.length - k) ⟨⟨0,(.slice none 0 0)⟩,⟨by omega,rfl⟩,Weak.mk [true,true,true,true] ⟨zE,zE,zE,zE,zE,trivial⟩ rfl⟩ ?_
 rintro ⟨k,sv⟩ ⟨hk,hp⟩
 show AWP _ _ _ _ _ ⟨[(7,vI k),(6,.c (.lit sv))] ++ _,[E.vec sv 40 5 ((nonC (e.Args.take k) (nodeL (kiN n.Bufs) (e.Args.take k)).1).map tyC)] ++ _⟩
 refine zK<|sReg rfl<|rMv rfl<|zA rfl (zC rfl kW rfl)<|zA rfl (zD rfl zAt rfl (zF 2 rfl) rfl)<|zA rfl (zR rfl el50 rfl)<|zA rfl (qM rfl rfl rfl)<|zB<|zH rfl (fun c1 => ?_) (fun c1 => ?_)
 ·try simp only [sx] at c1
  obtain ⟨x,hx⟩ := qX e.Args k (by omega)
  have hll := zDq _ _ hp
  have hcl := nonC_len (e.Args.take k) (nodeL (kiN n.Bufs) (e.Args.take k)).1
  have htk := List.length_take_le' k e.Args
  refine zJ<|zK<|zS<|zK<|yZ 12 1 [⟨0,.q [4]⟩,⟨1,.q []⟩,⟨2,.q [3]⟩,⟨3,.q []⟩,⟨4,.q []⟩,⟨5,.q []⟩,⟨6,.q []⟩,⟨7,.q []⟩,⟨8,.q []⟩,⟨9,.q []⟩,⟨10,.e 0 []⟩,⟨11,.e 0 []⟩] mixed (by kernel_rfl) (by kernel_rfl) rfl rfl rfl<|zW rfl<|zW rfl<|zW rfl<|zW rfl<|zW rfl<|zW rfl<|zW rfl<|zW rfl<|zW rfl<|zW rfl<|zW rfl<|zW rfl<|zAl<|qD rfl (by decide) rfl rfl (zG rfl wM rfl (zF 0 rfl) rfl)<|qD rfl (by decide) rfl rfl (zC rfl kW rfl)<|qD rfl (by decide) rfl rfl (zD rfl zAt rfl (zF 0 rfl) rfl)<|qD rfl (by decide) rfl rfl (zN rfl rfl)<|qD rfl (by decide) rfl rfl (zO rfl el50 rfl rfl (by omega) (zEy (by assumption)))<|qD rfl (by decide) rfl rfl (zG rfl yS rfl qC rfl)<|qD rfl (by decide) rfl rfl (zP rfl ok188 (ih x (qE hx) (zPv hpart (qE hx)) (by have := Ex.arg_wt (qE hx); omega)) ⟨zE,rfl,zE,rfl,trivial⟩)<|qD rfl (by decide) rfl rfl (qP rfl rfl)<|qD rfl (by decide) rfl rfl (yF rfl rfl rfl)<|qD rfl (by decide) rfl rfl (qU rfl rfl rfl)<|zIp rfl rfl (by decide) rfl rfl (yJ rfl zr40) ?_
  rintro _ _ ⟨b5,rfl,rfl⟩
  refine ⟨_,rfl,?_⟩
  refine zFy rfl rfl (by decide) rfl rfl (zT rfl sz40 rfl rfl rfl (qH 0 rfl rfl)) ?_
  rintro _ _ ⟨rfl,rfl⟩
  refine ⟨_,rfl,?_⟩
  refine zAk rfl<|rMv rfl<|zB<|zK<|sReg rfl<|rMv rfl<|zA rfl (qR rfl rfl rfl)<|zB<|zH rfl (fun c2 => ?_) (fun c2 => ?_)
  ·try simp only [sx] at c2
   refine sReg rfl<|zA rfl (qV rfl zr40 pl40 rfl)<|rMv rfl<|zX rfl rfl (zT rfl sz40 rfl rfl rfl (qH 2 rfl rfl))<|rMv rfl<|zB<|zI<|fin2 (qG yH rfl (zF 2 rfl) rfl) (rs_c rfl) ?_
   rw [nodeT_no hx hp c2]; rfl
  ·try simp only [sx] at c2
   refine zJ<|sReg rfl<|zA rfl (zC rfl kW rfl)<|zA rfl (zD rfl zAt rfl (zF 3 rfl) rfl)<|rMv rfl<|zA rfl (zO rfl el50 rfl rfl (by omega) (zEy (by assumption)))<|zA rfl (zG rfl yS rfl qC rfl)<|zA rfl (zP rfl ok153 (kF x) ⟨zE,rfl,trivial⟩)<|zA rfl (qT rfl rfl)<|zB<|zH rfl (fun c3 => ?_) (fun c3 => ?_)
   ·try simp only [sx] at c3
    refine zU rfl<|rMv rfl<|zA rfl (zG rfl yH rfl (zF 0 rfl) rfl)<|zA rfl (qZ rfl wH zr40 rfl rfl rfl rfl)<|qA rfl rfl (yI 1 rfl wH rfl rfl rfl (by simp only [List.length_map,List.length_append,List.length_cons,List.length_nil,hll,List.length_take]; omega) (by simp only [List.length_map,List.length_append,List.length_cons,List.length_nil,hll,List.length_take]; omega)) ?_
    rintro _ _ ⟨sv6,rfl,rfl⟩
    refine rMv rfl<|zB<|zU rfl<|rMv rfl<|zA rfl (qB rfl rfl rfl ⟨by omega,by omega⟩)<|rMv rfl<|zB ?_
    refine ⟨⟨k + 1,_⟩,⟨by omega,by rw [zCf hx hp c2]⟩,(by show e.Args.length - (k + 1) < e.Args.length - k; omega),Weak.mk [false,true,true,true,true] ⟨zE,zE,zE,zE,zE,trivial⟩ (by exact zEs (by rw [zCf hx hp c2,yE hx,zPz hll.symm]; first | (rw [if_pos c3,List.append_nil]) | (rw [if_neg (by rw [c3]; simp),List.map_append]; rfl)))⟩
   ·try simp only [sx] at c3
    refine zJ<|zU rfl<|rMv rfl<|zA rfl (qB rfl rfl rfl ⟨by omega,by omega⟩)<|rMv rfl<|zB ?_
    refine ⟨⟨k + 1,_⟩,⟨by omega,by rw [zCf hx hp c2]⟩,(by show e.Args.length - (k + 1) < e.Args.length - k; omega),Weak.mk [false,true,true,true,true] ⟨zE,zE,zE,zE,zE,trivial⟩ (by exact zEs (by rw [zCf hx hp c2,yE hx,zPz hll.symm]; first | (rw [if_pos c3,List.append_nil]) | (rw [if_neg (by rw [c3]; simp),List.map_append]; rfl)))⟩
 ·try simp only [sx] at c1
  have hll := zDq _ _ hp
  have hta : e.Args.take k = e.Args := yO (by omega)
  have hT : nodeT (kiN n.Bufs) e = kiF n.Bufs e (nonC (e.Args.take k) (nodeL (kiN n.Bufs) (e.Args.take k)).1):= by have h := nodeT_ok (N := kiN n.Bufs) hta hp; rw [h]; show kiF n.Bufs e (nonC e.Args _) = _; rw [hta]
  refine qN<|zK<|zK<|yC 12 mixed (by kernel_rfl) rfl rfl<|zM rfl rfl (zN rfl rfl)<|zM rfl rfl (yU 0 rfl wH rfl rfl)<|zM rfl rfl (qF rfl rfl rfl)<|zM rfl rfl (zN rfl rfl)<|qJ [] rfl rfl rfl rfl gv1 trivial (fun g10_3 => zN rfl rfl) rfl<|qJ [(48,_)] rfl rfl rfl rfl gv1 ⟨rfl,rfl,trivial⟩ (fun g10_3 => qQ 0 rfl wH rfl rfl rfl (by omega) (by simp only [Lz,cond_true,decide_eq_true_eq,List.length_map] at g10_3 ⊢; omega)) rfl<|qJ [(49,_)] rfl rfl rfl rfl gv1 ⟨rfl,rfl,trivial⟩ (fun g10_3 => zG rfl yH rfl (kS 0 rfl (zHk (by simp only [Lz,cond_true,decide_eq_true_eq,List.length_map] at g10_3 ⊢; omega))) rfl) rfl<|qJ [] rfl rfl rfl rfl gv1 trivial (fun g10_3 => zN rfl rfl) rfl<|qJ [(51,_)] rfl rfl rfl rfl gv1 ⟨rfl,rfl,trivial⟩ (fun g10_3 => qQ 0 rfl wH rfl rfl rfl (by omega) (by simp only [Lz,cond_true,decide_eq_true_eq,List.length_map] at g10_3 ⊢; omega)) rfl<|qJ [(52,_)] rfl rfl rfl rfl gv1 ⟨rfl,rfl,trivial⟩ (fun g10_3 => zG rfl yH rfl (kS 0 rfl (zHk (by simp only [Lz,cond_true,decide_eq_true_eq,List.length_map] at g10_3 ⊢; omega))) rfl) rfl<|qJ [(50,_),(53,_)] rfl rfl rfl rfl gv1 ⟨rfl,rfl,rfl,rfl,trivial⟩ (fun g10_3 => wV rfl fl40 rfl rfl rfl) rfl<|zM rfl rfl (qK rfl rfl rfl (fun h => h) rfl)<|kA<|zB<|zH rfl (fun c4 => ?_) (fun c4 => ?_)
  ·obtain ⟨q1,q2⟩ := ki10_t c4
   refine sReg rfl<|zA rfl (qV rfl zr40 pl40 rfl)<|zX rfl rfl (zT rfl sz40 rfl rfl rfl (qH 1 rfl rfl))<|rMv rfl<|zB<|zI<|fin2 (qG yH rfl (zF 1 rfl) rfl) (rs_c rfl) ?_
   rw [hT]; first | (rw [zDv q1 q2]; rfl) | (rw [zMa hq (by omega)]; rfl) | (rw [zNj hq (by omega)]; rfl) | (rw [zNi hq (by omega)]; rfl) | (rw [zKg hq c9]; rfl) | (rw [zKf hq (by omega) c9]; rfl)
  ·have hq := ki10_f c4
   refine zJ<|zK<|sReg rfl<|zA rfl (zC rfl kN rfl)<|zA rfl (zD rfl one3 rfl (zF 2 rfl) rfl)<|zB<|zS<|zK<|sReg rfl<|zA rfl (qF rfl rfl rfl)<|rMv rfl<|zB<|zH rfl (fun c5 => ?_) (fun c5 => ?_)
   ·try simp only [sx] at c5
    refine zJ<|zH rfl (fun c6 => ?_) (fun c6 => ?_)
    ·try simp only [sx] at c6
     refine sReg rfl<|zA rfl (zC rfl zCr rfl)<|zA rfl (zG rfl yH rfl (zF 2 rfl) rfl)<|zX rfl rfl (zT rfl sz40 rfl rfl rfl (qH 1 rfl rfl))<|rMv rfl<|zB<|zI<|fin2 (qG yH rfl (zF 1 rfl) rfl) (rs_c rfl) ?_
     rw [hT]; first | (rw [zDv q1 q2]; rfl) | (rw [zMa hq (by omega)]; rfl) | (rw [zNj hq (by omega)]; rfl) | (rw [zNi hq (by omega)]; rfl) | (rw [zKg hq c9]; rfl) | (rw [zKf hq (by omega) c9]; rfl)
    ·try simp only [sx] at c6
     refine sReg rfl<|zA rfl (qF rfl rfl rfl)<|rMv rfl<|zB<|zH rfl (fun c7 => ?_) (fun c7 => ?_)
     ·try simp only [sx] at c7
      refine sReg rfl<|zA rfl (qV rfl zr40 pl40 rfl)<|zX rfl rfl (zT rfl sz40 rfl rfl rfl (qH 1 rfl rfl))<|rMv rfl<|zB<|zI<|fin2 (qG yH rfl (zF 1 rfl) rfl) (rs_c rfl) ?_
      rw [hT]; first | (rw [zDv q1 q2]; rfl) | (rw [zMa hq (by omega)]; rfl) | (rw [zNj hq (by omega)]; rfl) | (rw [zNi hq (by omega)]; rfl) | (rw [zKg hq c9]; rfl) | (rw [zKf hq (by omega) c9]; rfl)
     ·try simp only [sx] at c7
      refine sReg rfl<|zA rfl (qF rfl rfl rfl)<|rMv rfl<|zB<|zH rfl (fun c8 => ?_) (fun c8 => ?_)
      ·try simp only [sx] at c8
       refine sReg rfl<|zA rfl (zG rfl wM rfl (zF 3 rfl) rfl)<|zA rfl (zC rfl zCs rfl)<|zA rfl (zD rfl one9 rfl (zF 2 rfl) rfl)<|zA rfl (zP rfl ok30 (zBd n e.Name hn) ⟨zE,rfl,zE,rfl,trivial⟩)<|zA rfl (qP rfl rfl)<|zA rfl (yF rfl rfl rfl)<|zA rfl (qU rfl rfl rfl)<|qA rfl rfl (qO [none,none,none,none,none,none,some 1,none] rfl zr42 rfl) ?_
       rintro _ _ ⟨b7,rfl,rfl⟩
       refine zX rfl rfl (zT rfl sz42 rfl rfl rfl (qH 0 rfl rfl))<|rMv rfl<|zB<|sReg rfl<|zA rfl (zC rfl zKl rfl)<|zA rfl (zG rfl yH rfl (zF 0 rfl) rfl)<|zX rfl rfl (zT rfl sz40 rfl rfl rfl (qH 2 rfl rfl))<|rMv rfl<|zB<|zI<|fin2 (qG yH rfl (zF 2 rfl) rfl) (rs_c rfl) ?_
       rw [hT]; first | (rw [zDv q1 q2]; rfl) | (rw [zMa hq (by omega)]; rfl) | (rw [zNj hq (by omega)]; rfl) | (rw [zNi hq (by omega)]; rfl) | (rw [zKg hq c9]; rfl) | (rw [zKf hq (by omega) c9]; rfl)
      ·try simp only [sx] at c8
       refine zJ<|zK<|sReg rfl<|zA rfl (zG rfl yS rfl (zF 2 rfl) rfl)<|zA rfl (zP rfl ok153 (kF e) ⟨zE,rfl,trivial⟩)<|zB<|zH rfl (fun c9 => ?_) (fun c9 => ?_)
       ·try simp only [sx] at c9
        refine sReg rfl<|zA rfl (qV rfl zr40 pl40 rfl)<|zX rfl rfl (zT rfl sz40 rfl rfl rfl (qH 1 rfl rfl))<|rMv rfl<|zB<|zI<|fin2 (qG yH rfl (zF 1 rfl) rfl) (rs_c rfl) ?_
        rw [hT]; first | (rw [zDv q1 q2]; rfl) | (rw [zMa hq (by omega)]; rfl) | (rw [zNj hq (by omega)]; rfl) | (rw [zNi hq (by omega)]; rfl) | (rw [zKg hq c9]; rfl) | (rw [zKf hq (by omega) c9]; rfl)
       ·try simp only [sx] at c9
        have hq1 : 1 ≤ (nonC (e.Args.take k) (nodeL (kiN n.Bufs) (e.Args.take k)).1).length:= by have h := ki_one hpart (l := (nodeL (kiN n.Bufs) (e.Args.take k)).1) (by rw [hll,hta]) (by omega) c9; rw [hta]; rw [hta] at h; exact h
        refine zJ<|sReg rfl<|rMv rfl<|zA rfl (qQ 0 rfl wH rfl rfl rfl (by omega) (by simp only [List.length_map]; omega))<|zA rfl (zG rfl yH rfl (kS 0 rfl (zHk (by omega))) rfl)<|zX rfl rfl (zT rfl sz40 rfl rfl rfl (qH 1 rfl rfl))<|rMv rfl<|zB<|zI<|fin2 (qG yH rfl (zF 1 rfl) rfl) (rs_c rfl) ?_
        rw [hT]; first | (rw [zDv q1 q2]; rfl) | (rw [zMa hq (by omega)]; rfl) | (rw [zNj hq (by omega)]; rfl) | (rw [zNi hq (by omega)]; rfl) | (rw [zKg hq c9]; rfl) | (rw [zKf hq (by omega) c9]; rfl)
   ·try simp only [sx] at c5
    refine zU rfl<|zA rfl (qF rfl rfl rfl)<|rMv rfl<|zB<|zH rfl (fun c6 => ?_) (fun c6 => ?_)
    ·try simp only [sx] at c6
     refine sReg rfl<|zA rfl (zC rfl zCr rfl)<|zA rfl (zG rfl yH rfl (zF 2 rfl) rfl)<|zX rfl rfl (zT rfl sz40 rfl rfl rfl (qH 1 rfl rfl))<|rMv rfl<|zB<|zI<|fin2 (qG yH rfl (zF 1 rfl) rfl) (rs_c rfl) ?_
     rw [hT]; first | (rw [zDv q1 q2]; rfl) | (rw [zMa hq (by omega)]; rfl) | (rw [zNj hq (by omega)]; rfl) | (rw [zNi hq (by omega)]; rfl) | (rw [zKg hq c9]; rfl) | (rw [zKf hq (by omega) c9]; rfl)
    ·try simp only [sx] at c6
     refine sReg rfl<|zA rfl (qF rfl rfl rfl)<|rMv rfl<|zB<|zH rfl (fun c7 => ?_) (fun c7 => ?_)
     ·try simp only [sx] at c7
      refine sReg rfl<|zA rfl (qV rfl zr40 pl40 rfl)<|zX rfl rfl (zT rfl sz40 rfl rfl rfl (qH 1 rfl rfl))<|rMv rfl<|zB<|zI<|fin2 (qG yH rfl (zF 1 rfl) rfl) (rs_c rfl) ?_
      rw [hT]; first | (rw [zDv q1 q2]; rfl) | (rw [zMa hq (by omega)]; rfl) | (rw [zNj hq (by omega)]; rfl) | (rw [zNi hq (by omega)]; rfl) | (rw [zKg hq c9]; rfl) | (rw [zKf hq (by omega) c9]; rfl)
     ·try simp only [sx] at c7
      refine sReg rfl<|zA rfl (qF rfl rfl rfl)<|rMv rfl<|zB<|zH rfl (fun c8 => ?_) (fun c8 => ?_)
      ·try simp only [sx] at c8
       refine sReg rfl<|zA rfl (zG rfl wM rfl (zF 3 rfl) rfl)<|zA rfl (zC rfl zCs rfl)<|zA rfl (zD rfl one9 rfl (zF 2 rfl) rfl)<|zA rfl (zP rfl ok30 (zBd n e.Name hn) ⟨zE,rfl,zE,rfl,trivial⟩)<|zA rfl (qP rfl rfl)<|zA rfl (yF rfl rfl rfl)<|zA rfl (qU rfl rfl rfl)<|qA rfl rfl (qO [none,none,none,none,none,none,some 1,none] rfl zr42 rfl) ?_
       rintro _ _ ⟨b8,rfl,rfl⟩
       refine zX rfl rfl (zT rfl sz42 rfl rfl rfl (qH 0 rfl rfl))<|rMv rfl<|zB<|sReg rfl<|zA rfl (zC rfl zKl rfl)<|zA rfl (zG rfl yH rfl (zF 0 rfl) rfl)<|zX rfl rfl (zT rfl sz40 rfl rfl rfl (qH 2 rfl rfl))<|rMv rfl<|zB<|zI<|fin2 (qG yH rfl (zF 2 rfl) rfl) (rs_c rfl) ?_
       rw [hT]; first | (rw [zDv q1 q2]; rfl) | (rw [zMa hq (by omega)]; rfl) | (rw [zNj hq (by omega)]; rfl) | (rw [zNi hq (by omega)]; rfl) | (rw [zKg hq c9]; rfl) | (rw [zKf hq (by omega) c9]; rfl)
      ·try simp only [sx] at c8
       refine zJ<|zK<|sReg rfl<|zA rfl (zG rfl yS rfl (zF 2 rfl) rfl)<|zA rfl (zP rfl ok153 (kF e) ⟨zE,rfl,trivial⟩)<|zB<|zH rfl (fun c9 => ?_) (fun c9 => ?_)
       ·try simp only [sx] at c9
        refine sReg rfl<|zA rfl (qV rfl zr40 pl40 rfl)<|zX rfl rfl (zT rfl sz40 rfl rfl rfl (qH 1 rfl rfl))<|rMv rfl<|zB<|zI<|fin2 (qG yH rfl (zF 1 rfl) rfl) (rs_c rfl) ?_
        rw [hT]; first | (rw [zDv q1 q2]; rfl) | (rw [zMa hq (by omega)]; rfl) | (rw [zNj hq (by omega)]; rfl) | (rw [zNi hq (by omega)]; rfl) | (rw [zKg hq c9]; rfl) | (rw [zKf hq (by omega) c9]; rfl)
       ·try simp only [sx] at c9
        have hq1 : 1 ≤ (nonC (e.Args.take k) (nodeL (kiN n.Bufs) (e.Args.take k)).1).length:= by have h := ki_one hpart (l := (nodeL (kiN n.Bufs) (e.Args.take k)).1) (by rw [hll,hta]) (by omega) c9; rw [hta]; rw [hta] at h; exact h
        refine zJ<|sReg rfl<|rMv rfl<|zA rfl (qQ 0 rfl wH rfl rfl rfl (by omega) (by simp only [List.length_map]; omega))<|zA rfl (zG rfl yH rfl (kS 0 rfl (zHk (by omega))) rfl)<|zX rfl rfl (zT rfl sz40 rfl rfl rfl (qH 1 rfl rfl))<|rMv rfl<|zB<|zI<|fin2 (qG yH rfl (zF 1 rfl) rfl) (rs_c rfl) ?_
        rw [hT]; first | (rw [zDv q1 q2]; rfl) | (rw [zMa hq (by omega)]; rfl) | (rw [zNj hq (by omega)]; rfl) | (rw [zNi hq (by omega)]; rfl) | (rw [zKg hq c9]; rfl) | (rw [zKf hq (by omega) c9]; rfl)
theorem ref30_Kind (n : Ns) (e : Ex) (hn : n.Ok) (hpart : partE e = 0) (he : e.wt ≤ 1073741824) : Pur cfg 188 [vNs n,vE e] (.tup [vTy (nodeT (kiN n.Bufs) e).1,vI (nodeT (kiN n.Bufs) e).2]):= by
  induction e using Ex.ind with
  | _ e ih => exact zPr n hn e (fun a ha h1 h2 => ih a ha h1 h2) hpart he
theorem zEm (n : Ns) (bd : List Bd) (e : Ex) (hn : n.Ok) (hb : bd.length ≤ 1000000) (he : e.wt ≤ 1000000) :
    Pur cfg 152 [vNs n,vBds bd,vE e] (.tup [vTy (exprT n.Bufs (bd.map Bd.Name) e).1,vI (exprT n.Bufs (bd.map Bd.Name) e).2]):= by
 refine zV Tryz.func152 rfl Tryz.ntmps152 Tryz.results152 rfl ?_
 intro z hz
 have hnl := nodes_wt e
 refine sReg rfl<|qA rfl rfl (qL rfl rfl) ?_
 rintro _ _ ⟨b1,rfl,rfl⟩
 refine qA rfl rfl (qL rfl rfl) ?_
 rintro _ _ ⟨b2,rfl,rfl⟩
 refine qA rfl rfl (yJ rfl zr40) ?_
 rintro _ _ ⟨b3,rfl,rfl⟩
 refine rMv rfl<|zB<|zK<|sReg rfl<|zA rfl (zG rfl yS rfl (zF 1 rfl) rfl)<|zA rfl (zP rfl ok186 (ref14_Validate e (by omega)) ⟨zE,rfl,trivial⟩)<|rMv rfl<|zB<|sReg rfl<|rMv rfl<|zA rfl (qR rfl rfl rfl)<|zB<|zH rfl (fun c1 => ?_) (fun c1 => ?_)
 ·try simp only [sx] at c1
  refine sReg rfl<|zA rfl (qV rfl zr40 pl40 rfl)<|rMv rfl<|zX rfl rfl (zT rfl sz40 rfl rfl rfl (qH 0 rfl rfl))<|rMv rfl<|zB<|zI<|fin2 (qG yH rfl (zF 0 rfl) rfl) (rs_c rfl) ?_
  rw [exprT_1 c1]; rfl
 ·try simp only [sx] at c1
  refine zJ<|sReg rfl<|zA rfl (zG rfl yS rfl (zF 1 rfl) rfl)<|zA rfl (zP rfl ok119 (OwnR.pur (ref14_All e (by omega))) ⟨zE,rfl,trivial⟩)<|rMv rfl<|zB<|zK<|sReg rfl<|rMv rfl<|zB<|zS<|zY ⟨[(10,.c _),(1,.c _),(3,.c _),(5,.c _),(6,.c _),(9,.c _)],[_,_,_]⟩ (Weak.mk [true,true,true] ⟨zE,zE,zE,zE,zE,zE,trivial⟩ rfl)<|qI 1 0 rfl rfl (Nat) (fun k => [(10,vI k)]) (fun k => []) (fun k => k ≤ (nodes e).length ∧ (nodesN n.Bufs (bd.map Bd.Name) (nodes e) = nodesN n.Bufs (bd.map Bd.Name) ((nodes e).drop k))) (fun k => (nodes e).length - k) ⟨0,⟨by omega,rfl⟩,Weak.mk [true,true,true] ⟨zE,zE,zE,zE,zE,zE,trivial⟩ rfl⟩ ?_
  rintro k ⟨hk,hp⟩
  refine zK<|sReg rfl<|rMv rfl<|rMv rfl<|zA rfl (zR rfl el50 rfl)<|zA rfl (qM rfl rfl rfl)<|zB<|zH rfl (fun c2 => ?_) (fun c2 => ?_)
  ·try simp only [sx] at c2
   obtain ⟨x,hx⟩ := qX (nodes e) k (by omega)
   refine zJ<|zK<|zS<|zK<|yC 8 mixed (by kernel_rfl) rfl rfl<|zM rfl rfl (zG rfl wM rfl (zF 2 rfl) rfl)<|zM rfl rfl (zN rfl rfl)<|zM rfl rfl (zN rfl rfl)<|zM rfl rfl (zN rfl rfl)<|zM rfl rfl (zO rfl el50 rfl rfl (by omega) (zEy (by assumption)))<|zM rfl rfl (zG rfl yS rfl qC rfl)<|zM rfl rfl (zP rfl ok187 (ref30_node n bd x hn hb (by have := zCn e x (qE hx); omega)) ⟨zE,rfl,zE,rfl,zE,rfl,trivial⟩)<|zM rfl rfl (yG rfl rfl)<|kA<|zB<|sReg rfl<|rMv rfl<|zA rfl (qR rfl rfl rfl)<|zB<|zH rfl (fun c3 => ?_) (fun c3 => ?_)
   ·try simp only [sx] at c3
    refine sReg rfl<|zA rfl (qV rfl zr40 pl40 rfl)<|rMv rfl<|zX rfl rfl (zT rfl sz40 rfl rfl rfl (qH 0 rfl rfl))<|rMv rfl<|zB<|zI<|fin2 (qG yH rfl (zF 0 rfl) rfl) (rs_c rfl) ?_
    rw [exprT_2 c1 (by rw [hp,nodesN_no hx c3]; exact c3),hp,nodesN_no hx c3]; rfl
   ·try simp only [sx] at c3
    refine zJ<|zU rfl<|rMv rfl<|zA rfl (qB rfl rfl rfl ⟨by omega,by omega⟩)<|rMv rfl<|zB ?_
    refine ⟨k + 1,⟨by omega,hp.trans (nodesN_at hx c3)⟩,(by omega),Weak.mk [true,true,true] ⟨zE,zE,zE,zE,zE,zE,trivial⟩ rfl⟩
  ·try simp only [sx] at c2
   refine qN<|sReg rfl<|zA rfl (zG rfl wM rfl (zF 2 rfl) rfl)<|zA rfl (zG rfl yS rfl (zF 1 rfl) rfl)<|zA rfl (zP rfl ok188 (ref30_Kind n e hn (zDl c1) (by omega)) ⟨zE,rfl,zE,rfl,trivial⟩)<|zA rfl (yF rfl rfl rfl)<|zA rfl (qU rfl rfl rfl)<|zX rfl rfl (zT rfl sz40 rfl rfl rfl (qH 0 rfl rfl))<|rMv rfl<|zB<|zI<|fin2 (qG yH rfl (zF 0 rfl) rfl) (rs_c rfl) ?_
   rw [exprT_k c1 (by rw [hp,yT (by omega)]; rfl)]; rfl
theorem ref30_plain (s : St) (hs : s.wt ≤ 900000000) :
    Pur cfg 151 [vSt s] (vB (synSt s)):= by
 refine zV Tryz.func151 rfl Tryz.ntmps151 Tryz.results151 rfl ?_
 intro z hz
 obtain ⟨hE,hI,hIw,hB,hBw⟩ := St.parts hs
 refine sReg rfl<|qA rfl rfl (qL rfl rfl) ?_
 rintro _ _ ⟨b1,rfl,rfl⟩
 refine rMv rfl<|zB<|zK<|yC 8 mixed (by kernel_rfl) rfl rfl<|zM rfl rfl (zC rfl zAc rfl)<|zM rfl rfl (zD rfl one3 rfl (zF 0 rfl) rfl)<|zM rfl rfl (qF rfl rfl rfl)<|zM rfl rfl (zC rfl zAc rfl)<|zM rfl rfl (zD rfl one3 rfl (zF 0 rfl) rfl)<|zM rfl rfl (qF rfl rfl rfl)<|zM rfl rfl (yG rfl rfl)<|zM rfl rfl (yG rfl rfl)<|kA<|zB<|sReg rfl<|zA rfl (zC rfl zAc rfl)<|zA rfl (zD rfl one3 rfl (zF 0 rfl) rfl)<|zA rfl (qF rfl rfl rfl)<|rMv rfl<|rLz [] rfl gv1 trivial (fun g2_3 => zC rfl zAc rfl) rfl<|rLz [(16,_)] rfl gv1 ⟨rfl,rfl,trivial⟩ (fun g2_3 => zD rfl one3 rfl (zF 0 rfl) rfl) rfl<|rLz [(17,_)] rfl gv1 ⟨rfl,rfl,trivial⟩ (fun g2_3 => qF rfl rfl rfl) rfl<|zA rfl (yB rfl rfl rfl rfl (fun h => (lzf h)))<|rMv rfl<|zB<|zK<|sReg rfl<|rMv rfl<|zA rfl (qT rfl rfl)<|rMv rfl<|rLz [] rfl gv1 trivial (fun g3_2 => zN rfl rfl) rfl<|rLz [(23,_)] rfl gv1 ⟨rfl,rfl,trivial⟩ (fun g3_2 => qT rfl rfl) rfl<|zA rfl (qK rfl rfl rfl (fun h => h) rfl)<|rMv rfl<|rLz [] rfl gv1 trivial (fun g3_6 => zN rfl rfl) rfl<|rLz [(27,_)] rfl gv1 ⟨rfl,rfl,trivial⟩ (fun g3_6 => qT rfl rfl) rfl<|zA rfl (qK rfl rfl rfl (fun h => h) rfl)<|zB<|zH rfl (fun c1 => ?_) (fun c1 => ?_)
 ·refine sReg rfl<|rMv rfl<|zB<|zI<|zQ rfl ?_
  exact congrArg vB (pln_1 c1)
 ·refine zJ<|zK<|sReg rfl<|rMv rfl<|zA rfl (qT rfl rfl)<|rMv rfl<|rLz [] rfl gv1 trivial (fun g5_2 => zC rfl zIh rfl) rfl<|rLz [(33,_)] rfl gv1 ⟨rfl,rfl,trivial⟩ (fun g5_2 => zD rfl one3 rfl (zF 0 rfl) rfl) rfl<|rLz [(34,_)] rfl gv1 ⟨rfl,rfl,trivial⟩ (fun g5_2 => qR rfl rfl rfl) rfl<|rLz [(35,_)] rfl gv1 ⟨rfl,rfl,trivial⟩ (fun g5_2 => zN rfl rfl) rfl<|rLz [] rfl gv2 trivial (fun g5_6 => zC rfl zMx rfl) rfl<|rLz [(37,_)] rfl gv2 ⟨rfl,rfl,trivial⟩ (fun g5_6 => zD rfl one3 rfl (zF 0 rfl) rfl) rfl<|rLz [(38,_)] rfl gv2 ⟨rfl,rfl,trivial⟩ (fun g5_6 => qR rfl rfl rfl) rfl<|rLz [(36,_)] rfl gv1 ⟨rfl,rfl,trivial⟩ (fun g5_2 => yB rfl rfl rfl rfl (fun h => yV (by assumption) (lzf h))) rfl<|zA rfl (qK rfl rfl rfl (fun h => h) rfl)<|rMv rfl<|rLz [] rfl gv1 trivial (fun g5_12 => zC rfl zAc rfl) rfl<|rLz [(43,_)] rfl gv1 ⟨rfl,rfl,trivial⟩ (fun g5_12 => zD rfl one3 rfl (zF 0 rfl) rfl) rfl<|rLz [(44,_)] rfl gv1 ⟨rfl,rfl,trivial⟩ (fun g5_12 => qR rfl rfl rfl) rfl<|rLz [(45,_)] rfl gv1 ⟨rfl,rfl,trivial⟩ (fun g5_12 => zN rfl rfl) rfl<|rLz [] rfl gv2 trivial (fun g5_16 => zC rfl zMw rfl) rfl<|rLz [(47,_)] rfl gv2 ⟨rfl,rfl,trivial⟩ (fun g5_16 => zD rfl one3 rfl (zF 0 rfl) rfl) rfl<|rLz [(48,_)] rfl gv2 ⟨rfl,rfl,trivial⟩ (fun g5_16 => qR rfl rfl rfl) rfl<|rLz [(46,_)] rfl gv1 ⟨rfl,rfl,trivial⟩ (fun g5_12 => qK rfl rfl rfl (fun h => yV (by assumption) h) rfl) rfl<|zA rfl (yB rfl rfl rfl rfl (fun h => (lzf h)))<|rMv rfl<|rLz [] rfl gv1 trivial (fun g5_22 => zN rfl rfl) rfl<|rLz [(53,_)] rfl gv1 ⟨rfl,rfl,trivial⟩ (fun g5_22 => zN rfl rfl) rfl<|rLz [] rfl gv2 trivial (fun g5_24 => zC rfl wQ rfl) rfl<|rLz [(55,_)] rfl gv2 ⟨rfl,rfl,trivial⟩ (fun g5_24 => zD rfl one9 rfl (zF 0 rfl) rfl) rfl<|rLz [(56,_)] rfl gv2 ⟨rfl,rfl,trivial⟩ (fun g5_24 => zCd rfl rfl rfl) rfl<|rLz [(54,_)] rfl gv1 ⟨rfl,rfl,trivial⟩ (fun g5_22 => qK rfl rfl rfl (fun h => yV (by assumption) h) rfl) rfl<|zA rfl (yB rfl rfl rfl rfl (fun h => (lzf h)))<|zB<|zH rfl (fun c2 => ?_) (fun c2 => ?_)
  ·refine sReg rfl<|rMv rfl<|zB<|zI<|zQ rfl ?_
   exact congrArg vB (pln_2 c2)
  ·refine zJ<|zK<|sReg rfl<|rMv rfl<|zA rfl (qT rfl rfl)<|rMv rfl<|rLz [] rfl gv1 trivial (fun g7_2 => zC rfl zBz rfl) rfl<|rLz [(63,_)] rfl gv1 ⟨rfl,rfl,trivial⟩ (fun g7_2 => zD rfl kM rfl (zF 0 rfl) rfl) rfl<|rLz [(64,_)] rfl gv1 ⟨rfl,rfl,trivial⟩ (fun g7_2 => zR rfl el44 rfl) rfl<|rLz [(65,_)] rfl gv1 ⟨rfl,rfl,trivial⟩ (fun g7_2 => yA rfl rfl rfl) rfl<|zA rfl (qK rfl rfl rfl (fun h => h) rfl)<|rMv rfl<|rLz [] rfl gv1 trivial (fun g7_8 => zN rfl rfl) rfl<|rLz [(69,_)] rfl gv1 ⟨rfl,rfl,trivial⟩ (fun g7_8 => zN rfl rfl) rfl<|rLz [] rfl gv2 trivial (fun g7_10 => zC rfl zAn rfl) rfl<|rLz [(71,_)] rfl gv2 ⟨rfl,rfl,trivial⟩ (fun g7_10 => zD rfl zAa rfl (zF 0 rfl) rfl) rfl<|rLz [(72,_)] rfl gv2 ⟨rfl,rfl,trivial⟩ (fun g7_10 => zR rfl el23 rfl) rfl<|rLz [(73,_)] rfl gv2 ⟨rfl,rfl,trivial⟩ (fun g7_10 => yA rfl rfl rfl) rfl<|rLz [(70,_)] rfl gv1 ⟨rfl,rfl,trivial⟩ (fun g7_8 => qK rfl rfl rfl (fun h => yV (by assumption) h) rfl) rfl<|zA rfl (yB rfl rfl rfl rfl (fun h => (lzf h)))<|zB<|zH rfl (fun c3 => ?_) (fun c3 => ?_)
   ·refine sReg rfl<|rMv rfl<|zB<|zI<|zQ rfl ?_
    exact congrArg vB (pln_3 c3)
   ·refine zJ<|sReg rfl<|rMv rfl<|zA rfl (qT rfl rfl)<|rMv rfl<|rLz [] rfl gv1 trivial (fun g9_2 => zC rfl zAv rfl) rfl<|rLz [(80,_)] rfl gv1 ⟨rfl,rfl,trivial⟩ (fun g9_2 => zG rfl yS rfl (zF 0 rfl) rfl) rfl<|rLz [] rfl gv1 trivial (fun g9_2 => yW [none,none,none,none,none,none,none,none,none,none,some 2,some 4,some 13] rfl zr52 pl52 rfl rfl) rfl<|rLz [(81,_),(82,_)] rfl gv1 ⟨rfl,rfl,rfl,rfl,trivial⟩ (fun g9_2 => zP rfl ok82 (base_Expr s.E zEx (by omega)) ⟨zE,rfl,zE,rfl,trivial⟩) rfl<|zA rfl (yB rfl rfl rfl rfl (fun h => (lzf h)))<|rMv rfl<|zB<|zI<|zQ rfl ?_
    exact congrArg vB (pln_4 c1 c2 c3)
theorem ref30_store (n : Ns) (bd : List Bd) (s : St) (hn : n.Ok) (hb : bd.length ≤ 1000000) (hs : s.wt ≤ 900000) :
    Pur cfg 154 [vNs n,vBds bd,vSt s] (vI (storeE n.Bufs (bd.map Bd.Name) s)):= by
 refine zV Tryz.func154 rfl Tryz.ntmps154 Tryz.results154 rfl ?_
 intro z hz
 obtain ⟨hE,hI,hIw,hB,hBw⟩ := St.parts hs
 have hrd := rdE_wt s
 refine sReg rfl<|qA rfl rfl (qL rfl rfl) ?_
 rintro _ _ ⟨b1,rfl,rfl⟩
 refine qA rfl rfl (qL rfl rfl) ?_
 rintro _ _ ⟨b2,rfl,rfl⟩
 refine rMv rfl<|zB<|zK<|sReg rfl<|zA rfl (zG rfl wM rfl (zF 1 rfl) rfl)<|rMv rfl<|zA rfl (zC rfl wQ rfl)<|zA rfl (zD rfl one9 rfl (zF 0 rfl) rfl)<|zA rfl (zC rfl zBz rfl)<|zA rfl (zD rfl kM rfl (zF 0 rfl) rfl)<|zA rfl (yW [none,none,none,none,none,none,none,none,none,none,some 2,none,some 13] rfl zr52 pl52 rfl rfl)<|zA rfl (zP rfl ok152 (zEm n bd (rdE s) hn hb (by omega)) ⟨zE,rfl,zE,rfl,zE,rfl,trivial⟩)<|zA rfl (qP rfl rfl)<|zA rfl (yF rfl rfl rfl)<|zA rfl (qU rfl rfl rfl)<|qA rfl rfl (yJ rfl zr40) ?_
 rintro _ _ ⟨b3,rfl,rfl⟩
 refine zX rfl rfl (zT rfl sz40 rfl rfl rfl (qH 0 rfl rfl))<|rMv rfl<|zB<|sReg rfl<|rMv rfl<|zA rfl (qR rfl rfl rfl)<|zB<|zH rfl (fun c1 => ?_) (fun c1 => ?_)
 ·try simp only [sx] at c1
  refine sReg rfl<|rMv rfl<|rMv rfl<|zB<|zI<|zQ rfl ?_
  rw [zNp c1]
 ·try simp only [sx] at c1
  refine zJ<|sReg rfl<|zA rfl (zG rfl wM rfl (zF 2 rfl) rfl)<|zA rfl (zC rfl wQ rfl)<|zA rfl (zD rfl one9 rfl (zF 1 rfl) rfl)<|zA rfl (zP rfl ok30 (zBd n s.Name hn) ⟨zE,rfl,zE,rfl,trivial⟩)<|zA rfl (qP rfl rfl)<|zA rfl (yF rfl rfl rfl)<|zA rfl (qU rfl rfl rfl)<|qA rfl rfl (qO [none,none,none,none,none,none,some 1,none] rfl zr42 rfl) ?_
  rintro _ _ ⟨b4,rfl,rfl⟩
  refine zX rfl rfl (zT rfl sz42 rfl rfl rfl (qH 0 rfl rfl))<|rMv rfl<|zB<|zK<|sReg rfl<|zA rfl (zC rfl zRb rfl)<|zA rfl (zD rfl one3 rfl (zF 0 rfl) rfl)<|zA rfl (qF rfl rfl rfl)<|rMv rfl<|rLz [] rfl gv1 trivial (fun g5_3 => zC rfl zAc rfl) rfl<|rLz [(38,_)] rfl gv1 ⟨rfl,rfl,trivial⟩ (fun g5_3 => zD rfl one3 rfl (zF 2 rfl) rfl) rfl<|rLz [(39,_)] rfl gv1 ⟨rfl,rfl,trivial⟩ (fun g5_3 => qF rfl rfl rfl) rfl<|rLz [(40,_)] rfl gv1 ⟨rfl,rfl,trivial⟩ (fun g5_3 => zN rfl rfl) rfl<|rLz [] rfl gv2 trivial (fun g5_7 => zC rfl zMw rfl) rfl<|rLz [(42,_)] rfl gv2 ⟨rfl,rfl,trivial⟩ (fun g5_7 => zD rfl one3 rfl (zF 2 rfl) rfl) rfl<|rLz [(43,_)] rfl gv2 ⟨rfl,rfl,trivial⟩ (fun g5_7 => qM rfl rfl rfl) rfl<|rLz [(44,_)] rfl gv2 ⟨rfl,rfl,trivial⟩ (fun g5_7 => zN rfl rfl) rfl<|rLz [] rfl gv2 trivial (fun g5_11 => zC rfl zMw rfl) rfl<|rLz [(46,_)] rfl gv2 ⟨rfl,rfl,trivial⟩ (fun g5_11 => zD rfl one3 rfl (zF 2 rfl) rfl) rfl<|rLz [(47,_)] rfl gv2 ⟨rfl,rfl,trivial⟩ (fun g5_11 => yA rfl rfl rfl) rfl<|rLz [(45,_)] rfl gv2 ⟨rfl,rfl,trivial⟩ (fun g5_7 => yB rfl rfl rfl rfl (fun h => yV (by assumption) (lzf h))) rfl<|rLz [(41,_)] rfl gv1 ⟨rfl,rfl,trivial⟩ (fun g5_3 => qK rfl rfl rfl (fun h => yV (by assumption) h) rfl) rfl<|zA rfl (yB rfl rfl rfl rfl (fun h => (lzf h)))<|zB<|zH rfl (fun c2 => ?_) (fun c2 => ?_)
  ·try simp only [sx] at c2
   refine sReg rfl<|rMv rfl<|zB<|zI<|zQ rfl ?_
   rw [zJn c1 c2]
  ·try simp only [sx] at c2
   refine zJ<|sReg rfl<|zA rfl (zG rfl wM rfl (zF 3 rfl) rfl)<|rMv rfl<|zA rfl (zC rfl zAv rfl)<|zA rfl (zG rfl yS rfl (zF 2 rfl) rfl)<|zA rfl (zP rfl ok152 (zEm n bd s.E hn hb (by omega)) ⟨zE,rfl,zE,rfl,zE,rfl,trivial⟩)<|zA rfl (qP rfl rfl)<|zA rfl (yF rfl rfl rfl)<|zA rfl (qU rfl rfl rfl)<|qA rfl rfl (yJ rfl zr40) ?_
   rintro _ _ ⟨b5,rfl,rfl⟩
   refine zX rfl rfl (zT rfl sz40 rfl rfl rfl (qH 0 rfl rfl))<|rMv rfl<|zB<|zK<|sReg rfl<|rMv rfl<|zA rfl (qF rfl rfl rfl)<|rMv rfl<|rLz [] rfl gv1 trivial (fun g8_2 => zC rfl zAv rfl) rfl<|rLz [(63,_)] rfl gv1 ⟨rfl,rfl,trivial⟩ (fun g8_2 => zG rfl yS rfl (zF 3 rfl) rfl) rfl<|rLz [(64,_)] rfl gv1 ⟨rfl,rfl,trivial⟩ (fun g8_2 => zP rfl ok153 (kF _) ⟨zE,rfl,trivial⟩) rfl<|rLz [(65,_)] rfl gv1 ⟨rfl,rfl,trivial⟩ (fun g8_2 => zN rfl rfl) rfl<|rLz [] rfl gv2 trivial (fun g8_6 => zG rfl yH rfl (zF 0 rfl) rfl) rfl<|rLz [] rfl gv2 trivial (fun g8_6 => zC rfl zKl rfl) rfl<|rLz [(68,_)] rfl gv2 ⟨rfl,rfl,trivial⟩ (fun g8_6 => zG rfl yH rfl (zF 1 rfl) rfl) rfl<|rLz [(67,_),(69,_)] rfl gv2 ⟨rfl,rfl,rfl,rfl,trivial⟩ (fun g8_6 => wV rfl fl40 rfl rfl rfl) rfl<|rLz [(66,_)] rfl gv1 ⟨rfl,rfl,trivial⟩ (fun g8_2 => yB rfl rfl rfl rfl (fun h => yV (by assumption) (lzf h))) rfl<|zA rfl (qK rfl rfl rfl (fun h => h) rfl)<|zB<|zH rfl (fun c3 => ?_) (fun c3 => ?_)
   ·obtain ⟨h0,h10⟩ := st3_t c3
    refine sReg rfl<|rMv rfl<|zB<|zI<|zQ rfl ?_
    rw [zOy c1 (by omega) h0 h10]
   ·have h3 := st3_f c3
    refine zJ<|sReg rfl<|rMv rfl<|rMv rfl<|zB<|zI<|zQ rfl ?_
    rw [st_fin c1 (by omega) h3]
theorem ref30_one (n : Ns) (bd : List Bd) (U : List ByteArray) (s : St) (hn : n.Ok) (hb : bd.length ≤ 1000000) (hs : s.wt ≤ 900000) (hU : U.length ≤ 1000000) :
    Pur cfg 114 [vNs n,vBds bd,vSs U,vSt s] (vI (stE n.Bufs U (bd.map Bd.Name) s)):= by
 refine zV Tryz.func114 rfl Tryz.ntmps114 Tryz.results114 rfl ?_
 intro z hz
 obtain ⟨hE,hI,hIw,hB,hBw⟩ := St.parts hs
 refine sReg rfl<|qA rfl rfl (qL rfl rfl) ?_
 rintro _ _ ⟨b1,rfl,rfl⟩
 refine qA rfl rfl (qL rfl rfl) ?_
 rintro _ _ ⟨b2,rfl,rfl⟩
 refine rMv rfl<|zB<|zK<|sReg rfl<|zA rfl (zG rfl zJd rfl (zF 0 rfl) rfl)<|zA rfl (zP rfl ok151 (ref30_plain s (by omega)) ⟨zE,rfl,trivial⟩)<|zA rfl (qT rfl rfl)<|zB<|zH rfl (fun c1 => ?_) (fun c1 => ?_)
 ·try simp only [sx] at c1
  refine sReg rfl<|rMv rfl<|zB<|zI<|zQ rfl ?_
  rw [stE_5 c1]
 ·try simp only [sx] at c1
  refine zJ<|zK<|sReg rfl<|zA rfl (zC rfl zAc rfl)<|zA rfl (zD rfl one3 rfl (zF 0 rfl) rfl)<|zB<|zS<|sReg rfl<|zA rfl (qF rfl rfl rfl)<|rMv rfl<|zB<|zH rfl (fun c2 => ?_) (fun c2 => ?_)
  ·try simp only [sx] at c2
   refine sReg rfl<|zA rfl (zG rfl wM rfl (zF 1 rfl) rfl)<|zA rfl (zC rfl wQ rfl)<|zA rfl (zD rfl one9 rfl (zF 0 rfl) rfl)<|zA rfl (zP rfl ok30 (zBd n s.Name hn) ⟨zE,rfl,zE,rfl,trivial⟩)<|zA rfl (qP rfl rfl)<|zA rfl (yF rfl rfl rfl)<|zA rfl (qU rfl rfl rfl)<|qA rfl rfl (qO [none,none,none,none,none,none,some 1,none] rfl zr42 rfl) ?_
   rintro _ _ ⟨b3,rfl,rfl⟩
   refine zX rfl rfl (zT rfl sz42 rfl rfl rfl (qH 0 rfl rfl))<|rMv rfl<|zB<|zK<|zS<|sReg rfl<|zA rfl (zC rfl wQ rfl)<|zA rfl (zD rfl one9 rfl (zF 1 rfl) rfl)<|zA rfl (zP rfl ok50 (zEa s.Name) ⟨zE,rfl,trivial⟩)<|zA rfl (qT rfl rfl)<|rMv rfl<|zB<|zH rfl (fun c3 => ?_) (fun c3 => ?_)
   ·try simp only [sx] at c3
    refine sReg rfl<|rMv rfl<|zB<|zI<|zQ rfl ?_
    rw [stE_l c1 c2,loopE_7 c3]
   ·try simp only [sx] at c3
    refine sReg rfl<|rMv rfl<|rMv rfl<|rLz [] rfl gv1 trivial (fun g8_1 => zN rfl rfl) rfl<|rLz [] rfl gv1 trivial (fun g8_1 => zC rfl wQ rfl) rfl<|rLz [(36,_)] rfl gv1 ⟨rfl,rfl,trivial⟩ (fun g8_1 => zD rfl one9 rfl (zF 1 rfl) rfl) rfl<|rLz [(35,_),(37,_)] rfl gv1 ⟨rfl,rfl,rfl,rfl,trivial⟩ (fun g8_1 => zP rfl ok49 (base_Has U s.Name (by omega)) ⟨zE,rfl,zE,rfl,trivial⟩) rfl<|zA rfl (yB rfl rfl rfl rfl (fun h => (lzf h)))<|rMv rfl<|zB<|zH rfl (fun c4 => ?_) (fun c4 => ?_)
    ·try simp only [sx] at c4
     refine sReg rfl<|rMv rfl<|zB<|zI<|zQ rfl ?_
     rw [stE_l c1 c2,loopE_8 c3 c4]
    ·try simp only [sx] at c4
     have h8 : ¬ (hasBf n.Bufs s.Name = true ∨ hasB U s.Name = true):= by rw [c4.1,c4.2]; simp
     refine sReg rfl<|zA rfl (zC rfl zIh rfl)<|zA rfl (zD rfl one3 rfl (zF 1 rfl) rfl)<|zA rfl (qM rfl rfl rfl)<|rMv rfl<|rLz [] rfl gv1 trivial (fun g10_3 => zC rfl zIh rfl) rfl<|rLz [(45,_)] rfl gv1 ⟨rfl,rfl,trivial⟩ (fun g10_3 => zD rfl one3 rfl (zF 1 rfl) rfl) rfl<|rLz [(46,_)] rfl gv1 ⟨rfl,rfl,trivial⟩ (fun g10_3 => yA rfl rfl rfl) rfl<|zA rfl (yB rfl rfl rfl rfl (fun h => (lzf h)))<|rMv rfl<|rLz [] rfl gv1 trivial (fun g10_8 => zC rfl zMx rfl) rfl<|rLz [(50,_)] rfl gv1 ⟨rfl,rfl,trivial⟩ (fun g10_8 => zD rfl one3 rfl (zF 1 rfl) rfl) rfl<|rLz [(51,_)] rfl gv1 ⟨rfl,rfl,trivial⟩ (fun g10_8 => qM rfl rfl rfl) rfl<|zA rfl (yB rfl rfl rfl rfl (fun h => (lzf h)))<|rMv rfl<|rLz [] rfl gv1 trivial (fun g10_13 => zC rfl zMx rfl) rfl<|rLz [(55,_)] rfl gv1 ⟨rfl,rfl,trivial⟩ (fun g10_13 => zD rfl one3 rfl (zF 1 rfl) rfl) rfl<|rLz [(56,_)] rfl gv1 ⟨rfl,rfl,trivial⟩ (fun g10_13 => yA rfl rfl rfl) rfl<|zA rfl (yB rfl rfl rfl rfl (fun h => (lzf h)))<|rMv rfl<|zB<|zH rfl (fun c5 => ?_) (fun c5 => ?_)
     ·try simp only [sx] at c5
      refine sReg rfl<|rMv rfl<|zB<|zI<|zQ rfl ?_
      rw [stE_l c1 c2,loopE_1 c3 h8 (by omega)]
     ·try simp only [sx] at c5
      refine zJ<|sReg rfl<|rMv rfl<|zB<|zI<|zQ rfl ?_
      rw [stE_l c1 c2,loopE_0 c3 h8 (by omega)]
  ·try simp only [sx] at c2
   refine sReg rfl<|zA rfl (qF rfl rfl rfl)<|rMv rfl<|zB<|zH rfl (fun c6 => ?_) (fun c6 => ?_)
   ·try simp only [sx] at c6
    refine sReg rfl<|zA rfl (zG rfl wM rfl (zF 1 rfl) rfl)<|rMv rfl<|zA rfl (zC rfl zAv rfl)<|zA rfl (zG rfl yS rfl (zF 0 rfl) rfl)<|zA rfl (zP rfl ok152 (zEm n bd s.E hn hb (by omega)) ⟨zE,rfl,zE,rfl,zE,rfl,trivial⟩)<|zA rfl (qP rfl rfl)<|zA rfl (yF rfl rfl rfl)<|zA rfl (qU rfl rfl rfl)<|qA rfl rfl (yJ rfl zr40) ?_
    rintro _ _ ⟨b4,rfl,rfl⟩
    refine zX rfl rfl (zT rfl sz40 rfl rfl rfl (qH 0 rfl rfl))<|rMv rfl<|zB<|zK<|sReg rfl<|rMv rfl<|zA rfl (qF rfl rfl rfl)<|rMv rfl<|rLz [] rfl gv1 trivial (fun g15_2 => zC rfl zAv rfl) rfl<|rLz [(72,_)] rfl gv1 ⟨rfl,rfl,trivial⟩ (fun g15_2 => zG rfl yS rfl (zF 1 rfl) rfl) rfl<|rLz [(73,_)] rfl gv1 ⟨rfl,rfl,trivial⟩ (fun g15_2 => zP rfl ok153 (kF _) ⟨zE,rfl,trivial⟩) rfl<|rLz [(74,_)] rfl gv1 ⟨rfl,rfl,trivial⟩ (fun g15_2 => qT rfl rfl) rfl<|zA rfl (qK rfl rfl rfl (fun h => h) rfl)<|zB<|zH rfl (fun c7 => ?_) (fun c7 => ?_)
    ·refine sReg rfl<|rMv rfl<|zB<|zI<|zQ rfl ?_
     rw [stE_i c1 c6,if_t c7]
    ·refine zJ<|sReg rfl<|rMv rfl<|rMv rfl<|zB<|zI<|zQ rfl ?_
     rw [stE_i c1 c6,if_fin c7]
   ·try simp only [sx] at c6
    refine zJ<|sReg rfl<|zA rfl (zG rfl wM rfl (zF 1 rfl) rfl)<|rMv rfl<|zA rfl (zG rfl zJd rfl (zF 0 rfl) rfl)<|zA rfl (zP rfl ok154 (ref30_store n bd s hn hb hs) ⟨zE,rfl,zE,rfl,zE,rfl,trivial⟩)<|rMv rfl<|zB<|zI<|zQ rfl ?_
    rw [stE_s c1 c2 c6]
set_option maxHeartbeats 2000000 in
theorem zGh (n : Ns) (bd : List Bd) (U : List ByteArray) (l : List St) (W : List Int) (hn : n.Ok) (hU : U.length + stsN l ≤ 1000000) (hb : bd.length + stsN l ≤ 1000000) (hW : W.length + stsN l ≤ 1000000) (hl : stsWt l ≤ 900000) (ih : ∀ s,s ∈ l → ∀ (bd : List Bd) (U : List ByteArray) (W : List Int),U.length + stsN s.Body ≤ 1000000 → bd.length + stsN s.Body ≤ 1000000 → W.length + stsN s.Body ≤ 1000000 → Pur cfg 65 [vNs n,vBds bd,vSs U,vSts s.Body,vIs W] (ckC (chkL n.Bufs U (bd.map Bd.Name) W 0 s.Body))) :
    Pur cfg 65 [vNs n,vBds bd,vSs U,vSts l,vIs W] (ckC (chkL n.Bufs U (bd.map Bd.Name) W 0 l)):= by
 refine zV Tryz.func65 rfl Tryz.ntmps65 Tryz.results65 rfl ?_
 intro z hz
 have hll := wA l
 have hlN := zBt l
 refine sReg rfl<|qA rfl rfl (qL rfl rfl) ?_
 rintro _ _ ⟨b1,rfl,rfl⟩
 refine qA rfl rfl (qO [some 1,some 1,none] rfl zr106 rfl) ?_
 rintro _ _ ⟨b2,rfl,rfl⟩
 refine zB<|zK<|sReg rfl<|rMv rfl<|zB<|zS<|zY ⟨[(11,.c _),(2,.c _),(1,.c _),(3,.c _),(4,.c _),(5,.c _),(10,.c _)],[_,_]⟩ (Weak.mk [true,true] ⟨zE,zE,zE,zE,zE,zE,zE,trivial⟩ rfl)<|qI 2 0 rfl rfl (Nat × List ByteArray) (fun ⟨k,u⟩ => [(11,vI k),(2,vSs u)]) (fun ⟨k,u⟩ => []) (fun ⟨k,u⟩ => k ≤ l.length ∧ (u.length + stsN (l.drop k) ≤ 1000000) ∧ ((chkL n.Bufs U (bd.map Bd.Name) W 0 l) = chkL n.Bufs u (bd.map Bd.Name) W k (l.drop k))) (fun ⟨k,u⟩ => l.length - k) ⟨⟨0,U⟩,⟨by omega,by simpa using hU,rfl⟩,Weak.mk [true,true] ⟨zE,VLe.of_eq (rfl),zE,zE,zE,zE,zE,trivial⟩ rfl⟩ ?_
 rintro ⟨k,u⟩ ⟨hk,hub,hp⟩
 show AWP _ _ _ _ _ ⟨[(11,vI k),(2,vSs u)] ++ _,[] ++ _⟩
 refine zK<|sReg rfl<|rMv rfl<|rMv rfl<|zA rfl (zR rfl el23 rfl)<|zA rfl (qM rfl rfl rfl)<|zB<|zH rfl (fun c1 => ?_) (fun c1 => ?_)
 ·try simp only [sx] at c1
  obtain ⟨s,hs⟩ := qX l k (by omega)
  have hsw := yY (qE hs)
  have hsb := St.body_wt s
  have hsn := stsN_drop hs
  have hse := zIc s
  have hsm := zJm (qE hs)
  have hcl := chkS_len n.Bufs s u (bd.map Bd.Name) (W ++ [(k : Int)])
  refine zJ<|zK<|zS<|sReg rfl<|zA rfl (zFd rfl el33 zr3)<|rMv rfl<|qA rfl rfl (zEo rfl el33 rfl rfl (by simp only [List.length_map,List.length_append,List.length_cons,List.length_nil]; omega) (by simp only [List.length_map,List.length_append,List.length_cons,List.length_nil]; omega)) ?_
  rintro _ _ ⟨sv3,rfl,rfl⟩
  refine rMv rfl<|zA rfl (qZ rfl el33 zr3 rfl rfl rfl rfl)<|qA rfl rfl (yI 0 rfl el33 rfl rfl rfl (by simp only [List.length_map,List.length_append,List.length_cons,List.length_nil]; omega) (by simp only [List.length_map,List.length_append,List.length_cons,List.length_nil]; omega)) ?_
  rintro _ _ ⟨sv4,rfl,rfl⟩
  refine rMv rfl<|zB<|zK<|zK<|zY _ (Weak.vecEq 0 rfl (rows' := (W ++ [(k : Int)]).map fun i => [cI i]) (by first | rfl | simp | rw [List.take_of_length_le (by simp)]))<|zY _ (yL 0 rfl (regs' := [(27,_),(12,_)]) (μ' := [_,_]) ⟨FLe.sl,FLe.sl,trivial⟩ ⟨EFle.refl _,EFle.refl _,trivial⟩)<|yC 9 mixed (by kernel_rfl) rfl rfl<|zM rfl rfl (zG rfl wM rfl (zF 1 rfl) rfl)<|zM rfl rfl (zN rfl rfl)<|zM rfl rfl (zN rfl rfl)<|zM rfl rfl (zN rfl rfl)<|zM rfl rfl (zN rfl rfl)<|zM rfl rfl (zO rfl el23 rfl rfl (by omega) (wW (by assumption)))<|zM rfl rfl (zG rfl zJd rfl qC rfl)<|zM rfl rfl (zP rfl ok114 (ref30_one n bd u s hn (by omega) (by have := yY (qE hs); omega) (by omega)) ⟨zE,rfl,zE,rfl,zE,rfl,zE,rfl,trivial⟩)<|zM rfl rfl (yG rfl rfl)<|kA<|zB<|sReg rfl<|rMv rfl<|zA rfl (qR rfl rfl rfl)<|zB<|zH rfl (fun c2 => ?_) (fun c2 => ?_)
  ·try simp only [sx] at c2
   have hx0 := zRq (here := W ++ [(k : Int)]) (B := n.Bufs) (U := u) (sc := (bd.map Bd.Name)) (s := s) c2
   refine sReg rfl<|rMv rfl<|rMv rfl<|zA rfl (yW [some 1,none,none] rfl zr106 pl106 rfl rfl)<|zX rfl rfl (zT rfl sz106 rfl rfl rfl (qH 0 rfl rfl))<|zB<|zI<|fin1 (qG agg106 rfl (zF 0 rfl) rfl) ?_
   rw [zBx hs hp (by rw [hx0]; exact c2),hx0]; rfl
  ·try simp only [sx] at c2
   have hin := zMj (here := W ++ [(k : Int)]) (B := n.Bufs) (U := u) (sc := (bd.map Bd.Name)) (s := s) c2
   refine zJ<|sReg rfl<|rMv rfl<|rMv rfl<|zB<|zK<|sReg rfl<|rMv rfl<|rMv rfl<|zA rfl (zO rfl el23 rfl rfl (by omega) (wW (by assumption)))<|zA rfl (zZ rfl zAc rfl)<|zA rfl (zD rfl one3 rfl qC rfl)<|zA rfl (qF rfl rfl rfl)<|zB<|zH rfl (fun c3 => ?_) (fun c3 => ?_)
   ·try simp only [sx] at c3
    rw [zGm c3,zGm c3,← map_bd] at hin
    refine zK<|yZ 9 1 [⟨0,.q []⟩,⟨1,.q []⟩,⟨3,.q []⟩,⟨4,.q []⟩,⟨5,.q []⟩,⟨6,.q []⟩,⟨7,.q []⟩,⟨8,.q []⟩,⟨2,.e 0 []⟩] mixed (by kernel_rfl) (by kernel_rfl) rfl rfl rfl<|zW rfl<|zW rfl<|zW rfl<|zW rfl<|zW rfl<|zW rfl<|zW rfl<|zW rfl<|zW rfl<|zAl<|qD rfl (by decide) rfl rfl (zFd rfl el72 zr9)<|qD rfl (by decide) rfl rfl (zN rfl rfl)<|qD rfl (by decide) rfl rfl (zN rfl rfl)<|qD rfl (by decide) rfl rfl (zN rfl rfl)<|qD rfl (by decide) rfl rfl (zO rfl el23 rfl rfl (by omega) (wW (by assumption)))<|qD rfl (by decide) rfl rfl (zZ rfl wQ rfl)<|qD rfl (by decide) rfl rfl (zD rfl one9 rfl qC rfl)<|qD rfl (by decide) rfl rfl (qZ rfl el72 zr9 rfl rfl rfl rfl)<|zIp rfl rfl (by decide) rfl rfl (zEo rfl el72 rfl rfl (by simp only [List.length_map,List.length_append,List.length_cons,List.length_nil]; omega) (by simp only [List.length_map,List.length_append,List.length_cons,List.length_nil]; omega)) ?_
    rintro _ _ ⟨sv5,rfl,rfl⟩
    refine ⟨_,rfl,?_⟩
    refine zAk rfl<|qA rfl rfl (yI 0 rfl el72 rfl rfl rfl (by simp only [List.length_map,List.length_append,List.length_cons,List.length_nil]; omega) (by simp only [List.length_map,List.length_append,List.length_cons,List.length_nil]; omega)) ?_
    rintro _ _ ⟨sv6,rfl,rfl⟩
    refine rMv rfl<|zB<|yZ 15 1 [⟨0,.q []⟩,⟨1,.q []⟩,⟨3,.q []⟩,⟨4,.q []⟩,⟨5,.q []⟩,⟨6,.q []⟩,⟨7,.q []⟩,⟨8,.q []⟩,⟨9,.q []⟩,⟨10,.q []⟩,⟨11,.q []⟩,⟨12,.q []⟩,⟨13,.q []⟩,⟨14,.q []⟩,⟨2,.e 0 []⟩] mixed (by kernel_rfl) (by kernel_rfl) rfl rfl rfl<|zW rfl<|zW rfl<|zW rfl<|zW rfl<|zW rfl<|zW rfl<|zW rfl<|zW rfl<|zW rfl<|zW rfl<|zW rfl<|zW rfl<|zW rfl<|zW rfl<|zW rfl<|zAl<|qD rfl (by decide) rfl rfl (zFd rfl el67 zr70)<|qD rfl (by decide) rfl rfl (zN rfl rfl)<|qD rfl (by decide) rfl rfl (zN rfl rfl)<|qD rfl (by decide) rfl rfl (zN rfl rfl)<|qD rfl (by decide) rfl rfl (zO rfl el23 rfl rfl (by omega) (wW (by assumption)))<|qD rfl (by decide) rfl rfl (zZ rfl wQ rfl)<|qD rfl (by decide) rfl rfl (zD rfl one9 rfl qC rfl)<|qD rfl (by decide) rfl rfl (zN rfl rfl)<|qD rfl (by decide) rfl rfl (zN rfl rfl)<|qD rfl (by decide) rfl rfl (zO rfl el23 rfl rfl (by omega) (wW (by assumption)))<|qD rfl (by decide) rfl rfl (zZ rfl zIh rfl)<|qD rfl (by decide) rfl rfl (zD rfl one3 rfl qC rfl)<|qD rfl (by decide) rfl rfl (qV rfl zr70 pl70 rfl)<|qD rfl (by decide) rfl rfl (qZ rfl el67 zr70 rfl rfl rfl rfl)<|zIp rfl rfl (by decide) rfl rfl (zEo rfl el67 rfl rfl (by simp only [List.length_map,List.length_append,List.length_cons,List.length_nil]; omega) (by simp only [List.length_map,List.length_append,List.length_cons,List.length_nil]; omega)) ?_
    rintro _ _ ⟨sv7,rfl,rfl⟩
    refine ⟨_,rfl,?_⟩
    refine zAk rfl<|qA rfl rfl (yI 0 rfl el67 rfl rfl rfl (by simp only [List.length_map,List.length_append,List.length_cons,List.length_nil]; omega) (by simp only [List.length_map,List.length_append,List.length_cons,List.length_nil]; omega)) ?_
    rintro _ _ ⟨sv8,rfl,rfl⟩
    refine rMv rfl<|zB<|zK<|zY _ (Weak.vecEq 1 rfl (rows' := (u ++ [s.Name]).map fun s => [cS s]) (by first | rfl | simp | rw [List.take_of_length_le (by simp)]))<|zY _ (yL 1 rfl (regs' := [(2,_),(57,_)]) (μ' := [_,_,_]) ⟨FLe.sl,FLe.sl,trivial⟩ ⟨EFle.refl _,EFle.refl _,EFle.refl _,trivial⟩)<|zY _ (Weak.vecEq 0 rfl (rows' := (bd ++ [(⟨s.Name,s.Many⟩ : Bd)]).map Bd.cells) (by rw [List.map_append]; rfl))<|zY _ (yL 0 rfl (regs' := [(14,_),(73,_)]) (μ' := [_,_]) ⟨FLe.sl,FLe.sl,trivial⟩ ⟨EFle.refl _,EFle.refl _,trivial⟩)<|yZ 11 1 [⟨0,.q [2]⟩,⟨1,.q []⟩,⟨2,.q []⟩,⟨3,.q []⟩,⟨4,.q []⟩,⟨5,.q []⟩,⟨6,.q []⟩,⟨7,.q []⟩,⟨8,.q []⟩,⟨9,.q []⟩,⟨10,.f 0⟩] mixed (by kernel_rfl) (by kernel_rfl) rfl rfl rfl<|zW rfl<|zW rfl<|zW rfl<|zW rfl<|zW rfl<|zW rfl<|zW rfl<|zW rfl<|zW rfl<|zW rfl<|zKj rfl rfl (zBw (qO [some 1,some 1,none] rfl zr106 rfl))<|zAl<|qD rfl (by decide) rfl rfl (zG rfl wM rfl (zF 0 rfl) rfl)<|qD rfl (by decide) rfl rfl (zN rfl rfl)<|qD rfl (by decide) rfl rfl (zN rfl rfl)<|qD rfl (by decide) rfl rfl (zN rfl rfl)<|qD rfl (by decide) rfl rfl (zN rfl rfl)<|qD rfl (by decide) rfl rfl (zO rfl el23 rfl rfl (by omega) (wW (by assumption)))<|qD rfl (by decide) rfl rfl (zZ rfl zAn rfl)<|qD rfl (by decide) rfl rfl (zD rfl zAa rfl qC rfl)<|qD rfl (by decide) rfl rfl (zN rfl rfl)<|qD rfl (by decide) rfl rfl (zP rfl ok65 (ih s (qE hs) (bd ++ [(⟨s.Name,s.Many⟩ : Bd)]) (u ++ [s.Name]) (W ++ [(k : Int)]) (by first | omega | (simp; omega)) (by first | omega | (simp; omega)) (by simp; omega)) ⟨zE,rfl,zE,rfl,zE,rfl,zE,rfl,zE,rfl,trivial⟩)<|zJo rfl rfl ?_
    rintro _ _ ⟨b9,rfl,rfl⟩
    refine zAk rfl<|zX rfl rfl (zT rfl sz106 rfl rfl rfl (qH 0 rfl rfl))<|zB<|zK<|sReg rfl<|zA rfl (zC rfl fd106_2 rfl)<|zA rfl (zD rfl zGi rfl (zF 0 rfl) rfl)<|zA rfl (qR rfl rfl rfl)<|zB<|zH rfl (fun c4 => ?_) (fun c4 => ?_)
    ·try simp only [sx] at c4
     rw [← hin] at c4
     refine sReg rfl<|zA rfl (zG rfl agg106 rfl (zF 0 rfl) rfl)<|zX rfl rfl (zT rfl sz106 rfl rfl rfl (qH 1 rfl rfl))<|zB<|zI<|fin1 (qG agg106 rfl (zF 1 rfl) rfl) ?_
     rw [zBx hs hp c4,hin]; rfl
    ·try simp only [sx] at c4
     rw [← hin] at c4
     refine zJ<|zU rfl<|zA rfl (zC rfl fd106_0 rfl)<|zA rfl (zD rfl zLo rfl (zF 0 rfl) rfl)<|rMv rfl<|zB<|zU rfl<|rMv rfl<|zA rfl (qB rfl rfl rfl ⟨by omega,by omega⟩)<|rMv rfl<|zB ?_
     refine ⟨⟨k + 1,(chkS n.Bufs u (bd.map Bd.Name) (W ++ [(k : Int)]) s).U⟩,⟨by omega,by omega,zKx hs hp c4⟩,(by show l.length - (k + 1) < l.length - k; omega),Weak.mk [false,true,true] ⟨zE,VLe.of_eq (congrArg vSs (by rw [hin])),zE,zE,zE,zE,zE,trivial⟩ rfl⟩
   ·try simp only [sx] at c3
    rw [zJw c3,zJw c3] at hin
    refine zJ<|zK<|yZ 11 1 [⟨0,.q [2]⟩,⟨1,.q []⟩,⟨2,.q []⟩,⟨3,.q []⟩,⟨4,.q []⟩,⟨5,.q []⟩,⟨6,.q []⟩,⟨7,.q []⟩,⟨8,.q []⟩,⟨9,.q []⟩,⟨10,.f 0⟩] mixed (by kernel_rfl) (by kernel_rfl) rfl rfl rfl<|zW rfl<|zW rfl<|zW rfl<|zW rfl<|zW rfl<|zW rfl<|zW rfl<|zW rfl<|zW rfl<|zW rfl<|zKj rfl rfl (zBw (qO [some 1,some 1,none] rfl zr106 rfl))<|zAl<|qD rfl (by decide) rfl rfl (zG rfl wM rfl (zF 0 rfl) rfl)<|qD rfl (by decide) rfl rfl (zN rfl rfl)<|qD rfl (by decide) rfl rfl (zN rfl rfl)<|qD rfl (by decide) rfl rfl (zN rfl rfl)<|qD rfl (by decide) rfl rfl (zN rfl rfl)<|qD rfl (by decide) rfl rfl (zO rfl el23 rfl rfl (by omega) (wW (by assumption)))<|qD rfl (by decide) rfl rfl (zZ rfl zAn rfl)<|qD rfl (by decide) rfl rfl (zD rfl zAa rfl qC rfl)<|qD rfl (by decide) rfl rfl (zN rfl rfl)<|qD rfl (by decide) rfl rfl (zP rfl ok65 (ih s (qE hs) bd u (W ++ [(k : Int)]) (by first | omega | (simp; omega)) (by first | omega | (simp; omega)) (by simp; omega)) ⟨zE,rfl,zE,rfl,zE,rfl,zE,rfl,zE,rfl,trivial⟩)<|zJo rfl rfl ?_
    rintro _ _ ⟨b10,rfl,rfl⟩
    refine zAk rfl<|zX rfl rfl (zT rfl sz106 rfl rfl rfl (qH 0 rfl rfl))<|zB<|zK<|sReg rfl<|zA rfl (zC rfl fd106_2 rfl)<|zA rfl (zD rfl zGi rfl (zF 0 rfl) rfl)<|zA rfl (qR rfl rfl rfl)<|zB<|zH rfl (fun c4 => ?_) (fun c4 => ?_)
    ·try simp only [sx] at c4
     rw [← hin] at c4
     refine sReg rfl<|zA rfl (zG rfl agg106 rfl (zF 0 rfl) rfl)<|zX rfl rfl (zT rfl sz106 rfl rfl rfl (qH 1 rfl rfl))<|zB<|zI<|fin1 (qG agg106 rfl (zF 1 rfl) rfl) ?_
     rw [zBx hs hp c4,hin]; rfl
    ·try simp only [sx] at c4
     rw [← hin] at c4
     refine zJ<|zU rfl<|zA rfl (zC rfl fd106_0 rfl)<|zA rfl (zD rfl zLo rfl (zF 0 rfl) rfl)<|rMv rfl<|zB<|zU rfl<|rMv rfl<|zA rfl (qB rfl rfl rfl ⟨by omega,by omega⟩)<|rMv rfl<|zB ?_
     refine ⟨⟨k + 1,(chkS n.Bufs u (bd.map Bd.Name) (W ++ [(k : Int)]) s).U⟩,⟨by omega,by omega,zKx hs hp c4⟩,(by show l.length - (k + 1) < l.length - k; omega),Weak.mk [false,true,true] ⟨zE,VLe.of_eq (congrArg vSs (by rw [hin])),zE,zE,zE,zE,zE,trivial⟩ rfl⟩
 ·try simp only [sx] at c1
  refine qN<|sReg rfl<|rMv rfl<|zA rfl (yW [none,some 1,none] rfl zr106 pl106 rfl rfl)<|zX rfl rfl (zT rfl sz106 rfl rfl rfl (qH 0 rfl rfl))<|zB<|zI<|fin1 (qG agg106 rfl (zF 0 rfl) rfl) ?_
  rw [zOg hp (by omega)]; rfl
theorem zPq (n : Ns) (hn : n.Ok) (s : St) (hl : stsWt s.Body ≤ 900000) : ∀ (bd : List Bd) (U : List ByteArray) (W : List Int),U.length + stsN s.Body ≤ 1000000 → bd.length + stsN s.Body ≤ 1000000 → W.length + stsN s.Body ≤ 1000000 → Pur cfg 65 [vNs n,vBds bd,vSs U,vSts s.Body,vIs W] (ckC (chkL n.Bufs U (bd.map Bd.Name) W 0 s.Body)):= by
  induction s using St.ind with
  | _ s ih =>
    intro bd U W hU hb hW
    refine zGh n bd U s.Body W hn hU hb hW hl fun a ha => ih a ha ?_
    have := yY ha; have := St.body_wt a; omega
theorem ref30_body (n : Ns) (bd : List Bd) (U : List ByteArray) (l : List St) (W : List Int)  (hn : n.Ok) (hU : U.length + stsN l ≤ 1000000) (hb : bd.length + stsN l ≤ 1000000) (hW : W.length + stsN l ≤ 1000000) (hl : stsWt l ≤ 900000) : Pur cfg 65 [vNs n,vBds bd,vSs U,vSts l,vIs W] (ckC (chkL n.Bufs U (bd.map Bd.Name) W 0 l)) :=
  zGh n bd U l W hn hU hb hW hl fun s hs => zPq n hn s (by have := yY hs; have := St.body_wt s; omega)
theorem ref30_Validate (n : Ns) (hn : n.Ok) (hw : stsWt n.Body ≤ 900000) :
    Pur cfg 17 [vNs n] (.tup [vIs (validN n).1,vI (validN n).2]):= by
 refine zV Tryz.func17 rfl Tryz.ntmps17 Tryz.results17 rfl ?_
 intro z hz
 refine sReg rfl<|qA rfl rfl (qL rfl rfl) ?_
 rintro _ _ ⟨b1,rfl,rfl⟩
 refine zA rfl (qY 1 rfl rfl)<|rMv rfl<|zB<|zK<|sReg rfl<|zA rfl (zC rfl zCa rfl)<|zA rfl (zD rfl zAa rfl (zF 0 rfl) rfl)<|zA rfl (zP rfl ok62 (ref30_depth 41 n.Body 41 (by omega) (by omega) rfl) ⟨zE,rfl,zE,rfl,trivial⟩)<|zA rfl (yA rfl rfl rfl)<|zB<|zH rfl (fun c1 => ?_) (fun c1 => ?_)
 ·try simp only [sx] at c1
  have hwi := within_f c1
  refine sReg rfl<|zA rfl (qY 1 rfl rfl)<|rMv rfl<|zB<|zI<|fin2 (rs_c rfl) (rs_c rfl) ?_
  rw [zOv hwi]; rfl
 ·try simp only [sx] at c1
  have hwi := within_t c1
  refine zJ<|zK<|sReg rfl<|zA rfl (zC rfl zCa rfl)<|zA rfl (zD rfl zAa rfl (zF 0 rfl) rfl)<|zA rfl (zP rfl ok63 (ref30_size n.Body 2000 2000 (by omega) (by omega) rfl) ⟨zE,rfl,zE,rfl,trivial⟩)<|zA rfl (yA rfl rfl rfl)<|rMv rfl<|rLz [] rfl gv1 trivial (fun g3_4 => zC rfl wU rfl) rfl<|rLz [(15,_)] rfl gv1 ⟨rfl,rfl,trivial⟩ (fun g3_4 => zD rfl zCm rfl (zF 0 rfl) rfl) rfl<|rLz [(16,_)] rfl gv1 ⟨rfl,rfl,trivial⟩ (fun g3_4 => zR rfl el22 rfl) rfl<|rLz [(17,_)] rfl gv1 ⟨rfl,rfl,trivial⟩ (fun g3_4 => yA rfl rfl rfl) rfl<|zA rfl (yB rfl rfl rfl rfl (fun h => (lzf h)))<|zB<|zH rfl (fun c2 => ?_) (fun c2 => ?_)
  ·try simp only [sx] at c2
   refine sReg rfl<|zA rfl (qY 1 rfl rfl)<|rMv rfl<|zB<|zI<|fin2 (rs_c rfl) (rs_c rfl) ?_
   rw [validN_2 hwi (by omega)]; rfl
  ·try simp only [sx] at c2
   have hnum := numB_ok (l := n.Body) (m := 2000) (by omega)
   refine zJ<|zK<|sReg rfl<|zA rfl (zG rfl wM rfl (zF 0 rfl) rfl)<|zA rfl (zP rfl ok64 (ref30_bufs n hn) ⟨zE,rfl,trivial⟩)<|rMv rfl<|zB<|sReg rfl<|rMv rfl<|zA rfl (qR rfl rfl rfl)<|zB<|zH rfl (fun c3 => ?_) (fun c3 => ?_)
   ·try simp only [sx] at c3
    refine sReg rfl<|rMv rfl<|zA rfl (qY 1 rfl rfl)<|rMv rfl<|zB<|zI<|fin2 (rs_c rfl) (rs_c rfl) ?_
    rw [validN_b hwi (by omega) c3]; rfl
   ·try simp only [sx] at c3
    refine zJ<|sReg rfl<|zA rfl (zG rfl wM rfl (zF 0 rfl) rfl)<|zA rfl (zC rfl zCa rfl)<|zA rfl (zD rfl zAa rfl (zF 0 rfl) rfl)<|zA rfl (zP rfl ok65 (ref30_body n [] [] n.Body [] hn (by simp; omega) (by simp; omega) (by simp; omega) hw) ⟨zE,rfl,VLe.nil,rfl,VLe.nil,rfl,zE,rfl,VLe.nil,rfl,trivial⟩)<|qA rfl rfl (qO [some 1,some 1,none] rfl zr106 rfl) ?_
    rintro _ _ ⟨b2,rfl,rfl⟩
    refine zX rfl rfl (zT rfl sz106 rfl rfl rfl (qH 0 rfl rfl))<|zB<|zK<|yC 6 mixed (by kernel_rfl) rfl rfl<|zM rfl rfl (zC rfl fd106_1 rfl)<|zM rfl rfl (zD rfl zDp rfl (zF 0 rfl) rfl)<|zM rfl rfl (zC rfl fd106_2 rfl)<|zM rfl rfl (zD rfl zGi rfl (zF 0 rfl) rfl)<|zM rfl rfl (yG rfl rfl)<|zM rfl rfl (yG rfl rfl)<|kA<|zB<|zI<|fin2 (rs_c rfl) (rs_c rfl) ?_
    rw [zJi hwi (by omega) c3]; rfl
end Go.W
