/-
  Walks: what functions of the program compute. Printed by wip/gen/mk2.py.
  Conditions: none.
-/
import Derived.Test.YtkijgodlhljgdaaGreatDoorWG
import Derived.Test.YtkijgodlhljgdaaGreatDoorPlain
import Derived.Test.YtkijgodlhljgdaaGreatDoorEngZ
set_option linter.unusedSimpArgs false
set_option linter.unusedVariables false
set_option maxRecDepth 10000
namespace Go.W
open Go Go.Eng Go.Proofs Go.L41 Go.Br
attribute [local irreducible] AWP RWP TD finQ
theorem zCn:aggT Tryz.prog 59=some 22:=by kernel_rfl
theorem el25:elemT Tryz.prog 25=some (59,22,272):=by kernel_rfl
theorem kE:fieldT Tryz.prog 27 3=some (3,25):=by kernel_rfl
theorem zEk:fieldT Tryz.prog 59 0=some (0,9):=by kernel_rfl
theorem ok108:callOk Tryz.prog 108=true:=by kernel_rfl
theorem ok275:callOk Tryz.prog 275=true:=by kernel_rfl
theorem ok276:callOk Tryz.prog 276=true:=by kernel_rfl
theorem zAc:oneT Tryz.prog 25=true:=by kernel_rfl
theorem zAs (l:Lf) (hl:l.L.length<=5864062014805):
    Pur cfg 108 [vLin l] (vLin l):=by
 refine zV Tryz.func108 O Tryz.ntmps108 Tryz.results108 O ?_
 intro z hz
 refine B O<|zW O O (qJ O O) ?_
 rintro _ _ ⟨b1,rfl,rfl⟩
 refine zW O O (qI [none,some 2] O zr34 O) ?_
 rintro _ _ ⟨b2,rfl,rfl⟩
 refine H<|U<|qO 6 mixed (by kernel_rfl) O O<|Y O O (zD O zJs O)<|Y O O (zF O one2 O (K 1 O) O)<|Y O O (zD O wU O)<|Y O O (zF O zCb O (K 1 O) O)<|Y O O (qF O ok86 (OwnR.pur (zEt l.L hl)) ⟨G,O,T⟩)<|Y O O (kZ O zr34 pl34 O)<|yK<|N 0 sz34 O<|H<|W<|X (zS kP O (K 0 O) O) ?_
 exact O
theorem zCl (l:List Lf) (hl:l.length<=4294967296) (hx:∀x,x∈l->x.L.length<=5864062014805):
    OwnR cfg 109 [vLins l] 34 2 (l.map Lf.cells):=by
 refine zV Tryz.func109 O Tryz.ntmps109 Tryz.results109 O ?_
 intro z hz
 have hl0:=hx
 clear hx
 refine B O<|qB O (yJ 2 O O)<|H<|B O<|F O<|yV _ (kG 34 2)<|H<|U<|B O<|F O<|zZ O el63<|F O<|H<|zP<|zT ⟨[(8,.c _),(3,.c _),(6,.c _),(7,.c _)],[_]⟩ (Weak.mk [true] ⟨G,G,G,G,T⟩ O)<|qG 2 1 O O (Nat×Value) (fun ⟨k,sv⟩=>[(8,vI k),(3,.c (.lit sv))]) (fun ⟨k,sv⟩=>[E.vec sv 34 2 ((l.take k).map Lf.cells)]) (fun ⟨k,sv⟩=>k<=l.length) (fun ⟨k,sv⟩=>l.length-k) ⟨⟨0,(.slice none 0 0)⟩,(by omega),Weak.mk [true] ⟨G,G,G,G,T⟩ O⟩ ?_
 rintro ⟨k,sv⟩ hk
 show AWP _ _ _ _ _ ⟨[(8,vI k),(3,.c (.lit sv))]++_,[E.vec sv 34 2 ((l.take k).map Lf.cells)]++_⟩
 refine B O<|yB O<|H<|U<|g O (fun c1=>?_) (fun c1=>?_)
 ·try simp only [I] at c1
  obtain ⟨x,hx⟩:=qP l k (by omega)
  refine zJ<|U<|zP<|B O<|qE O el63 (by omega) (Q (by assumption))<|zL kP qA O<|zW O O (qI [none,some 2] O zr34 O) ?_
  rintro _ _ ⟨b2,rfl,rfl⟩
  refine N 0 sz34 O<|H<|zU O<|F O<|zL kP (K 0 O) O<|qK O ok108 (zAs _ (hl0 _ (qD hx))) ⟨G,O,T⟩<|qZ O el63 zr34<|zW O O (qS 1 O el63 O O O (by first|omega|(simp only [List.length_take,List.length_map,List.length_append,List.length_nil,List.length_cons];omega)) (by first|omega|(simp only [List.length_take,List.length_map,List.length_append,List.length_nil,List.length_cons];omega))) ?_
  rintro _ _ ⟨sv3,rfl,rfl⟩
  refine F O<|H<|zU O<|qL O ⟨by omega,by omega⟩<|F O<|H ?_
  refine ⟨⟨k+1,sv3⟩,(by omega),(by show l.length-(k+1)<l.length-k;omega),Weak.mk [false,true] ⟨G,G,G,G,T⟩ (by show _=[E.vec sv3 _ 2 ((l.take (k+1)).map Lf.cells)]++_;rw [qQ hx,List.map_append];rfl)⟩
 ·try simp only [I] at c1
  refine qM<|B O<|F O<|F O<|H<|W<|R O ?_
  exact ⟨_,O,by rw [qY (by omega)];rfl⟩
theorem zKs (d:Df) (s:ByteArray):
    Pur cfg 276 [vDf d,.c (.iptr [cS s])] (vB (decide (d.Name=s))):=by
 refine zV Tryz.func276 O Tryz.ntmps276 Tryz.results276 O ?_
 intro z hz
 refine B O<|zW O O (qJ O O) ?_
 rintro _ _ ⟨b1,rfl,rfl⟩
 refine F O<|H<|B O<|zG O zEk<|zK i (K 0 O) O<|zK i qA O<|qB O (yQ O O O)<|F O<|H<|W<|R O ?_
 exact O
theorem zIj (l:List Df) (c:C) (p:Df->Bool) (hl:l.length<=4294967296) (hc:∀x,x∈l->FnPur cfg c [vDf x] (vB (p x))):
    Pur cfg 275 [.c (.sl 22 (l.map Df.cells)),.c c] (vI (idxOf p l)):=by
 refine zV Tryz.func275 O Tryz.ntmps275 Tryz.results275 O ?_
 intro z hz
 refine B O<|F O<|H<|U<|B O<|F O<|zZ O el25<|F O<|H<|zP<|zT ⟨[(8,.c _),(0,.c _),(1,.c _),(7,.c _)],[]⟩ (Weak.mk [] ⟨G,G,G,G,T⟩ O)<|qG 1 0 O O (Nat) (fun k=>[(8,vI k)]) (fun k=>[]) (fun k=>k<=l.length/\((l.take k).any p=false)) (fun k=>l.length-k) ⟨0,⟨by omega,O⟩,Weak.mk [] ⟨G,G,G,G,T⟩ O⟩ ?_
 rintro k ⟨hk,hp⟩
 refine B O<|yB O<|H<|U<|g O (fun c1=>?_) (fun c1=>?_)
 ·try simp only [I] at c1
  obtain ⟨x,hx⟩:=qP l k (by omega)
  refine zJ<|U<|zP<|B O<|F O<|F O<|H<|B O<|F O<|F O<|F O<|qE O el25 (by omega) (Q (by assumption))<|zL zCn qA O<|qB O (wZ O O (hc _ (qD hx)) ⟨G,O,T⟩)<|H<|g O (fun c2=>?_) (fun c2=>?_)
  ·try simp only [I] at c2
   refine B O<|F O<|F O<|H<|W<|R O ?_
   rw [idxOf_at hx c2 hp]
  ·try simp only [I] at c2
   refine zJ<|zU O<|qL O ⟨by omega,by omega⟩<|F O<|H ?_
   refine ⟨k+1,⟨by omega,zHo hx hp c2⟩,(by omega),Weak.mk [] ⟨G,G,G,G,T⟩ O⟩
 ·try simp only [I] at c1
  refine qM<|B O<|F O<|H<|W<|R O ?_
  rw [zLi (by rw [qY (by omega)] at hp;exact hp)]
theorem zOd (p:Pg) (s:ByteArray) (hd:p.Defs.length<=4294967296):
    Pur cfg 236 [vPg p,vS s] (vI (defOf s p.Defs)):=by
 refine zV Tryz.func236 O Tryz.ntmps236 Tryz.results236 O ?_
 intro z hz
 refine B O<|zW O O (qJ O O) ?_
 rintro _ _ ⟨b1,rfl,rfl⟩
 refine zW O O (qJ O O) ?_
 rintro _ _ ⟨b2,rfl,rfl⟩
 refine F O<|H<|B O<|zG O kE<|zK zAc (K 1 O) O<|qB O (zJt O O O O O)<|yV _ (kQ 0 O 7 (.c (.fn _ _ [_])) (PLe.fn ⟨.inr ⟨O,O⟩,T⟩))<|qK O ok275 (zIj p.Defs _ (fun d=>decide (d.Name=s)) hd (fun x _=>FnPur.of_pur (first:=[]) (cap:=[.iptr [cS s]]) ok276 (zKs x s))) ⟨G,O,G,O,T⟩<|F O<|H<|W<|R O ?_
 exact O
theorem zIl (l:Lf) (v sz:List ByteArray) (hl:l.L.length<=5864062014805) (hv:v.length<=4294967296) (hz0:sz.length<=4294967296):
    Pur cfg 116 [vLin l,vSs v,vSs sz] (vB (knL (knB sz v) l.L)):=by
 refine zV Tryz.func116 O Tryz.ntmps116 Tryz.results116 O ?_
 intro z hz
 refine B O<|zW O O (qJ O O) ?_
 rintro _ _ ⟨b1,rfl,rfl⟩
 refine F O<|H<|U<|B O<|F O<|H<|zP<|zT ⟨[(7,.c _),(1,.c _),(2,.c _),(3,.c _)],[_]⟩ (Weak.mk [true] ⟨G,G,G,G,T⟩ O)<|qG 1 0 O O (Nat) (fun k=>[(7,vI k)]) (fun k=>[]) (fun k=>k<=l.L.length/\(knL (knB sz v) (l.L.take k)=true)) (fun k=>l.L.length-k) ⟨0,⟨by omega,O⟩,Weak.mk [true] ⟨G,G,G,G,T⟩ O⟩ ?_
 rintro k ⟨hk,hp⟩
 refine U<|B O<|F O<|zG O wU<|zK zCb (K 0 O) O<|zZ O el32<|yB O<|H<|g O (fun c1=>?_) (fun c1=>?_)
 ·try simp only [I] at c1
  obtain ⟨x,hx⟩:=qP l.L k (by omega)
  refine zJ<|U<|zP<|B O<|F O<|zG O wU<|zK zCb (K 0 O) O<|F O<|qE O el32 (by omega) (Q (by assumption))<|qR O zBk<|zK i qA O<|qK O ok50 (zDf v x.Name (by omega)) ⟨G,O,G,O,T⟩<|wI O<|F O<|u O (fun g4_9=>zQ O O) O<|u O (fun g4_9=>zD O wU O) O<|J 26 O (fun g4_9=>zF O zCb O (K 0 O) O) O<|u O (fun g4_9=>zQ O O) O<|rLz [(27,_),(28,_)] O P ⟨O,O,O,O,T⟩ (fun g4_9=>zY O el32 O O (by omega) (Q (by assumption))) O<|J 29 O (fun g4_9=>qT O zBk O) O<|J 30 O (fun g4_9=>zF O i O qA O) O<|rLz [(25,_),(31,_)] O P ⟨O,O,O,O,T⟩ (fun g4_9=>qF O ok50 (zDf sz x.Name (by omega)) ⟨G,O,G,O,T⟩) O<|J 32 O (fun g4_9=>kU O O) O<|yZ O (fun h=>h)<|H<|g O (fun c2=>?_) (fun c2=>?_)
  ·refine B O<|F O<|H<|W<|R O ?_
   rw [kn_no hx c2]
  ·refine zJ<|zU O<|F O<|qL O ⟨by omega,by omega⟩<|F O<|H ?_
   refine ⟨k+1,⟨by omega,kn_next hx hp c2⟩,(by omega),Weak.mk [true] ⟨G,G,G,G,T⟩ O⟩
 ·try simp only [I] at c1
  refine qM<|B O<|F O<|H<|W<|R O ?_
  rw [qY (by omega)] at hp;rw [hp]
end Go.W
