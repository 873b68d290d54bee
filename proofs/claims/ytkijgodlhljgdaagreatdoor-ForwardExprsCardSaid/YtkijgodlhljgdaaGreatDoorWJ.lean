/-
  Walks: what functions of the program compute. Printed by wip/gen/mk2.py.
  Conditions: none.
-/
import Derived.Test.YtkijgodlhljgdaaGreatDoorWG
import Derived.Test.YtkijgodlhljgdaaGreatDoorPlain
import Derived.Test.YtkijgodlhljgdaaGreatDoorEngZ
set_option linter.unusedSimpArgs false
set_option linter.unusedVariables false
set_option maxRecDepth 10000
namespace Go.W
open Go Go.Eng Go.Proofs Go.L41 Go.Br
attribute [local irreducible] AWP RWP TD finQ
theorem zFb:aggT Tryz.prog 59=some 22:=by kernel_rfl
theorem el25:elemT Tryz.prog 25=some (59,22,272):=by kernel_rfl
theorem kW:fieldT Tryz.prog 27 3=some (3,25):=by kernel_rfl
theorem zOc:fieldT Tryz.prog 59 0=some (0,9):=by kernel_rfl
theorem ok108:callOk Tryz.prog 108=true:=by kernel_rfl
theorem ok275:callOk Tryz.prog 275=true:=by kernel_rfl
theorem ok276:callOk Tryz.prog 276=true:=by kernel_rfl
theorem zBp:oneT Tryz.prog 25=true:=by kernel_rfl
theorem zAh (l:Lf) (hl:l.L.length<=5864062014805):
    Pur cfg 108 [vLin l] (vLin l):=by
 refine zT Tryz.func108 O Tryz.ntmps108 Tryz.results108 O ?_
 intro z hz
 refine B O<|zV O O (qI O O) ?_
 rintro _ _ ⟨b1,rfl,rfl⟩
 refine zV O O (qG [none,some 2] O zr34 O) ?_
 rintro _ _ ⟨b2,rfl,rfl⟩
 refine H<|W<|qP 6 mixed (by kernel_rfl) O O<|Y O O (zE O zIx O)<|Y O O (zG O one2 O (K 1 O) O)<|Y O O (zE O wN O)<|Y O O (zG O zBn O (K 1 O) O)<|Y O O (qF O ok86 (OwnR.pur (zEb l.L hl)) ⟨G,O,T⟩)<|Y O O (kY O zr34 pl34 O)<|yK<|N 0 sz34 O<|H<|U<|j (zR kQ O (K 0 O) O) ?_
 exact O
theorem zBu (l:List Lf) (hl:l.length<=4294967296) (hx:∀x,x∈l->x.L.length<=5864062014805):
    OwnR cfg 109 [vLins l] 34 2 (l.map Lf.cells):=by
 refine zT Tryz.func109 O Tryz.ntmps109 Tryz.results109 O ?_
 intro z hz
 have hl0:=hx
 clear hx
 refine B O<|zX O (yN 2 O O)<|H<|B O<|F O<|yZ _ (kN 34 2)<|H<|W<|B O<|F O<|zZ O t<|F O<|H<|zP<|zW ⟨[(8,.c _),(3,.c _),(6,.c _),(7,.c _)],[_]⟩ (Weak.mk [true] ⟨G,G,G,G,T⟩ O)<|qJ 2 1 O O (Nat×Value) (fun ⟨k,sv⟩=>[(8,vI k),(3,.c (.lit sv))]) (fun ⟨k,sv⟩=>[E.vec sv 34 2 ((l.take k).map Lf.cells)]) (fun ⟨k,sv⟩=>k<=l.length) (fun ⟨k,sv⟩=>l.length-k) ⟨⟨0,(.slice none 0 0)⟩,(by omega),Weak.mk [true] ⟨G,G,G,G,T⟩ O⟩ ?_
 rintro ⟨k,sv⟩ hk
 show AWP _ _ _ _ _ ⟨[(8,vI k),(3,.c (.lit sv))]++_,[E.vec sv 34 2 ((l.take k).map Lf.cells)]++_⟩
 refine B O<|yD O<|H<|W<|g O (fun c1=>?_) (fun c1=>?_)
 ·try simp only [I] at c1
  obtain ⟨x,hx⟩:=qQ l k (by omega)
  refine zJ<|W<|zP<|B O<|qH O t (by omega) (X (by assumption))<|zK kQ qB O<|zV O O (qG [none,some 2] O zr34 O) ?_
  rintro _ _ ⟨b2,rfl,rfl⟩
  refine N 0 sz34 O<|H<|zU O<|F O<|zK kQ (K 0 O) O<|qK O ok108 (zAh _ (hl0 _ (qD hx))) ⟨G,O,T⟩<|yB O t zr34<|zV O O (yE 1 O t O O O (by first|omega|(simp only [List.length_take,List.length_map,List.length_append,List.length_nil,List.length_cons];omega)) (by first|omega|(simp only [List.length_take,List.length_map,List.length_append,List.length_nil,List.length_cons];omega))) ?_
  rintro _ _ ⟨sv3,rfl,rfl⟩
  refine F O<|H<|zU O<|qL O ⟨by omega,by omega⟩<|F O<|H ?_
  refine ⟨⟨k+1,sv3⟩,(by omega),(by show l.length-(k+1)<l.length-k;omega),Weak.mk [false,true] ⟨G,G,G,G,T⟩ (by show _=[E.vec sv3 _ 2 ((l.take (k+1)).map Lf.cells)]++_;rw [qS hx,List.map_append];rfl)⟩
 ·try simp only [I] at c1
  refine qN<|B O<|F O<|F O<|H<|U<|M O ?_
  exact ⟨_,O,by rw [qW (by omega)];rfl⟩
theorem zJv (d:Df) (s:ByteArray):
    Pur cfg 276 [vDf d,.c (.iptr [cS s])] (vB (decide (d.Name=s))):=by
 refine zT Tryz.func276 O Tryz.ntmps276 Tryz.results276 O ?_
 intro z hz
 refine B O<|zV O O (qI O O) ?_
 rintro _ _ ⟨b1,rfl,rfl⟩
 refine F O<|H<|B O<|zH O zOc<|zL i (K 0 O) O<|zL i qB O<|zX O (yL O O O)<|F O<|H<|U<|M O ?_
 exact O
theorem zHq (l:List Df) (c:C) (p:Df->Bool) (hl:l.length<=4294967296) (hc:∀x,x∈l->FnPur cfg c [vDf x] (vB (p x))):
    Pur cfg 275 [.c (.sl 22 (l.map Df.cells)),.c c] (vI (idxOf p l)):=by
 refine zT Tryz.func275 O Tryz.ntmps275 Tryz.results275 O ?_
 intro z hz
 refine B O<|F O<|H<|W<|B O<|F O<|zZ O el25<|F O<|H<|zP<|zW ⟨[(8,.c _),(0,.c _),(1,.c _),(7,.c _)],[]⟩ (Weak.mk [] ⟨G,G,G,G,T⟩ O)<|qJ 1 0 O O (Nat) (fun k=>[(8,vI k)]) (fun k=>[]) (fun k=>k<=l.length/\((l.take k).any p=false)) (fun k=>l.length-k) ⟨0,⟨by omega,O⟩,Weak.mk [] ⟨G,G,G,G,T⟩ O⟩ ?_
 rintro k ⟨hk,hp⟩
 refine B O<|yD O<|H<|W<|g O (fun c1=>?_) (fun c1=>?_)
 ·try simp only [I] at c1
  obtain ⟨x,hx⟩:=qQ l k (by omega)
  refine zJ<|W<|zP<|B O<|F O<|F O<|H<|B O<|F O<|F O<|F O<|qH O el25 (by omega) (X (by assumption))<|zK zFb qB O<|zX O (wS O O (hc _ (qD hx)) ⟨G,O,T⟩)<|H<|g O (fun c2=>?_) (fun c2=>?_)
  ·try simp only [I] at c2
   refine B O<|F O<|F O<|H<|U<|M O ?_
   rw [idxOf_at hx c2 hp]
  ·try simp only [I] at c2
   refine zJ<|zU O<|qL O ⟨by omega,by omega⟩<|F O<|H ?_
   refine ⟨k+1,⟨by omega,zGw hx hp c2⟩,(by omega),Weak.mk [] ⟨G,G,G,G,T⟩ O⟩
 ·try simp only [I] at c1
  refine qN<|B O<|F O<|H<|U<|M O ?_
  rw [zKl (by rw [qW (by omega)] at hp;exact hp)]
theorem zNd (p:Pg) (s:ByteArray) (hd:p.Defs.length<=4294967296):
    Pur cfg 236 [vPg p,vS s] (vI (defOf s p.Defs)):=by
 refine zT Tryz.func236 O Tryz.ntmps236 Tryz.results236 O ?_
 intro z hz
 refine B O<|zV O O (qI O O) ?_
 rintro _ _ ⟨b1,rfl,rfl⟩
 refine zV O O (qI O O) ?_
 rintro _ _ ⟨b2,rfl,rfl⟩
 refine F O<|H<|B O<|zH O kW<|zL zBp (K 1 O) O<|zX O (zIz O O O O O)<|yZ _ (kL 0 O 7 (.c (.fn _ _ [_])) (PLe.fn ⟨.inr ⟨O,O⟩,T⟩))<|qK O ok275 (zHq p.Defs _ (fun d=>decide (d.Name=s)) hd (fun x _=>FnPur.of_pur (first:=[]) (cap:=[.iptr [cS s]]) ok276 (zJv x s))) ⟨G,O,G,O,T⟩<|F O<|H<|U<|M O ?_
 exact O
theorem zMy (l:Lf) (v sz:List ByteArray) (hl:l.L.length<=5864062014805) (hv:v.length<=4294967296) (hz0:sz.length<=4294967296):
    Pur cfg 116 [vLin l,vSs v,vSs sz] (vB (knL (knB sz v) l.L)):=by
 refine zT Tryz.func116 O Tryz.ntmps116 Tryz.results116 O ?_
 intro z hz
 refine B O<|zV O O (qI O O) ?_
 rintro _ _ ⟨b1,rfl,rfl⟩
 refine F O<|H<|W<|B O<|F O<|H<|zP<|zW ⟨[(7,.c _),(1,.c _),(2,.c _),(3,.c _)],[_]⟩ (Weak.mk [true] ⟨G,G,G,G,T⟩ O)<|qJ 1 0 O O (Nat) (fun k=>[(7,vI k)]) (fun k=>[]) (fun k=>k<=l.L.length/\(knL (knB sz v) (l.L.take k)=true)) (fun k=>l.L.length-k) ⟨0,⟨by omega,O⟩,Weak.mk [true] ⟨G,G,G,G,T⟩ O⟩ ?_
 rintro k ⟨hk,hp⟩
 refine W<|B O<|F O<|zH O wN<|zL zBn (K 0 O) O<|zZ O q<|yD O<|H<|g O (fun c1=>?_) (fun c1=>?_)
 ·try simp only [I] at c1
  obtain ⟨x,hx⟩:=qQ l.L k (by omega)
  refine zJ<|W<|zP<|B O<|F O<|zH O wN<|zL zBn (K 0 O) O<|F O<|qH O q (by omega) (X (by assumption))<|zX O (qM O zAt O)<|zL i qB O<|qK O ok50 (zJj v x.Name (by omega)) ⟨G,O,G,O,T⟩<|wP O<|F O<|w O (fun g4_9=>zQ O O) O<|w O (fun g4_9=>zE O wN O) O<|R 26 O (fun g4_9=>zG O zBn O (K 0 O) O) O<|w O (fun g4_9=>zQ O O) O<|rLz [(27,_),(28,_)] O J ⟨O,O,O,O,T⟩ (fun g4_9=>qA O q O O (by omega) (X (by assumption))) O<|R 29 O (fun g4_9=>qM O zAt O) O<|R 30 O (fun g4_9=>zG O i O qB O) O<|rLz [(25,_),(31,_)] O J ⟨O,O,O,O,T⟩ (fun g4_9=>qF O ok50 (zJj sz x.Name (by omega)) ⟨G,O,G,O,T⟩) O<|R 32 O (fun g4_9=>wO O O) O<|yY O (fun h=>h)<|H<|g O (fun c2=>?_) (fun c2=>?_)
  ·refine B O<|F O<|H<|U<|M O ?_
   rw [kn_no hx c2]
  ·refine zJ<|zU O<|F O<|qL O ⟨by omega,by omega⟩<|F O<|H ?_
   refine ⟨k+1,⟨by omega,kn_next hx hp c2⟩,(by omega),Weak.mk [true] ⟨G,G,G,G,T⟩ O⟩
 ·try simp only [I] at c1
  refine qN<|B O<|F O<|H<|U<|M O ?_
  rw [qW (by omega)] at hp;rw [hp]
end Go.W
