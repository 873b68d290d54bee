/-
  Walks: what functions of the program compute. Printed by wip/gen/mk2.py.
  Conditions: none.
-/
import Derived.Test.YtkijgodlhljgdaaGreatDoorVC
import Derived.Test.YtkijgodlhljgdaaGreatDoorPlain2
import Derived.Test.YtkijgodlhljgdaaGreatDoorEngZ
set_option linter.unusedSimpArgs false
set_option linter.unusedVariables false
set_option maxRecDepth 10000
namespace Go.W
open Go Go.Eng Go.Proofs Go.L41 Go.Br
attribute [local irreducible] AWP RWP TD finQ
theorem ok90:callOk Tryz.prog 90=true:=by kernel_rfl
theorem ok168:callOk Tryz.prog 168=true:=by kernel_rfl
theorem ref14_With (l:List ByteArray) (s:ByteArray) (hl:l.length<=4294967296):
    Pur cfg 168 [vSs l,vS s] (vSs (insW l s)):=by
 refine zV Tryz.func168 O Tryz.ntmps168 Tryz.results168 O ?_
 intro z hz
 refine B O<|qB O (yJ 1 O O)<|H<|B O<|F O<|H<|U<|zP<|zT ⟨[(5,.c _),(0,.c _),(1,.c _)],[]⟩ (Weak.mk [] ⟨G,G,G,T⟩ O)<|qG 1 0 O O (Nat) (fun k=>[(5,vI k)]) (fun k=>[]) (fun k=>k<=l.length/\(l.take k).all (below s)=true) (fun k=>l.length-k) ⟨0,⟨by omega,O⟩,Weak.mk [] ⟨G,G,G,T⟩ O⟩ ?_
 rintro k ⟨hk,hp⟩
 refine U<|B O<|F O<|F O<|zZ O el22<|yB O<|F O<|u O (fun g2_4=>zQ O O) O<|u O (fun g2_4=>zQ O O) O<|rLz [(12,_),(13,_)] O P ⟨O,O,O,O,T⟩ (fun g2_4=>zY O el22 O O (by simp only [Lz,cond_true,cond_false,Bool.and_eq_true,Bool.or_eq_true,Bool.not_eq_true',Bool.not_eq_false',Bool.or_eq_false_iff,Bool.and_eq_false_iff,decide_eq_true_eq,decide_eq_false_iff_not,Bool.not_eq_true,Bool.not_eq_false] at g2_4;omega) (Q (zPz (by simp only [Lz,cond_true,cond_false,Bool.and_eq_true,Bool.or_eq_true,Bool.not_eq_true',Bool.not_eq_false',Bool.or_eq_false_iff,Bool.and_eq_false_iff,decide_eq_true_eq,decide_eq_false_iff_not,Bool.not_eq_true,Bool.not_eq_false] at g2_4;omega)))) O<|J 14 O (fun g2_4=>zF O i O qA O) O<|u O (fun g2_4=>zQ O O) O<|rLz [(15,_),(16,_)] O P ⟨O,O,O,O,T⟩ (fun g2_4=>det_slss O O O) O<|yZ O (fun h=>h)<|H<|g O (fun c1=>?_) (fun c1=>?_)
 ·obtain ⟨hlt,hlt2⟩:=with_1t c1
  refine zJ<|zP<|zU O<|F O<|qL O ⟨by omega,by omega⟩<|F O<|H ?_
  refine ⟨k+1,⟨by omega,below_next (zPz hlt) hp hlt2⟩,(by omega),Weak.mk [] ⟨G,G,G,T⟩ O⟩
 ·have h1f:=with_1f c1
  refine qM<|U<|B O<|F O<|F O<|zZ O el22<|yB O<|F O<|u O (fun g4_4=>zQ O O) O<|u O (fun g4_4=>zQ O O) O<|rLz [(26,_),(27,_)] O P ⟨O,O,O,O,T⟩ (fun g4_4=>zY O el22 O O (by simp only [Lz,cond_true,cond_false,Bool.and_eq_true,Bool.or_eq_true,Bool.not_eq_true',Bool.not_eq_false',Bool.or_eq_false_iff,Bool.and_eq_false_iff,decide_eq_true_eq,decide_eq_false_iff_not,Bool.not_eq_true,Bool.not_eq_false] at g4_4;omega) (Q (zPz (by simp only [Lz,cond_true,cond_false,Bool.and_eq_true,Bool.or_eq_true,Bool.not_eq_true',Bool.not_eq_false',Bool.or_eq_false_iff,Bool.and_eq_false_iff,decide_eq_true_eq,decide_eq_false_iff_not,Bool.not_eq_true,Bool.not_eq_false] at g4_4;omega)))) O<|J 28 O (fun g4_4=>zF O i O qA O) O<|u O (fun g4_4=>zQ O O) O<|rLz [(29,_),(30,_)] O P ⟨O,O,O,O,T⟩ (fun g4_4=>yQ O O O) O<|yZ O (fun h=>h)<|H<|g O (fun c2=>?_) (fun c2=>?_)
  ·have h2t:=with_2t c2
   refine B O<|F O<|F O<|H<|W<|R O ?_
   rw [with_is hp h1f h2t]
  ·have h2f:=with_2f c2
   have hnew:=with_new hk hp h1f h2f
   refine zJ<|B O<|F O<|yV _ (kG 9 1)<|H<|B O<|F O<|F O<|F O<|qB O (zAo O el22 O O (by omega))<|zW O O (qS 0 O el22 O O O (by simp only [List.length_map,List.length_append,List.length_cons,List.length_nil,List.length_take,List.length_drop];omega) (by simp only [List.length_map,List.length_append,List.length_cons,List.length_nil,List.length_take,List.length_drop];omega)) ?_
   rintro _ _ ⟨sv2,rfl,rfl⟩
   refine F O<|H<|B O<|F O<|F O<|qZ O el22 zr9<|zW O O (qS 0 O el22 O O O (by simp only [List.length_map,List.length_append,List.length_cons,List.length_nil,List.length_take,List.length_drop];omega) (by simp only [List.length_map,List.length_append,List.length_cons,List.length_nil,List.length_take,List.length_drop];omega)) ?_
   rintro _ _ ⟨sv3,rfl,rfl⟩
   refine F O<|H<|B O<|F O<|F O<|F O<|qB O (zMf O el22 O O (by omega))<|zW O O (qS 0 O el22 O O O (by simp only [List.length_map,List.length_append,List.length_cons,List.length_nil,List.length_take,List.length_drop];omega) (by simp only [List.length_map,List.length_append,List.length_cons,List.length_nil,List.length_take,List.length_drop];omega)) ?_
   rintro _ _ ⟨sv4,rfl,rfl⟩
   refine F O<|H<|zT _ (Weak.vecEq 0 O (rows':=(insW l s).map fun s=>[cS s]) (by rw [hnew];simp))<|zT _ (kB 0 O (regs':=[(47,_),(4,_)]) (μ':=[]) ⟨FLe.sl,FLe.sl,T⟩ T)<|W<|R O ?_
   rfl
theorem zIm (w:List ByteArray) (l:Lf) (hw:w.length+l.L.length<=4294967295):
    Pur cfg 90 [vSs w,vLin l] (vSs (insWs w (namesF l))):=by
 refine zV Tryz.func90 O Tryz.ntmps90 Tryz.results90 O ?_
 intro z hz
 refine B O<|zW O O (qJ O O) ?_
 rintro _ _ ⟨b1,rfl,rfl⟩
 refine qB O (yJ 1 O O)<|H<|U<|B O<|F O<|H<|zP<|zT ⟨[(5,.c _),(0,.c _),(3,.c _)],[_]⟩ (Weak.mk [true] ⟨G,G,G,T⟩ O)<|qG 2 0 O O (Nat) (fun k=>[(5,vI k),(0,vSs (insWs w ((l.L.take k).map Mono.Name)))]) (fun k=>[]) (fun k=>k<=l.L.length) (fun k=>l.L.length-k) ⟨0,(by omega),Weak.mk [true] ⟨G,VLe.of_eq (O),G,T⟩ O⟩ ?_
 rintro k hk
 refine U<|B O<|F O<|zG O wU<|zK zCb (K 0 O) O<|zZ O el32<|yB O<|H<|g O (fun c1=>?_) (fun c1=>?_)
 ·try simp only [I] at c1
  obtain ⟨m,hm⟩:=qP l.L k (by omega)
  refine zJ<|U<|zP<|zU O<|F O<|zG O wU<|zK zCb (K 0 O) O<|F O<|qE O el32 (by omega) (Q (by assumption))<|qR O zBk<|zK i qA O<|qK O ok168 (ref14_With (insWs w ((l.L.take k).map Mono.Name)) m.Name (by have h1:=zOw ((l.L.take k).map Mono.Name) w;rw [List.length_map] at h1;have h2:=List.length_take_le k l.L;omega)) ⟨G,O,G,O,T⟩<|F O<|H<|zU O<|F O<|qL O ⟨by omega,by omega⟩<|F O<|H ?_
  refine ⟨k+1,(by omega),(by omega),Weak.mk [true] ⟨G,VLe.of_eq (congrArg vSs (by rw [zOp hm,zEj];rfl)),G,T⟩ O⟩
 ·try simp only [I] at c1
  refine qM<|B O<|F O<|F O<|H<|W<|R O ?_
  rw [qY (l:=l.L) (k:=k) (by omega)];rfl
theorem zFt (e:Ex) (he:e.wt<=1000000):
    Pur cfg 34 [vE e] (vSs (indexW e)):=by
 refine zV Tryz.func34 O Tryz.ntmps34 Tryz.results34 O ?_
 intro z hz
 have hnl:=nodes_wt e
 refine B O<|zW O O (qJ O O) ?_
 rintro _ _ ⟨b1,rfl,rfl⟩
 refine qB O (yJ 1 O O)<|H<|B O<|qB O (yJ 1 O O)<|H<|B O<|zL qH (K 0 O) O<|qK O ok89 (OwnR.pur (ref14_All e (by omega))) ⟨G,O,T⟩<|F O<|H<|U<|B O<|F O<|H<|zP<|zT ⟨[(5,.c _),(3,.c _),(4,.c _)],[]⟩ (Weak.mk [false] ⟨G,G,G,T⟩ O)<|qG 2 0 O O (Nat) (fun k=>[(5,vI k),(3,vSs (insWs [] (namesA ((nodes e).take k))))]) (fun k=>[]) (fun k=>k<=(nodes e).length) (fun k=>(nodes e).length-k) ⟨0,(by omega),Weak.mk [] ⟨G,VLe.of_eq (O),G,T⟩ O⟩ ?_
 rintro k hk
 refine U<|B O<|F O<|F O<|zZ O A<|yB O<|H<|g O (fun c1=>?_) (fun c1=>?_)
 ·try simp only [I] at c1
  obtain ⟨x,hx⟩:=qP (nodes e) k (by omega)
  have hxw:=zDr e x (qD hx)
  have hxe:=Ex.wt_eq x
  refine zJ<|U<|zP<|B O<|F O<|F O<|F O<|qE O A (by omega) (yU hx)<|qR O zDy<|zL kP qA O<|qK O ok90 (zIm (insWs [] (namesA ((nodes e).take k))) x.Lin (by have q1:=zHg (namesA ((nodes e).take k));(try simp only [List.length_append,zLc] at q1⊢);have q2:=zLb (e:=e) (k:=k);  omega)) ⟨G,O,G,O,T⟩<|F O<|H<|B O<|F O<|H<|zP<|zT ⟨[(6,.c _),(3,.c _),(4,.c _),(5,.c _)],[]⟩ (Weak.mk [] ⟨G,G,G,G,T⟩ O) ?_
  refine qG 2 0 O O (Nat) (fun j=>[(6,vI j),(3,vSs (insWs [] (namesA ((nodes e).take k)++namesF x.Lin++((x.Idx.take j).flatMap ixF).flatMap namesF)))]) (fun j=>[]) (fun j=>j<=x.Idx.length) (fun j=>x.Idx.length-j) ⟨0,(by omega),Weak.mk [] ⟨G,VLe.of_eq (congrArg vSs (iw_1 _ _)),G,G,T⟩ O⟩ ?_
  rintro j hj
  refine U<|B O<|F O<|F O<|F O<|qE O A (by omega) (yU hx)<|qR O kL<|zK wX qA O<|zZ O d<|yB O<|H<|g O (fun c2=>?_) (fun c2=>?_)
  ·try simp only [I] at c2
   obtain ⟨y,hy⟩:=qP x.Idx j (by omega)
   have hyw:=zEz (qD hy)
   rw [Ix.wt] at hyw
   refine zJ<|U<|zP<|B O<|F O<|F O<|F O<|qE O A (by omega) (yU hx)<|qR O kL<|zK wX qA O<|F O<|qE O d (by omega) (Q (by assumption))<|qR O zDw<|zL kP qA O<|qK O ok90 (zIm (insWs [] (namesA ((nodes e).take k)++namesF x.Lin++((x.Idx.take j).flatMap ixF).flatMap namesF)) y.Lin (by have q1:=zHg ((namesA ((nodes e).take k)++namesF x.Lin++((x.Idx.take j).flatMap ixF).flatMap namesF));(try simp only [List.length_append,zLc] at q1⊢);have q2:=zLb (e:=e) (k:=k);have q3:=idxP_len x.Idx j;omega)) ⟨G,O,G,O,T⟩<|F O<|H<|B O<|F O<|H<|zP<|zT ⟨[(7,.c _),(3,.c _),(4,.c _),(5,.c _),(6,.c _)],[]⟩ (Weak.mk [] ⟨G,G,G,G,G,T⟩ O) ?_
   refine qG 2 0 O O (Nat) (fun i=>[(7,vI i),(3,vSs (insWs [] ((namesA ((nodes e).take k)++namesF x.Lin++((x.Idx.take j).flatMap ixF).flatMap namesF)++namesF y.Lin++(y.At.take i).flatMap namesF)))]) (fun i=>[]) (fun i=>i<=y.At.length) (fun i=>y.At.length-i) ⟨0,(by omega),Weak.mk [] ⟨G,VLe.of_eq (congrArg vSs (iw_2 _ _)),G,G,G,T⟩ O⟩ ?_
   rintro i hi
   refine U<|B O<|F O<|F O<|F O<|qE O A (by omega) (yU hx)<|qR O kL<|zK wX qA O<|F O<|qE O d (by omega) (Q (by assumption))<|qR O zAw<|zK zAv qA O<|zZ O el63<|yB O<|H<|g O (fun c3=>?_) (fun c3=>?_)
   ·try simp only [I] at c3
    obtain ⟨l,hl⟩:=qP y.At i (by omega)
    have hlw:=zBw (qD hl)
    refine zJ<|U<|zP<|zU O<|F O<|F O<|F O<|qE O A (by omega) (yU hx)<|qR O kL<|zK wX qA O<|F O<|qE O d (by omega) (Q (by assumption))<|qR O zAw<|zK zAv qA O<|F O<|qE O el63 (by omega) (Q (by assumption))<|zL kP qA O<|qK O ok90 (zIm (insWs [] ((namesA ((nodes e).take k)++namesF x.Lin++((x.Idx.take j).flatMap ixF).flatMap namesF)++namesF y.Lin++(y.At.take i).flatMap namesF)) l (by have q1:=zHg (((namesA ((nodes e).take k)++namesF x.Lin++((x.Idx.take j).flatMap ixF).flatMap namesF)++namesF y.Lin++(y.At.take i).flatMap namesF));(try simp only [List.length_append,zLc] at q1⊢);have q2:=zLb (e:=e) (k:=k);have q3:=idxP_len x.Idx j;have q4:=zOu y.At i;omega)) ⟨G,O,G,O,T⟩<|F O<|H<|zU O<|F O<|qL O ⟨by omega,by omega⟩<|F O<|H ?_
    refine ⟨i+1,(by omega),(by omega),Weak.mk [] ⟨G,VLe.of_eq (congrArg vSs (iw_at hl)),G,G,G,T⟩ O⟩
   ·try simp only [I] at c3
    rw [qY (l:=y.At) (k:=i) (by omega)]
    refine qM<|zU O<|F O<|qL O ⟨by omega,by omega⟩<|F O<|H ?_
    refine ⟨j+1,(by omega),(by omega),Weak.mk [] ⟨G,VLe.of_eq (congrArg vSs (iw_ix hy)),G,G,T⟩ O⟩
  ·try simp only [I] at c2
   rw [qY (l:=x.Idx) (k:=j) (by omega)]
   refine qM<|zU O<|F O<|qL O ⟨by omega,by omega⟩<|F O<|H ?_
   refine ⟨k+1,(by omega),(by omega),Weak.mk [] ⟨G,VLe.of_eq (congrArg vSs (iw_nd hx)),G,T⟩ O⟩
 ·try simp only [I] at c1
  refine qM<|B O<|F O<|F O<|H<|W<|R O ?_
  rw [qY (l:=nodes e) (k:=k) (by omega)];rfl
end Go.W
