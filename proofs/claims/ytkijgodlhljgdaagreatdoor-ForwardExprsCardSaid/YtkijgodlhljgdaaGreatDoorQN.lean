/-
  Walks: what functions of the program compute. Printed by wip/gen/mk2.py.
  Conditions: none.
-/
import Derived.Test.YtkijgodlhljgdaaGreatDoorVC
import Derived.Test.YtkijgodlhljgdaaGreatDoorPlain2
import Derived.Test.YtkijgodlhljgdaaGreatDoorEngZ
set_option linter.unusedSimpArgs false
set_option linter.unusedVariables false
set_option maxRecDepth 10000
namespace Go.W
open Go Go.Eng Go.Proofs Go.L41 Go.Br
attribute [local irreducible] AWP RWP TD finQ
theorem ok90:callOk Tryz.prog 90=true:=by kernel_rfl
theorem ok168:callOk Tryz.prog 168=true:=by kernel_rfl
theorem ref14_With (l:List ByteArray) (s:ByteArray) (hl:l.length<=4294967296):
    Pur cfg 168 [vSs l,vS s] (vSs (insW l s)):=by
 refine zT Tryz.func168 O Tryz.ntmps168 Tryz.results168 O ?_
 intro z hz
 refine B O<|zX O (yN 1 O O)<|H<|B O<|F O<|H<|W<|zP<|zW ⟨[(5,.c _),(0,.c _),(1,.c _)],[]⟩ (Weak.mk [] ⟨G,G,G,T⟩ O)<|qJ 1 0 O O (Nat) (fun k=>[(5,vI k)]) (fun k=>[]) (fun k=>k<=l.length/\(l.take k).all (below s)=true) (fun k=>l.length-k) ⟨0,⟨by omega,O⟩,Weak.mk [] ⟨G,G,G,T⟩ O⟩ ?_
 rintro k ⟨hk,hp⟩
 refine W<|B O<|F O<|F O<|zZ O el22<|yD O<|F O<|w O (fun g2_4=>zQ O O) O<|w O (fun g2_4=>zQ O O) O<|rLz [(12,_),(13,_)] O J ⟨O,O,O,O,T⟩ (fun g2_4=>qA O el22 O O (by simp only [Lz,cond_true,cond_false,Bool.and_eq_true,Bool.or_eq_true,Bool.not_eq_true',Bool.not_eq_false',Bool.or_eq_false_iff,Bool.and_eq_false_iff,decide_eq_true_eq,decide_eq_false_iff_not,Bool.not_eq_true,Bool.not_eq_false] at g2_4;omega) (X (zOy (by simp only [Lz,cond_true,cond_false,Bool.and_eq_true,Bool.or_eq_true,Bool.not_eq_true',Bool.not_eq_false',Bool.or_eq_false_iff,Bool.and_eq_false_iff,decide_eq_true_eq,decide_eq_false_iff_not,Bool.not_eq_true,Bool.not_eq_false] at g2_4;omega)))) O<|R 14 O (fun g2_4=>zG O i O qB O) O<|w O (fun g2_4=>zQ O O) O<|rLz [(15,_),(16,_)] O J ⟨O,O,O,O,T⟩ (fun g2_4=>det_slss O O O) O<|yY O (fun h=>h)<|H<|g O (fun c1=>?_) (fun c1=>?_)
 ·obtain ⟨hlt,hlt2⟩:=with_1t c1
  refine zJ<|zP<|zU O<|F O<|qL O ⟨by omega,by omega⟩<|F O<|H ?_
  refine ⟨k+1,⟨by omega,below_next (zOy hlt) hp hlt2⟩,(by omega),Weak.mk [] ⟨G,G,G,T⟩ O⟩
 ·have h1f:=with_1f c1
  refine qN<|W<|B O<|F O<|F O<|zZ O el22<|yD O<|F O<|w O (fun g4_4=>zQ O O) O<|w O (fun g4_4=>zQ O O) O<|rLz [(26,_),(27,_)] O J ⟨O,O,O,O,T⟩ (fun g4_4=>qA O el22 O O (by simp only [Lz,cond_true,cond_false,Bool.and_eq_true,Bool.or_eq_true,Bool.not_eq_true',Bool.not_eq_false',Bool.or_eq_false_iff,Bool.and_eq_false_iff,decide_eq_true_eq,decide_eq_false_iff_not,Bool.not_eq_true,Bool.not_eq_false] at g4_4;omega) (X (zOy (by simp only [Lz,cond_true,cond_false,Bool.and_eq_true,Bool.or_eq_true,Bool.not_eq_true',Bool.not_eq_false',Bool.or_eq_false_iff,Bool.and_eq_false_iff,decide_eq_true_eq,decide_eq_false_iff_not,Bool.not_eq_true,Bool.not_eq_false] at g4_4;omega)))) O<|R 28 O (fun g4_4=>zG O i O qB O) O<|w O (fun g4_4=>zQ O O) O<|rLz [(29,_),(30,_)] O J ⟨O,O,O,O,T⟩ (fun g4_4=>yL O O O) O<|yY O (fun h=>h)<|H<|g O (fun c2=>?_) (fun c2=>?_)
  ·have h2t:=with_2t c2
   refine B O<|F O<|F O<|H<|U<|M O ?_
   rw [with_is hp h1f h2t]
  ·have h2f:=with_2f c2
   have hnew:=with_new hk hp h1f h2f
   refine zJ<|B O<|F O<|yZ _ (kN 9 1)<|H<|B O<|F O<|F O<|F O<|zX O (zDs O el22 O O (by omega))<|zV O O (yE 0 O el22 O O O (by simp only [List.length_map,List.length_append,List.length_cons,List.length_nil,List.length_take,List.length_drop];omega) (by simp only [List.length_map,List.length_append,List.length_cons,List.length_nil,List.length_take,List.length_drop];omega)) ?_
   rintro _ _ ⟨sv2,rfl,rfl⟩
   refine F O<|H<|B O<|F O<|F O<|yB O el22 zr9<|zV O O (yE 0 O el22 O O O (by simp only [List.length_map,List.length_append,List.length_cons,List.length_nil,List.length_take,List.length_drop];omega) (by simp only [List.length_map,List.length_append,List.length_cons,List.length_nil,List.length_take,List.length_drop];omega)) ?_
   rintro _ _ ⟨sv3,rfl,rfl⟩
   refine F O<|H<|B O<|F O<|F O<|F O<|zX O (zLh O el22 O O (by omega))<|zV O O (yE 0 O el22 O O O (by simp only [List.length_map,List.length_append,List.length_cons,List.length_nil,List.length_take,List.length_drop];omega) (by simp only [List.length_map,List.length_append,List.length_cons,List.length_nil,List.length_take,List.length_drop];omega)) ?_
   rintro _ _ ⟨sv4,rfl,rfl⟩
   refine F O<|H<|zW _ (Weak.vecEq 0 O (rows':=(insW l s).map fun s=>[cS s]) (by rw [hnew];simp))<|zW _ (kJ 0 O (regs':=[(47,_),(4,_)]) (μ':=[]) ⟨FLe.sl,FLe.sl,T⟩ T)<|U<|M O ?_
   rfl
theorem zHs (w:List ByteArray) (l:Lf) (hw:w.length+l.L.length<=4294967295):
    Pur cfg 90 [vSs w,vLin l] (vSs (insWs w (namesF l))):=by
 refine zT Tryz.func90 O Tryz.ntmps90 Tryz.results90 O ?_
 intro z hz
 refine B O<|zV O O (qI O O) ?_
 rintro _ _ ⟨b1,rfl,rfl⟩
 refine zX O (yN 1 O O)<|H<|W<|B O<|F O<|H<|zP<|zW ⟨[(5,.c _),(0,.c _),(3,.c _)],[_]⟩ (Weak.mk [true] ⟨G,G,G,T⟩ O)<|qJ 2 0 O O (Nat) (fun k=>[(5,vI k),(0,vSs (insWs w ((l.L.take k).map Mono.Name)))]) (fun k=>[]) (fun k=>k<=l.L.length) (fun k=>l.L.length-k) ⟨0,(by omega),Weak.mk [true] ⟨G,VLe.of_eq (O),G,T⟩ O⟩ ?_
 rintro k hk
 refine W<|B O<|F O<|zH O wN<|zL zBn (K 0 O) O<|zZ O q<|yD O<|H<|g O (fun c1=>?_) (fun c1=>?_)
 ·try simp only [I] at c1
  obtain ⟨m,hm⟩:=qQ l.L k (by omega)
  refine zJ<|W<|zP<|zU O<|F O<|zH O wN<|zL zBn (K 0 O) O<|F O<|qH O q (by omega) (X (by assumption))<|zX O (qM O zAt O)<|zL i qB O<|qK O ok168 (ref14_With (insWs w ((l.L.take k).map Mono.Name)) m.Name (by have h1:=zNx ((l.L.take k).map Mono.Name) w;rw [List.length_map] at h1;have h2:=List.length_take_le k l.L;omega)) ⟨G,O,G,O,T⟩<|F O<|H<|zU O<|F O<|qL O ⟨by omega,by omega⟩<|F O<|H ?_
  refine ⟨k+1,(by omega),(by omega),Weak.mk [true] ⟨G,VLe.of_eq (congrArg vSs (by rw [zNq hm,zDo];rfl)),G,T⟩ O⟩
 ·try simp only [I] at c1
  refine qN<|B O<|F O<|F O<|H<|U<|M O ?_
  rw [qW (l:=l.L) (k:=k) (by omega)];rfl
theorem zFd (e:Ex) (he:e.wt<=1000000):
    Pur cfg 34 [vE e] (vSs (indexW e)):=by
 refine zT Tryz.func34 O Tryz.ntmps34 Tryz.results34 O ?_
 intro z hz
 have hnl:=nodes_wt e
 refine B O<|zV O O (qI O O) ?_
 rintro _ _ ⟨b1,rfl,rfl⟩
 refine zX O (yN 1 O O)<|H<|B O<|zX O (yN 1 O O)<|H<|B O<|zK Q (K 0 O) O<|qK O ok89 (OwnR.pur (ref14_All e (by omega))) ⟨G,O,T⟩<|F O<|H<|W<|B O<|F O<|H<|zP<|zW ⟨[(5,.c _),(3,.c _),(4,.c _)],[]⟩ (Weak.mk [false] ⟨G,G,G,T⟩ O)<|qJ 2 0 O O (Nat) (fun k=>[(5,vI k),(3,vSs (insWs [] (namesA ((nodes e).take k))))]) (fun k=>[]) (fun k=>k<=(nodes e).length) (fun k=>(nodes e).length-k) ⟨0,(by omega),Weak.mk [] ⟨G,VLe.of_eq (O),G,T⟩ O⟩ ?_
 rintro k hk
 refine W<|B O<|F O<|F O<|zZ O A<|yD O<|H<|g O (fun c1=>?_) (fun c1=>?_)
 ·try simp only [I] at c1
  obtain ⟨x,hx⟩:=qQ (nodes e) k (by omega)
  have hxw:=zCy e x (qD hx)
  have hxe:=Ex.wt_eq x
  refine zJ<|W<|zP<|B O<|F O<|F O<|F O<|qH O A (by omega) (yR hx)<|zX O (qM O zDf O)<|zK kQ qB O<|qK O ok90 (zHs (insWs [] (namesA ((nodes e).take k))) x.Lin (by have q1:=zGn (namesA ((nodes e).take k));(try simp only [List.length_append,zKe] at q1⊢);have q2:=zKd (e:=e) (k:=k);  omega)) ⟨G,O,G,O,T⟩<|F O<|H<|B O<|F O<|H<|zP<|zW ⟨[(6,.c _),(3,.c _),(4,.c _),(5,.c _)],[]⟩ (Weak.mk [] ⟨G,G,G,G,T⟩ O) ?_
  refine qJ 2 0 O O (Nat) (fun j=>[(6,vI j),(3,vSs (insWs [] (namesA ((nodes e).take k)++namesF x.Lin++((x.Idx.take j).flatMap ixF).flatMap namesF)))]) (fun j=>[]) (fun j=>j<=x.Idx.length) (fun j=>x.Idx.length-j) ⟨0,(by omega),Weak.mk [] ⟨G,VLe.of_eq (congrArg vSs (iw_1 _ _)),G,G,T⟩ O⟩ ?_
  rintro j hj
  refine W<|B O<|F O<|F O<|F O<|qH O A (by omega) (yR hx)<|zX O (qM O kF O)<|zL wQ qB O<|zZ O s<|yD O<|H<|g O (fun c2=>?_) (fun c2=>?_)
  ·try simp only [I] at c2
   obtain ⟨y,hy⟩:=qQ x.Idx j (by omega)
   have hyw:=zEg (qD hy)
   rw [Ix.wt] at hyw
   refine zJ<|W<|zP<|B O<|F O<|F O<|F O<|qH O A (by omega) (yR hx)<|zX O (qM O kF O)<|zL wQ qB O<|F O<|qH O s (by omega) (X (by assumption))<|zX O (qM O zDd O)<|zK kQ qB O<|qK O ok90 (zHs (insWs [] (namesA ((nodes e).take k)++namesF x.Lin++((x.Idx.take j).flatMap ixF).flatMap namesF)) y.Lin (by have q1:=zGn ((namesA ((nodes e).take k)++namesF x.Lin++((x.Idx.take j).flatMap ixF).flatMap namesF));(try simp only [List.length_append,zKe] at q1⊢);have q2:=zKd (e:=e) (k:=k);have q3:=idxP_len x.Idx j;omega)) ⟨G,O,G,O,T⟩<|F O<|H<|B O<|F O<|H<|zP<|zW ⟨[(7,.c _),(3,.c _),(4,.c _),(5,.c _),(6,.c _)],[]⟩ (Weak.mk [] ⟨G,G,G,G,G,T⟩ O) ?_
   refine qJ 2 0 O O (Nat) (fun i=>[(7,vI i),(3,vSs (insWs [] ((namesA ((nodes e).take k)++namesF x.Lin++((x.Idx.take j).flatMap ixF).flatMap namesF)++namesF y.Lin++(y.At.take i).flatMap namesF)))]) (fun i=>[]) (fun i=>i<=y.At.length) (fun i=>y.At.length-i) ⟨0,(by omega),Weak.mk [] ⟨G,VLe.of_eq (congrArg vSs (iw_2 _ _)),G,G,G,T⟩ O⟩ ?_
   rintro i hi
   refine W<|B O<|F O<|F O<|F O<|qH O A (by omega) (yR hx)<|zX O (qM O kF O)<|zL wQ qB O<|F O<|qH O s (by omega) (X (by assumption))<|zX O (qM O zAk O)<|zL zBf qB O<|zZ O t<|yD O<|H<|g O (fun c3=>?_) (fun c3=>?_)
   ·try simp only [I] at c3
    obtain ⟨l,hl⟩:=qQ y.At i (by omega)
    have hlw:=zBi (qD hl)
    refine zJ<|W<|zP<|zU O<|F O<|F O<|F O<|qH O A (by omega) (yR hx)<|zX O (qM O kF O)<|zL wQ qB O<|F O<|qH O s (by omega) (X (by assumption))<|zX O (qM O zAk O)<|zL zBf qB O<|F O<|qH O t (by omega) (X (by assumption))<|zK kQ qB O<|qK O ok90 (zHs (insWs [] ((namesA ((nodes e).take k)++namesF x.Lin++((x.Idx.take j).flatMap ixF).flatMap namesF)++namesF y.Lin++(y.At.take i).flatMap namesF)) l (by have q1:=zGn (((namesA ((nodes e).take k)++namesF x.Lin++((x.Idx.take j).flatMap ixF).flatMap namesF)++namesF y.Lin++(y.At.take i).flatMap namesF));(try simp only [List.length_append,zKe] at q1⊢);have q2:=zKd (e:=e) (k:=k);have q3:=idxP_len x.Idx j;have q4:=zNv y.At i;omega)) ⟨G,O,G,O,T⟩<|F O<|H<|zU O<|F O<|qL O ⟨by omega,by omega⟩<|F O<|H ?_
    refine ⟨i+1,(by omega),(by omega),Weak.mk [] ⟨G,VLe.of_eq (congrArg vSs (iw_at hl)),G,G,G,T⟩ O⟩
   ·try simp only [I] at c3
    rw [qW (l:=y.At) (k:=i) (by omega)]
    refine qN<|zU O<|F O<|qL O ⟨by omega,by omega⟩<|F O<|H ?_
    refine ⟨j+1,(by omega),(by omega),Weak.mk [] ⟨G,VLe.of_eq (congrArg vSs (iw_ix hy)),G,G,T⟩ O⟩
  ·try simp only [I] at c2
   rw [qW (l:=x.Idx) (k:=j) (by omega)]
   refine qN<|zU O<|F O<|qL O ⟨by omega,by omega⟩<|F O<|H ?_
   refine ⟨k+1,(by omega),(by omega),Weak.mk [] ⟨G,VLe.of_eq (congrArg vSs (iw_nd hx)),G,T⟩ O⟩
 ·try simp only [I] at c1
  refine qN<|B O<|F O<|F O<|H<|U<|M O ?_
  rw [qW (l:=nodes e) (k:=k) (by omega)];rfl
end Go.W
