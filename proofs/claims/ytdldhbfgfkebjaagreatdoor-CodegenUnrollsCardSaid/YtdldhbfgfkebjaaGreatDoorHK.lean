/-
  What functions compute.
  Conditions: none.
-/
import Derived.Test.YtdldhbfgfkebjaaGreatDoorHJ
set_option linter.unusedSimpArgs false
set_option linter.unusedVariables false
set_option maxRecDepth 10000
namespace Go.W
open Go Go.Eng Go.Proofs Go.L41 Go.Br
attribute [local irreducible] AWP RWP TD fP
theorem first2 {g:Gn} {L:List ByteArray} {e:Ex} (h:Rdy g L e) (h1:¬e.Op=1) (h2:¬e.Op=2) (h3:¬e.Op=3) (h11:¬e.Op=11) (h13:¬13<=e.Op):∃a r,e.Args=a::r/\Rdy g L a/\bC a=false:=by
  by_cases h12:e.Op=12
  · obtain ⟨a,ha,hr,hc0⟩:=h.args1 (.inr (.inl h12))
    exact ⟨a,[],ha,hr,by rw [hc0,h12];rfl⟩
  · exact h.first h1 h2 h3 h12 h11 h13
theorem ok81:bA Tryz.prog 81=true:=by kernel_rfl
theorem ok82:bA Tryz.prog 82=true:=by kernel_rfl
theorem ok86:bA Tryz.prog 86=true:=by kernel_rfl
theorem ok87:bA Tryz.prog 87=true:=by kernel_rfl
theorem ok128:bA Tryz.prog 128=true:=by kernel_rfl
set_option maxHeartbeats 4000000 in
theorem r48_value_step {b:Nat} {sv sl:Value} {code:List In} {full:Bool} {g:Gn} {L:List ByteArray} {pre:List In} (hE:Em pre code full) (hL:L.length<=1000000) (hg:g.Ok) (e:Ex) (ihv:∀a,a∈e.Args->VR b sl g L a) (iht:∀a,a∈e.Args->TR b sl g L a) (h:Rdy g L e) (hc:bC e=false) (k q:Int) (hk0:0<=k) (hk1:k+e.wt<=1000000) (hq0:0<=q) (hq1:q+e.wt<=1000000):
    Con cfg 81 [vPt b,vE e,vI k,vI q] (fJ b sv sl code full g L) fun r μ'=>r=.tup []/\∃sv' code' full',Em (pre++fB g L e pre.length k q) code' full'/\μ'=fJ b sv' sl code' full' g L:=by
 refine zW Tryz.func81 O Tryz.ntmps81 Tryz.results81 O ?_
 intro z hz
 have hwt:=e.wt_eq
 have h13:¬13<=e.Op:=fun k9=>by rw [isC_op.2 ⟨k9,(zLk (zAf h.part)).2⟩] at hc;cases hc
 refine R O<|zS O O (qP O O) ?_
 rintro _ _ ⟨b1,rfl,rfl⟩
 refine qT _ (qM 0 O 5 _ PLe.ptr)<|zA<|zF<|R O<|zT O kR<|zE one3 zO O<|zA<|zP<|R O<|yE O<|G O<|zA<|zD O (fun c1=>?_) (fun c1=>?_)
 ·try simp only [sx] at c1
  refine R O<|G O<|G O<|zT O zGp<|zQ zUo zO O<|yS O zr46 pl46<|zS O O (W O ok77 (zDf hE (⟨9,k,0,0,e.Val,zTy⟩) _ (fun _=>O)) ⟨zB,O,zB,O,T⟩) ?_
  rintro _ _ ⟨rfl,sv1,cd1,fu1,hE1,rfl⟩
  refine zA<|zN<|U ?_
  exact ⟨O,sv1,cd1,fu1,by rw [val_1 c1];exact hE1,O⟩
 ·try simp only [sx] at c1
  refine R O<|yE O<|G O<|zA<|zD O (fun c2=>?_) (fun c2=>?_)
  ·try simp only [sx] at c2
   refine R O<|G O<|zT O zEd<|zQ zAj zO O<|zS O O (W O ok126 (r48_form hE hL e.Lin 101 (by omega) h.lin) ⟨zB,O,zB,O,zB,O,T⟩) ?_
   rintro _ _ ⟨rfl,sv1,cd1,fu1,hE1,rfl⟩
   refine zA<|R O<|G O<|G O<|zS O O (W O ok36 (kV hE1 (16) (k) (101) (0) _ (fun _=>O)) ⟨zB,O,zB,O,zB,O,zB,O,zB,O,T⟩) ?_
   rintro _ _ ⟨rfl,sv2,cd2,fu2,hE2,rfl⟩
   refine zA<|zN<|U ?_
   exact ⟨O,sv2,cd2,fu2,by rw [val_2 c2,←List.append_assoc];exact hE2,O⟩
  ·try simp only [sx] at c2
   refine R O<|yE O<|G O<|zA<|zD O (fun c3=>?_) (fun c3=>?_)
   ·try simp only [sx] at c3
    refine R O<|G O<|zT O zCo<|zE one9 zO O<|zT O kQ<|zE wI zO O<|zS O O (W O ok82 (zLi hE hL e.Name e.Idx hg (h.read c3).1 (h.read c3).2.1 (h.read c3).2.2 (by omega)) ⟨zB,O,zB,O,zB,O,T⟩) ?_
    rintro _ _ ⟨rfl,sv1,cd1,fu1,hE1,rfl⟩
    refine zZ O (yA O O)<|kP O<|kP O<|G O<|G O<|zA<|R O<|G O<|G O<|G O<|G O<|zS O O (W O ok79 (zEa hE1 (10) (k) (100) (g.bs_ e.Name) (g.en e.Name)) ⟨zB,O,zB,O,zB,O,zB,O,zB,O,zB,O,T⟩) ?_
    rintro _ _ ⟨rfl,sv2,cd2,fu2,hE2,rfl⟩
    refine zA<|zN<|U ?_
    exact ⟨O,sv2,cd2,fu2,by rw [val_3 c3,←List.append_assoc];exact hE2,O⟩
   ·try simp only [sx] at c3
    refine R O<|yE O<|G O<|zA<|zD O (fun c4=>?_) (fun c4=>?_)
    ·try simp only [sx] at c4
     obtain ⟨a,c,d,ha,⟨hra,hca⟩,⟨hrc,hcc⟩,⟨hrd,hcd⟩⟩:=h.args3 c4
     have ham:a∈e.Args:=by rw [ha];simp
     have haw:=kF ham
     have hcm:c∈e.Args:=by rw [ha];simp
     have hcw:=kF hcm
     have hdm:d∈e.Args:=by rw [ha];simp
     have hdw:=kF hdm
     refine R O<|G O<|zT O yU<|zE kW zO O<|zY O el55 (by omega) (wF (show e.Args[(0:Int).toNat]? =some a by rw [ha];rfl))<|zQ yN zO O<|G O<|G O<|zS O O (W O ok86 (iht a ham sv code full (pre) (k) (q) hE hra hca (by omega) (by omega) (by omega) (by omega)) ⟨zB,O,zB,O,zB,O,zB,O,T⟩) ?_
     rintro _ _ ⟨rfl,sv1,cd1,fu1,hE1,rfl⟩
     refine zA<|R O<|G O<|G O<|qA O ⟨by omega,by omega⟩<|zS O O (W O ok36 (kV hE1 (1) (q+1) (1) (0) _ (fun _=>O)) ⟨zB,O,zB,O,zB,O,zB,O,zB,O,T⟩) ?_
     rintro _ _ ⟨rfl,sv2,cd2,fu2,hE2,rfl⟩
     refine zA<|R O<|G O<|zZ O (qY [0,0,0] O ok78 (zHi ) ⟨zB,O,T⟩ O)<|G O<|zA<|R O<|G O<|G O<|G O<|qA O ⟨by omega,by omega⟩<|zS O O (W O ok36 (kV hE2 (8) (0) (q) (q+1) _ (fun _=>O)) ⟨zB,O,zB,O,zB,O,zB,O,zB,O,T⟩) ?_
     rintro _ _ ⟨rfl,sv3,cd3,fu3,hE3,rfl⟩
     refine zA<|R O<|G O<|zT O yU<|zE kW zO O<|zY O el55 (by omega) (wF (show e.Args[(1:Int).toNat]? =some c by rw [ha];rfl))<|zQ yN zO O<|G O<|G O<|zS O O (W O ok81 (ihv c hcm sv3 cd3 fu3 (ifD (cgE g L a) pre k q) (k) (q) hE3 hrc hcc (by omega) (by omega) (by omega) (by omega)) ⟨zB,O,zB,O,zB,O,zB,O,T⟩) ?_
     rintro _ _ ⟨rfl,sv4,cd4,fu4,hE4,rfl⟩
     refine zA<|R O<|G O<|zZ O (qY [0,0,0] O ok78 (zHi ) ⟨zB,O,T⟩ O)<|G O<|zA<|R O<|G O<|zS O O (W O ok36 (kV hE4 (7) (0) (0) (0) _ (fun _=>O)) ⟨zB,O,zB,O,zB,O,zB,O,zB,O,T⟩) ?_
     rintro _ _ ⟨rfl,sv5,cd5,fu5,hE5,rfl⟩
     refine zA<|R O<|G O<|G O<|zS O O (W O ok87 (zMm (pre:=ifF (cgE g L a) (cgE g L c) pre k q) hE5 (ifB (cgE g L a) pre k q).length (by unfold ifF sC ifD;simp only [List.length_append,List.length_singleton];omega) _ hE2.hr) ⟨zB,O,zB,O,T⟩) ?_
     rintro _ _ ⟨rfl,sv6,cd6,fu6,hE6,rfl⟩
     refine zA<|R O<|G O<|zT O yU<|zE kW zO O<|zY O el55 (by omega) (wF (show e.Args[(2:Int).toNat]? =some d by rw [ha];rfl))<|zQ yN zO O<|G O<|G O<|zS O O (W O ok81 (ihv d hdm sv6 cd6 fu6 (ifG (cgE g L a) (cgE g L c) pre k q) (k) (q) hE6 hrd hcd (by omega) (by omega) (by omega) (by omega)) ⟨zB,O,zB,O,zB,O,zB,O,T⟩) ?_
     rintro _ _ ⟨rfl,sv7,cd7,fu7,hE7,rfl⟩
     refine zA<|R O<|G O<|G O<|zS O O (W O ok87 (zMm (pre:=ifH (cgE g L a) (cgE g L c) (cgE g L d) pre k q) hE7 (sC (cgE g L a) (cgE g L c) pre k q).length (by unfold ifH;rw [List.length_append,ifG_len];unfold ifF;rw [List.length_append,List.length_singleton];omega) _ hE4.hr) ⟨zB,O,zB,O,T⟩) ?_
     rintro _ _ ⟨rfl,sv8,cd8,fu8,hE8,rfl⟩
     refine zA<|zN<|U ?_
     exact ⟨O,sv8,cd8,fu8,by rw [val_11 c4 ha,←ifI_eq];exact hE8,O⟩
    ·try simp only [sx] at c4
     obtain ⟨a,r0,ha,hra,hca⟩:=first2 h c1 c2 c3 c4 h13
     have ham:a∈e.Args:=by rw [ha];simp
     have haw:=kF ham
     refine zI<|R O<|G O<|zT O yU<|zE kW zO O<|zY O el55 (by omega) (wF (show e.Args[(0:Int).toNat]? =some a by rw [ha];rfl))<|zQ yN zO O<|G O<|G O<|zS O O (W O ok81 (ihv a ham sv code full (pre) (k) (q) hE hra hca (by omega) (by omega) (by omega) (by omega)) ⟨zB,O,zB,O,zB,O,zB,O,T⟩) ?_
     rintro _ _ ⟨rfl,sv1,cd1,fu1,hE1,rfl⟩
     refine zA<|R O<|G O<|zT O yU<|zE kW zO O<|zY O el55 (by omega) (wF (show e.Args[(0:Int).toNat]? =some a by rw [ha];rfl))<|zQ yN zO O<|zZ O (qY [0,0,0] O ok127 (r48_typeOf  hg a hra hca) ⟨zB,O,zB,O,T⟩ O)<|zS O O (yZ O zr31) ?_
     rintro _ _ ⟨b2,rfl,rfl⟩
     refine Y 0 sz31 O<|qT _ (qM 0 O 12 _ PLe.ptr)<|zA<|R O<|zT O kR<|zE one3 zO O<|zA<|zP<|R O<|yE O<|G O<|zA<|zD O (fun c5=>?_) (fun c5=>?_)
     ·try simp only [sx] at c5
      have h8:r0=[]:=by obtain ⟨a2,ha2,_⟩:=h.args1 (.inl c5);rw [ha] at ha2;exact (List.cons.inj ha2).2
      subst h8
      refine zK O<|G O<|G O<|G O<|yS O zr44 pl44<|zQ yG zO O<|yS O zr46 pl46<|zS O O (W O ok77 (zDf hE1 (iO 12 8 k k 0 (knd g.n.Bufs a)) _ (fun _=>O)) ⟨zB,O,zB,O,T⟩) ?_
      exact v32
     ·try simp only [sx] at c5
      refine R O<|yE O<|G O<|zA<|zD O (fun c6=>?_) (fun c6=>?_)
      ·try simp only [sx] at c6
       have h8:r0=[]:=by obtain ⟨a2,ha2,_⟩:=h.args1 (.inr (.inl c6));rw [ha] at ha2;exact (List.cons.inj ha2).2
       subst h8
       refine yL 10 0 [⟨0,.q []⟩,⟨1,.q []⟩,⟨2,.q []⟩,⟨3,.q []⟩,⟨4,.q []⟩,⟨5,.q [0,1,2]⟩,⟨6,.q []⟩,⟨7,.q []⟩,⟨8,.q []⟩,⟨9,.q []⟩] mixed (by kernel_rfl) (by kernel_rfl) O O O<|J O<|J O<|J O<|J O<|J O<|J O<|J O<|J O<|J O<|J O<|wQ<|zX O (by decide) O O (zM O O)<|zX O (by decide) O O (zM O O)<|zX O (by decide) O O (zM O O)<|zX O (by decide) O O (zM O O)<|zX O (by decide) O O (qC O yG O zO O)<|zX O (by decide) O O (qY [0,0,0] O ok128 (r48_number  hg (knd g.n.Bufs a) (knd_mem hg.ty a hra hca)) ⟨zB,O,zB,O,T⟩ O)<|zX O (by decide) O O (kU O zr44 pl44 O)<|zX O (by decide) O O (qB O zBj O)<|zX O (by decide) O O (qC O yG O zO O)<|zX O (by decide) O O (kU O zr46 pl46 O)<|wP O<|zS O O (W O ok77 (zDf hE1 (iO 13 (vC g.ty (knd g.n.Bufs a)) k k 0 e.Ty) _ (fun _=>O)) ⟨zB,O,zB,O,T⟩) ?_
       exact v29
      ·try simp only [sx] at c6
       obtain ⟨a2,d,ha2,_,⟨hrd,hcd0⟩⟩:=h.args2 (by omega) (by omega) c4
       have h8:=ha.symm.trans ha2
       rw [List.cons.injEq] at h8
       obtain ⟨h7,h8⟩:=h8
       subst h7
       subst h8
       have hcd:bC d=false:=by rw [hcd0];exact decide_eq_false (by omega)
       have hdm:d∈e.Args:=by rw [ha];simp
       have hdw:=kF hdm
       refine R O<|G O<|zT O yU<|zE kW zO O<|zY O el55 (by omega) (wF (show e.Args[(1:Int).toNat]? =some d by rw [ha];rfl))<|zQ yN zO O<|G O<|qA O ⟨by omega,by omega⟩<|G O<|zS O O (W O ok81 (ihv d hdm sv1 cd1 fu1 (pre++fB g L a pre.length k q) (k+1) (q) hE1 hrd hcd (by omega) (by omega) (by omega) (by omega)) ⟨zB,O,zB,O,zB,O,zB,O,T⟩) ?_
       rintro _ _ ⟨rfl,sv2,cd2,fu2,hE2,rfl⟩
       refine zA<|zK O<|G O<|G O<|G O<|G O<|qA O ⟨by omega,by omega⟩<|zT O kR<|zE one3 zO O<|yS O zr44 pl44<|zQ yG zO O<|yS O zr46 pl46<|zS O O (W O ok77 (zDf hE2 (iO 12 e.Op k k (k+1) (knd g.n.Bufs a)) _ (fun _=>O)) ⟨zB,O,zB,O,T⟩) ?_
       rintro _ _ ⟨rfl,sv3,cd3,fu3,hE3,rfl⟩
       refine zA ?_
       repeat (first|refine qZ ?_|refine qV ?_)
       refine yP<|U ?_
       have h9:=hE3
       rw [lenI] at h9
       exact ⟨O,sv3,cd3,fu3,by rw [val_o c1 c2 c3 c5 c6 c4 ha,←List.append_assoc,←List.append_assoc];exact h9,O⟩
set_option maxHeartbeats 4000000 in
theorem r48_test_step {b:Nat} {sv sl:Value} {code:List In} {full:Bool} {g:Gn} {L:List ByteArray} {pre:List In} (hE:Em pre code full) (hL:L.length<=1000000) (hg:g.Ok) (e:Ex) (ihv:∀a,a∈e.Args->VR b sl g L a) (iht:∀a,a∈e.Args->TR b sl g L a) (h:Rdy g L e) (hc:bC e=true) (k q:Int) (hk0:0<=k) (hk1:k+e.wt<=1000000) (hq0:0<=q) (hq1:q+e.wt<=1000000):
    Con cfg 86 [vPt b,vE e,vI k,vI q] (fJ b sv sl code full g L) fun r μ'=>r=.tup []/\∃sv' code' full',Em (pre++jC g L e pre.length k q) code' full'/\μ'=fJ b sv' sl code' full' g L:=by
 refine zW Tryz.func86 O Tryz.ntmps86 Tryz.results86 O ?_
 intro z hz
 have hwt:=e.wt_eq
 have h13:=isC_op.1 hc
 refine R O<|zS O O (qP O O) ?_
 rintro _ _ ⟨b1,rfl,rfl⟩
 refine qT _ (qM 0 O 5 _ PLe.ptr)<|zA<|zF<|R O<|zT O kR<|zE one3 zO O<|zA<|zP<|zF<|R O<|yE O<|G O<|zA<|zD O (fun c1=>?_) (fun c1=>?_)
 ·have d1:e.Op=16:=of_decide_eq_true c1
  refine zI<|zD O (fun c2=>?_) (fun c2=>?_)
  ·exact w9
  ·exact absurd (c1.symm.trans c2) (by simp)
 ·have d1:¬e.Op=16:=of_decide_eq_false c1
  refine zK O<|yE O<|G O<|zA<|zD O (fun c2=>?_) (fun c2=>?_)
  ·exact w9
  ·have d2:¬e.Op=17:=of_decide_eq_false c2
   have d34:¬(e.Op=16∨e.Op=17):=by omega
   refine R O<|yE O<|G O<|zA<|zD O (fun c4=>?_) (fun c4=>?_)
   ·try simp only [sx] at c4
    obtain ⟨a,ha,hra,hca0⟩:=h.args1 (.inr (.inr c4))
    have hca:bC a=true:=by rw [hca0];exact decide_eq_true c4
    have ham:a∈e.Args:=by rw [ha];simp
    have haw:=kF ham
    refine R O<|G O<|zT O yU<|zE kW zO O<|zY O el55 (by omega) (wF (show e.Args[(0:Int).toNat]? =some a by rw [ha];rfl))<|zQ yN zO O<|G O<|G O<|zS O O (W O ok86 (iht a ham sv code full (pre) (k) (q) hE hra hca (by omega) (by omega) (by omega) (by omega)) ⟨zB,O,zB,O,zB,O,zB,O,T⟩) ?_
    rintro _ _ ⟨rfl,sv1,cd1,fu1,hE1,rfl⟩
    refine zA<|R O<|G O<|G O<|G O<|zS O O (W O ok36 (kV hE1 (4) (q) (q) (-1) _ (fun _=>O)) ⟨zB,O,zB,O,zB,O,zB,O,zB,O,T⟩) ?_
    rintro _ _ ⟨rfl,sv2,cd2,fu2,hE2,rfl⟩
    refine zA<|R O<|G O<|G O<|qA O ⟨by omega,by omega⟩<|zS O O (W O ok36 (kV hE2 (1) (q+1) (1) (0) _ (fun _=>O)) ⟨zB,O,zB,O,zB,O,zB,O,zB,O,T⟩) ?_
    rintro _ _ ⟨rfl,sv3,cd3,fu3,hE3,rfl⟩
    refine zA<|R O<|G O<|G O<|G O<|G O<|qA O ⟨by omega,by omega⟩<|zS O O (W O ok36 (kV hE3 (3) (q) (q) (q+1) _ (fun _=>O)) ⟨zB,O,zB,O,zB,O,zB,O,zB,O,T⟩) ?_
    rintro _ _ ⟨rfl,sv4,cd4,fu4,hE4,rfl⟩
    refine zA<|zN<|U ?_
    have h9:=hE4
    simp only [List.append_assoc,List.cons_append,List.nil_append,List.append_nil] at h9
    exact ⟨O,sv4,cd4,fu4,by rw [tst_18 c4 ha];exact h9,O⟩
   ·try simp only [sx] at c4
    obtain ⟨a,d,ha,⟨hra,hca0⟩,⟨hrd,hcd0⟩⟩:=h.args2 (by omega) (by omega) (by omega)
    have hca:bC a=false:=by rw [hca0];exact decide_eq_false d34
    have hcd:bC d=false:=by rw [hcd0];exact decide_eq_false d34
    have ham:a∈e.Args:=by rw [ha];simp
    have haw:=kF ham
    have hdm:d∈e.Args:=by rw [ha];simp
    have hdw:=kF hdm
    refine zI<|R O<|G O<|zT O yU<|zE kW zO O<|zY O el55 (by omega) (wF (show e.Args[(0:Int).toNat]? =some a by rw [ha];rfl))<|zQ yN zO O<|G O<|G O<|zS O O (W O ok81 (ihv a ham sv code full (pre) (k) (q) hE hra hca (by omega) (by omega) (by omega) (by omega)) ⟨zB,O,zB,O,zB,O,zB,O,T⟩) ?_
    rintro _ _ ⟨rfl,sv1,cd1,fu1,hE1,rfl⟩
    refine zA<|R O<|G O<|zT O yU<|zE kW zO O<|zY O el55 (by omega) (wF (show e.Args[(1:Int).toNat]? =some d by rw [ha];rfl))<|zQ yN zO O<|G O<|qA O ⟨by omega,by omega⟩<|G O<|zS O O (W O ok81 (ihv d hdm sv1 cd1 fu1 (pre++fB g L a pre.length k q) (k+1) (q) hE1 hrd hcd (by omega) (by omega) (by omega) (by omega)) ⟨zB,O,zB,O,zB,O,zB,O,T⟩) ?_
    rintro _ _ ⟨rfl,sv2,cd2,fu2,hE2,rfl⟩
    refine zA<|R O<|G O<|G O<|zS O O (W O ok36 (kV hE2 (1) (q) (0) (0) _ (fun _=>O)) ⟨zB,O,zB,O,zB,O,zB,O,zB,O,T⟩) ?_
    rintro _ _ ⟨rfl,sv3,cd3,fu3,hE3,rfl⟩
    refine zA<|R O<|G O<|zZ O (qY [0,0,0] O ok78 (zHi ) ⟨zB,O,T⟩ O)<|G O<|zA<|zF<|yL 14 0 [⟨0,.q []⟩,⟨1,.q []⟩,⟨2,.q []⟩,⟨3,.q []⟩,⟨4,.q []⟩,⟨5,.q []⟩,⟨6,.q []⟩,⟨7,.q []⟩,⟨8,.q []⟩,⟨9,.q []⟩,⟨10,.q []⟩,⟨11,.q []⟩,⟨12,.q [0,1,2]⟩,⟨13,.q []⟩] mixed (by kernel_rfl) (by kernel_rfl) O O O<|J O<|J O<|J O<|J O<|J O<|J O<|J O<|J O<|J O<|J O<|J O<|J O<|J O<|J O<|wQ<|zX O (by decide) O O (zM O O)<|zX O (by decide) O O (zM O O)<|zX O (by decide) O O (zM O O)<|zX O (by decide) O O (wC O O O ⟨by omega,by omega⟩)<|zX O (by decide) O O (qB O kR O)<|zX O (by decide) O O (zC O one3 O zO O)<|zX O (by decide) O O (kU O zr44 pl44 O)<|zX O (by decide) O O (zM O O)<|zX O (by decide) O O (qB O yU O)<|zX O (by decide) O O (zC O kW O zO O)<|zX O (by decide) O O (qH O el55 O O (by omega) (wF (show e.Args[(0:Int).toNat]? =some a by rw [ha];rfl)))<|zX O (by decide) O O (qC O yN O zO O)<|zX O (by decide) O O (qY [0,0,0] O ok127 (r48_typeOf  hg a hra hca) ⟨zB,O,zB,O,T⟩ O)<|zX O (by decide) O O (kU O zr46 pl46 O)<|wP O<|zS O O (W O ok77 (zDf hE3 (iO 14 e.Op 0 k (k+1) (knd g.n.Bufs a)) _ (fun _=>O)) ⟨zB,O,zB,O,T⟩) ?_
    rintro _ _ ⟨rfl,sv4,cd4,fu4,hE4,rfl⟩
    refine zA<|R O<|G O<|G O<|zS O O (W O ok36 (kV hE4 (1) (q) (1) (0) _ (fun _=>O)) ⟨zB,O,zB,O,zB,O,zB,O,zB,O,T⟩) ?_
    rintro _ _ ⟨rfl,sv5,cd5,fu5,hE5,rfl⟩
    refine zA<|zK O<|G O<|G O<|zS O O (W O ok87 (zMm hE5 (pre++fB g L a pre.length k q++fB g L d (pre++fB g L a pre.length k q).length (k+1) q++[iN 1 q 0 0]).length (by simp only [List.length_append,List.length_singleton];omega) _ hE3.hr) ⟨zB,O,zB,O,T⟩) ?_
    rintro _ _ ⟨rfl,sv6,cd6,fu6,hE6,rfl⟩
    refine zA ?_
    repeat (first|refine qZ ?_|refine qV ?_)
    refine yP<|U ?_
    have h9:=hE6
    rw [tst_set c4 d34 ha] at h9
    exact ⟨O,sv6,cd6,fu6,h9,O⟩
theorem r48_vt (b:Nat) (sl:Value) (g:Gn) (L:List ByteArray) (hL:L.length<=1000000) (hg:g.Ok) (e:Ex):VR b sl g L e/\TR b sl g L e:=by
  induction e using Ex.ind with
  |_ e ih=>exact ⟨fun sv code full pre k q hE h hc h1 h2 h3 h4=>r48_value_step hE hL hg e (fun a ha=>(ih a ha).1) (fun a ha=>(ih a ha).2) h hc k q h1 h2 h3 h4,
    fun sv code full pre k q hE h hc h1 h2 h3 h4=>r48_test_step hE hL hg e (fun a ha=>(ih a ha).1) (fun a ha=>(ih a ha).2) h hc k q h1 h2 h3 h4⟩
end Go.W
