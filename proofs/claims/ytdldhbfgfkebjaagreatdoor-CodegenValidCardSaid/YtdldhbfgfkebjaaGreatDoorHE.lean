/-
  What functions compute.
  Conditions: none.
-/
import Derived.Test.YtdldhbfgfkebjaaGreatDoorHD
import Derived.Test.YtdldhbfgfkebjaaGreatDoorEngV2
set_option linter.unusedSimpArgs false
set_option linter.unusedVariables false
set_option maxRecDepth 10000
namespace Go.W
open Go Go.Eng Go.Proofs Go.L41 Go.Br
attribute [local irreducible] AWP RWP TD fY
def VW (b:Nat) (sl:Value) (g:Gn) (L:List ByteArray) (e:Ex):Prop:=∀(sv:Value) (code:List In) (full:Bool) (pre:List In) (k q:Int),Em pre code full->Rdy g L e->bC e=false->0<=k->k+e.wt<=1000000->0<=q->q+e.wt<=1000000->
  Con cfg 114 [vPt b,vE e,vI k,vI q] (fJ b sv sl code full g L) fun r μ'=>r=.tup []/\∃sv' code' full',Em (pre++fO g L e pre.length k q) code' full'/\μ'=fJ b sv' sl code' full' g L
def TW (b:Nat) (sl:Value) (g:Gn) (L:List ByteArray) (e:Ex):Prop:=∀(sv:Value) (code:List In) (full:Bool) (pre:List In) (k q:Int),Em pre code full->Rdy g L e->bC e=true->0<=k->k+e.wt<=1000000->0<=q->q+e.wt<=1000000->
  Con cfg 66 [vPt b,vE e,vI k,vI q] (fJ b sv sl code full g L) fun r μ'=>r=.tup []/\∃sv' code' full',Em (pre++lS g L e pre.length k q) code' full'/\μ'=fJ b sv' sl code' full' g L
theorem fd80_2:bD Tryz.prog 80 2=some (4,28):=by kernel_rfl
theorem ok66:bA Tryz.prog 66=true:=by kernel_rfl
theorem ok67:bA Tryz.prog 67=true:=by kernel_rfl
theorem ok114:bA Tryz.prog 114=true:=by kernel_rfl
theorem ok115:bA Tryz.prog 115=true:=by kernel_rfl
theorem ok116:bA Tryz.prog 116=true:=by kernel_rfl
theorem one28:jQ Tryz.prog 28=true:=by kernel_rfl
set_option maxHeartbeats 4000000 in
theorem cg_value_step {b:Nat} {sv sl:Value} {code:List In} {full:Bool} {g:Gn} {L:List ByteArray} {pre:List In} (hE:Em pre code full) (hL:L.length<=1000000) (hg:g.Ok) (e:Ex) (ihv:∀a,a∈e.Args->VW b sl g L a) (iht:∀a,a∈e.Args->TW b sl g L a) (h:Rdy g L e) (hc:bC e=false) (k q:Int) (hk0:0<=k) (hk1:k+e.wt<=1000000) (hq0:0<=q) (hq1:q+e.wt<=1000000):
    Con cfg 114 [vPt b,vE e,vI k,vI q] (fJ b sv sl code full g L) fun r μ'=>r=.tup []/\∃sv' code' full',Em (pre++fO g L e pre.length k q) code' full'/\μ'=fJ b sv' sl code' full' g L:=by
 refine zU Tryz.func114 O Tryz.ntmps114 Tryz.results114 O ?_
 intro z hz
 have hwt:=e.wt_eq
 have h13:¬13<=e.Op:=fun k9=>by rw [isC_op.2 ⟨k9,(zNr (wY h.part)).2⟩] at hc;cases hc
 refine R O<|zV O O (qO O O) ?_
 rintro _ _ ⟨b1,rfl,rfl⟩
 refine qX _ (qK 0 O 5 _ PLe.ptr)<|zA<|zI<|R O<|G O<|qE O<|zG O kB<|zG O zSt<|zH one4 (Y 0 O) O<|zA<|zC O (fun c1=>?_) (fun c1=>?_)
 ·try simp only [sx] at c1
  refine zK<|U ?_
  have hfl:full=true:=by simpa using c1
  subst hfl
  exact ⟨O,sv,code,true,hE.skip _,O⟩
 ·try simp only [sx] at c1
  refine zJ<|R O<|zX O kS<|zH one3 zQ O<|zA<|zP<|R O<|qZ O<|G O<|zA<|zC O (fun c2=>?_) (fun c2=>?_)
  ·try simp only [sx] at c2
   refine qW 7 mixed (by kernel_rfl) O O<|zL O O (zN O O)<|zL O O (qI O O)<|zL O O (zD O kB O)<|zL O O (zN O O)<|zL O O (qF O zIp O)<|zL O O (qC O zTv O zQ O)<|zL O O (zAb O zr46 pl46 O)<|yJ<|zV O O (qQ O ok30 (zOh hE (⟨9,k,0,0,e.Val,zTy⟩) _ (fun _=>O)) ⟨zB,O,zB,O,T⟩) ?_
   rintro _ _ ⟨rfl,sv1,cd1,fu1,hE1,rfl⟩
   refine zA ?_
   repeat (first|refine qV ?_|refine qT ?_)
   refine yF<|U ?_
   exact ⟨O,sv1,cd1,fu1,by rw [val_1 c2];exact hE1,O⟩
  ·try simp only [sx] at c2
   refine R O<|qZ O<|G O<|zA<|zC O (fun c3=>?_) (fun c3=>?_)
   ·try simp only [sx] at c3
    refine R O<|G O<|zX O zFc<|zO zBa zQ O<|zV O O (qQ O ok154 (cg_form hE hL e.Lin 101 (by omega)) ⟨zB,O,zB,O,zB,O,T⟩) ?_
    rintro _ _ ⟨rfl,sv1,cd1,fu1,hE1,rfl⟩
    refine zA<|zM O<|G O<|qE O<|zG O kB<|G O<|zV O O (qQ O ok61 (kJ hE1 (16) (k) (101) (0) _ (fun _=>O)) ⟨zB,O,zB,O,zB,O,zB,O,zB,O,T⟩) ?_
    rintro _ _ ⟨rfl,sv2,cd2,fu2,hE2,rfl⟩
    refine zA ?_
    repeat (first|refine qV ?_|refine qT ?_)
    refine yF<|U ?_
    exact ⟨O,sv2,cd2,fu2,by rw [val_2 c3,←List.append_assoc];exact hE2,O⟩
   ·try simp only [sx] at c3
    refine R O<|qZ O<|G O<|zA<|zC O (fun c4=>?_) (fun c4=>?_)
    ·try simp only [sx] at c4
     refine R O<|G O<|zX O zDg<|zH one9 zQ O<|zW O (yI [0,0,0] O ok60 (cg_find  e.Name hg) ⟨zB,O,zB,O,T⟩ O)<|zV O O (qR [none,none,none,none,none,none,some 1,none,none,none,some 1] O zr118 O) ?_
     rintro _ _ ⟨b2,rfl,rfl⟩
     refine D 0 sz118 O<|qX _ (qK 0 O 8 _ PLe.ptr)<|zA<|R O<|G O<|zO agg118 zQ O<|zX O kR<|zH wJ zQ O<|zV O O (qQ O ok115 (cg_address hE hL e.Name e.Idx hg (h.read c4).1 (h.read c4).2.1 (h.read c4).2.2 (by omega)) ⟨zB,O,zB,O,zB,O,T⟩) ?_
     rintro _ _ ⟨rfl,sv1,cd1,fu1,hE1,rfl⟩
     refine zA<|qW 8 mixed (by kernel_rfl) O O<|zL O O (zN O O)<|zL O O (qI O O)<|zL O O (zD O kB O)<|zL O O (zN O O)<|zL O O (qF O zFm O)<|zL O O (zF O one3 O zQ O)<|zL O O (qF O zIs O)<|zL O O (zF O one3 O zQ O)<|yJ<|zV O O (qQ O ok63 (zDx hE1 (10) (k) (100) (g.bs_ e.Name) (g.en e.Name)) ⟨zB,O,zB,O,zB,O,zB,O,zB,O,zB,O,T⟩) ?_
     rintro _ _ ⟨rfl,sv2,cd2,fu2,hE2,rfl⟩
     refine zA ?_
     repeat (first|refine qV ?_|refine qT ?_)
     refine yF<|U ?_
     exact ⟨O,sv2,cd2,fu2,by rw [val_3 c4,←List.append_assoc];exact hE2,O⟩
    ·try simp only [sx] at c4
     refine R O<|qZ O<|G O<|zA<|zC O (fun c5=>?_) (fun c5=>?_)
     ·try simp only [sx] at c5
      obtain ⟨a,ha,hra,hca0⟩:=h.args1 (.inl c5)
      have hca:bC a=false:=by rw [hca0,c5];rfl
      have ham:a∈e.Args:=by rw [ha];simp
      have haw:=wI ham
      refine R O<|G O<|zX O kO<|zH wZ zQ O<|qD O el55 (by omega) (zAa (show e.Args[(0:Int).toNat]? =some a by rw [ha];rfl))<|zO yP zQ O<|G O<|G O<|zV O O (qQ O ok114 (ihv a ham sv code full (pre) (k) (q) hE hra hca (by omega) (by omega) (by omega) (by omega)) ⟨zB,O,zB,O,zB,O,zB,O,T⟩) ?_
      rintro _ _ ⟨rfl,sv1,cd1,fu1,hE1,rfl⟩
      refine zA<|zM O<|G O<|G O<|G O<|G O<|zX O kO<|zH wZ zQ O<|qD O el55 (by omega) (zAa (show e.Args[(0:Int).toNat]? =some a by rw [ha];rfl))<|zO yP zQ O<|zW O (yI [0,0,0] O ok119 (cg_kind  hg a hra hca) ⟨zB,O,zB,O,T⟩ O)<|zV O O (qQ O ok116 (cg_op hE1 (12) (8) (k) (k) (0) (knd g.n.Bufs a) _ (fun _=>O)) ⟨zB,O,zB,O,zB,O,zB,O,zB,O,zB,O,zB,O,T⟩) ?_
      rintro _ _ ⟨rfl,sv2,cd2,fu2,hE2,rfl⟩
      refine zA ?_
      repeat (first|refine qV ?_|refine qT ?_)
      refine yF<|U ?_
      exact ⟨O,sv2,cd2,fu2,by rw [val_8 c5 ha,←List.append_assoc];exact hE2,O⟩
     ·try simp only [sx] at c5
      refine R O<|qZ O<|G O<|zA<|zC O (fun c6=>?_) (fun c6=>?_)
      ·try simp only [sx] at c6
       obtain ⟨a,ha,hra,hca0⟩:=h.args1 (.inr (.inl c6))
       have hca:bC a=false:=by rw [hca0,c6];rfl
       have ham:a∈e.Args:=by rw [ha];simp
       have haw:=wI ham
       refine R O<|G O<|zX O kO<|zH wZ zQ O<|qD O el55 (by omega) (zAa (show e.Args[(0:Int).toNat]? =some a by rw [ha];rfl))<|zO yP zQ O<|G O<|G O<|zV O O (qQ O ok114 (ihv a ham sv code full (pre) (k) (q) hE hra hca (by omega) (by omega) (by omega) (by omega)) ⟨zB,O,zB,O,zB,O,zB,O,T⟩) ?_
       rintro _ _ ⟨rfl,sv1,cd1,fu1,hE1,rfl⟩
       refine zA<|yS 16 0 [⟨0,.q []⟩,⟨1,.q []⟩,⟨2,.q []⟩,⟨3,.q []⟩,⟨4,.q [0]⟩,⟨5,.q []⟩,⟨6,.q []⟩,⟨7,.q []⟩,⟨8,.q []⟩,⟨9,.q []⟩,⟨10,.q [0,1,2]⟩,⟨11,.q []⟩,⟨12,.q []⟩,⟨13,.q []⟩,⟨14,.q []⟩,⟨15,.q []⟩] mixed (by kernel_rfl) (by kernel_rfl) O O O<|v O<|v O<|v O<|v O<|v O<|v O<|v O<|v O<|v O<|v O<|v O<|v O<|v O<|v O<|v O<|v O<|zAg<|zY O (by decide) O O (zN O O)<|zY O (by decide) O O (zN O O)<|zY O (by decide) O O (qI O O)<|zY O (by decide) O O (zD O fd80_2 O)<|zY O (by decide) O O (zF O one28 O (Y 0 O) O)<|zY O (by decide) O O (zN O O)<|zY O (by decide) O O (qF O kO O)<|zY O (by decide) O O (zF O wZ O zQ O)<|zY O (by decide) O O (qL O el55 O O (by omega) (zAa (show e.Args[(0:Int).toNat]? =some a by rw [ha];rfl)))<|zY O (by decide) O O (qC O yP O zQ O)<|zY O (by decide) O O (yI [0,0,0] O ok119 (cg_kind  hg a hra hca) ⟨zB,O,zB,O,T⟩ O)<|zY O (by decide) O O (qS O ok97 (zHx g.ty (knd g.n.Bufs a) (by have:=hg.tl;omega)) ⟨zB,O,zB,O,T⟩)<|zY O (by decide) O O (zN O O)<|zY O (by decide) O O (zN O O)<|zY O (by decide) O O (qF O zCx O)<|zY O (by decide) O O (qC O yH O zQ O)<|zAe O<|zV O O (qQ O ok116 (cg_op hE1 (13) (vT g.ty (knd g.n.Bufs a)) (k) (k) (0) (e.Ty) _ (fun _=>O)) ⟨zB,O,zB,O,zB,O,zB,O,zB,O,zB,O,zB,O,T⟩) ?_
       rintro _ _ ⟨rfl,sv2,cd2,fu2,hE2,rfl⟩
       refine zA ?_
       repeat (first|refine qV ?_|refine qT ?_)
       refine yF<|U ?_
       exact ⟨O,sv2,cd2,fu2,by rw [val_12 c6 ha,←List.append_assoc];exact hE2,O⟩
      ·try simp only [sx] at c6
       refine R O<|qZ O<|G O<|zA<|zC O (fun c7=>?_) (fun c7=>?_)
       ·try simp only [sx] at c7
        obtain ⟨a,c,d,ha,⟨hra,hca⟩,⟨hrc,hcc⟩,⟨hrd,hcd⟩⟩:=h.args3 c7
        have ham:a∈e.Args:=by rw [ha];simp
        have haw:=wI ham
        have hcm:c∈e.Args:=by rw [ha];simp
        have hcw:=wI hcm
        have hdm:d∈e.Args:=by rw [ha];simp
        have hdw:=wI hdm
        refine R O<|G O<|zX O kO<|zH wZ zQ O<|qD O el55 (by omega) (zAa (show e.Args[(0:Int).toNat]? =some a by rw [ha];rfl))<|zO yP zQ O<|G O<|G O<|zV O O (qQ O ok66 (iht a ham sv code full (pre) (k) (q) hE hra hca (by omega) (by omega) (by omega) (by omega)) ⟨zB,O,zB,O,zB,O,zB,O,T⟩) ?_
        rintro _ _ ⟨rfl,sv1,cd1,fu1,hE1,rfl⟩
        refine zA<|R O<|G O<|qE O<|zG O kB<|G O<|qB O ⟨by omega,by omega⟩<|zV O O (qQ O ok61 (kJ hE1 (1) (q+1) (1) (0) _ (fun _=>O)) ⟨zB,O,zB,O,zB,O,zB,O,zB,O,T⟩) ?_
        rintro _ _ ⟨rfl,sv2,cd2,fu2,hE2,rfl⟩
        refine zA<|R O<|G O<|qE O<|zG O kB<|G O<|G O<|qB O ⟨by omega,by omega⟩<|zV O O (qQ O ok61 (kJ hE2 (8) (0) (q) (q+1) _ (fun _=>O)) ⟨zB,O,zB,O,zB,O,zB,O,zB,O,T⟩) ?_
        rintro _ _ ⟨rfl,sv3,cd3,fu3,hE3,rfl⟩
        refine G O<|zA<|R O<|G O<|zX O kO<|zH wZ zQ O<|qD O el55 (by omega) (zAa (show e.Args[(1:Int).toNat]? =some c by rw [ha];rfl))<|zO yP zQ O<|G O<|G O<|zV O O (qQ O ok114 (ihv c hcm sv3 cd3 fu3 (ifD (cgE g L a) pre k q) (k) (q) hE3 hrc hcc (by omega) (by omega) (by omega) (by omega)) ⟨zB,O,zB,O,zB,O,zB,O,T⟩) ?_
        rintro _ _ ⟨rfl,sv4,cd4,fu4,hE4,rfl⟩
        refine zA<|R O<|G O<|qE O<|zG O kB<|zV O O (qQ O ok61 (kJ hE4 (7) (0) (0) (0) _ (fun _=>O)) ⟨zB,O,zB,O,zB,O,zB,O,zB,O,T⟩) ?_
        rintro _ _ ⟨rfl,sv5,cd5,fu5,hE5,rfl⟩
        refine G O<|zA<|R O<|G O<|qE O<|zG O kB<|G O<|zV O O (qQ O ok67 (cg_land (pre:=ifF (cgE g L a) (cgE g L c) pre k q) hE5 ((ifB (cgE g L a) pre k q).length) (by unfold ifF tP ifD;simp only [List.length_append,List.length_singleton];omega) _ O) ⟨zB,O,zB,O,T⟩) ?_
        rintro _ _ ⟨rfl,sv6,cd6,fu6,hE6,rfl⟩
        refine zA<|R O<|G O<|zX O kO<|zH wZ zQ O<|qD O el55 (by omega) (zAa (show e.Args[(2:Int).toNat]? =some d by rw [ha];rfl))<|zO yP zQ O<|G O<|G O<|zV O O (qQ O ok114 (ihv d hdm sv6 cd6 fu6 (ifG (cgE g L a) (cgE g L c) pre k q) (k) (q) hE6 hrd hcd (by omega) (by omega) (by omega) (by omega)) ⟨zB,O,zB,O,zB,O,zB,O,T⟩) ?_
        rintro _ _ ⟨rfl,sv7,cd7,fu7,hE7,rfl⟩
        refine zA<|zM O<|G O<|qE O<|zG O kB<|G O<|zV O O (qQ O ok67 (cg_land (pre:=ifH (cgE g L a) (cgE g L c) (cgE g L d) pre k q) hE7 ((tP (cgE g L a) (cgE g L c) pre k q).length) (by unfold ifH;rw [List.length_append,ifG_len];unfold ifF;rw [List.length_append,List.length_singleton];omega) _ O) ⟨zB,O,zB,O,T⟩) ?_
        rintro _ _ ⟨rfl,sv8,cd8,fu8,hE8,rfl⟩
        refine zA ?_
        repeat (first|refine qV ?_|refine qT ?_)
        refine yF<|U ?_
        exact ⟨O,sv8,cd8,fu8,by rw [val_11 c7 ha,←ifI_eq];exact hE8,O⟩
       ·try simp only [sx] at c7
        obtain ⟨a,d,ha,⟨hra,hca0⟩,⟨hrd,hcd0⟩⟩:=h.args2 (by omega) (by omega) c7
        have hca:bC a=false:=by rw [hca0];exact decide_eq_false (by omega)
        have hcd:bC d=false:=by rw [hcd0];exact decide_eq_false (by omega)
        have ham:a∈e.Args:=by rw [ha];simp
        have haw:=wI ham
        have hdm:d∈e.Args:=by rw [ha];simp
        have hdw:=wI hdm
        refine R O<|G O<|zX O kO<|zH wZ zQ O<|qD O el55 (by omega) (zAa (show e.Args[(0:Int).toNat]? =some a by rw [ha];rfl))<|zO yP zQ O<|G O<|G O<|zV O O (qQ O ok114 (ihv a ham sv code full (pre) (k) (q) hE hra hca (by omega) (by omega) (by omega) (by omega)) ⟨zB,O,zB,O,zB,O,zB,O,T⟩) ?_
        rintro _ _ ⟨rfl,sv1,cd1,fu1,hE1,rfl⟩
        refine zA<|R O<|G O<|zX O kO<|zH wZ zQ O<|qD O el55 (by omega) (zAa (show e.Args[(1:Int).toNat]? =some d by rw [ha];rfl))<|zO yP zQ O<|G O<|qB O ⟨by omega,by omega⟩<|G O<|zV O O (qQ O ok114 (ihv d hdm sv1 cd1 fu1 (pre++fO g L a pre.length k q) (k+1) (q) hE1 hrd hcd (by omega) (by omega) (by omega) (by omega)) ⟨zB,O,zB,O,zB,O,zB,O,T⟩) ?_
        rintro _ _ ⟨rfl,sv2,cd2,fu2,hE2,rfl⟩
        refine zA<|yS 13 0 [⟨0,.q []⟩,⟨1,.q []⟩,⟨2,.q []⟩,⟨3,.q []⟩,⟨4,.q []⟩,⟨5,.q []⟩,⟨6,.q []⟩,⟨7,.q []⟩,⟨8,.q []⟩,⟨9,.q []⟩,⟨10,.q []⟩,⟨11,.q []⟩,⟨12,.q [0,1,2]⟩] mixed (by kernel_rfl) (by kernel_rfl) O O O<|v O<|v O<|v O<|v O<|v O<|v O<|v O<|v O<|v O<|v O<|v O<|v O<|v O<|zAg<|zY O (by decide) O O (zN O O)<|zY O (by decide) O O (qF O kS O)<|zY O (by decide) O O (zF O one3 O zQ O)<|zY O (by decide) O O (zN O O)<|zY O (by decide) O O (zN O O)<|zY O (by decide) O O (zN O O)<|zY O (by decide) O O (kZ O O O ⟨by omega,by omega⟩)<|zY O (by decide) O O (zN O O)<|zY O (by decide) O O (qF O kO O)<|zY O (by decide) O O (zF O wZ O zQ O)<|zY O (by decide) O O (qL O el55 O O (by omega) (zAa (show e.Args[(0:Int).toNat]? =some a by rw [ha];rfl)))<|zY O (by decide) O O (qC O yP O zQ O)<|zY O (by decide) O O (yI [0,0,0] O ok119 (cg_kind  hg a hra hca) ⟨zB,O,zB,O,T⟩ O)<|zAe O<|zV O O (qQ O ok116 (cg_op hE2 (12) (e.Op) (k) (k) (k+1) (knd g.n.Bufs a) _ (fun _=>O)) ⟨zB,O,zB,O,zB,O,zB,O,zB,O,zB,O,zB,O,T⟩) ?_
        rintro _ _ ⟨rfl,sv3,cd3,fu3,hE3,rfl⟩
        refine zA ?_
        repeat (first|refine qV ?_|refine qT ?_)
        refine yF<|U ?_
        have h9:=hE3
        rw [lenI] at h9
        exact ⟨O,sv3,cd3,fu3,by rw [val_o c2 c3 c4 c5 c6 c7 ha,←List.append_assoc,←List.append_assoc];exact h9,O⟩
set_option maxHeartbeats 4000000 in
theorem cg_test_step {b:Nat} {sv sl:Value} {code:List In} {full:Bool} {g:Gn} {L:List ByteArray} {pre:List In} (hE:Em pre code full) (hL:L.length<=1000000) (hg:g.Ok) (e:Ex) (ihv:∀a,a∈e.Args->VW b sl g L a) (iht:∀a,a∈e.Args->TW b sl g L a) (h:Rdy g L e) (hc:bC e=true) (k q:Int) (hk0:0<=k) (hk1:k+e.wt<=1000000) (hq0:0<=q) (hq1:q+e.wt<=1000000):
    Con cfg 66 [vPt b,vE e,vI k,vI q] (fJ b sv sl code full g L) fun r μ'=>r=.tup []/\∃sv' code' full',Em (pre++lS g L e pre.length k q) code' full'/\μ'=fJ b sv' sl code' full' g L:=by
 refine zU Tryz.func66 O Tryz.ntmps66 Tryz.results66 O ?_
 intro z hz
 have hwt:=e.wt_eq
 have h13:=isC_op.1 hc
 refine R O<|zV O O (qO O O) ?_
 rintro _ _ ⟨b1,rfl,rfl⟩
 refine qX _ (qK 0 O 5 _ PLe.ptr)<|zA<|zI<|R O<|G O<|qE O<|zG O kB<|zG O zSt<|zH one4 (Y 0 O) O<|zA<|zC O (fun c1=>?_) (fun c1=>?_)
 ·try simp only [sx] at c1
  refine zK<|U ?_
  have hfl:full=true:=by simpa using c1
  subst hfl
  exact ⟨O,sv,code,true,hE.skip _,O⟩
 ·try simp only [sx] at c1
  refine zJ<|R O<|zX O kS<|zH one3 zQ O<|zA<|zP<|R O<|qZ O<|G O<|zA<|zC O (fun c2=>?_) (fun c2=>?_)
  ·try simp only [sx] at c2
   obtain ⟨a,ha,hra,hca0⟩:=h.args1 (.inr (.inr c2))
   have hca:bC a=true:=by rw [hca0];exact decide_eq_true c2
   have ham:a∈e.Args:=by rw [ha];simp
   have haw:=wI ham
   refine R O<|G O<|zX O kO<|zH wZ zQ O<|qD O el55 (by omega) (zAa (show e.Args[(0:Int).toNat]? =some a by rw [ha];rfl))<|zO yP zQ O<|G O<|G O<|zV O O (qQ O ok66 (iht a ham sv code full (pre) (k) (q) hE hra hca (by omega) (by omega) (by omega) (by omega)) ⟨zB,O,zB,O,zB,O,zB,O,T⟩) ?_
   rintro _ _ ⟨rfl,sv1,cd1,fu1,hE1,rfl⟩
   refine zA<|R O<|G O<|qE O<|zG O kB<|G O<|G O<|zV O O (qQ O ok61 (kJ hE1 (4) (q) (q) (-1) _ (fun _=>O)) ⟨zB,O,zB,O,zB,O,zB,O,zB,O,T⟩) ?_
   rintro _ _ ⟨rfl,sv2,cd2,fu2,hE2,rfl⟩
   refine zA<|R O<|G O<|qE O<|zG O kB<|G O<|qB O ⟨by omega,by omega⟩<|zV O O (qQ O ok61 (kJ hE2 (1) (q+1) (1) (0) _ (fun _=>O)) ⟨zB,O,zB,O,zB,O,zB,O,zB,O,T⟩) ?_
   rintro _ _ ⟨rfl,sv3,cd3,fu3,hE3,rfl⟩
   refine zA<|zM O<|G O<|qE O<|zG O kB<|G O<|G O<|G O<|qB O ⟨by omega,by omega⟩<|zV O O (qQ O ok61 (kJ hE3 (3) (q) (q) (q+1) _ (fun _=>O)) ⟨zB,O,zB,O,zB,O,zB,O,zB,O,T⟩) ?_
   rintro _ _ ⟨rfl,sv4,cd4,fu4,hE4,rfl⟩
   refine zA ?_
   repeat (first|refine qV ?_|refine qT ?_)
   refine yF<|U ?_
   have h9:=hE4
   simp only [List.append_assoc,List.cons_append,List.nil_append,List.append_nil] at h9
   exact ⟨O,sv4,cd4,fu4,by rw [tst_18 c2 ha];exact h9,O⟩
  ·try simp only [sx] at c2
   refine zI<|R O<|qZ O<|G O<|zA<|zC O (fun c3=>?_) (fun c3=>?_)
   ·have d1:e.Op=16:=of_decide_eq_true c3
    refine zJ<|zC O (fun c4=>?_) (fun c4=>?_)
    ·exact w7
    ·exact absurd (c3.symm.trans c4) (by simp)
   ·have d1:¬e.Op=16:=of_decide_eq_false c3
    refine zM O<|qZ O<|G O<|zA<|zC O (fun c4=>?_) (fun c4=>?_)
    ·exact w7
    ·have d2:¬e.Op=17:=of_decide_eq_false c4
     have d34:¬(e.Op=16∨e.Op=17):=by omega
     obtain ⟨a,d,ha,⟨hra,hca0⟩,⟨hrd,hcd0⟩⟩:=h.args2 (by omega) (by omega) (by omega)
     have hca:bC a=false:=by rw [hca0];exact decide_eq_false d34
     have hcd:bC d=false:=by rw [hcd0];exact decide_eq_false d34
     have ham:a∈e.Args:=by rw [ha];simp
     have haw:=wI ham
     have hdm:d∈e.Args:=by rw [ha];simp
     have hdw:=wI hdm
     refine R O<|G O<|zX O kO<|zH wZ zQ O<|qD O el55 (by omega) (zAa (show e.Args[(0:Int).toNat]? =some a by rw [ha];rfl))<|zO yP zQ O<|G O<|G O<|zV O O (qQ O ok114 (ihv a ham sv code full (pre) (k) (q) hE hra hca (by omega) (by omega) (by omega) (by omega)) ⟨zB,O,zB,O,zB,O,zB,O,T⟩) ?_
     rintro _ _ ⟨rfl,sv1,cd1,fu1,hE1,rfl⟩
     refine zA<|R O<|G O<|zX O kO<|zH wZ zQ O<|qD O el55 (by omega) (zAa (show e.Args[(1:Int).toNat]? =some d by rw [ha];rfl))<|zO yP zQ O<|G O<|qB O ⟨by omega,by omega⟩<|G O<|zV O O (qQ O ok114 (ihv d hdm sv1 cd1 fu1 (pre++fO g L a pre.length k q) (k+1) (q) hE1 hrd hcd (by omega) (by omega) (by omega) (by omega)) ⟨zB,O,zB,O,zB,O,zB,O,T⟩) ?_
     rintro _ _ ⟨rfl,sv2,cd2,fu2,hE2,rfl⟩
     refine zA<|R O<|G O<|qE O<|zG O kB<|G O<|zV O O (qQ O ok61 (kJ hE2 (1) (q) (0) (0) _ (fun _=>O)) ⟨zB,O,zB,O,zB,O,zB,O,zB,O,T⟩) ?_
     rintro _ _ ⟨rfl,sv3,cd3,fu3,hE3,rfl⟩
     refine zA<|zI<|yS 12 0 [⟨0,.q []⟩,⟨1,.q []⟩,⟨2,.q []⟩,⟨3,.q []⟩,⟨4,.q []⟩,⟨5,.q []⟩,⟨6,.q []⟩,⟨7,.q []⟩,⟨8,.q []⟩,⟨9,.q []⟩,⟨10,.q []⟩,⟨11,.q [0,1,2]⟩] mixed (by kernel_rfl) (by kernel_rfl) O O O<|v O<|v O<|v O<|v O<|v O<|v O<|v O<|v O<|v O<|v O<|v O<|v O<|zAg<|zY O (by decide) O O (zN O O)<|zY O (by decide) O O (qF O kS O)<|zY O (by decide) O O (zF O one3 O zQ O)<|zY O (by decide) O O (zN O O)<|zY O (by decide) O O (zN O O)<|zY O (by decide) O O (kZ O O O ⟨by omega,by omega⟩)<|zY O (by decide) O O (zN O O)<|zY O (by decide) O O (qF O kO O)<|zY O (by decide) O O (zF O wZ O zQ O)<|zY O (by decide) O O (qL O el55 O O (by omega) (zAa (show e.Args[(0:Int).toNat]? =some a by rw [ha];rfl)))<|zY O (by decide) O O (qC O yP O zQ O)<|zY O (by decide) O O (yI [0,0,0] O ok119 (cg_kind  hg a hra hca) ⟨zB,O,zB,O,T⟩ O)<|zAe O<|zV O O (qQ O ok116 (cg_op hE3 (14) (e.Op) (0) (k) (k+1) (knd g.n.Bufs a) _ (fun _=>O)) ⟨zB,O,zB,O,zB,O,zB,O,zB,O,zB,O,zB,O,T⟩) ?_
     rintro _ _ ⟨rfl,sv4,cd4,fu4,hE4,rfl⟩
     refine G O<|zA<|R O<|G O<|qE O<|zG O kB<|G O<|zV O O (qQ O ok61 (kJ hE4 (1) (q) (1) (0) _ (fun _=>O)) ⟨zB,O,zB,O,zB,O,zB,O,zB,O,T⟩) ?_
     rintro _ _ ⟨rfl,sv5,cd5,fu5,hE5,rfl⟩
     refine zA<|zM O<|G O<|qE O<|zG O kB<|G O<|zV O O (qQ O ok67 (cg_land (pre:=pre++fO g L a pre.length k q++fO g L d (pre++fO g L a pre.length k q).length (k+1) q++[iN 1 q 0 0]++[iO 14 e.Op 0 k (k+1) (knd g.n.Bufs a)]++[iN 1 q 1 0]) hE5 ((pre++fO g L a pre.length k q++fO g L d (pre++fO g L a pre.length k q).length (k+1) q++[iN 1 q 0 0]).length) (by simp only [List.length_append,List.length_singleton];omega) _ O) ⟨zB,O,zB,O,T⟩) ?_
     rintro _ _ ⟨rfl,sv6,cd6,fu6,hE6,rfl⟩
     refine zA ?_
     repeat (first|refine qV ?_|refine qT ?_)
     refine yF<|U ?_
     have h9:=hE6
     rw [tst_set c2 d34 ha] at h9
     exact ⟨O,sv6,cd6,fu6,h9,O⟩
theorem cg_vt (b:Nat) (sl:Value) (g:Gn) (L:List ByteArray) (hL:L.length<=1000000) (hg:g.Ok) (e:Ex):VW b sl g L e/\TW b sl g L e:=by
  induction e using Ex.ind with
  |_ e ih=>exact ⟨fun sv code full pre k q hE h hc h1 h2 h3 h4=>cg_value_step hE hL hg e (fun a ha=>(ih a ha).1) (fun a ha=>(ih a ha).2) h hc k q h1 h2 h3 h4,
    fun sv code full pre k q hE h hc h1 h2 h3 h4=>cg_test_step hE hL hg e (fun a ha=>(ih a ha).1) (fun a ha=>(ih a ha).2) h hc k q h1 h2 h3 h4⟩
end Go.W
