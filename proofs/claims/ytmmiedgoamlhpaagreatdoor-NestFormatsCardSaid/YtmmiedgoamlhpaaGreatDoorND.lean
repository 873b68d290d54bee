/-
  Walks: what functions of the program compute. Printed by wip/gen/mk2.py.
  Conditions: none.
-/
import Derived.Test.YtmmiedgoamlhpaaGreatDoorNC
import Derived.Test.YtmmiedgoamlhpaaGreatDoorPlain2
set_option linter.unusedSimpArgs false
set_option linter.unusedVariables false
set_option maxRecDepth 10000
namespace Go.W
open Go Go.Eng Go.Proofs Go.L41 Go.Br
attribute [local irreducible] AWP RWP TD finQ
theorem ok77:callOk Tryz.prog 77=true:=by kernel_rfl
theorem zEe (l:List St) (ih:∀s,s∈l->∀(m:Nat) (x:Int),m<=5000->x=m->Pur cfg 77 [vSts s.Body,vI x] (vI (weighB s.Body m))) (m:Nat) (x:Int) (hf:fitS l) (hl:l.length<=140737488355328) (hm:m<=5000) (hx:x=m):
    Pur cfg 77 [vSts l,vI x] (vI (weighB l m)):=by
 refine zS Tryz.func77 O Tryz.ntmps77 Tryz.results77 O ?_
 intro z hz
 have hwB:wB m<=5700000000000000000:=by unfold wB;omega
 refine A O<|G O<|R<|A O<|G O<|zZ O el51<|G O<|R<|zK<|A O<|G O<|R<|zR<|zX ⟨[(6,.c _),(5,.c _),(0,.c _),(1,.c _)],[]⟩ (Weak.mk [] ⟨Y,Y,Y,Y,T⟩ O) ?_
 refine qG 2 0 O O (Nat×Nat) (fun ⟨k,n⟩=>[(6,vI k),(5,vI n)]) (fun ⟨k,n⟩=>[]) (fun ⟨k,n⟩=>k<=l.length/\(n<=wB m)/\(l.length<=n)/\(weighB l m=weighSs (l.drop k) m n)) (fun ⟨k,n⟩=>l.length-k) ⟨⟨0,l.length⟩,⟨by omega,by unfold wB;omega,by omega,O⟩,Weak.mk [] ⟨Y,VLe.of_eq (congrArg vI (by simp)),Y,Y,T⟩ O⟩ ?_
 rintro ⟨k,n⟩ ⟨hk,hn1,hn2,hp⟩
 show AWP _ _ _ _ _ ⟨[(6,vI k),(5,vI n)]++_,[]++_⟩
 refine zK<|A O<|G O<|G O<|zZ O el51<|yJ O<|G O<|rL0 O (fun g3_4=>zP O O) O<|rL0 O (fun g3_4=>zP O O) O<|rLz [(14,_),(15,_)] O gv1 ⟨O,O,O,O,T⟩ (fun g3_4=>zAa O O O) O<|yZ O (fun h=>h)<|R<|zC O (fun c1=>?_) (fun c1=>?_)
 ·try simp only [sx] at c1
  obtain ⟨s,hs⟩:=qY l k (by omega)
  have hsf:=zPq hf s (zY hs)
  obtain ⟨f1,f2,f3,f4,f5⟩:=St.fit_eq hsf
  have hwl:=weigh_lt (n:=n) hs hf hm (by omega) (by omega)
  refine zI<|zK<|zR<|qU 30 mixed (by kernel_rfl) O O<|J O O (zP O O)<|J O O (zP O O)<|J O O (zP O O)<|J O O (qO O el51 O O (by omega) (zDc hs))<|J O O (qW O zAv O)<|J O O (zV O qX O qA O)<|J O O (zP O O)<|J O O (qC O ok127 (base_Weigh s.E m x f3 (by omega) hx) ⟨Y,O,Y,O,T⟩)<|J O O (zCv O O O ⟨by omega,by omega⟩)<|J O O (zP O O)<|J O O (zP O O)<|J O O (qO O el51 O O (by omega) (zDc hs))<|J O O (qW O zDl O)<|J O O (zJ O kF O qA O)<|J O O (wG [none,none,none,none,none,none,none,none,none,none,some 2,none,some 13] O zDx zRn O O)<|J O O (zP O O)<|J O O (qC O ok127 (base_Weigh (idxE s.Idx) m x (idxE_fit f1 f2) (by omega) hx) ⟨Y,O,Y,O,T⟩)<|J O O (zCv O O O ⟨by omega,by omega⟩)<|J O O (zP O O)<|J O O (zP O O)<|J O O (qO O el51 O O (by omega) (zDc hs))<|J O O (qW O zAu O)<|J O O (zJ O zCg O qA O)<|J O O (zP O O)<|J O O (zP O O)<|J O O (yD O O O ⟨by omega,by omega⟩)<|J O O (zLb O O O)<|J O O (qC O ok77 (ih s (zY hs) (m-n) _ (by omega) (by omega)) ⟨Y,O,Y,O,T⟩)<|J O O (zCv O O O ⟨by omega,by omega⟩)<|J O O (qV O O)<|yO<|R<|zN O<|G O<|qI O ⟨by omega,by omega⟩<|G O<|R ?_
  refine ⟨⟨k+1,n+weighE s.E m+weighE (idxE s.Idx) m+weighB s.Body (m-n)⟩,⟨by omega,hwl,by omega,weighSs_next hs hp (by omega)⟩,(by show l.length-(k+1)<l.length-k;omega),Weak.mk [] ⟨Y,VLe.of_eq (congrArg vI (by omega)),Y,Y,T⟩ O⟩
 ·try simp only [sx] at c1
  refine qP<|A O<|G O<|G O<|R<|zF<|zQ O ?_
  exact congrArg vI (by rw [←weighSs_end hp hx (by omega)])
theorem zJy (s:St):∀(m:Nat) (x:Int),s.fit->m<=5000->x=m->Pur cfg 77 [vSts s.Body,vI x] (vI (weighB s.Body m)):=by
  induction s using St.ind with
  |_ s ih=>
    intro m x hf hm hx
    obtain ⟨_,_,_,f4,f5⟩:=St.fit_eq hf
    exact zEe s.Body (fun a ha m x h1 h2=>ih a ha m x (zPq f5 a ha) h1 h2) m x f5 f4 hm hx
theorem zTm (l:List St) (m:Nat) (x:Int) (hf:fitS l) (hl:l.length<=140737488355328) (hm:m<=5000) (hx:x=m):Pur cfg 77 [vSts l,vI x] (vI (weighB l m)):=
  zEe l (fun a ha m x h1 h2=>zJy a m x (zPq hf a ha) h1 h2) m x hf hl hm hx
end Go.W
