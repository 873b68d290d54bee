/-
  Walks: what functions of the program compute. Printed by wip/gen/mk2.py.
  Conditions: none.
-/
import Derived.Test.YtlfjpejkoccibaaGreatDoorNC
import Derived.Test.YtlfjpejkoccibaaGreatDoorPlain2
set_option linter.unusedSimpArgs false
set_option linter.unusedVariables false
set_option maxRecDepth 10000
namespace Go.W
open Go Go.Eng Go.Proofs Go.L41 Go.Br
attribute [local irreducible] AWP RWP TD finQ
theorem ok30:callOk Tryz.prog 30=true:=by kernel_rfl
theorem zDu (l:List St) (ih:∀s,s∈l->∀(m:Nat) (x:Int),m<=5000->x=m->Pur cfg 30 [vSts s.Body,vI x] (vI (weighB s.Body m))) (m:Nat) (x:Int) (hf:fitS l) (hl:l.length<=140737488355328) (hm:m<=5000) (hx:x=m):
    Pur cfg 30 [vSts l,vI x] (vI (weighB l m)):=by
 refine zR Tryz.func30 O Tryz.ntmps30 Tryz.results30 O ?_
 intro z hz
 have hwB:wB m<=5700000000000000000:=by unfold wB;omega
 refine G O<|F O<|I<|G O<|F O<|qB O K<|F O<|I<|zJ<|G O<|F O<|I<|zQ<|zW ⟨[(6,.c _),(5,.c _),(0,.c _),(1,.c _)],[]⟩ (Weak.mk [] ⟨H,H,H,H,T⟩ O) ?_
 refine qK 2 0 O O (Nat×Nat) (fun ⟨k,n⟩=>[(6,vI k),(5,vI n)]) (fun ⟨k,n⟩=>[]) (fun ⟨k,n⟩=>k<=l.length/\(n<=wB m)/\(l.length<=n)/\(weighB l m=weighSs (l.drop k) m n)) (fun ⟨k,n⟩=>l.length-k) ⟨⟨0,l.length⟩,⟨by omega,by unfold wB;omega,by omega,O⟩,Weak.mk [] ⟨H,VLe.of_eq (congrArg vI (by simp)),H,H,T⟩ O⟩ ?_
 rintro ⟨k,n⟩ ⟨hk,hn1,hn2,hp⟩
 show AWP _ _ _ _ _ ⟨[(6,vI k),(5,vI n)]++_,[]++_⟩
 refine zJ<|G O<|F O<|F O<|qB O K<|yH O<|F O<|rL0 O (fun g3_4=>zN O O) O<|rL0 O (fun g3_4=>zN O O) O<|rLz [(14,_),(15,_)] O gv1 ⟨O,O,O,O,T⟩ (fun g3_4=>wQ O O O) O<|yQ O (fun h=>h)<|I<|zF O (fun c1=>?_) (fun c1=>?_)
 ·try simp only [R] at c1
  obtain ⟨s,hs⟩:=qW l k (by omega)
  have hsf:=zPw hf s (zZ hs)
  obtain ⟨f1,f2,f3,f4,f5⟩:=St.fit_eq hsf
  have hwl:=weigh_lt (n:=n) hs hf hm (by omega) (by omega)
  refine zI<|zJ<|zQ<|qX 30 mixed (by kernel_rfl) O O<|M O O (zN O O)<|M O O (zN O O)<|M O O (zN O O)<|M O O (qD O K O O (by omega) (wJ hs))<|M O O (qI O zAp O)<|M O O (zY O yX O qA O)<|M O O (zN O O)<|M O O (qL O ok77 (base_Weigh s.E m x f3 (by omega) hx) ⟨H,O,H,O,T⟩)<|M O O (zDf O O O ⟨by omega,by omega⟩)<|M O O (zN O O)<|M O O (zN O O)<|M O O (qD O K O O (by omega) (wJ hs))<|M O O (qI O zDt O)<|M O O (Q O wR O qA O)<|M O O (zEb [none,none,none,none,none,none,none,none,none,none,some 2,none,some 13] O zr44 pl44 O O)<|M O O (zN O O)<|M O O (qL O ok77 (base_Weigh (idxE s.Idx) m x (idxE_fit f1 f2) (by omega) hx) ⟨H,O,H,O,T⟩)<|M O O (zDf O O O ⟨by omega,by omega⟩)<|M O O (zN O O)<|M O O (zN O O)<|M O O (qD O K O O (by omega) (wJ hs))<|M O O (qI O kP O)<|M O O (Q O kT O qA O)<|M O O (zN O O)<|M O O (zN O O)<|M O O (qZ O O O ⟨by omega,by omega⟩)<|M O O (zNu O O O)<|M O O (qL O ok30 (ih s (zZ hs) (m-n) _ (by omega) (by omega)) ⟨H,O,H,O,T⟩)<|M O O (zDf O O O ⟨by omega,by omega⟩)<|M O O (qY O O)<|kB<|I<|zS O<|F O<|qH O ⟨by omega,by omega⟩<|F O<|I ?_
  refine ⟨⟨k+1,n+weighE s.E m+weighE (idxE s.Idx) m+weighB s.Body (m-n)⟩,⟨by omega,hwl,by omega,weighSs_next hs hp (by omega)⟩,(by show l.length-(k+1)<l.length-k;omega),Weak.mk [] ⟨H,VLe.of_eq (congrArg vI (by omega)),H,H,T⟩ O⟩
 ·try simp only [R] at c1
  refine qN<|G O<|F O<|F O<|I<|o<|X O ?_
  exact congrArg vI (by rw [←weighSs_end hp hx (by omega)])
theorem zJq (s:St):∀(m:Nat) (x:Int),s.fit->m<=5000->x=m->Pur cfg 30 [vSts s.Body,vI x] (vI (weighB s.Body m)):=by
  induction s using St.ind with
  |_ s ih=>
    intro m x hf hm hx
    obtain ⟨_,_,_,f4,f5⟩:=St.fit_eq hf
    exact zDu s.Body (fun a ha m x h1 h2=>ih a ha m x (zPw f5 a ha) h1 h2) m x f5 f4 hm hx
theorem zTn (l:List St) (m:Nat) (x:Int) (hf:fitS l) (hl:l.length<=140737488355328) (hm:m<=5000) (hx:x=m):Pur cfg 30 [vSts l,vI x] (vI (weighB l m)):=
  zDu l (fun a ha m x h1 h2=>zJq a m x (zPw hf a ha) h1 h2) m x hf hl hm hx
end Go.W
