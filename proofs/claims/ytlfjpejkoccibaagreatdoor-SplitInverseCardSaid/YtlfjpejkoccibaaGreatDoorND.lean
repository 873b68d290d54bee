/-
  Walks: what functions of the program compute. Printed by wip/gen/mk2.py.
  Conditions: none.
-/
import Derived.Test.YtlfjpejkoccibaaGreatDoorNC
import Derived.Test.YtlfjpejkoccibaaGreatDoorPlain2
set_option linter.unusedSimpArgs false
set_option linter.unusedVariables false
set_option maxRecDepth 10000
namespace Go.W
open Go Go.Eng Go.Proofs Go.L41 Go.Br
attribute [local irreducible] AWP RWP TD finQ
theorem ok30:callOk Tryz.prog 30=true:=by kernel_rfl
theorem zDi (l:List St) (ih:∀s,s∈l->∀(m:Nat) (x:Int),m<=5000->x=m->Pur cfg 30 [vSts s.Body,vI x] (vI (weighB s.Body m))) (m:Nat) (x:Int) (hf:fitS l) (hl:l.length<=140737488355328) (hm:m<=5000) (hx:x=m):
    Pur cfg 30 [vSts l,vI x] (vI (weighB l m)):=by
 refine zQ Tryz.func30 O Tryz.ntmps30 Tryz.results30 O ?_
 intro z hz
 have hwB:wB m<=5700000000000000000:=by unfold wB;omega
 refine F O<|A O<|H<|F O<|A O<|qB O K<|A O<|H<|zI<|F O<|A O<|H<|zS<|zV ⟨[(6,.c _),(5,.c _),(0,.c _),(1,.c _)],[]⟩ (Weak.mk [] ⟨G,G,G,G,T⟩ O) ?_
 refine qO 2 0 O O (Nat×Nat) (fun ⟨k,n⟩=>[(6,vI k),(5,vI n)]) (fun ⟨k,n⟩=>[]) (fun ⟨k,n⟩=>k<=l.length/\(n<=wB m)/\(l.length<=n)/\(weighB l m=weighSs (l.drop k) m n)) (fun ⟨k,n⟩=>l.length-k) ⟨⟨0,l.length⟩,⟨by omega,by unfold wB;omega,by omega,O⟩,Weak.mk [] ⟨G,VLe.of_eq (congrArg vI (by simp)),G,G,T⟩ O⟩ ?_
 rintro ⟨k,n⟩ ⟨hk,hn1,hn2,hp⟩
 show AWP _ _ _ _ _ ⟨[(6,vI k),(5,vI n)]++_,[]++_⟩
 refine zI<|F O<|A O<|A O<|qB O K<|yN O<|A O<|M O (fun g3_4=>w O O) O<|M O (fun g3_4=>w O O) O<|rLz [(14,_),(15,_)] O gv1 ⟨O,O,O,O,T⟩ (fun g3_4=>wV O O O) O<|kD O (fun h=>h)<|H<|zD O (fun c1=>?_) (fun c1=>?_)
 ·try simp only [I] at c1
  obtain ⟨s,hs⟩:=qZ l k (by omega)
  have hsf:=zOb hf s (zZ hs)
  obtain ⟨f1,f2,f3,f4,f5⟩:=St.fit_eq hsf
  have hwl:=weigh_lt (n:=n) hs hf hm (by omega) (by omega)
  refine zH<|zI<|zS<|qY 30 mixed (by kernel_rfl) O O<|Y O O (w O O)<|Y O O (w O O)<|Y O O (w O O)<|Y O O (qE O K O O (by omega) (kZ hs))<|Y O O (qJ O zCf O)<|Y O O (zX O kL O qA O)<|Y O O (w O O)<|Y O O (qI O ok77 (base_Weigh s.E m x f3 (by omega) hx) ⟨G,O,G,O,T⟩)<|Y O O (zCt O O O ⟨by omega,by omega⟩)<|Y O O (w O O)<|Y O O (w O O)<|Y O O (qE O K O O (by omega) (kZ hs))<|Y O O (qJ O zEc O)<|Y O O (Q O zBn O qA O)<|Y O O (zEy [none,none,none,none,none,none,none,none,none,none,some 2,none,some 13] O zr44 pl44 O O)<|Y O O (w O O)<|Y O O (qI O ok77 (base_Weigh (idxE s.Idx) m x (idxE_fit f1 f2) (by omega) hx) ⟨G,O,G,O,T⟩)<|Y O O (zCt O O O ⟨by omega,by omega⟩)<|Y O O (w O O)<|Y O O (w O O)<|Y O O (qE O K O O (by omega) (kZ hs))<|Y O O (qJ O kN O)<|Y O O (Q O kM O qA O)<|Y O O (w O O)<|Y O O (w O O)<|Y O O (yB O O O ⟨by omega,by omega⟩)<|Y O O (det_max O O O)<|Y O O (qI O ok30 (ih s (zZ hs) (m-n) _ (by omega) (by omega)) ⟨G,O,G,O,T⟩)<|Y O O (zCt O O O ⟨by omega,by omega⟩)<|Y O O (yC O O)<|kH<|H<|zT O<|A O<|qK O ⟨by omega,by omega⟩<|A O<|H ?_
  refine ⟨⟨k+1,n+weighE s.E m+weighE (idxE s.Idx) m+weighB s.Body (m-n)⟩,⟨by omega,hwl,by omega,weighSs_next hs hp (by omega)⟩,(by show l.length-(k+1)<l.length-k;omega),Weak.mk [] ⟨G,VLe.of_eq (congrArg vI (by omega)),G,G,T⟩ O⟩
 ·try simp only [I] at c1
  refine qQ<|F O<|A O<|A O<|H<|o<|X O ?_
  exact congrArg vI (by rw [←weighSs_end hp hx (by omega)])
theorem zIi (s:St):∀(m:Nat) (x:Int),s.fit->m<=5000->x=m->Pur cfg 30 [vSts s.Body,vI x] (vI (weighB s.Body m)):=by
  induction s using St.ind with
  |_ s ih=>
    intro m x hf hm hx
    obtain ⟨_,_,_,f4,f5⟩:=St.fit_eq hf
    exact zDi s.Body (fun a ha m x h1 h2=>ih a ha m x (zOb f5 a ha) h1 h2) m x f5 f4 hm hx
theorem zRi (l:List St) (m:Nat) (x:Int) (hf:fitS l) (hl:l.length<=140737488355328) (hm:m<=5000) (hx:x=m):Pur cfg 30 [vSts l,vI x] (vI (weighB l m)):=
  zDi l (fun a ha m x h1 h2=>zIi a m x (zOb hf a ha) h1 h2) m x hf hl hm hx
end Go.W
