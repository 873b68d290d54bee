/-
  What functions compute.
  Conditions: none.
-/
import Derived.Test.YtlfjpejkoccibaaGreatDoorNC
import Derived.Test.YtlfjpejkoccibaaGreatDoorPlain2
set_option linter.unusedSimpArgs false
set_option linter.unusedVariables false
set_option maxRecDepth 10000
namespace Go.W
open Go Go.Eng Go.Proofs Go.L41 Go.Br
attribute [local irreducible] AWP RWP TD fH
theorem ok30:bA Tryz.prog 30=true:=by kernel_rfl
theorem zEy (l:List St) (ih:∀s,s∈l->∀(m:Nat) (x:Int),m<=5000->x=m->Pur cfg 30 [bM s.Body,vI x] (vI (jK s.Body m))) (m:Nat) (x:Int) (hf:nP l) (hl:l.length<=140737488355328) (hm:m<=5000) (hx:x=m):
    Pur cfg 30 [bM l,vI x] (vI (jK l m)):=by
 refine zT Tryz.func30 O Tryz.ntmps30 Tryz.results30 O ?_
 intro z hz
 have hwB:wB m<=5700000000000000000:=by unfold wB;omega
 refine F O<|A O<|H<|F O<|A O<|qC O D<|A O<|H<|zK<|F O<|A O<|H<|zR<|zY ⟨[(6,.c _),(5,.c _),(0,.c _),(1,.c _)],[]⟩ (Weak.mk [] ⟨G,G,G,G,T⟩ O) ?_
 refine qK 2 0 O O (Nat×Nat) (fun ⟨k,n⟩=>[(6,vI k),(5,vI n)]) (fun ⟨k,n⟩=>[]) (fun ⟨k,n⟩=>k<=l.length/\(n<=wB m)/\(l.length<=n)/\(jK l m=fK (l.drop k) m n)) (fun ⟨k,n⟩=>l.length-k) ⟨⟨0,l.length⟩,⟨by omega,by unfold wB;omega,by omega,O⟩,Weak.mk [] ⟨G,VLe.of_eq (congrArg vI (by simp)),G,G,T⟩ O⟩ ?_
 rintro ⟨k,n⟩ ⟨hk,hn1,hn2,hp⟩
 show AWP _ _ _ _ _ ⟨[(6,vI k),(5,vI n)]++_,[]++_⟩
 refine zK<|F O<|A O<|A O<|qC O D<|yD O<|A O<|rL0 O (fun g3_4=>zN O O) O<|rL0 O (fun g3_4=>zN O O) O<|rLz [(14,_),(15,_)] O gv1 ⟨O,O,O,O,T⟩ (fun g3_4=>wY O O O) O<|yQ O (fun h=>h)<|H<|zD O (fun c1=>?_) (fun c1=>?_)
 ·try simp only [I] at c1
  obtain ⟨s,hs⟩:=qY l k (by omega)
  have hsf:=zSp hf s (zZ hs)
  obtain ⟨f1,f2,f3,f4,f5⟩:=St.fit_eq hsf
  have hwl:=weigh_lt (n:=n) hs hf hm (by omega) (by omega)
  refine zM<|zK<|zR<|qZ 30 mixed (by kernel_rfl) O O<|M O O (zN O O)<|M O O (zN O O)<|M O O (zN O O)<|M O O (qF O D O O (by omega) (wD hs))<|M O O (qL O zAz O)<|M O O (qB O kA O qA O)<|M O O (zN O O)<|M O O (qM O ok77 (base_Weigh s.E m x f3 (by omega) hx) ⟨G,O,G,O,T⟩)<|M O O (zEb O O O ⟨by omega,by omega⟩)<|M O O (zN O O)<|M O O (zN O O)<|M O O (qF O D O O (by omega) (wD hs))<|M O O (qL O zDo O)<|M O O (zF O wO O qA O)<|M O O (zFh [none,none,none,none,none,none,none,none,none,none,some 2,none,some 13] O zr44 pl44 O O)<|M O O (zN O O)<|M O O (qM O ok77 (base_Weigh (pD s.Idx) m x (idxE_fit f1 f2) (by omega) hx) ⟨G,O,G,O,T⟩)<|M O O (zEb O O O ⟨by omega,by omega⟩)<|M O O (zN O O)<|M O O (zN O O)<|M O O (qF O D O O (by omega) (wD hs))<|M O O (qL O kK O)<|M O O (zF O kP O qA O)<|M O O (zN O O)<|M O O (zN O O)<|M O O (yE O O O ⟨by omega,by omega⟩)<|M O O (zQp O O O)<|M O O (qM O ok30 (ih s (zZ hs) (m-n) _ (by omega) (by omega)) ⟨G,O,G,O,T⟩)<|M O O (zEb O O O ⟨by omega,by omega⟩)<|M O O (yA O O)<|kE<|H<|zQ O<|A O<|qJ O ⟨by omega,by omega⟩<|A O<|H ?_
  refine ⟨⟨k+1,n+fU s.E m+fU (pD s.Idx) m+jK s.Body (m-n)⟩,⟨by omega,hwl,by omega,weighSs_next hs hp (by omega)⟩,(by show l.length-(k+1)<l.length-k;omega),Weak.mk [] ⟨G,VLe.of_eq (congrArg vI (by omega)),G,G,T⟩ O⟩
 ·try simp only [I] at c1
  refine qQ<|F O<|A O<|A O<|H<|o<|X O ?_
  exact congrArg vI (by rw [←weighSs_end hp hx (by omega)])
theorem zLy (s:St):∀(m:Nat) (x:Int),s.fit->m<=5000->x=m->Pur cfg 30 [bM s.Body,vI x] (vI (jK s.Body m)):=by
  induction s using St.ind with
  |_ s ih=>
    intro m x hf hm hx
    obtain ⟨_,_,_,f4,f5⟩:=St.fit_eq hf
    exact zEy s.Body (fun a ha m x h1 h2=>ih a ha m x (zSp f5 a ha) h1 h2) m x f5 f4 hm hx
theorem zWz (l:List St) (m:Nat) (x:Int) (hf:nP l) (hl:l.length<=140737488355328) (hm:m<=5000) (hx:x=m):Pur cfg 30 [bM l,vI x] (vI (jK l m)):=
  zEy l (fun a ha m x h1 h2=>zLy a m x (zSp hf a ha) h1 h2) m x hf hl hm hx
end Go.W
