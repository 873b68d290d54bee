/-
  Walks: what functions of the program compute. Printed by wip/gen/mk2.py.
  Conditions: none.
-/
import Derived.Test.YtdldhbfgfkebjaaGreatDoorNC
import Derived.Test.YtdldhbfgfkebjaaGreatDoorPlain2
set_option linter.unusedSimpArgs false
set_option linter.unusedVariables false
set_option maxRecDepth 10000
namespace Go.W
open Go Go.Eng Go.Proofs Go.L41 Go.Br
attribute [local irreducible] AWP RWP TD finQ
theorem cells_one (s:St):vSts [s]=.c (.sl 20 [s.cs]):=by simp [St.cells_eq]
theorem agg82:aggT Tryz.prog 82=some 4:=by kernel_rfl
theorem el62:elemT Tryz.prog 62=some (82,4,40):=by kernel_rfl
theorem fd82_0:fieldT Tryz.prog 82 0=some (0,9):=by kernel_rfl
theorem fd82_1:fieldT Tryz.prog 82 1=some (1,3):=by kernel_rfl
theorem fd82_2:fieldT Tryz.prog 82 2=some (2,3):=by kernel_rfl
theorem zOc:fieldT Tryz.prog 82 3=some (3,3):=by kernel_rfl
theorem ok20:callOk Tryz.prog 20=true:=by kernel_rfl
theorem sm149:smapT Tryz.prog 149=some (Value.bool false):=by kernel_rfl
theorem sz82:(Tryz.prog.info? 82).map (·.size)=some 4:=by kernel_rfl
theorem zr82:zeroT Tryz.prog 82=some [(Value.string (ByteArray.mk #[])),(Value.int IntKind.i64 0),(Value.int IntKind.i64 0),(Value.int IntKind.i64 0)]:=by kernel_rfl
theorem zLs (a b:Lifetime):
    Pur cfg 44 [vL a,vL b] (vB (Overlap a b)):=by
 refine zW Tryz.func44 O Tryz.ntmps44 Tryz.results44 O ?_
 intro z hz
 refine R O<|zU O O (qT O O) ?_
 rintro _ _ ⟨b1,rfl,rfl⟩
 refine zU O O (qT O O) ?_
 rintro _ _ ⟨b2,rfl,rfl⟩
 refine G O<|zA<|R O<|zN O fd82_1<|zL one3 (A 1 O) O<|zN O fd82_2<|zL one3 (A 0 O) O<|v O (wI O O O)<|G O<|rL0 O (fun g1_5=>zJ O fd82_1 O) O<|B 11 O (fun g1_5=>zD O one3 O (A 0 O) O) O<|rL0 O (fun g1_5=>zJ O fd82_2 O) O<|B 13 O (fun g1_5=>zD O one3 O (A 1 O) O) O<|rLz [(12,_),(14,_)] O gv1 ⟨O,O,O,O,T⟩ (fun g1_5=>wI O O O) O<|kE O (fun h=>h)<|G O<|zA<|zM<|zX O ?_
 exact O
theorem zKi (l:List Lifetime) (hl:l.length<=1000000):
    Pur cfg 43 [vLs l] (vI (validateL l)):=by
 refine zW Tryz.func43 O Tryz.ntmps43 Tryz.results43 O ?_
 intro z hz
 refine R O<|G O<|zA<|R O<|zU O O (ope_mkmap vB O O) ?_
 rintro _ _ ⟨b1,rfl,rfl⟩
 refine G O<|zA<|zF<|R O<|G O<|qH O el62<|G O<|zA<|zQ<|zS ⟨[(9,.c _),(3,.c _),(7,.c _),(8,.c _)],[_]⟩ (Weak.mk [true] ⟨zB,zB,zB,zB,T⟩ O)<|qJ 1 1 O O (Nat) (fun k=>[(9,vI k)]) (fun k=>[E.blk b1 (MapR vB (seenM (l.take k)))]) (fun k=>k<=l.length/\(validateL l=validFrom (l.take k) (l.drop k))) (fun k=>l.length-k) ⟨0,⟨by omega,O⟩,Weak.mk [true] ⟨zB,zB,zB,zB,T⟩ O⟩ ?_
 rintro k ⟨hk,hv⟩
 refine R O<|yE O<|zA<|zF<|zC O (fun c1=>?_) (fun c1=>?_)
 ·try simp only [sx] at c1
  obtain ⟨x,hx⟩:=qX l k (by omega)
  refine zH<|zF<|zQ<|R O<|qI O el62 (by omega) (getm (by assumption))<|zP agg82 Y O<|zU O O (yX O zr82) ?_
  rintro _ _ ⟨b2,rfl,rfl⟩
  refine D 0 sz82 O<|zA<|zF<|zQ<|R O<|zN O fd82_0<|zL one9 (A 0 O) O<|qW O ok96 (zCi _) ⟨zB,O,T⟩<|wK O<|G O<|zA<|zC O (fun c2=>?_) (fun c2=>?_)
  ·try simp only [sx] at c2
   refine R O<|G O<|zA<|zM<|zX O ?_
   rw [zMv hv hx (check_name c2) (by decide)]
  ·try simp only [sx] at c2
   refine R O<|G O<|zN O fd82_0<|zL one9 (A 0 O) O<|v O (det_lookup 1 false O sm149 O O O (fun _ _=>CRep.lit _ O))<|G O<|zA<|zC O (fun c3=>?_) (fun c3=>?_)
   ·try simp only [sx] at c3
    rw [seen_get] at c3
    refine R O<|G O<|zA<|zM<|zX O ?_
    rw [zMv hv hx (check_dup c2 c3) (by decide)]
   ·try simp only [sx] at c3
    rw [seen_get] at c3
    refine R O<|zN O fd82_1<|zL one3 (A 0 O) O<|yE O<|G O<|rL0 O (fun g9_3=>zJ O fd82_2 O) O<|B 28 O (fun g9_3=>zD O one3 O (A 0 O) O) O<|rL0 O (fun g9_3=>zJ O fd82_1 O) O<|B 30 O (fun g9_3=>zD O one3 O (A 0 O) O) O<|rLz [(29,_),(31,_)] O gv1 ⟨O,O,O,O,T⟩ (fun g9_3=>yR O O O) O<|v O (kK O O O O (fun h=>(lzf h)))<|G O<|rL0 O (fun g9_10=>zJ O zOc O) O<|B 35 O (fun g9_10=>zD O one3 O (A 0 O) O) O<|B 36 O (fun g9_10=>yR O O O) O<|v O (kK O O O O (fun h=>(lzf h)))<|G O<|rL0 O (fun g9_15=>zJ O zOc O) O<|B 40 O (fun g9_15=>zD O one3 O (A 0 O) O) O<|B 41 O (fun g9_15=>kA O O O) O<|v O (kK O O O O (fun h=>(lzf h)))<|G O<|zA<|zC O (fun c4=>?_) (fun c4=>?_)
    ·try simp only [sx] at c4
     refine R O<|G O<|zA<|zM<|zX O ?_
     rw [zMv hv hx (check_arg c2 c3 (by omega)) (by decide)]
    ·try simp only [sx] at c4
     refine zH<|zI O<|G O<|zN O fd82_0<|zL one9 (A 0 O) O<|zAd O O (zKq 1 true O sm149 O O O (zB) O)<|zA<|zI O<|qD O ⟨by omega,by omega⟩<|G O<|zA ?_
     refine ⟨k+1,⟨by omega,valid_ok hv hx (check_ok c2 c3 (by omega))⟩,(by omega),Weak.mk [false,true] ⟨zB,zB,zB,zB,T⟩ (by rw [seen_next hx];rfl)⟩
 ·try simp only [sx] at c1
  refine qL<|R O<|G O<|zA<|zM<|zX O ?_
  rw [valid_end hv (by omega)]
theorem zCn (l:List St) (ih:∀s,s∈l->∀(m:Nat) (x:Int),m<=5000->x=m->Pur cfg 20 [vSts s.Body,vI x] (vI (weighB s.Body m))) (m:Nat) (x:Int) (hf:fitS l) (hl:l.length<=140737488355328) (hm:m<=5000) (hx:x=m):
    Pur cfg 20 [vSts l,vI x] (vI (weighB l m)):=by
 refine zW Tryz.func20 O Tryz.ntmps20 Tryz.results20 O ?_
 intro z hz
 have hwB:wB m<=5700000000000000000:=by unfold wB;omega
 refine R O<|G O<|zA<|R O<|G O<|qH O el23<|G O<|zA<|zF<|R O<|G O<|zA<|zQ<|zS ⟨[(6,.c _),(5,.c _),(0,.c _),(1,.c _)],[]⟩ (Weak.mk [] ⟨zB,zB,zB,zB,T⟩ O) ?_
 refine qJ 2 0 O O (Nat×Nat) (fun ⟨k,n⟩=>[(6,vI k),(5,vI n)]) (fun ⟨k,n⟩=>[]) (fun ⟨k,n⟩=>k<=l.length/\(n<=wB m)/\(l.length<=n)/\(weighB l m=weighSs (l.drop k) m n)) (fun ⟨k,n⟩=>l.length-k) ⟨⟨0,l.length⟩,⟨by omega,by unfold wB;omega,by omega,O⟩,Weak.mk [] ⟨zB,VLe.of_eq (congrArg vI (by simp)),zB,zB,T⟩ O⟩ ?_
 rintro ⟨k,n⟩ ⟨hk,hn1,hn2,hp⟩
 show AWP _ _ _ _ _ ⟨[(6,vI k),(5,vI n)]++_,[]++_⟩
 refine zF<|R O<|G O<|G O<|qH O el23<|yE O<|G O<|rL0 O (fun g3_4=>zG O O) O<|rL0 O (fun g3_4=>zG O O) O<|rLz [(14,_),(15,_)] O gv1 ⟨O,O,O,O,T⟩ (fun g3_4=>wI O O O) O<|kE O (fun h=>h)<|zA<|zC O (fun c1=>?_) (fun c1=>?_)
 ·try simp only [sx] at c1
  obtain ⟨s,hs⟩:=qX l k (by omega)
  have hsf:=zMk hf s (qB hs)
  obtain ⟨f1,f2,f3,f4,f5⟩:=St.fit_eq hsf
  have hwl:=weigh_lt (n:=n) hs hf hm (by omega) (by omega)
  refine zH<|zF<|zQ<|qU 30 mixed (by kernel_rfl) O O<|zE O O (zG O O)<|zE O O (zG O O)<|zE O O (zG O O)<|zE O O (yA O el23 O O (by omega) (zLv hs))<|zE O O (qA O zEy O)<|zE O O (qG O kC O Y O)<|zE O O (zG O O)<|zE O O (qY O ok46 (base_Weigh s.E m x f3 (by omega) hx) ⟨zB,O,zB,O,T⟩)<|zE O O (kB O O O ⟨by omega,by omega⟩)<|zE O O (zG O O)<|zE O O (zG O O)<|zE O O (yA O el23 O O (by omega) (zLv hs))<|zE O O (qA O zOf O)<|zE O O (zD O zCa O Y O)<|zE O O (wS [none,none,none,none,none,none,none,none,none,none,some 2,none,some 13] O zr57 pl57 O O)<|zE O O (zG O O)<|zE O O (qY O ok46 (base_Weigh (idxE s.Idx) m x (idxE_fit f1 f2) (by omega) hx) ⟨zB,O,zB,O,T⟩)<|zE O O (kB O O O ⟨by omega,by omega⟩)<|zE O O (zG O O)<|zE O O (zG O O)<|zE O O (yA O el23 O O (by omega) (zLv hs))<|zE O O (qA O zDx O)<|zE O O (zD O zDa O Y O)<|zE O O (zG O O)<|zE O O (zG O O)<|zE O O (yH O O O ⟨by omega,by omega⟩)<|zE O O (zOr O O O)<|zE O O (qY O ok20 (ih s (qB hs) (m-n) _ (by omega) (by omega)) ⟨zB,O,zB,O,T⟩)<|zE O O (kB O O O ⟨by omega,by omega⟩)<|zE O O (kG O O)<|yM<|zA<|zI O<|G O<|qD O ⟨by omega,by omega⟩<|G O<|zA ?_
  refine ⟨⟨k+1,n+weighE s.E m+weighE (idxE s.Idx) m+weighB s.Body (m-n)⟩,⟨by omega,hwl,by omega,weighSs_next hs hp (by omega)⟩,(by show l.length-(k+1)<l.length-k;omega),Weak.mk [] ⟨zB,VLe.of_eq (congrArg vI (by omega)),zB,zB,T⟩ O⟩
 ·try simp only [sx] at c1
  refine qL<|R O<|G O<|G O<|zA<|zM<|zX O ?_
  exact congrArg vI (by rw [←weighSs_end hp hx (by omega)])
theorem zHb (s:St):∀(m:Nat) (x:Int),s.fit->m<=5000->x=m->Pur cfg 20 [vSts s.Body,vI x] (vI (weighB s.Body m)):=by
  induction s using St.ind with
  |_ s ih=>
    intro m x hf hm hx
    obtain ⟨_,_,_,f4,f5⟩:=St.fit_eq hf
    exact zCn s.Body (fun a ha m x h1 h2=>ih a ha m x (zMk f5 a ha) h1 h2) m x f5 f4 hm hx
theorem zPa (l:List St) (m:Nat) (x:Int) (hf:fitS l) (hl:l.length<=140737488355328) (hm:m<=5000) (hx:x=m):Pur cfg 20 [vSts l,vI x] (vI (weighB l m)):=
  zCn l (fun a ha m x h1 h2=>zHb a m x (zMk hf a ha) h1 h2) m x hf hl hm hx
end Go.W
