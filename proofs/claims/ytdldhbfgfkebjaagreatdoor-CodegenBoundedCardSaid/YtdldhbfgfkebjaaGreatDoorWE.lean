/-
  Walks: what functions of the program compute. Printed by wip/gen/mk2.py.
  Conditions: none.
-/
import Derived.Test.YtdldhbfgfkebjaaGreatDoorWD
import Derived.Test.YtdldhbfgfkebjaaGreatDoorPlain
set_option linter.unusedSimpArgs false
set_option linter.unusedVariables false
set_option maxRecDepth 10000
namespace Go.W
open Go Go.Eng Go.Proofs Go.L41 Go.Br
attribute [local irreducible] AWP RWP TD finQ
theorem ok46:callOk Tryz.prog 46=true:=by kernel_rfl
theorem zOz (e:Ex) (ih:∀a,a∈e.Args->∀(m:Nat) (x:Int),a.fit->m<=1000000->x=m->Pur cfg 46 [vE a,vI x] (vI (weighE a m))) (m:Nat) (x:Int) (hf:e.fit) (hm:m<=1000000) (hx:x=m):
    Pur cfg 46 [vE e,vI x] (vI (weighE e m)):=by
 refine zW Tryz.func46 O Tryz.ntmps46 Tryz.results46 O ?_
 intro z hz
 obtain ⟨f1,f2,f3,f4,f5⟩:=Ex.fit_eq hf
 have hW:=weighE_eq e m
 refine R O<|zU O O (qT O O) ?_
 rintro _ _ ⟨b1,rfl,rfl⟩
 refine G O<|zA<|R O<|zN O zLk<|zN O zGb<|zL zNk (A 0 O) O<|qH O el52<|qD O ⟨by omega,by omega⟩<|zN O zBk<|zL zCa (A 0 O) O<|qH O el51<|qD O ⟨by omega,by omega⟩<|G O<|zA<|zF<|R O<|G O<|zA<|zQ<|zS ⟨[(6,.c _),(5,.c _),(1,.c _),(2,.c _)],[_]⟩ (Weak.mk [true] ⟨zB,zB,zB,zB,T⟩ O) ?_
 refine qJ 2 0 O O (Nat×Nat) (fun ⟨k,n⟩=>[(6,vI k),(5,vI n)]) (fun ⟨k,n⟩=>[]) (fun ⟨k,n⟩=>k<=e.Idx.length/\(n<=m+4*140737488355328)/\(weighIdx m (1+e.Lin.L.length+e.Idx.length) e.Idx=weighIdx m n (e.Idx.drop k))) (fun ⟨k,n⟩=>e.Idx.length-k) ⟨⟨0,1+e.Lin.L.length+e.Idx.length⟩,⟨by omega,by omega,O⟩,Weak.mk [true] ⟨zB,VLe.of_eq (congrArg vI (by omega)),zB,zB,T⟩ O⟩ ?_
 rintro ⟨k,n⟩ ⟨hk,hn1,hn2⟩
 show AWP _ _ _ _ _ ⟨[(6,vI k),(5,vI n)]++_,[]++_⟩
 refine zF<|R O<|G O<|zN O zBk<|zL zCa (A 0 O) O<|qH O el51<|yE O<|G O<|rL0 O (fun g3_5=>zG O O) O<|rL0 O (fun g3_5=>zG O O) O<|rLz [(24,_),(25,_)] O gv1 ⟨O,O,O,O,T⟩ (fun g3_5=>wI O O O) O<|kE O (fun h=>h)<|zA<|zC O (fun c1=>?_) (fun c1=>?_)
 ·try simp only [sx] at c1
  obtain ⟨y,hy⟩:=qX e.Idx k (by omega)
  obtain ⟨i1,i2,i3⟩:=f4 y (qB hy)
  refine zH<|zF<|zQ<|zF<|qU 19 mixed (by kernel_rfl) O O<|zE O O (zG O O)<|zE O O (zJ O zBk O)<|zE O O (zD O zCa O (A 0 O) O)<|zE O O (zG O O)<|zE O O (yA O el51 O O (by omega) (getm (by assumption)))<|zE O O (qA O zGd O)<|zE O O (qA O zGb O)<|zE O O (zD O zNk O Y O)<|zE O O (wJ O el52 O)<|zE O O (kB O O O ⟨by omega,by omega⟩)<|zE O O (zJ O zBk O)<|zE O O (zD O zCa O (A 0 O) O)<|zE O O (zG O O)<|zE O O (yA O el51 O O (by omega) (getm (by assumption)))<|zE O O (qA O zCk O)<|zE O O (zD O zEw O Y O)<|zE O O (wJ O zDb O)<|zE O O (kB O O O ⟨by omega,by omega⟩)<|zE O O (kG O O)<|yM<|zA<|R O<|G O<|zA<|zQ<|zS ⟨[(7,.c _),(5,.c _),(1,.c _),(2,.c _),(6,.c _)],[_]⟩ (Weak.mk [true] ⟨zB,zB,zB,zB,zB,T⟩ O) ?_
  refine qJ 2 0 O O (Nat×Nat) (fun ⟨j,p⟩=>[(7,vI j),(5,vI p)]) (fun ⟨j,p⟩=>[]) (fun ⟨j,p⟩=>j<=y.At.length/\(p<=m+4*140737488355328)/\(weighAt m (n+y.Lin.L.length+y.At.length) y.At=weighAt m p (y.At.drop j))) (fun ⟨j,p⟩=>y.At.length-j) ⟨⟨0,n+y.Lin.L.length+y.At.length⟩,⟨by omega,by omega,O⟩,Weak.mk [true] ⟨zB,VLe.of_eq (congrArg vI (by omega)),zB,zB,zB,T⟩ O⟩ ?_
  rintro ⟨j,p⟩ ⟨hj,hp1,hp2⟩
  show AWP _ _ _ _ _ ⟨[(7,vI j),(5,vI p)]++_,[]++_⟩
  refine zF<|R O<|G O<|zN O zBk<|zL zCa (A 0 O) O<|G O<|qI O el51 (by omega) (getm (by assumption))<|zZ O zCk<|zL zEw Y O<|qH O zDb<|yE O<|G O<|rL0 O (fun g7_9=>zG O O) O<|rL0 O (fun g7_9=>zG O O) O<|rLz [(58,_),(59,_)] O gv1 ⟨O,O,O,O,T⟩ (fun g7_9=>wI O O O) O<|kE O (fun h=>h)<|zA<|zC O (fun c2=>?_) (fun c2=>?_)
  ·try simp only [sx] at c2
   obtain ⟨l,hl⟩:=qX y.At j (by omega)
   have hl2:=i3 l (qB hl)
   refine zH<|zF<|zQ<|zI O<|G O<|zN O zBk<|zL zCa (A 0 O) O<|G O<|qI O el51 (by omega) (getm (by assumption))<|zZ O zCk<|zL zEw Y O<|G O<|qI O zDb (by omega) (getm (by assumption))<|zZ O zGb<|zL zNk Y O<|qH O el52<|qD O ⟨by omega,by omega⟩<|G O<|zA<|zI O<|G O<|qD O ⟨by omega,by omega⟩<|G O<|zA ?_
   refine ⟨⟨j+1,p+l.L.length⟩,⟨by omega,by omega,by rw [hp2,qZ hl,weighAt,if_pos (by omega)]⟩,(by show y.At.length-(j+1)<y.At.length-j;omega),Weak.mk [true] ⟨zB,VLe.of_eq (congrArg vI (by omega)),zB,zB,zB,T⟩ O⟩
  ·try simp only [sx] at c2
   have hN2:=weighAt_end (l:=y.At) (k:=j) (n:=p) hx (by omega)
   refine qL<|zI O<|G O<|qD O ⟨by omega,by omega⟩<|G O<|zA ?_
   refine ⟨⟨k+1,p⟩,⟨by omega,hp1,by rw [hn2,qZ hy,weighIdx,if_pos (by omega),hp2,←hN2]⟩,(by show e.Idx.length-(k+1)<e.Idx.length-k;omega),Weak.mk [true] ⟨zB,zB,zB,zB,T⟩ O⟩
 ·try simp only [sx] at c1
  have hN:=weighIdx_end (l:=e.Idx) (k:=k) (n:=n) hx (by omega)
  refine qL<|zF<|R O<|G O<|zA<|zQ<|zS ⟨[(8,.c _),(5,.c _),(1,.c _),(2,.c _)],[_]⟩ (Weak.mk [true] ⟨zB,zB,zB,zB,T⟩ O)<|qJ 2 0 O O (Nat×Nat) (fun ⟨k,n⟩=>[(8,vI k),(5,vI n)]) (fun ⟨k,n⟩=>[]) (fun ⟨k,n⟩=>k<=e.Args.length/\(n<=m+4*140737488355328)/\(weighE e m=weighL (e.Args.drop k) m n)) (fun ⟨k,n⟩=>e.Args.length-k) ⟨⟨0,n⟩,⟨by omega,hn1,by rw [hW,hn2,←hN];rfl⟩,Weak.mk [true] ⟨zB,zB,zB,zB,T⟩ O⟩ ?_
  rintro ⟨k,n⟩ ⟨hk3,hn3,hn4⟩
  show AWP _ _ _ _ _ ⟨[(8,vI k),(5,vI n)]++_,[]++_⟩
  refine zF<|R O<|G O<|zN O wH<|zL zAw (A 0 O) O<|qH O el55<|yE O<|G O<|rL0 O (fun g11_5=>zG O O) O<|rL0 O (fun g11_5=>zG O O) O<|rLz [(83,_),(84,_)] O gv1 ⟨O,O,O,O,T⟩ (fun g11_5=>wI O O O) O<|kE O (fun h=>h)<|zA<|zC O (fun c3=>?_) (fun c3=>?_)
  ·try simp only [sx] at c3
   obtain ⟨a,ha⟩:=qX e.Args k (by omega)
   have hwa:=zDu a (m-n) (f5 a (qB ha))
   refine zH<|zF<|zQ<|zI O<|G O<|zN O wH<|zL zAw (A 0 O) O<|G O<|qI O el55 (by omega) (zBi (by assumption))<|zP kC Y O<|G O<|G O<|yF O ⟨by omega,by omega⟩<|qW O ok46 (ih a (qB ha) (m-n) _ (f5 a (qB ha)) (by omega) (by omega)) ⟨zB,O,zB,O,T⟩<|qD O ⟨by omega,by omega⟩<|G O<|zA<|zI O<|G O<|qD O ⟨by omega,by omega⟩<|G O<|zA ?_
   refine ⟨⟨k+1,n+weighE a (m-n)⟩,⟨by omega,by omega,by rw [hn4,qZ ha,weighL,if_pos (by omega)]⟩,(by show e.Args.length-(k+1)<e.Args.length-k;omega),Weak.mk [true] ⟨zB,VLe.of_eq (congrArg vI (by omega)),zB,zB,T⟩ O⟩
  ·try simp only [sx] at c3
   refine qL<|R O<|G O<|G O<|zA<|zM<|zX O ?_
   exact congrArg vI (by rw [hn4,←weighL_end hx (by omega)])
theorem base_Weigh (e:Ex) (m:Nat) (x:Int) (hf:e.fit) (hm:m<=1000000) (hx:x=m):Pur cfg 46 [vE e,vI x] (vI (weighE e m)):=by
  induction e using Ex.ind generalizing m x with
  |_ e ih=>exact zOz e (fun a ha m x h1 h2 h3=>ih a ha m x h1 h2 h3) m x hf hm hx
end Go.W
