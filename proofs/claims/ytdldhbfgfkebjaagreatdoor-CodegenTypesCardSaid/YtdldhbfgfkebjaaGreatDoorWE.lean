/-
  Walks: what functions of the program compute. Printed by wip/gen/mk2.py.
  Conditions: none.
-/
import Derived.Test.YtdldhbfgfkebjaaGreatDoorWD
import Derived.Test.YtdldhbfgfkebjaaGreatDoorPlain
set_option linter.unusedSimpArgs false
set_option linter.unusedVariables false
set_option maxRecDepth 10000
namespace Go.W
open Go Go.Eng Go.Proofs Go.L41 Go.Br
attribute [local irreducible] AWP RWP TD finQ
theorem ok46:callOk Tryz.prog 46=true:=by kernel_rfl
theorem zPb (e:Ex) (ih:∀a,a∈e.Args->∀(m:Nat) (x:Int),a.fit->m<=1000000->x=m->Pur cfg 46 [vE a,vI x] (vI (weighE a m))) (m:Nat) (x:Int) (hf:e.fit) (hm:m<=1000000) (hx:x=m):
    Pur cfg 46 [vE e,vI x] (vI (weighE e m)):=by
 refine zV Tryz.func46 O Tryz.ntmps46 Tryz.results46 O ?_
 intro z hz
 obtain ⟨f1,f2,f3,f4,f5⟩:=Ex.fit_eq hf
 have hW:=weighE_eq e m
 refine R O<|zU O O (qT O O) ?_
 rintro _ _ ⟨b1,rfl,rfl⟩
 refine G O<|zA<|R O<|zN O zLl<|zN O zGe<|zL zNk (Y 0 O) O<|qJ O el52<|qC O ⟨by omega,by omega⟩<|zN O zBi<|zL zBz (Y 0 O) O<|qJ O el51<|qC O ⟨by omega,by omega⟩<|G O<|zA<|zF<|R O<|G O<|zA<|zQ<|zR ⟨[(6,.c _),(5,.c _),(1,.c _),(2,.c _)],[_]⟩ (Weak.mk [true] ⟨zB,zB,zB,zB,T⟩ O) ?_
 refine qH 2 0 O O (Nat×Nat) (fun ⟨k,n⟩=>[(6,vI k),(5,vI n)]) (fun ⟨k,n⟩=>[]) (fun ⟨k,n⟩=>k<=e.Idx.length/\(n<=m+4*140737488355328)/\(weighIdx m (1+e.Lin.L.length+e.Idx.length) e.Idx=weighIdx m n (e.Idx.drop k))) (fun ⟨k,n⟩=>e.Idx.length-k) ⟨⟨0,1+e.Lin.L.length+e.Idx.length⟩,⟨by omega,by omega,O⟩,Weak.mk [true] ⟨zB,VLe.of_eq (congrArg vI (by omega)),zB,zB,T⟩ O⟩ ?_
 rintro ⟨k,n⟩ ⟨hk,hn1,hn2⟩
 show AWP _ _ _ _ _ ⟨[(6,vI k),(5,vI n)]++_,[]++_⟩
 refine zF<|R O<|G O<|zN O zBi<|zL zBz (Y 0 O) O<|qJ O el51<|yC O<|G O<|rL0 O (fun g3_5=>zG O O) O<|rL0 O (fun g3_5=>zG O O) O<|rLz [(24,_),(25,_)] O gv1 ⟨O,O,O,O,T⟩ (fun g3_5=>wH O O O) O<|kF O (fun h=>h)<|zA<|zC O (fun c1=>?_) (fun c1=>?_)
 ·try simp only [sx] at c1
  obtain ⟨y,hy⟩:=qW e.Idx k (by omega)
  obtain ⟨i1,i2,i3⟩:=f4 y (qA hy)
  refine zH<|zF<|zQ<|zF<|qU 19 mixed (by kernel_rfl) O O<|zE O O (zG O O)<|zE O O (zJ O zBi O)<|zE O O (zD O zBz O (Y 0 O) O)<|zE O O (zG O O)<|zE O O (yB O el51 O O (by omega) (getm (by assumption)))<|zE O O (qE O zGh O)<|zE O O (qE O zGe O)<|zE O O (zD O zNk O N O)<|zE O O (wI O el52 O)<|zE O O (kE O O O ⟨by omega,by omega⟩)<|zE O O (zJ O zBi O)<|zE O O (zD O zBz O (Y 0 O) O)<|zE O O (zG O O)<|zE O O (yB O el51 O O (by omega) (getm (by assumption)))<|zE O O (qE O zCk O)<|zE O O (zD O zFd O N O)<|zE O O (wI O zDb O)<|zE O O (kE O O O ⟨by omega,by omega⟩)<|zE O O (kI O O)<|yN<|zA<|R O<|G O<|zA<|zQ<|zR ⟨[(7,.c _),(5,.c _),(1,.c _),(2,.c _),(6,.c _)],[_]⟩ (Weak.mk [true] ⟨zB,zB,zB,zB,zB,T⟩ O) ?_
  refine qH 2 0 O O (Nat×Nat) (fun ⟨j,p⟩=>[(7,vI j),(5,vI p)]) (fun ⟨j,p⟩=>[]) (fun ⟨j,p⟩=>j<=y.At.length/\(p<=m+4*140737488355328)/\(weighAt m (n+y.Lin.L.length+y.At.length) y.At=weighAt m p (y.At.drop j))) (fun ⟨j,p⟩=>y.At.length-j) ⟨⟨0,n+y.Lin.L.length+y.At.length⟩,⟨by omega,by omega,O⟩,Weak.mk [true] ⟨zB,VLe.of_eq (congrArg vI (by omega)),zB,zB,zB,T⟩ O⟩ ?_
  rintro ⟨j,p⟩ ⟨hj,hp1,hp2⟩
  show AWP _ _ _ _ _ ⟨[(7,vI j),(5,vI p)]++_,[]++_⟩
  refine zF<|R O<|G O<|zN O zBi<|zL zBz (Y 0 O) O<|G O<|qI O el51 (by omega) (getm (by assumption))<|zZ O zCk<|zL zFd N O<|qJ O zDb<|yC O<|G O<|rL0 O (fun g7_9=>zG O O) O<|rL0 O (fun g7_9=>zG O O) O<|rLz [(58,_),(59,_)] O gv1 ⟨O,O,O,O,T⟩ (fun g7_9=>wH O O O) O<|kF O (fun h=>h)<|zA<|zC O (fun c2=>?_) (fun c2=>?_)
  ·try simp only [sx] at c2
   obtain ⟨l,hl⟩:=qW y.At j (by omega)
   have hl2:=i3 l (qA hl)
   refine zH<|zF<|zQ<|zI O<|G O<|zN O zBi<|zL zBz (Y 0 O) O<|G O<|qI O el51 (by omega) (getm (by assumption))<|zZ O zCk<|zL zFd N O<|G O<|qI O zDb (by omega) (getm (by assumption))<|zZ O zGe<|zL zNk N O<|qJ O el52<|qC O ⟨by omega,by omega⟩<|G O<|zA<|zI O<|G O<|qC O ⟨by omega,by omega⟩<|G O<|zA ?_
   refine ⟨⟨j+1,p+l.L.length⟩,⟨by omega,by omega,by rw [hp2,qZ hl,weighAt,if_pos (by omega)]⟩,(by show y.At.length-(j+1)<y.At.length-j;omega),Weak.mk [true] ⟨zB,VLe.of_eq (congrArg vI (by omega)),zB,zB,zB,T⟩ O⟩
  ·try simp only [sx] at c2
   have hN2:=weighAt_end (l:=y.At) (k:=j) (n:=p) hx (by omega)
   refine qL<|zI O<|G O<|qC O ⟨by omega,by omega⟩<|G O<|zA ?_
   refine ⟨⟨k+1,p⟩,⟨by omega,hp1,by rw [hn2,qZ hy,weighIdx,if_pos (by omega),hp2,←hN2]⟩,(by show e.Idx.length-(k+1)<e.Idx.length-k;omega),Weak.mk [true] ⟨zB,zB,zB,zB,T⟩ O⟩
 ·try simp only [sx] at c1
  have hN:=weighIdx_end (l:=e.Idx) (k:=k) (n:=n) hx (by omega)
  refine qL<|zF<|R O<|G O<|zA<|zQ<|zR ⟨[(8,.c _),(5,.c _),(1,.c _),(2,.c _)],[_]⟩ (Weak.mk [true] ⟨zB,zB,zB,zB,T⟩ O)<|qH 2 0 O O (Nat×Nat) (fun ⟨k,n⟩=>[(8,vI k),(5,vI n)]) (fun ⟨k,n⟩=>[]) (fun ⟨k,n⟩=>k<=e.Args.length/\(n<=m+4*140737488355328)/\(weighE e m=weighL (e.Args.drop k) m n)) (fun ⟨k,n⟩=>e.Args.length-k) ⟨⟨0,n⟩,⟨by omega,hn1,by rw [hW,hn2,←hN];rfl⟩,Weak.mk [true] ⟨zB,zB,zB,zB,T⟩ O⟩ ?_
  rintro ⟨k,n⟩ ⟨hk3,hn3,hn4⟩
  show AWP _ _ _ _ _ ⟨[(8,vI k),(5,vI n)]++_,[]++_⟩
  refine zF<|R O<|G O<|zN O kN<|zL wZ (Y 0 O) O<|qJ O el55<|yC O<|G O<|rL0 O (fun g11_5=>zG O O) O<|rL0 O (fun g11_5=>zG O O) O<|rLz [(83,_),(84,_)] O gv1 ⟨O,O,O,O,T⟩ (fun g11_5=>wH O O O) O<|kF O (fun h=>h)<|zA<|zC O (fun c3=>?_) (fun c3=>?_)
  ·try simp only [sx] at c3
   obtain ⟨a,ha⟩:=qW e.Args k (by omega)
   have hwa:=zEa a (m-n) (f5 a (qA ha))
   refine zH<|zF<|zQ<|zI O<|G O<|zN O kN<|zL wZ (Y 0 O) O<|G O<|qI O el55 (by omega) (zAm (by assumption))<|zO yW N O<|G O<|G O<|yF O ⟨by omega,by omega⟩<|qX O ok46 (ih a (qA ha) (m-n) _ (f5 a (qA ha)) (by omega) (by omega)) ⟨zB,O,zB,O,T⟩<|qC O ⟨by omega,by omega⟩<|G O<|zA<|zI O<|G O<|qC O ⟨by omega,by omega⟩<|G O<|zA ?_
   refine ⟨⟨k+1,n+weighE a (m-n)⟩,⟨by omega,by omega,by rw [hn4,qZ ha,weighL,if_pos (by omega)]⟩,(by show e.Args.length-(k+1)<e.Args.length-k;omega),Weak.mk [true] ⟨zB,VLe.of_eq (congrArg vI (by omega)),zB,zB,T⟩ O⟩
  ·try simp only [sx] at c3
   refine qL<|R O<|G O<|G O<|zA<|zM<|zW O ?_
   exact congrArg vI (by rw [hn4,←weighL_end hx (by omega)])
theorem base_Weigh (e:Ex) (m:Nat) (x:Int) (hf:e.fit) (hm:m<=1000000) (hx:x=m):Pur cfg 46 [vE e,vI x] (vI (weighE e m)):=by
  induction e using Ex.ind generalizing m x with
  |_ e ih=>exact zPb e (fun a ha m x h1 h2 h3=>ih a ha m x h1 h2 h3) m x hf hm hx
end Go.W
