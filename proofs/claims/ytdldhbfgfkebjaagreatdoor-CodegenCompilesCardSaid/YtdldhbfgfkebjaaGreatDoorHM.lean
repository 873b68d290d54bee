/-
  What functions compute.
  Conditions: none.
-/
import Derived.Test.YtdldhbfgfkebjaaGreatDoorHL
set_option linter.unusedSimpArgs false
set_option linter.unusedVariables false
set_option maxRecDepth 10000
namespace Go.W
open Go Go.Eng Go.Proofs Go.L41 Go.Br
attribute [local irreducible] AWP RWP TD fT
theorem agg39:lK Tryz.prog 39=some 4:=by kernel_rfl
theorem ok11:bA Tryz.prog 11=true:=by kernel_rfl
theorem ok18:bA Tryz.prog 18=true:=by kernel_rfl
theorem ok32:bA Tryz.prog 32=true:=by kernel_rfl
theorem ok33:bA Tryz.prog 33=true:=by kernel_rfl
theorem ok34:bA Tryz.prog 34=true:=by kernel_rfl
theorem ok74:bA Tryz.prog 74=true:=by kernel_rfl
theorem ok75:bA Tryz.prog 75=true:=by kernel_rfl
theorem ok124:bA Tryz.prog 124=true:=by kernel_rfl
theorem pl39:fB Tryz.prog 39=some [(0,1),(1,1),(2,1),(3,1)]:=by kernel_rfl
theorem pl90:fB Tryz.prog 90=some [(0,2),(2,1),(3,1),(4,1),(5,1),(6,1)]:=by kernel_rfl
theorem sz39:(Tryz.prog.info? 39).map (·.size)=some 4:=by kernel_rfl
theorem zr39:dK Tryz.prog 39=some [(Value.slice none 0 0),(Value.slice none 0 0),(Value.slice none 0 0),(Value.int IntKind.i64 0)]:=by kernel_rfl
theorem zr90:dK Tryz.prog 90=some [(Value.slice none 0 0),(Value.slice none 0 0),(Value.slice none 0 0),(Value.slice none 0 0),(Value.slice none 0 0),(Value.slice none 0 0),(Value.bool false)]:=by kernel_rfl
theorem r48_wide (f:Lf) (hl:f.L.length<=6000000000000):
    Pur cfg 124 [jZ f] (vB (!hM f)):=by
 refine zW Tryz.func124 O Tryz.ntmps124 Tryz.results124 O ?_
 intro z hz
 refine R O<|zT O O (qP O O) ?_
 rintro _ _ ⟨b1,rfl,rfl⟩
 refine G O<|zA<|zE<|R O<|zM O zGl<|zF one2 (A 0 O) O<|zZ O (yH O O O)<|G O<|rL0 O (fun g1_3=>zG O zGl O) O<|B 8 O (fun g1_3=>zD O one2 O (A 0 O) O) O<|B 9 O (fun g1_3=>kL O O O) O<|r_or O (fun h=>(lzf h))<|zA<|zC O (fun c1=>?_) (fun c1=>?_)
 ·refine R O<|G O<|zA<|zN<|zV O ?_
  have h9:=(zHl f.K).symm.trans c1
  have h8:nN f.K=false:=by simpa using h9
  unfold hM;rw [h8];rfl
 ·have h8:nN f.K=true:=by have h9:=(zHl f.K).symm.trans c1;simpa using h9
  refine zI<|zE<|R O<|G O<|zA<|zP<|zU ⟨[(3,.c _),(1,.c _)],[_]⟩ (Weak.mk [true] ⟨zB,zB,T⟩ O)<|qF 1 0 O O (Nat) (fun k=>[(3,vI k)]) (fun k=>[]) (fun k=>k<=f.L.length/\((f.L.take k).all (fun m=>nN m.By)=true)) (fun k=>f.L.length-k) ⟨0,⟨by omega,O⟩,Weak.mk [true] ⟨zB,zB,T⟩ O⟩ ?_
  rintro k ⟨hk,hp⟩
  refine zE<|R O<|G O<|zM O zAh<|zF zCs (A 0 O) O<|qC O el52<|yC O<|zA<|zC O (fun c2=>?_) (fun c2=>?_)
  ·try simp only [sx] at c2
   obtain ⟨m,hm⟩:=qU f.L k (by omega)
   refine zI<|zE<|zP<|R O<|zM O zAh<|zF zCs (A 0 O) O<|G O<|zX O el52 (by omega) (N hm)<|zS O zFv<|zF one2 Y O<|zZ O (yH O O O)<|G O<|rL0 O (fun g6_7=>zG O zAh O) O<|B 27 O (fun g6_7=>zD O zCs O (A 0 O) O) O<|rL0 O (fun g6_7=>zK O O) O<|rLz [(28,_),(29,_)] O gv1 ⟨O,O,O,O,T⟩ (fun g6_7=>qI O el52 O O (by omega) (N hm)) O<|B 30 O (fun g6_7=>qA O zFv O) O<|B 31 O (fun g6_7=>zD O one2 O Y O) O<|B 32 O (fun g6_7=>kL O O O) O<|r_or O (fun h=>(lzf h))<|zA<|zC O (fun c3=>?_) (fun c3=>?_)
   ·have h7:nN m.By=false:=by have h9:=(zHl m.By).symm.trans c3;simpa using h9
    refine R O<|G O<|zA<|zN<|zV O ?_
    unfold hM;rw [zEw (p:=fun m=>nN m.By) hm h7,Bool.and_false];rfl
   ·have h7:nN m.By=true:=by have h9:=(zHl m.By).symm.trans c3;simpa using h9
    refine zI<|zJ O<|G O<|qB O ⟨by omega,by omega⟩<|G O<|zA ?_
    refine ⟨k+1,⟨by omega,by rw [yE hm,List.all_append,hp];simp [h7]⟩,(by omega),Weak.mk [true] ⟨zB,zB,T⟩ O⟩
  ·try simp only [sx] at c2
   refine qK<|R O<|G O<|zA<|zN<|zV O ?_
   rw [qZ (l:=f.L) (k:=k) (by omega)] at hp
   unfold hM;rw [h8,hp];rfl
theorem zMe (l:List Ix) (hl:l.length<=1000000000) (hw:fR l<=1000000000):
    Pur cfg 74 [jP l] (vB (!l.all lM)):=by
 refine zW Tryz.func74 O Tryz.ntmps74 Tryz.results74 O ?_
 intro z hz
 refine R O<|G O<|zA<|zE<|R O<|G O<|zA<|zP<|zU ⟨[(3,.c _),(0,.c _)],[]⟩ (Weak.mk [] ⟨zB,zB,T⟩ O)<|qF 1 0 O O (Nat) (fun k=>[(3,vI k)]) (fun k=>[]) (fun k=>k<=l.length/\((l.take k).all lM=true)) (fun k=>l.length-k) ⟨0,⟨by omega,O⟩,Weak.mk [] ⟨zB,zB,T⟩ O⟩ ?_
 rintro k ⟨hk,hp⟩
 refine zE<|R O<|G O<|G O<|qC O el51<|yC O<|zA<|zC O (fun c1=>?_) (fun c1=>?_)
 ·try simp only [sx] at c1
  obtain ⟨x,hx⟩:=qU l k (by omega)
  have hxw:=zAx (qE hx)
  unfold Ix.wt at hxw
  refine zI<|zE<|zP<|zE<|R O<|G O<|G O<|zX O el51 (by omega) (N hx)<|zS O zCg<|zQ zAn Y O<|qS O ok124 (r48_wide x.Lin (by have:=zAx (qE hx);unfold Ix.wt at this;omega)) ⟨zB,O,T⟩<|zA<|zC O (fun c2=>?_) (fun c2=>?_)
  ·try simp only [sx] at c2
   refine R O<|G O<|zA<|zN<|zV O ?_
   have h8:hM x.Lin=false:=by simpa using c2
   rw [zEw hx (by unfold lM;rw [h8];rfl)];rfl
  ·try simp only [sx] at c2
   refine zI<|R O<|G O<|zA<|zP<|zU ⟨[(4,.c _),(0,.c _),(3,.c _)],[]⟩ (Weak.mk [] ⟨zB,zB,zB,T⟩ O)<|qF 1 0 O O (Nat) (fun j=>[(4,vI j)]) (fun j=>[]) (fun j=>j<=x.At.length/\((x.At.take j).all hM=true)) (fun j=>x.At.length-j) ⟨0,⟨by omega,O⟩,Weak.mk [] ⟨zB,zB,zB,T⟩ O⟩ ?_
   rintro j ⟨hj,hq⟩
   refine zE<|R O<|G O<|G O<|G O<|zX O el51 (by omega) (N hx)<|zS O zAf<|zF zBn Y O<|qC O zAq<|yC O<|zA<|zC O (fun c3=>?_) (fun c3=>?_)
   ·try simp only [sx] at c3
    obtain ⟨f,hf⟩:=qU x.At j (by omega)
    refine zI<|zE<|zP<|R O<|G O<|G O<|zX O el51 (by omega) (N hx)<|zS O zAf<|zF zBn Y O<|G O<|zX O zAq (by omega) (N hf)<|zQ zAn Y O<|qS O ok124 (r48_wide f (by have:=zAx (qE hx);have:=zBg (qE hf);unfold Ix.wt at *;omega)) ⟨zB,O,T⟩<|zA<|zC O (fun c4=>?_) (fun c4=>?_)
    ·try simp only [sx] at c4
     refine R O<|G O<|zA<|zN<|zV O ?_
     have h8:hM f=false:=by simpa using c4
     rw [zEw hx (by unfold lM;rw [zEw hf h8,Bool.and_false])];rfl
    ·try simp only [sx] at c4
     refine zI<|zJ O<|G O<|qB O ⟨by omega,by omega⟩<|G O<|zA ?_
     refine ⟨j+1,⟨by omega,by rw [yE hf,List.all_append,hq];simp;simpa using c4⟩,(by omega),Weak.mk [] ⟨zB,zB,zB,T⟩ O⟩
   ·try simp only [sx] at c3
    rw [qZ (l:=x.At) (k:=j) (by omega)] at hq
    have h8:hM x.Lin=true:=by simpa using c2
    have hfx:lM x=true:=by unfold lM;rw [h8,hq];rfl
    refine qK<|zJ O<|G O<|qB O ⟨by omega,by omega⟩<|G O<|zA ?_
    refine ⟨k+1,⟨by omega,by rw [yE hx,List.all_append,hp];simp [hfx]⟩,(by omega),Weak.mk [] ⟨zB,zB,T⟩ O⟩
 ·try simp only [sx] at c1
  refine qK<|R O<|G O<|zA<|zN<|zV O ?_
  rw [qZ (l:=l) (k:=k) (by omega)] at hp
  rw [hp];rfl
theorem zOd (e:Ex) (hw:e.wt<=1000000000) (ih:∀a,a∈e.Args->Pur cfg 75 [vE a] (vB (!lH a))):
    Pur cfg 75 [vE e] (vB (!lH e)):=by
 refine zW Tryz.func75 O Tryz.ntmps75 Tryz.results75 O ?_
 intro z hz
 have hwt:=e.wt_eq
 have hal:=zGt e.Args
 refine R O<|zT O O (qP O O) ?_
 rintro _ _ ⟨b1,rfl,rfl⟩
 refine G O<|zA<|zE<|R O<|zM O zEg<|zQ zAn (A 0 O) O<|qS O ok124 (r48_wide e.Lin (by omega)) ⟨zB,O,T⟩<|G O<|rL0 O (fun g1_3=>zG O kX O) O<|B 8 O (fun g1_3=>zD O wM O (A 0 O) O) O<|B 9 O (fun g1_3=>qR O ok74 (zMe e.Idx (by omega) (by omega)) ⟨zB,O,T⟩) O<|r_or O (fun h=>(lzf h))<|zA<|zC O (fun c1=>?_) (fun c1=>?_)
 ·refine R O<|G O<|zA<|zN<|zV O ?_
  have h8:(hM e.Lin&&e.Idx.all lM)=false:=by cases h1:hM e.Lin<;>cases h2:e.Idx.all lM<;>simp [h1,h2] at c1⊢
  rw [zLi,h8];rfl
 ·have h8:hM e.Lin=true/\e.Idx.all lM=true:=by cases h1:hM e.Lin<;>cases h2:e.Idx.all lM<;>simp [h1,h2] at c1⊢
  refine zI<|zE<|R O<|G O<|zA<|zP<|zU ⟨[(3,.c _),(1,.c _)],[_]⟩ (Weak.mk [true] ⟨zB,zB,T⟩ O)<|qF 1 0 O O (Nat) (fun k=>[(3,vI k)]) (fun k=>[]) (fun k=>k<=e.Args.length/\((e.Args.take k).all lH=true)) (fun k=>e.Args.length-k) ⟨0,⟨by omega,O⟩,Weak.mk [true] ⟨zB,zB,T⟩ O⟩ ?_
  rintro k ⟨hk,hp⟩
  refine zE<|R O<|G O<|zM O yW<|zF kW (A 0 O) O<|qC O el55<|yC O<|zA<|zC O (fun c2=>?_) (fun c2=>?_)
  ·try simp only [sx] at c2
   obtain ⟨a,ha⟩:=qU e.Args k (by omega)
   refine zI<|zE<|zP<|R O<|zM O yW<|zF kW (A 0 O) O<|G O<|zX O el55 (by omega) (wF ha)<|zQ yM Y O<|qS O ok75 (ih a (qE ha)) ⟨zB,O,T⟩<|zA<|zC O (fun c3=>?_) (fun c3=>?_)
   ·try simp only [sx] at c3
    refine R O<|G O<|zA<|zN<|zV O ?_
    have h7:lH a=false:=by simpa using c3
    rw [zLi,zEw ha h7,Bool.and_false];rfl
   ·try simp only [sx] at c3
    refine zI<|zJ O<|G O<|qB O ⟨by omega,by omega⟩<|G O<|zA ?_
    refine ⟨k+1,⟨by omega,by rw [yE ha,List.all_append,hp];simp;simpa using c3⟩,(by omega),Weak.mk [true] ⟨zB,zB,T⟩ O⟩
  ·try simp only [sx] at c2
   refine qK<|R O<|G O<|zA<|zN<|zV O ?_
   rw [qZ (l:=e.Args) (k:=k) (by omega)] at hp
   rw [zLi,h8.1,h8.2,hp];rfl
theorem r48_wideExpr (e:Ex) (hw:e.wt<=1000000000):Pur cfg 75 [vE e] (vB (!lH e)):=by
  induction e using Ex.ind with
  |_ e ih=>exact zOd e hw fun a ha=>ih a ha (by have:=kC ha;have:=e.wt_eq;omega)
theorem zFf (l:List St) (hw:bH l<=1000000000) (ih:∀s,s∈l->Pur cfg 33 [dS s.Body] (vB (!gA s.Body))):
    Pur cfg 33 [dS l] (vB (!gA l)):=by
 refine zW Tryz.func33 O Tryz.ntmps33 Tryz.results33 O ?_
 intro z hz
 have hll:=wI l
 refine R O<|G O<|zA<|zE<|R O<|G O<|zA<|zP<|zU ⟨[(3,.c _),(0,.c _)],[]⟩ (Weak.mk [] ⟨zB,zB,T⟩ O)<|qF 1 0 O O (Nat) (fun k=>[(3,vI k)]) (fun k=>[]) (fun k=>k<=l.length/\((l.take k).all sC=true)) (fun k=>l.length-k) ⟨0,⟨by omega,O⟩,Weak.mk [] ⟨zB,zB,T⟩ O⟩ ?_
 rintro k ⟨hk,hp⟩
 refine zE<|R O<|G O<|G O<|qC O el23<|yC O<|zA<|zC O (fun c1=>?_) (fun c1=>?_)
 ·try simp only [sx] at c1
  obtain ⟨s,hs⟩:=qU l k (by omega)
  have hsw:=kG (qE hs)
  have hse:=St.wt_eq s
  refine zI<|zE<|zP<|R O<|G O<|G O<|zX O el23 (by omega) (zCy hs)<|zS O zGk<|zF wM Y O<|qS O ok74 (zMe s.Idx (by omega) (by omega)) ⟨zB,O,T⟩<|G O<|rL0 O (fun g4_6=>zK O O) O<|rL0 O (fun g4_6=>zK O O) O<|rLz [(17,_),(18,_)] O gv1 ⟨O,O,O,O,T⟩ (fun g4_6=>qI O el23 O O (by omega) (zCy hs)) O<|B 19 O (fun g4_6=>qA O zBu O) O<|B 20 O (fun g4_6=>qD O yM O Y O) O<|B 21 O (fun g4_6=>qR O ok75 (r48_wideExpr s.E (by omega)) ⟨zB,O,T⟩) O<|r_or O (fun h=>(lzf h))<|G O<|rL0 O (fun g4_14=>zK O O) O<|rL0 O (fun g4_14=>zK O O) O<|rLz [(25,_),(26,_)] O gv1 ⟨O,O,O,O,T⟩ (fun g4_14=>qI O el23 O O (by omega) (zCy hs)) O<|B 27 O (fun g4_14=>qA O zBe O) O<|B 28 O (fun g4_14=>zD O zAj O Y O) O<|B 29 O (fun g4_14=>qR O ok33 (ih s (qE hs)) ⟨zB,O,T⟩) O<|r_or O (fun h=>(lzf h))<|zA<|zC O (fun c2=>?_) (fun c2=>?_)
  ·have h7:sC s=false:=by rw [fitT_eq];cases h1:s.Idx.all lM<;>cases h2:lH s.E<;>cases h3:gA s.Body<;>simp [h1,h2,h3] at c2⊢
   refine R O<|G O<|zA<|zN<|zV O ?_
   rw [fitTs_eq,zEw hs h7];rfl
  ·have h7:sC s=true:=by rw [fitT_eq];cases h1:s.Idx.all lM<;>cases h2:lH s.E<;>cases h3:gA s.Body<;>simp [h1,h2,h3] at c2⊢
   refine zI<|zJ O<|G O<|qB O ⟨by omega,by omega⟩<|G O<|zA ?_
   refine ⟨k+1,⟨by omega,by rw [yE hs,List.all_append,hp];simp [h7]⟩,(by omega),Weak.mk [] ⟨zB,zB,T⟩ O⟩
 ·try simp only [sx] at c1
  refine qK<|R O<|G O<|zA<|zN<|zV O ?_
  rw [qZ (l:=l) (k:=k) (by omega)] at hp
  rw [fitTs_eq,hp];rfl
theorem r48_wideStmts (l:List St) (hw:bH l<=1000000000):Pur cfg 33 [dS l] (vB (!gA l)):=by
  have key:∀s:St,bH s.Body<=1000000000->Pur cfg 33 [dS s.Body] (vB (!gA s.Body)):=fun s=>by
    induction s using St.ind with
    |_ s ih=>exact fun hs=>zFf s.Body hs fun a ha=>ih a ha (by have:=kG ha;have:=St.wt_eq a;omega)
  exact zFf l hw fun a ha=>key a (by have:=kG ha;have:=St.wt_eq a;omega)
set_option maxHeartbeats 4000000 in
theorem r48_Compile (n:Ns) (hn:n.Ok) (hw:bH n.Body<=800000) (hl:n.Bufs.length<=40):
    Pur cfg 13 [vNs n] (.tup [vUn (lJ n).1,vI (lJ n).2]):=by
 refine zW Tryz.func13 O Tryz.ntmps13 Tryz.results13 O ?_
 intro z hz
 have hbl:=wI n.Body
 refine R O<|zT O O (qP O O) ?_
 rintro _ _ ⟨b1,rfl,rfl⟩
 refine qW _ (qM 0 O 1 _ PLe.ptr)<|zT O O (qQ [some 11,some 5,some 3,none] O zr39 O) ?_
 rintro _ _ ⟨b2,rfl,rfl⟩
 refine G O<|zA<|zE<|R O<|zQ zAr Y O<|qS O ok31 (zKk n hn (by omega)) ⟨zB,O,T⟩<|zZ O (yA O O)<|kP O<|kP O<|G O<|G O<|zA<|R O<|G O<|kZ O<|zA<|zC O (fun c1=>?_) (fun c1=>?_)
 ·try simp only [sx] at c1
  refine R O<|zZ O (kS [some 11,some 5,some 3,none] O zr39 pl39 O O)<|G O<|D 0 sz39 O<|G O<|zA<|zN<|fin2 (qN agg39 O (A 0 O) O) (rs_c O) ?_
  have hv:¬(bY n).2=0:=by simpa using c1
  rw [cmp_1 hv];rfl
 ·try simp only [sx] at c1
  have hv:(bY n).2=0:=by simpa using c1
  refine zI<|R O<|zQ zAr Y O<|qS O ok18 (ref41_Analyze n hn (by omega)) ⟨zB,O,T⟩<|zZ O (yA O O)<|kP O<|kP O<|G O<|G O<|zA<|zE ?_
  rw [zGu hv]
  refine zJ O<|G O<|qS O ok32 (r42_Plan (bL n) (by rw [zDp];omega) (zHj hv)) ⟨zB,O,T⟩<|zZ O (yA O O)<|kP O<|kP O<|kP O<|G O<|G O<|G O<|zA<|zE<|R O<|G O<|kZ O<|zA<|zC O (fun c2=>?_) (fun c2=>?_)
  ·exact absurd c2 (by decide)
  ·refine zI<|zE<|yK 4 1 [⟨0,.q []⟩,⟨1,.q []⟩,⟨3,.q []⟩,⟨2,.e 0 []⟩] mixed (by kernel_rfl) (by kernel_rfl) O O O<|J O<|J O<|J O<|J O<|wQ<|v O (by decide) O O (qD O zAr O Y O)<|v O (by decide) O O (qD O zAr O Y O)<|v O (by decide) O O (zK O O)<|zEp O O (by decide) O O (zPd O ok11 (r48_Types n (by omega) (by omega)) ⟨zB,O,T⟩) ?_
   rintro _ _ ⟨sv3,rfl,rfl⟩
   refine ⟨_,O,?_⟩
   refine wP O<|yT O zr90 pl90<|zT O O (qP O O) ?_
   rintro _ _ ⟨b4,rfl,rfl⟩
   refine G O<|zA<|zE<|zE<|zU _ (wO 9 1)<|zU _ (wO 46 11)<|zU _ (kN 3 O (regs':=[(40,_),(42,.agg [_,_,_,_,_,_,_])]) (μ':=[_,_,_,_]) ⟨FLe.sl,FLe.agg ⟨.inl O,.inl O,.inr ⟨O,O⟩,.inl O,.inl O,.inl O,.inl O,T⟩,T⟩ ⟨EFle.refl _,EFle.refl _,EFle.row (ds:=[_,_,_,_,_,_,_]) ⟨.inl O,.inl O,.inr ⟨O,O⟩,.inl O,.inl O,.inl O,.inl O,T⟩,EFle.refl _,T⟩)<|zJ O<|G O<|qH O<|zM O fd90_1<|zF one28 (A 2 O) O<|zZ O (zOs O el28 O)<|zZ O (yH O O O)<|zA<|zC O (fun c3=>?_) (fun c3=>?_)
   ·try simp only [sx] at c3
    have h3:256<(jB n).length:=by omega
    refine R O<|zZ O (kS [some 11,some 5,some 3,none] O zr39 pl39 O O)<|D 3 sz39 O<|G O<|zA<|zN<|fin2 (qN agg39 O (A 3 O) O) (rs_c O) ?_
    rw [cmp_2 hv h3];rfl
   ·try simp only [sx] at c3
    have h3:¬256<(jB n).length:=by omega
    refine zI<|zE<|R O<|zS O zDh<|zF zAj Y O<|qS O ok33 (r48_wideStmts n.Body (by omega)) ⟨zB,O,T⟩<|zA<|zC O (fun c4=>?_) (fun c4=>?_)
    ·try simp only [sx] at c4
     have h4:gA n.Body=false:=by simpa using c4
     refine R O<|zZ O (kS [some 11,some 5,some 3,none] O zr39 pl39 O O)<|D 3 sz39 O<|G O<|zA<|zN<|fin2 (qN agg39 O (A 3 O) O) (rs_c O) ?_
     rw [cmp_3 hv h3 h4];rfl
    ·try simp only [sx] at c4
     have h4:gA n.Body=true:=by simpa using c4
     have hG:=gnN_ok hn hv hl (by omega)
     have hR:mG (gnN n) n.Body []:=valid_rdy (g:=gnN n) hv rfl
     refine zI<|zE<|R O<|G O<|zA<|zP<|zU ⟨[(12,.c _),(1,.c _),(2,.c _),(6,.c _),(8,.c _),(9,.c _),(11,.c _)],[_,_,_,_]⟩ (Weak.mk [true,true,true,true] ⟨zB,zB,zB,zB,zB,zB,zB,T⟩ O)<|qF 1 3 O O (Nat×Value×Value×List In×Bool) (fun ⟨k,sw,lw,cw,fw⟩=>[(12,vI k)]) (fun ⟨k,sw,lw,cw,fw⟩=>[E.vec sw 46 11 (cw.map In.cells),E.vec lw 9 1 (([]:List ByteArray).map fun s=>[cS s]),E.row b4 90 [.sl 8 (n.Bufs.map Bf.cells),.sl 20 (n.Body.map St.cells),.sl 5 ((jB n).map tyC),.sl 3 ((hC (bL n)).1.map Sl.cells),.lit lw,.lit sw,.lit (.bool fw)]]) (fun ⟨k,sw,lw,cw,fw⟩=>k<=n.Body.length/\(Em (lD 0 (fP (sJ (gnN n) (bL n)) 0 (n.Body.take k))) cw fw)) (fun ⟨k,sw,lw,cw,fw⟩=>n.Body.length-k) ⟨⟨0,(.slice none 0 0),(.slice none 0 0),[],false⟩,⟨by omega,(by rw [List.take_zero,fP];exact Em.nil)⟩,Weak.mk [true,true,true,true] ⟨zB,zB,zB,zB,zB,zB,zB,T⟩ O⟩ ?_
     rintro ⟨k,sw,lw,cw,fw⟩ ⟨hk,hq⟩
     show AWP _ _ _ _ _ ⟨[(12,vI k)]++_,[E.vec sw 46 11 (cw.map In.cells),E.vec lw 9 1 (([]:List ByteArray).map fun s=>[cS s]),E.row b4 90 [.sl 8 (n.Bufs.map Bf.cells),.sl 20 (n.Body.map St.cells),.sl 5 ((jB n).map tyC),.sl 3 ((hC (bL n)).1.map Sl.cells),.lit lw,.lit sw,.lit (.bool fw)]]++_⟩
     refine zE<|R O<|G O<|zS O zDh<|zF zAj Y O<|qC O el23<|yC O<|zA<|zC O (fun c5=>?_) (fun c5=>?_)
     ·try simp only [sx] at c5
      obtain ⟨s,hs⟩:=qU n.Body k (by omega)
      have hsm:=qE hs
      have hsw:=kG hsm
      refine zI<|zE<|zP<|zE<|R O<|G O<|zA<|zP<|zU ⟨[(13,.c _),(1,.c _),(2,.c _),(6,.c _),(8,.c _),(9,.c _),(11,.c _),(12,.c _)],[_,_,_,_]⟩ (Weak.mk [true,true,true,true] ⟨zB,zB,zB,zB,zB,zB,zB,zB,T⟩ O)<|qF 1 3 O O (Nat×Value×Value×List In×Bool) (fun ⟨j,su,lu,cu,fu0⟩=>[(13,vI j)]) (fun ⟨j,su,lu,cu,fu0⟩=>[E.vec su 46 11 (cu.map In.cells),E.vec lu 9 1 (([]:List ByteArray).map fun s=>[cS s]),E.row b4 90 [.sl 8 (n.Bufs.map Bf.cells),.sl 20 (n.Body.map St.cells),.sl 5 ((jB n).map tyC),.sl 3 ((hC (bL n)).1.map Sl.cells),.lit lu,.lit su,.lit (.bool fu0)]]) (fun ⟨j,su,lu,cu,fu0⟩=>j<=n.Bufs.length/\(Em (lD 0 (fP (sJ (gnN n) (bL n)) 0 (n.Body.take k)++fP (sT (gnN n) (bL n) k) 0 (n.Bufs.take j))) cu fu0)) (fun ⟨j,su,lu,cu,fu0⟩=>n.Bufs.length-j) ⟨⟨0,sw,lw,cw,fw⟩,⟨by omega,(by rw [List.take_zero,fP,List.append_nil];exact hq)⟩,Weak.mk [true,true,true,true] ⟨zB,zB,zB,zB,zB,zB,zB,zB,T⟩ O⟩ ?_
      rintro ⟨j,su,lu,cu,fu0⟩ ⟨hj,hx⟩
      show AWP _ _ _ _ _ ⟨[(13,vI j)]++_,[E.vec su 46 11 (cu.map In.cells),E.vec lu 9 1 (([]:List ByteArray).map fun s=>[cS s]),E.row b4 90 [.sl 8 (n.Bufs.map Bf.cells),.sl 20 (n.Body.map St.cells),.sl 5 ((jB n).map tyC),.sl 3 ((hC (bL n)).1.map Sl.cells),.lit lu,.lit su,.lit (.bool fu0)]]++_⟩
      refine zE<|R O<|G O<|zS O zAz<|zF zDx Y O<|qC O el22<|yC O<|zA<|zC O (fun c6=>?_) (fun c6=>?_)
      ·try simp only [sx] at c6
       obtain ⟨y,hy⟩:=qU n.Bufs j (by omega)
       have hlv:(bL n)[j]? =some (dT n.Body y):=by unfold bL;rw [List.getElem?_map,hy];rfl
       refine zI<|zE<|zP<|R O<|G O<|G O<|zX O L (by omega) (N hlv)<|zS O zHu<|zF one3 Y O<|G O<|yD O<|G O<|rL0 O (fun g19_7=>qA O zAz O) O<|B 77 O (fun g19_7=>zD O zDx O Y O) O<|rL0 O (fun g19_7=>zK O O) O<|rLz [(78,_),(79,_)] O gv1 ⟨O,O,O,O,T⟩ (fun g19_7=>qI O el22 O O (by omega) (N hy)) O<|B 80 O (fun g19_7=>qA O zHv O) O<|B 81 O (fun g19_7=>zD O one3 O Y O) O<|B 82 O (fun g19_7=>zAg O O O) O<|yU O (fun h=>h)<|zA<|zC O (fun c7=>?_) (fun c7=>?_)
       ·try simp only [sx] at c7
        refine zJ O<|G O<|zS O zAz<|zF zDx Y O<|G O<|zX O el22 (by omega) (N hy)<|zS O zDz<|zF one9 Y O<|zT O O (yF [2,0,0] O ok34 (r48_clear hx y.Name hG (zQu hy O)) ⟨zB,O,zB,O,T⟩ O) ?_
        rintro _ _ ⟨_,⟨rfl,sv21,cd21,fu21,hE21,rfl⟩,rfl⟩
        refine zA<|zJ O<|G O<|qB O ⟨by omega,by omega⟩<|G O<|zA ?_
        refine ⟨⟨j+1,sv21,lu,cd21,fu21⟩,⟨by omega,(by rw [wS _ hy,sT,if_pos (by rw [zLh hlv];exact ⟨c7.2,c7.1⟩),←List.append_assoc,zJn,Int.zero_add];exact hE21)⟩,(by show n.Bufs.length-(j+1)<n.Bufs.length-j;omega),Weak.mk [true,true,true,true] ⟨zB,zB,zB,zB,zB,zB,zB,zB,T⟩ O⟩
       ·try simp only [sx] at c7
        refine zI<|zJ O<|G O<|qB O ⟨by omega,by omega⟩<|G O<|zA ?_
        refine ⟨⟨j+1,su,lu,cu,fu0⟩,⟨by omega,(by rw [wS _ hy,sT,if_neg (by rw [zLh hlv];exact fun h=>c7.elim (fun q=>q h.2) fun q=>h.1 q),List.append_nil];exact hx)⟩,(by show n.Bufs.length-(j+1)<n.Bufs.length-j;omega),Weak.mk [true,true,true,true] ⟨zB,zB,zB,zB,zB,zB,zB,zB,T⟩ O⟩
      ·try simp only [sx] at c6
       rw [qZ (l:=n.Bufs) (k:=j) (by omega)] at hx
       refine qK<|zJ O<|G O<|zS O zDh<|zF zAj Y O<|G O<|zX O el23 (by omega) (zCy hs)<|zQ zEz Y O<|zT O O (yF [2,0,0] O ok35 (r48_stmt hx hG s (zNt hR hsm) (by simp only [List.length_nil];omega) (r48_body b4 (gnN n) hG s)) ⟨zB,O,zB,O,T⟩ O) ?_
       rintro _ _ ⟨_,⟨rfl,sv22,cd22,fu22,sl22,hE22,rfl⟩,rfl⟩
       refine zA<|zJ O<|G O<|qB O ⟨by omega,by omega⟩<|G O<|zA ?_
       refine ⟨⟨k+1,sv22,sl22,cd22,fu22⟩,⟨by omega,(by rw [wS _ hs,sJ,←List.append_assoc,zJn,Int.zero_add];exact hE22)⟩,(by show n.Body.length-(k+1)<n.Body.length-k;omega),Weak.mk [true,true,true,true] ⟨zB,zB,zB,zB,zB,zB,zB,T⟩ O⟩
     ·try simp only [sx] at c5
      rw [qZ (l:=n.Body) (k:=k) (by omega)] at hq
      refine qK<|R O<|G O<|zT O O (yF [2,0,0] O ok36 (kT (g:=gnN n) hq 0 0 0 0 _ (fun _=>O)) ⟨zB,O,zB,O,zB,O,zB,O,zB,O,T⟩ O) ?_
      rintro _ _ ⟨_,⟨rfl,sv24,cd24,fu24,hE24,rfl⟩,rfl⟩
      refine zA<|zE<|R O<|G O<|qH O<|zM O fd90_5<|zF one4 (A 2 O) O<|zA<|zC O (fun c8=>?_) (fun c8=>?_)
      ·try simp only [sx] at c8
       refine R O<|zZ O (kS [some 11,some 5,some 3,none] O zr39 pl39 O O)<|D 3 sz39 O<|G O<|zA<|zN<|fin2 (qN agg39 O (A 3 O) O) (rs_c O) ?_
       rw [cmp_4 hv h3 h4 hE24 (by simpa using c8)];rfl
      ·try simp only [sx] at c8
       refine zI<|zE<|zU _ (kN 0 O (regs':=[]) (μ':=[_,_,_]) T ⟨EFle.refl _,EFle.row (ds:=[_,_,_,_,_,_,_]) ⟨.inl O,.inl O,.inl O,.inl O,.inl O,.inr ⟨O,O⟩,.inl O,T⟩,EFle.refl _,T⟩)<|qV 11 mixed (by kernel_rfl) O O<|zL O O (zK O O)<|zL O O (qL O O)<|zL O O (zG O zTi O)<|zL O O (zD O zIe O (A 1 O) O)<|zL O O (zK O O)<|zL O O (qL O O)<|zL O O (zG O fd90_1 O)<|zL O O (zD O one28 O (A 1 O) O)<|zL O O (zK O O)<|zL O O (zK O O)<|zL O O (kY O zr39 pl39 O)<|yJ<|D 2 sz39 O<|G O<|zA<|zN<|fin2 (qN agg39 O (A 2 O) O) (rs_c O) ?_
       rw [cmp_5 hv h3 h4 hE24 (by simpa using c8)];rfl
end Go.W
