/-
  What functions compute.
  Conditions: none.
-/
import Derived.Test.YtdldhbfgfkebjaaGreatDoorNC
import Derived.Test.YtdldhbfgfkebjaaGreatDoorPlain2
set_option linter.unusedSimpArgs false
set_option linter.unusedVariables false
set_option maxRecDepth 10000
namespace Go.W
open Go Go.Eng Go.Proofs Go.L41 Go.Br
attribute [local irreducible] AWP RWP TD fP
theorem cells_one (s:St):dM [s]=.c (.sl 20 [s.cs]):=by simp [St.cells_eq]
theorem zQi:lK Tryz.prog 82=some 4:=by kernel_rfl
theorem el62:dZ Tryz.prog 62=some (82,4,40):=by kernel_rfl
theorem zPr:bD Tryz.prog 82 0=some (0,9):=by kernel_rfl
theorem zIa:bD Tryz.prog 82 1=some (1,3):=by kernel_rfl
theorem zNf:bD Tryz.prog 82 2=some (2,3):=by kernel_rfl
theorem zCm:bD Tryz.prog 82 3=some (3,3):=by kernel_rfl
theorem ok20:bA Tryz.prog 20=true:=by kernel_rfl
theorem ok42:bA Tryz.prog 42=true:=by kernel_rfl
theorem ok95:bA Tryz.prog 95=true:=by kernel_rfl
theorem ok136:bA Tryz.prog 136=true:=by kernel_rfl
theorem sm149:pI Tryz.prog 149=some (Value.bool false):=by kernel_rfl
theorem sz82:(Tryz.prog.info? 82).map (·.size)=some 4:=by kernel_rfl
theorem zr82:dL Tryz.prog 82=some [(Value.string (ByteArray.mk #[])),(Value.int IntKind.i64 0),(Value.int IntKind.i64 0),(Value.int IntKind.i64 0)]:=by kernel_rfl
theorem zQd (a b:Lifetime):
    Pur cfg 44 [vL a,vL b] (vB (jZ a b)):=by
 refine zW Tryz.func44 O Tryz.ntmps44 Tryz.results44 O ?_
 exact m9
theorem zOr (l:List Lifetime) (hl:l.length<=1000000):
    Pur cfg 43 [vLs l] (vI (dT l)):=by
 refine zW Tryz.func43 O Tryz.ntmps43 Tryz.results43 O ?_
 intro z hz
 refine R O<|G O<|zA<|R O<|zS O O (ope_mkmap vB O O) ?_
 rintro _ _ ⟨b1,rfl,rfl⟩
 refine G O<|zA<|zF<|R O<|G O<|qD O el62<|G O<|zA<|zP<|zU ⟨[(9,.c _),(3,.c _),(7,.c _),(8,.c _)],[_]⟩ (Weak.mk [true] ⟨zB,zB,zB,zB,T⟩ O)<|qF 1 1 O O (Nat) (fun k=>[(9,vI k)]) (fun k=>[E.blk b1 (MapR vB (rN (l.take k)))]) (fun k=>k<=l.length/\(dT l=fI (l.take k) (l.drop k))) (fun k=>l.length-k) ⟨0,⟨by omega,O⟩,Weak.mk [true] ⟨zB,zB,zB,zB,T⟩ O⟩ ?_
 rintro k ⟨hk,hv⟩
 refine R O<|yC O<|zA<|zF<|zD O (fun c1=>?_) (fun c1=>?_)
 ·try simp only [sx] at c1
  obtain ⟨x,hx⟩:=qU l k (by omega)
  refine zI<|zF<|zP<|R O<|zY O el62 (by omega) (v (by assumption))<|zQ zQi zO O<|zS O O (yZ O zr82) ?_
  rintro _ _ ⟨b2,rfl,rfl⟩
  refine Y 0 sz82 O<|zA<|zF<|zP<|R O<|zJ O zPr<|zE one9 (A 0 O) O<|qS O ok96 (zEb _) ⟨zB,O,T⟩<|wE O<|G O<|zA<|zD O (fun c2=>?_) (fun c2=>?_)
  ·try simp only [sx] at c2
   refine R O<|G O<|zA<|zN<|zV O ?_
   rw [zGc hv hx (check_name c2) (by decide)]
  ·try simp only [sx] at c2
   refine R O<|G O<|zJ O zPr<|zE one9 (A 0 O) O<|zZ O (det_lookup 1 false O sm149 O O O (fun _ _=>CRep.lit _ O))<|G O<|zA<|zD O (fun c3=>?_) (fun c3=>?_)
   ·try simp only [sx] at c3
    rw [seen_get] at c3
    refine R O<|G O<|zA<|zN<|zV O ?_
    rw [zGc hv hx (check_dup c2 c3) (by decide)]
   ·try simp only [sx] at c3
    rw [seen_get] at c3
    refine R O<|zJ O zIa<|zE one3 (A 0 O) O<|yC O<|G O<|rL0 O (fun g9_3=>zH O zNf O) O<|B 28 O (fun g9_3=>zC O one3 O (A 0 O) O) O<|rL0 O (fun g9_3=>zH O zIa O) O<|B 30 O (fun g9_3=>zC O one3 O (A 0 O) O) O<|rLz [(29,_),(31,_)] O gv1 ⟨O,O,O,O,T⟩ (fun g9_3=>kM O O O) O<|r_or O (fun h=>(lzf h))<|G O<|rL0 O (fun g9_10=>zH O zCm O) O<|B 35 O (fun g9_10=>zC O one3 O (A 0 O) O) O<|B 36 O (fun g9_10=>kM O O O) O<|r_or O (fun h=>(lzf h))<|G O<|rL0 O (fun g9_15=>zH O zCm O) O<|B 40 O (fun g9_15=>zC O one3 O (A 0 O) O) O<|B 41 O (fun g9_15=>yH O O O) O<|r_or O (fun h=>(lzf h))<|G O<|zA<|zD O (fun c4=>?_) (fun c4=>?_)
    ·try simp only [sx] at c4
     refine R O<|G O<|zA<|zN<|zV O ?_
     rw [zGc hv hx (check_arg c2 c3 (by omega)) (by decide)]
    ·try simp only [sx] at c4
     refine zI<|zK O<|G O<|zJ O zPr<|zE one9 (A 0 O) O<|zAo O O (zPa 1 true O sm149 O O O (zB) O)<|zA<|zK O<|qA O ⟨by omega,by omega⟩<|G O<|zA ?_
     refine ⟨k+1,⟨by omega,valid_ok hv hx (check_ok c2 c3 (by omega))⟩,(by omega),Weak.mk [false,true] ⟨zB,zB,zB,zB,T⟩ (by rw [seen_next hx];rfl)⟩
 ·try simp only [sx] at c1
  refine qK<|R O<|G O<|zA<|zN<|zV O ?_
  rw [zRt hv (by omega)]
theorem zEk (l:List St) (ih:∀s,s∈l->∀(m:Nat) (x:Int),m<=5000->x=m->Pur cfg 20 [dM s.Body,vI x] (vI (gJ s.Body m))) (m:Nat) (x:Int) (hf:nM l) (hl:l.length<=140737488355328) (hm:m<=5000) (hx:x=m):
    Pur cfg 20 [dM l,vI x] (vI (gJ l m)):=by
 refine zW Tryz.func20 O Tryz.ntmps20 Tryz.results20 O ?_
 intro z hz
 have hwB:wB m<=5700000000000000000:=by unfold wB;omega
 refine R O<|G O<|zA<|R O<|G O<|qD O el23<|G O<|zA<|zF<|R O<|G O<|zA<|zP<|zU ⟨[(6,.c _),(5,.c _),(0,.c _),(1,.c _)],[]⟩ (Weak.mk [] ⟨zB,zB,zB,zB,T⟩ O) ?_
 refine qF 2 0 O O (Nat×Nat) (fun ⟨k,n⟩=>[(6,vI k),(5,vI n)]) (fun ⟨k,n⟩=>[]) (fun ⟨k,n⟩=>k<=l.length/\(n<=wB m)/\(l.length<=n)/\(gJ l m=fA (l.drop k) m n)) (fun ⟨k,n⟩=>l.length-k) ⟨⟨0,l.length⟩,⟨by omega,by unfold wB;omega,by omega,O⟩,Weak.mk [] ⟨zB,VLe.of_eq (congrArg vI (by simp)),zB,zB,T⟩ O⟩ ?_
 rintro ⟨k,n⟩ ⟨hk,hn1,hn2,hp⟩
 show AWP _ _ _ _ _ ⟨[(6,vI k),(5,vI n)]++_,[]++_⟩
 refine zF<|R O<|G O<|G O<|qD O el23<|yC O<|G O<|rL0 O (fun g3_4=>zM O O) O<|rL0 O (fun g3_4=>zM O O) O<|rLz [(14,_),(15,_)] O gv1 ⟨O,O,O,O,T⟩ (fun g3_4=>wL O O O) O<|yW O (fun h=>h)<|zA<|zD O (fun c1=>?_) (fun c1=>?_)
 ·try simp only [sx] at c1
  obtain ⟨s,hs⟩:=qU l k (by omega)
  have hsf:=zRb hf s (qE hs)
  obtain ⟨f1,f2,f3,f4,f5⟩:=St.fit_eq hsf
  have hwl:=weigh_lt (n:=n) hs hf hm (by omega) (by omega)
  refine zI<|zF<|zP<|qW 30 mixed (by kernel_rfl) O O<|zL O O (zM O O)<|zL O O (zM O O)<|zL O O (zM O O)<|zL O O (qH O el23 O O (by omega) (zCc hs))<|zL O O (qB O zBi O)<|zL O O (qC O yN O zO O)<|zL O O (zM O O)<|zL O O (qR O ok46 (base_Weigh s.E m x f3 (by omega) hx) ⟨zB,O,zB,O,T⟩)<|zL O O (wC O O O ⟨by omega,by omega⟩)<|zL O O (zM O O)<|zL O O (zM O O)<|zL O O (qH O el23 O O (by omega) (zCc hs))<|zL O O (qB O zEz O)<|zL O O (zC O wI O zO O)<|zL O O (kT [none,none,none,none,none,none,none,none,none,none,some 2,none,some 13] O zr57 pl57 O O)<|zL O O (zM O O)<|zL O O (qR O ok46 (base_Weigh (lG s.Idx) m x (idxE_fit f1 f2) (by omega) hx) ⟨zB,O,zB,O,T⟩)<|zL O O (wC O O O ⟨by omega,by omega⟩)<|zL O O (zM O O)<|zL O O (zM O O)<|zL O O (qH O el23 O O (by omega) (zCc hs))<|zL O O (qB O zBb O)<|zL O O (zC O zAh O zO O)<|zL O O (zM O O)<|zL O O (zM O O)<|zL O O (kI O O O ⟨by omega,by omega⟩)<|zL O O (zFb O O O)<|zL O O (qR O ok20 (ih s (qE hs) (m-n) _ (by omega) (by omega)) ⟨zB,O,zB,O,T⟩)<|zL O O (wC O O O ⟨by omega,by omega⟩)<|zL O O (yR O O)<|yM<|zA<|zK O<|G O<|qA O ⟨by omega,by omega⟩<|G O<|zA ?_
  refine ⟨⟨k+1,n+fF s.E m+fF (lG s.Idx) m+gJ s.Body (m-n)⟩,⟨by omega,hwl,by omega,weighSs_next hs hp (by omega)⟩,(by show l.length-(k+1)<l.length-k;omega),Weak.mk [] ⟨zB,VLe.of_eq (congrArg vI (by omega)),zB,zB,T⟩ O⟩
 ·try simp only [sx] at c1
  refine qK<|R O<|G O<|G O<|zA<|zN<|zV O ?_
  exact congrArg vI (by rw [←weighSs_end hp hx (by omega)])
theorem zKl (s:St):∀(m:Nat) (x:Int),s.fit->m<=5000->x=m->Pur cfg 20 [dM s.Body,vI x] (vI (gJ s.Body m)):=by
  induction s using St.ind with
  |_ s ih=>
    intro m x hf hm hx
    obtain ⟨_,_,_,f4,f5⟩:=St.fit_eq hf
    exact zEk s.Body (fun a ha m x h1 h2=>ih a ha m x (zRb f5 a ha) h1 h2) m x f5 f4 hm hx
theorem zUj (l:List St) (m:Nat) (x:Int) (hf:nM l) (hl:l.length<=140737488355328) (hm:m<=5000) (hx:x=m):Pur cfg 20 [dM l,vI x] (vI (gJ l m)):=
  zEk l (fun a ha m x h1 h2=>zKl a m x (zRb hf a ha) h1 h2) m x hf hl hm hx
theorem zOj (l:List ByteArray) (s:ByteArray) (hl:l.length<=4294967296):
    Pur cfg 136 [vSs l,vS s] (vSs (jY l s)):=by
 refine zW Tryz.func136 O Tryz.ntmps136 Tryz.results136 O ?_
 intro z hz
 refine R O<|zZ O (yO 1 O O)<|zA<|R O<|G O<|zA<|zF<|zP<|zU ⟨[(5,.c _),(0,.c _),(1,.c _)],[]⟩ (Weak.mk [] ⟨zB,zB,zB,T⟩ O)<|qF 1 0 O O (Nat) (fun k=>[(5,vI k)]) (fun k=>[]) (fun k=>k<=l.length/\(l.take k).all (below s)=true) (fun k=>l.length-k) ⟨0,⟨by omega,O⟩,Weak.mk [] ⟨zB,zB,zB,T⟩ O⟩ ?_
 rintro k ⟨hk,hp⟩
 refine zF<|R O<|G O<|G O<|qD O el78<|yC O<|G O<|rL0 O (fun g2_4=>zM O O) O<|rL0 O (fun g2_4=>zM O O) O<|rLz [(12,_),(13,_)] O gv1 ⟨O,O,O,O,T⟩ (fun g2_4=>qH O el78 O O (by simp only [Lz,cond_true,cond_false,Bool.and_eq_true,Bool.or_eq_true,Bool.not_eq_true',Bool.not_eq_false',Bool.or_eq_false_iff,Bool.and_eq_false_iff,decide_eq_true_eq,decide_eq_false_iff_not,Bool.not_eq_true,Bool.not_eq_false] at g2_4;omega) (v (zUk (by simp only [Lz,cond_true,cond_false,Bool.and_eq_true,Bool.or_eq_true,Bool.not_eq_true',Bool.not_eq_false',Bool.or_eq_false_iff,Bool.and_eq_false_iff,decide_eq_true_eq,decide_eq_false_iff_not,Bool.not_eq_true,Bool.not_eq_false] at g2_4;omega)))) O<|B 14 O (fun g2_4=>zC O one9 O zO O) O<|rL0 O (fun g2_4=>zM O O) O<|rLz [(15,_),(16,_)] O gv1 ⟨O,O,O,O,T⟩ (fun g2_4=>det_slss O O O) O<|yW O (fun h=>h)<|zA<|zD O (fun c1=>?_) (fun c1=>?_)
 ·obtain ⟨hlt,hlt2⟩:=with_1t c1
  refine zI<|zP<|zK O<|G O<|qA O ⟨by omega,by omega⟩<|G O<|zA ?_
  refine ⟨k+1,⟨by omega,below_next (zUk hlt) hp hlt2⟩,(by omega),Weak.mk [] ⟨zB,zB,zB,T⟩ O⟩
 ·have h1f:=with_1f c1
  refine qK<|zF<|R O<|G O<|G O<|qD O el78<|yC O<|G O<|rL0 O (fun g4_4=>zM O O) O<|rL0 O (fun g4_4=>zM O O) O<|rLz [(26,_),(27,_)] O gv1 ⟨O,O,O,O,T⟩ (fun g4_4=>qH O el78 O O (by simp only [Lz,cond_true,cond_false,Bool.and_eq_true,Bool.or_eq_true,Bool.not_eq_true',Bool.not_eq_false',Bool.or_eq_false_iff,Bool.and_eq_false_iff,decide_eq_true_eq,decide_eq_false_iff_not,Bool.not_eq_true,Bool.not_eq_false] at g4_4;omega) (v (zUk (by simp only [Lz,cond_true,cond_false,Bool.and_eq_true,Bool.or_eq_true,Bool.not_eq_true',Bool.not_eq_false',Bool.or_eq_false_iff,Bool.and_eq_false_iff,decide_eq_true_eq,decide_eq_false_iff_not,Bool.not_eq_true,Bool.not_eq_false] at g4_4;omega)))) O<|B 28 O (fun g4_4=>zC O one9 O zO O) O<|rL0 O (fun g4_4=>zM O O) O<|rLz [(29,_),(30,_)] O gv1 ⟨O,O,O,O,T⟩ (fun g4_4=>kE O O O) O<|yW O (fun h=>h)<|zA<|zD O (fun c2=>?_) (fun c2=>?_)
  ·have h2t:=with_2t c2
   refine R O<|G O<|G O<|zA<|zN<|zV O ?_
   rw [with_is hp h1f h2t]
  ·have h2f:=with_2f c2
   have hnew:=with_new hk hp h1f h2f
   refine zI<|R O<|G O<|qT _ (kZ 9 1)<|zA<|R O<|G O<|G O<|G O<|zZ O (zPv O el78 O O (by omega))<|zS O O (yI 0 O el78 O O O (by simp only [List.length_map,List.length_append,List.length_cons,List.length_nil,List.length_take,List.length_drop];omega) (by simp only [List.length_map,List.length_append,List.length_cons,List.length_nil,List.length_take,List.length_drop];omega)) ?_
   rintro _ _ ⟨sv2,rfl,rfl⟩
   refine G O<|zA<|R O<|G O<|G O<|zZ O (yJ O el78 zr9 O O O O)<|zS O O (yI 0 O el78 O O O (by simp only [List.length_map,List.length_append,List.length_cons,List.length_nil,List.length_take,List.length_drop];omega) (by simp only [List.length_map,List.length_append,List.length_cons,List.length_nil,List.length_take,List.length_drop];omega)) ?_
   rintro _ _ ⟨sv3,rfl,rfl⟩
   refine G O<|zA<|R O<|G O<|G O<|G O<|zZ O (zPw O el78 O O (by omega))<|zS O O (yI 0 O el78 O O O (by simp only [List.length_map,List.length_append,List.length_cons,List.length_nil,List.length_take,List.length_drop];omega) (by simp only [List.length_map,List.length_append,List.length_cons,List.length_nil,List.length_take,List.length_drop];omega)) ?_
   rintro _ _ ⟨sv4,rfl,rfl⟩
   refine G O<|zA<|zU _ (Weak.vecEq 0 O (rows':=(jY l s).map fun s=>[cS s]) (by rw [hnew];simp))<|zU _ (yT 0 O (regs':=[(47,_),(4,_)]) (μ':=[]) ⟨FLe.sl,FLe.sl,T⟩ T)<|zN<|zV O ?_
   rfl
theorem zSq (e:Ex) (he:e.wt<=1000000):
    Pur cfg 95 [vE e] (vSs (lE e)):=by
 refine zW Tryz.func95 O Tryz.ntmps95 Tryz.results95 O ?_
 intro z hz
 have hnl:=nodes_wt e
 refine R O<|zS O O (qP O O) ?_
 rintro _ _ ⟨b1,rfl,rfl⟩
 refine zZ O (yO 1 O O)<|zA<|R O<|zZ O (yO 1 O O)<|zA<|R O<|zQ yN (A 0 O) O<|qS O ok135 (OwnR.pur (ref14_All e (by omega))) ⟨zB,O,T⟩<|G O<|zA<|zF<|R O<|G O<|zA<|zP<|zU ⟨[(5,.c _),(3,.c _),(4,.c _)],[]⟩ (Weak.mk [false] ⟨zB,zB,zB,T⟩ O)<|qF 2 0 O O (Nat) (fun k=>[(5,vI k),(3,vSs (fX [] (bQ ((bH e).take k))))]) (fun k=>[]) (fun k=>k<=(bH e).length) (fun k=>(bH e).length-k) ⟨0,(by omega),Weak.mk [] ⟨zB,VLe.of_eq (O),zB,T⟩ O⟩ ?_
 rintro k hk
 refine zF<|R O<|G O<|G O<|qD O el55<|yC O<|zA<|zD O (fun c1=>?_) (fun c1=>?_)
 ·try simp only [sx] at c1
  obtain ⟨x,hx⟩:=qU (bH e) k (by omega)
  have hlen:=zOl (e:=e) (pre:=(bH e).take k) (suf:=(bH e).drop k) (by rw [List.take_append_drop])
  have hxw:=zEv e x (qE hx)
  obtain ⟨_,hXI,_⟩:=x.parts hxw
  refine zI<|zF<|zP<|zF<|R O<|G O<|G O<|zY O el55 (by omega) (wF (by assumption))<|zT O kR<|zE one3 zO O<|yE O<|zA<|zD O (fun c2=>?_) (fun c2=>?_)
  ·try simp only [sx] at c2
   refine zK O<|G O<|G O<|G O<|zY O el55 (by omega) (wF (by assumption))<|zT O zCo<|zE one9 zO O<|qS O ok136 (zOj (fX [] (bQ ((bH e).take k))) x.Name (by have:=zGn (bQ ((bH e).take k));omega)) ⟨zB,O,zB,O,T⟩<|G O<|zA<|R O<|G O<|zA<|zP<|zU ⟨[(6,.c _),(3,.c _),(4,.c _),(5,.c _)],[]⟩ (Weak.mk [] ⟨zB,zB,zB,zB,T⟩ O) ?_
   exact v2
  ·try simp only [sx] at c2
   refine zI<|R O<|G O<|zA<|zP<|zU ⟨[(6,.c _),(3,.c _),(4,.c _),(5,.c _)],[]⟩ (Weak.mk [] ⟨zB,zB,zB,zB,T⟩ O) ?_
   exact v2
 ·try simp only [sx] at c1
  rw [qX (l:=bH e) (k:=k) (by omega)]
  refine qK<|R O<|G O<|G O<|zA<|zN<|zV O ?_
  rfl
theorem zLg (s:St) (t:ByteArray) (ih:∀a,a∈s.Body->a.wt<=900000->Pur cfg 42 [vSt a,vS t] (vB (mY t a))) (hs:s.wt<=900000):
    Pur cfg 42 [vSt s,vS t] (vB (mY t s)):=by
 refine zW Tryz.func42 O Tryz.ntmps42 Tryz.results42 O ?_
 intro z hz
 obtain ⟨hE,hI,hIw,hB,hBw⟩:=St.parts hs
 have hsw:=St.wt_eq s
 have hix:=idxE_wt s.Idx
 have hrl:=zGn (bQ (bH s.E))
 have hrl2:=zGn (bQ (bH (lG s.Idx)))
 have hra:=zGh s.E
 have hra2:=zGh (lG s.Idx)
 refine R O<|zS O O (qP O O) ?_
 rintro _ _ ⟨b1,rfl,rfl⟩
 refine G O<|zA<|zF<|R O<|zJ O zBr<|zE one3 (A 0 O) O<|yE O<|G O<|rL0 O (fun g1_3=>zH O zBr O) O<|B 10 O (fun g1_3=>zC O one3 O (A 0 O) O) O<|B 11 O (fun g1_3=>kH O O O) O<|r_or O (fun h=>(lzf h))<|G O<|rL0 O (fun g1_8=>zH O zBq O) O<|B 15 O (fun g1_8=>zC O one9 O (A 0 O) O) O<|rL0 O (fun g1_8=>zM O O) O<|rLz [(16,_),(17,_)] O gv1 ⟨O,O,O,O,T⟩ (fun g1_8=>kE O O O) O<|yW O (fun h=>h)<|zA<|zD O (fun c1=>?_) (fun c1=>?_)
 ·refine R O<|G O<|zA<|zN<|zV O ?_
  rw [acc_1 c1]
 ·refine zI<|zF<|R O<|zJ O zEz<|zE wI (A 0 O) O<|zZ O (kT [none,none,none,none,none,none,none,none,none,none,some 2,none,some 13] O zr57 pl57 O O)<|qS O ok95 (zSq (lG s.Idx) (by omega)) ⟨zB,O,T⟩<|G O<|qS O ok94 (zRj (lE (lG s.Idx)) t (by unfold lE;omega)) ⟨zB,O,zB,O,T⟩<|G O<|rL0 O (fun g3_6=>zH O zBi O) O<|B 27 O (fun g3_6=>qC O yN O (A 0 O) O) O<|B 28 O (fun g3_6=>qR O ok95 (zSq s.E (by omega)) ⟨zB,O,T⟩) O<|rL0 O (fun g3_6=>zM O O) O<|rLz [(29,_),(30,_)] O gv1 ⟨O,O,O,O,T⟩ (fun g3_6=>qR O ok94 (zRj (lE s.E) t (by unfold lE;omega)) ⟨zB,O,zB,O,T⟩) O<|r_or O (fun h=>(lzf h))<|zA<|zD O (fun c2=>?_) (fun c2=>?_)
  ·refine R O<|G O<|zA<|zN<|zV O ?_
   rw [acc_2 c2]
  ·have h0:=acc_0 c1 c2
   refine zI<|zF<|R O<|G O<|zA<|zP<|zU ⟨[(5,.c _),(1,.c _),(2,.c _)],[_]⟩ (Weak.mk [true] ⟨zB,zB,zB,T⟩ O)<|qF 1 0 O O (Nat) (fun k=>[(5,vI k)]) (fun k=>[]) (fun k=>k<=s.Body.length/\(pP t s.Body=pP t (s.Body.drop k))) (fun k=>s.Body.length-k) ⟨0,⟨by omega,O⟩,Weak.mk [true] ⟨zB,zB,zB,T⟩ O⟩ ?_
   rintro k ⟨hk,hp⟩
   refine zF<|R O<|G O<|zJ O zBb<|zE zAh (A 0 O) O<|qD O el23<|yC O<|zA<|zD O (fun c3=>?_) (fun c3=>?_)
   ·try simp only [sx] at c3
    obtain ⟨a,ha⟩:=qU s.Body k (by omega)
    refine zI<|zF<|zP<|R O<|zJ O zBb<|zE zAh (A 0 O) O<|G O<|zY O el23 (by omega) (zCc ha)<|zQ zEi zO O<|G O<|qS O ok42 (ih a (qE ha) (by have:=kC (qE ha);omega)) ⟨zB,O,zB,O,T⟩<|zA<|zD O (fun c4=>?_) (fun c4=>?_)
    ·try simp only [sx] at c4
     refine R O<|G O<|zA<|zN<|zV O ?_
     rw [h0,hp,yB ha,pP,c4];rfl
    ·try simp only [sx] at c4
     refine zI<|zK O<|G O<|qA O ⟨by omega,by omega⟩<|G O<|zA ?_
     refine ⟨k+1,⟨by omega,by rw [hp,yB ha,pP,c4];rfl⟩,(by omega),Weak.mk [true] ⟨zB,zB,zB,T⟩ O⟩
   ·try simp only [sx] at c3
    refine qK<|R O<|G O<|zA<|zN<|zV O ?_
    rw [h0,hp,wG (by omega),pP]
theorem ref41_Accesses (s:St) (t:ByteArray) (hs:s.wt<=900000):Pur cfg 42 [vSt s,vS t] (vB (mY t s)):=by
  induction s using St.ind with
  |_ s ih=>exact zLg s t ih hs
end Go.W
