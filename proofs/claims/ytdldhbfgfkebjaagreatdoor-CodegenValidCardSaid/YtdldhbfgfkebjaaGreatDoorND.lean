/-
  What functions compute.
  Conditions: none.
-/
import Derived.Test.YtdldhbfgfkebjaaGreatDoorNC
import Derived.Test.YtdldhbfgfkebjaaGreatDoorPlain2
set_option linter.unusedSimpArgs false
set_option linter.unusedVariables false
set_option maxRecDepth 10000
namespace Go.W
open Go Go.Eng Go.Proofs Go.L41 Go.Br
attribute [local irreducible] AWP RWP TD fY
theorem cells_one (s:St):fV [s]=.c (.sl 20 [s.cs]):=by simp [St.cells_eq]
theorem agg82:lI Tryz.prog 82=some 4:=by kernel_rfl
theorem el62:fA Tryz.prog 62=some (82,4,40):=by kernel_rfl
theorem fd82_0:bD Tryz.prog 82 0=some (0,9):=by kernel_rfl
theorem zSs:bD Tryz.prog 82 1=some (1,3):=by kernel_rfl
theorem fd82_2:bD Tryz.prog 82 2=some (2,3):=by kernel_rfl
theorem zOu:bD Tryz.prog 82 3=some (3,3):=by kernel_rfl
theorem ok20:bA Tryz.prog 20=true:=by kernel_rfl
theorem ok42:bA Tryz.prog 42=true:=by kernel_rfl
theorem ok95:bA Tryz.prog 95=true:=by kernel_rfl
theorem ok136:bA Tryz.prog 136=true:=by kernel_rfl
theorem sm149:pR Tryz.prog 149=some (Value.bool false):=by kernel_rfl
theorem sz82:(Tryz.prog.info? 82).map (·.size)=some 4:=by kernel_rfl
theorem zr82:dS Tryz.prog 82=some [(Value.string (ByteArray.mk #[])),(Value.int IntKind.i64 0),(Value.int IntKind.i64 0),(Value.int IntKind.i64 0)]:=by kernel_rfl
theorem zHf (a b:Lifetime):
    Pur cfg 44 [vL a,vL b] (vB (jT a b)):=by
 refine zU Tryz.func44 O Tryz.ntmps44 Tryz.results44 O ?_
 intro z hz
 refine R O<|zV O O (qO O O) ?_
 rintro _ _ ⟨b1,rfl,rfl⟩
 refine zV O O (qO O O) ?_
 rintro _ _ ⟨b2,rfl,rfl⟩
 refine G O<|zA<|R O<|zG O zSs<|zH one3 (Y 1 O) O<|zG O fd82_2<|zH one3 (Y 0 O) O<|zW O (kQ O O O)<|G O<|rL0 O (fun g1_5=>zD O zSs O) O<|A 11 O (fun g1_5=>zF O one3 O (Y 0 O) O) O<|rL0 O (fun g1_5=>zD O fd82_2 O) O<|A 13 O (fun g1_5=>zF O one3 O (Y 1 O) O) O<|rLz [(12,_),(14,_)] O J ⟨O,O,O,O,T⟩ (fun g1_5=>kQ O O O) O<|yK O (fun h=>h)<|G O<|zA<|zK<|zR O ?_
 exact O
theorem zFw (l:List Lifetime) (hl:l.length<=1000000):
    Pur cfg 43 [vLs l] (vI (dW l)):=by
 refine zU Tryz.func43 O Tryz.ntmps43 Tryz.results43 O ?_
 intro z hz
 refine R O<|G O<|zA<|R O<|zV O O (ope_mkmap vB O O) ?_
 rintro _ _ ⟨b1,rfl,rfl⟩
 refine G O<|zA<|zI<|R O<|G O<|zZ O el62<|G O<|zA<|zP<|zT ⟨[(9,.c _),(3,.c _),(7,.c _),(8,.c _)],[_]⟩ (Weak.mk [true] ⟨zB,zB,zB,zB,T⟩ O)<|qG 1 1 O O (Nat) (fun k=>[(9,vI k)]) (fun k=>[E.blk b1 (MapR vB (sB (l.take k)))]) (fun k=>k<=l.length/\(dW l=fW (l.take k) (l.drop k))) (fun k=>l.length-k) ⟨0,⟨by omega,O⟩,Weak.mk [true] ⟨zB,zB,zB,zB,T⟩ O⟩ ?_
 rintro k ⟨hk,hv⟩
 refine R O<|yB O<|zA<|zI<|zC O (fun c1=>?_) (fun c1=>?_)
 ·try simp only [sx] at c1
  obtain ⟨x,hx⟩:=qU l k (by omega)
  refine zJ<|zI<|zP<|R O<|qD O el62 (by omega) (B (by assumption))<|zO agg82 zQ O<|zV O O (yN O zr82) ?_
  rintro _ _ ⟨b2,rfl,rfl⟩
  refine D 0 sz82 O<|zA<|zI<|zP<|R O<|zG O fd82_0<|zH one9 (Y 0 O) O<|qN O ok96 (zDt _) ⟨zB,O,T⟩<|kP O<|G O<|zA<|zC O (fun c2=>?_) (fun c2=>?_)
  ·try simp only [sx] at c2
   refine R O<|G O<|zA<|zK<|zR O ?_
   rw [zQy hv hx (check_name c2) (by decide)]
  ·try simp only [sx] at c2
   refine R O<|G O<|zG O fd82_0<|zH one9 (Y 0 O) O<|zW O (det_lookup 1 false O sm149 O O O (fun _ _=>CRep.lit _ O))<|G O<|zA<|zC O (fun c3=>?_) (fun c3=>?_)
   ·try simp only [sx] at c3
    rw [seen_get] at c3
    refine R O<|G O<|zA<|zK<|zR O ?_
    rw [zQy hv hx (check_dup c2 c3) (by decide)]
   ·try simp only [sx] at c3
    rw [seen_get] at c3
    refine R O<|zG O zSs<|zH one3 (Y 0 O) O<|yB O<|G O<|rL0 O (fun g9_3=>zD O fd82_2 O) O<|A 28 O (fun g9_3=>zF O one3 O (Y 0 O) O) O<|rL0 O (fun g9_3=>zD O zSs O) O<|A 30 O (fun g9_3=>zF O one3 O (Y 0 O) O) O<|rLz [(29,_),(31,_)] O J ⟨O,O,O,O,T⟩ (fun g9_3=>kM O O O) O<|r_or O (fun h=>(lzf h))<|G O<|rL0 O (fun g9_10=>zD O zOu O) O<|A 35 O (fun g9_10=>zF O one3 O (Y 0 O) O) O<|A 36 O (fun g9_10=>kM O O O) O<|r_or O (fun h=>(lzf h))<|G O<|rL0 O (fun g9_15=>zD O zOu O) O<|A 40 O (fun g9_15=>zF O one3 O (Y 0 O) O) O<|A 41 O (fun g9_15=>yG O O O) O<|r_or O (fun h=>(lzf h))<|G O<|zA<|zC O (fun c4=>?_) (fun c4=>?_)
    ·try simp only [sx] at c4
     refine R O<|G O<|zA<|zK<|zR O ?_
     rw [zQy hv hx (check_arg c2 c3 (by omega)) (by decide)]
    ·try simp only [sx] at c4
     refine zJ<|zM O<|G O<|zG O fd82_0<|zH one9 (Y 0 O) O<|zCs O O (zOb 1 true O sm149 O O O (zB) O)<|zA<|zM O<|qB O ⟨by omega,by omega⟩<|G O<|zA ?_
     refine ⟨k+1,⟨by omega,valid_ok hv hx (check_ok c2 c3 (by omega))⟩,(by omega),Weak.mk [false,true] ⟨zB,zB,zB,zB,T⟩ (by rw [seen_next hx];rfl)⟩
 ·try simp only [sx] at c1
  refine qH<|R O<|G O<|zA<|zK<|zR O ?_
  rw [valid_end hv (by omega)]
theorem zEb (l:List St) (ih:∀s,s∈l->∀(m:Nat) (x:Int),m<=5000->x=m->Pur cfg 20 [fV s.Body,vI x] (vI (gV s.Body m))) (m:Nat) (x:Int) (hf:nZ l) (hl:l.length<=140737488355328) (hm:m<=5000) (hx:x=m):
    Pur cfg 20 [fV l,vI x] (vI (gV l m)):=by
 refine zU Tryz.func20 O Tryz.ntmps20 Tryz.results20 O ?_
 intro z hz
 have hwB:wB m<=5700000000000000000:=by unfold wB;omega
 refine R O<|G O<|zA<|R O<|G O<|zZ O el23<|G O<|zA<|zI<|R O<|G O<|zA<|zP<|zT ⟨[(6,.c _),(5,.c _),(0,.c _),(1,.c _)],[]⟩ (Weak.mk [] ⟨zB,zB,zB,zB,T⟩ O) ?_
 refine qG 2 0 O O (Nat×Nat) (fun ⟨k,n⟩=>[(6,vI k),(5,vI n)]) (fun ⟨k,n⟩=>[]) (fun ⟨k,n⟩=>k<=l.length/\(n<=wB m)/\(l.length<=n)/\(gV l m=fB (l.drop k) m n)) (fun ⟨k,n⟩=>l.length-k) ⟨⟨0,l.length⟩,⟨by omega,by unfold wB;omega,by omega,O⟩,Weak.mk [] ⟨zB,VLe.of_eq (congrArg vI (by simp)),zB,zB,T⟩ O⟩ ?_
 rintro ⟨k,n⟩ ⟨hk,hn1,hn2,hp⟩
 show AWP _ _ _ _ _ ⟨[(6,vI k),(5,vI n)]++_,[]++_⟩
 refine zI<|R O<|G O<|G O<|zZ O el23<|yB O<|G O<|rL0 O (fun g3_4=>zN O O) O<|rL0 O (fun g3_4=>zN O O) O<|rLz [(14,_),(15,_)] O J ⟨O,O,O,O,T⟩ (fun g3_4=>kQ O O O) O<|yK O (fun h=>h)<|zA<|zC O (fun c1=>?_) (fun c1=>?_)
 ·try simp only [sx] at c1
  obtain ⟨s,hs⟩:=qU l k (by omega)
  have hsf:=zQf hf s (qA hs)
  obtain ⟨f1,f2,f3,f4,f5⟩:=St.fit_eq hsf
  have hwl:=weigh_lt (n:=n) hs hf hm (by omega) (by omega)
  refine zJ<|zI<|zP<|qW 30 mixed (by kernel_rfl) O O<|zL O O (zN O O)<|zL O O (zN O O)<|zL O O (zN O O)<|zL O O (qL O el23 O O (by omega) (zEl hs))<|zL O O (qF O zDf O)<|zL O O (qC O yP O zQ O)<|zL O O (zN O O)<|zL O O (qS O ok46 (base_Weigh s.E m x f3 (by omega) hx) ⟨zB,O,zB,O,T⟩)<|zL O O (kZ O O O ⟨by omega,by omega⟩)<|zL O O (zN O O)<|zL O O (zN O O)<|zL O O (qL O el23 O O (by omega) (zEl hs))<|zL O O (qF O zKa O)<|zL O O (zF O wJ O zQ O)<|zL O O (kY [none,none,none,none,none,none,none,none,none,none,some 2,none,some 13] O zr57 pl57 O O)<|zL O O (zN O O)<|zL O O (qS O ok46 (base_Weigh (lQ s.Idx) m x (idxE_fit f1 f2) (by omega) hx) ⟨zB,O,zB,O,T⟩)<|zL O O (kZ O O O ⟨by omega,by omega⟩)<|zL O O (zN O O)<|zL O O (zN O O)<|zL O O (qL O el23 O O (by omega) (zEl hs))<|zL O O (qF O zCo O)<|zL O O (zF O zBm O zQ O)<|zL O O (zN O O)<|zL O O (zN O O)<|zL O O (kA O O O ⟨by omega,by omega⟩)<|zL O O (zFn O O O)<|zL O O (qS O ok20 (ih s (qA hs) (m-n) _ (by omega) (by omega)) ⟨zB,O,zB,O,T⟩)<|zL O O (kZ O O O ⟨by omega,by omega⟩)<|zL O O (yU O O)<|yJ<|zA<|zM O<|G O<|qB O ⟨by omega,by omega⟩<|G O<|zA ?_
  refine ⟨⟨k+1,n+fH s.E m+fH (lQ s.Idx) m+gV s.Body (m-n)⟩,⟨by omega,hwl,by omega,weighSs_next hs hp (by omega)⟩,(by show l.length-(k+1)<l.length-k;omega),Weak.mk [] ⟨zB,VLe.of_eq (congrArg vI (by omega)),zB,zB,T⟩ O⟩
 ·try simp only [sx] at c1
  refine qH<|R O<|G O<|G O<|zA<|zK<|zR O ?_
  exact congrArg vI (by rw [←weighSs_end hp hx (by omega)])
theorem zJr (s:St):∀(m:Nat) (x:Int),s.fit->m<=5000->x=m->Pur cfg 20 [fV s.Body,vI x] (vI (gV s.Body m)):=by
  induction s using St.ind with
  |_ s ih=>
    intro m x hf hm hx
    obtain ⟨_,_,_,f4,f5⟩:=St.fit_eq hf
    exact zEb s.Body (fun a ha m x h1 h2=>ih a ha m x (zQf f5 a ha) h1 h2) m x f5 f4 hm hx
theorem zTr (l:List St) (m:Nat) (x:Int) (hf:nZ l) (hl:l.length<=140737488355328) (hm:m<=5000) (hx:x=m):Pur cfg 20 [fV l,vI x] (vI (gV l m)):=
  zEb l (fun a ha m x h1 h2=>zJr a m x (zQf hf a ha) h1 h2) m x hf hl hm hx
theorem zNn (l:List ByteArray) (s:ByteArray) (hl:l.length<=4294967296):
    Pur cfg 136 [vSs l,vS s] (vSs (lG l s)):=by
 refine zU Tryz.func136 O Tryz.ntmps136 Tryz.results136 O ?_
 intro z hz
 refine R O<|zW O (yX 1 O O)<|zA<|R O<|G O<|zA<|zI<|zP<|zT ⟨[(5,.c _),(0,.c _),(1,.c _)],[]⟩ (Weak.mk [] ⟨zB,zB,zB,T⟩ O)<|qG 1 0 O O (Nat) (fun k=>[(5,vI k)]) (fun k=>[]) (fun k=>k<=l.length/\(l.take k).all (below s)=true) (fun k=>l.length-k) ⟨0,⟨by omega,O⟩,Weak.mk [] ⟨zB,zB,zB,T⟩ O⟩ ?_
 rintro k ⟨hk,hp⟩
 refine zI<|R O<|G O<|G O<|zZ O el78<|yB O<|G O<|rL0 O (fun g2_4=>zN O O) O<|rL0 O (fun g2_4=>zN O O) O<|rLz [(12,_),(13,_)] O J ⟨O,O,O,O,T⟩ (fun g2_4=>qL O el78 O O (by simp only [Lz,cond_true,cond_false,Bool.and_eq_true,Bool.or_eq_true,Bool.not_eq_true',Bool.not_eq_false',Bool.or_eq_false_iff,Bool.and_eq_false_iff,decide_eq_true_eq,decide_eq_false_iff_not,Bool.not_eq_true,Bool.not_eq_false] at g2_4;omega) (B (zTs (by simp only [Lz,cond_true,cond_false,Bool.and_eq_true,Bool.or_eq_true,Bool.not_eq_true',Bool.not_eq_false',Bool.or_eq_false_iff,Bool.and_eq_false_iff,decide_eq_true_eq,decide_eq_false_iff_not,Bool.not_eq_true,Bool.not_eq_false] at g2_4;omega)))) O<|A 14 O (fun g2_4=>zF O one9 O zQ O) O<|rL0 O (fun g2_4=>zN O O) O<|rLz [(15,_),(16,_)] O J ⟨O,O,O,O,T⟩ (fun g2_4=>det_slss O O O) O<|yK O (fun h=>h)<|zA<|zC O (fun c1=>?_) (fun c1=>?_)
 ·obtain ⟨hlt,hlt2⟩:=with_1t c1
  refine zJ<|zP<|zM O<|G O<|qB O ⟨by omega,by omega⟩<|G O<|zA ?_
  refine ⟨k+1,⟨by omega,below_next (zTs hlt) hp hlt2⟩,(by omega),Weak.mk [] ⟨zB,zB,zB,T⟩ O⟩
 ·have h1f:=with_1f c1
  refine qH<|zI<|R O<|G O<|G O<|zZ O el78<|yB O<|G O<|rL0 O (fun g4_4=>zN O O) O<|rL0 O (fun g4_4=>zN O O) O<|rLz [(26,_),(27,_)] O J ⟨O,O,O,O,T⟩ (fun g4_4=>qL O el78 O O (by simp only [Lz,cond_true,cond_false,Bool.and_eq_true,Bool.or_eq_true,Bool.not_eq_true',Bool.not_eq_false',Bool.or_eq_false_iff,Bool.and_eq_false_iff,decide_eq_true_eq,decide_eq_false_iff_not,Bool.not_eq_true,Bool.not_eq_false] at g4_4;omega) (B (zTs (by simp only [Lz,cond_true,cond_false,Bool.and_eq_true,Bool.or_eq_true,Bool.not_eq_true',Bool.not_eq_false',Bool.or_eq_false_iff,Bool.and_eq_false_iff,decide_eq_true_eq,decide_eq_false_iff_not,Bool.not_eq_true,Bool.not_eq_false] at g4_4;omega)))) O<|A 28 O (fun g4_4=>zF O one9 O zQ O) O<|rL0 O (fun g4_4=>zN O O) O<|rLz [(29,_),(30,_)] O J ⟨O,O,O,O,T⟩ (fun g4_4=>kE O O O) O<|yK O (fun h=>h)<|zA<|zC O (fun c2=>?_) (fun c2=>?_)
  ·have h2t:=with_2t c2
   refine R O<|G O<|G O<|zA<|zK<|zR O ?_
   rw [with_is hp h1f h2t]
  ·have h2f:=with_2f c2
   have hnew:=with_new hk hp h1f h2f
   refine zJ<|R O<|G O<|qX _ (wV 9 1)<|zA<|R O<|G O<|G O<|G O<|zW O (zOx O el78 O O (by omega))<|zV O O (yQ 0 O el78 O O O (by simp only [List.length_map,List.length_append,List.length_cons,List.length_nil,List.length_take,List.length_drop];omega) (by simp only [List.length_map,List.length_append,List.length_cons,List.length_nil,List.length_take,List.length_drop];omega)) ?_
   rintro _ _ ⟨sv2,rfl,rfl⟩
   refine G O<|zA<|R O<|G O<|G O<|zW O (yM O el78 zr9 O O O O)<|zV O O (yQ 0 O el78 O O O (by simp only [List.length_map,List.length_append,List.length_cons,List.length_nil,List.length_take,List.length_drop];omega) (by simp only [List.length_map,List.length_append,List.length_cons,List.length_nil,List.length_take,List.length_drop];omega)) ?_
   rintro _ _ ⟨sv3,rfl,rfl⟩
   refine G O<|zA<|R O<|G O<|G O<|G O<|zW O (det_cut_drop O el78 O O (by omega))<|zV O O (yQ 0 O el78 O O O (by simp only [List.length_map,List.length_append,List.length_cons,List.length_nil,List.length_take,List.length_drop];omega) (by simp only [List.length_map,List.length_append,List.length_cons,List.length_nil,List.length_take,List.length_drop];omega)) ?_
   rintro _ _ ⟨sv4,rfl,rfl⟩
   refine G O<|zA<|zT _ (Weak.vecEq 0 O (rows':=(lG l s).map fun s=>[cS s]) (by rw [hnew];simp))<|zT _ (wD 0 O (regs':=[(47,_),(4,_)]) (μ':=[]) ⟨FLe.sl,FLe.sl,T⟩ T)<|zK<|zR O ?_
   rfl
theorem zRv (e:Ex) (he:e.wt<=1000000):
    Pur cfg 95 [vE e] (vSs (lO e)):=by
 refine zU Tryz.func95 O Tryz.ntmps95 Tryz.results95 O ?_
 intro z hz
 have hnl:=nodes_wt e
 refine R O<|zV O O (qO O O) ?_
 rintro _ _ ⟨b1,rfl,rfl⟩
 refine zW O (yX 1 O O)<|zA<|R O<|zW O (yX 1 O O)<|zA<|R O<|zO yP (Y 0 O) O<|qN O ok135 (OwnR.pur (ref14_All e (by omega))) ⟨zB,O,T⟩<|G O<|zA<|zI<|R O<|G O<|zA<|zP<|zT ⟨[(5,.c _),(3,.c _),(4,.c _)],[]⟩ (Weak.mk [false] ⟨zB,zB,zB,T⟩ O)<|qG 2 0 O O (Nat) (fun k=>[(5,vI k),(3,vSs (gE [] (bR ((bF e).take k))))]) (fun k=>[]) (fun k=>k<=(bF e).length) (fun k=>(bF e).length-k) ⟨0,(by omega),Weak.mk [] ⟨zB,VLe.of_eq (O),zB,T⟩ O⟩ ?_
 rintro k hk
 refine zI<|R O<|G O<|G O<|zZ O el55<|yB O<|zA<|zC O (fun c1=>?_) (fun c1=>?_)
 ·try simp only [sx] at c1
  obtain ⟨x,hx⟩:=qU (bF e) k (by omega)
  have hlen:=zNo (e:=e) (pre:=(bF e).take k) (suf:=(bF e).drop k) (by rw [List.take_append_drop])
  have hxw:=zEj e x (qA hx)
  obtain ⟨_,hXI,_⟩:=x.parts hxw
  refine zJ<|zI<|zP<|zI<|R O<|G O<|G O<|qD O el55 (by omega) (zAa (by assumption))<|zX O kS<|zH one3 zQ O<|qZ O<|zA<|zC O (fun c2=>?_) (fun c2=>?_)
  ·try simp only [sx] at c2
   refine zM O<|G O<|G O<|G O<|qD O el55 (by omega) (zAa (by assumption))<|zX O zDg<|zH one9 zQ O<|qN O ok136 (zNn (gE [] (bR ((bF e).take k))) x.Name (by have:=zFy (bR ((bF e).take k));omega)) ⟨zB,O,zB,O,T⟩<|G O<|zA<|R O<|G O<|zA<|zP<|zT ⟨[(6,.c _),(3,.c _),(4,.c _),(5,.c _)],[]⟩ (Weak.mk [] ⟨zB,zB,zB,zB,T⟩ O) ?_
   exact w9
  ·try simp only [sx] at c2
   refine zJ<|R O<|G O<|zA<|zP<|zT ⟨[(6,.c _),(3,.c _),(4,.c _),(5,.c _)],[]⟩ (Weak.mk [] ⟨zB,zB,zB,zB,T⟩ O) ?_
   exact w9
 ·try simp only [sx] at c1
  rw [yA (l:=bF e) (k:=k) (by omega)]
  refine qH<|R O<|G O<|G O<|zA<|zK<|zR O ?_
  rfl
theorem zKo (s:St) (t:ByteArray) (ih:∀a,a∈s.Body->a.wt<=900000->Pur cfg 42 [vSt a,vS t] (vB (nL t a))) (hs:s.wt<=900000):
    Pur cfg 42 [vSt s,vS t] (vB (nL t s)):=by
 refine zU Tryz.func42 O Tryz.ntmps42 Tryz.results42 O ?_
 intro z hz
 obtain ⟨hE,hI,hIw,hB,hBw⟩:=St.parts hs
 have hsw:=St.wt_eq s
 have hix:=idxE_wt s.Idx
 have hrl:=zFy (bR (bF s.E))
 have hrl2:=zFy (bR (bF (lQ s.Idx)))
 have hra:=zFt s.E
 have hra2:=zFt (lQ s.Idx)
 refine R O<|zV O O (qO O O) ?_
 rintro _ _ ⟨b1,rfl,rfl⟩
 refine G O<|zA<|zI<|R O<|zG O zBu<|zH one3 (Y 0 O) O<|qZ O<|G O<|rL0 O (fun g1_3=>zD O zBu O) O<|A 10 O (fun g1_3=>zF O one3 O (Y 0 O) O) O<|A 11 O (fun g1_3=>yO O O O) O<|r_or O (fun h=>(lzf h))<|G O<|rL0 O (fun g1_8=>zD O zCp O) O<|A 15 O (fun g1_8=>zF O one9 O (Y 0 O) O) O<|rL0 O (fun g1_8=>zN O O) O<|rLz [(16,_),(17,_)] O J ⟨O,O,O,O,T⟩ (fun g1_8=>kE O O O) O<|yK O (fun h=>h)<|zA<|zC O (fun c1=>?_) (fun c1=>?_)
 ·refine R O<|G O<|zA<|zK<|zR O ?_
  rw [acc_1 c1]
 ·refine zJ<|zI<|R O<|zG O zKa<|zH wJ (Y 0 O) O<|zW O (kY [none,none,none,none,none,none,none,none,none,none,some 2,none,some 13] O zr57 pl57 O O)<|qN O ok95 (zRv (lQ s.Idx) (by omega)) ⟨zB,O,T⟩<|G O<|qN O ok94 (zQo (lO (lQ s.Idx)) t (by unfold lO;omega)) ⟨zB,O,zB,O,T⟩<|G O<|rL0 O (fun g3_6=>zD O zDf O) O<|A 27 O (fun g3_6=>qC O yP O (Y 0 O) O) O<|A 28 O (fun g3_6=>qS O ok95 (zRv s.E (by omega)) ⟨zB,O,T⟩) O<|rL0 O (fun g3_6=>zN O O) O<|rLz [(29,_),(30,_)] O J ⟨O,O,O,O,T⟩ (fun g3_6=>qS O ok94 (zQo (lO s.E) t (by unfold lO;omega)) ⟨zB,O,zB,O,T⟩) O<|r_or O (fun h=>(lzf h))<|zA<|zC O (fun c2=>?_) (fun c2=>?_)
  ·refine R O<|G O<|zA<|zK<|zR O ?_
   rw [acc_2 c2]
  ·have h0:=acc_0 c1 c2
   refine zJ<|zI<|R O<|G O<|zA<|zP<|zT ⟨[(5,.c _),(1,.c _),(2,.c _)],[_]⟩ (Weak.mk [true] ⟨zB,zB,zB,T⟩ O)<|qG 1 0 O O (Nat) (fun k=>[(5,vI k)]) (fun k=>[]) (fun k=>k<=s.Body.length/\(pZ t s.Body=pZ t (s.Body.drop k))) (fun k=>s.Body.length-k) ⟨0,⟨by omega,O⟩,Weak.mk [true] ⟨zB,zB,zB,T⟩ O⟩ ?_
   rintro k ⟨hk,hp⟩
   refine zI<|R O<|G O<|zG O zCo<|zH zBm (Y 0 O) O<|zZ O el23<|yB O<|zA<|zC O (fun c3=>?_) (fun c3=>?_)
   ·try simp only [sx] at c3
    obtain ⟨a,ha⟩:=qU s.Body k (by omega)
    refine zJ<|zI<|zP<|R O<|zG O zCo<|zH zBm (Y 0 O) O<|G O<|qD O el23 (by omega) (zEl ha)<|zO zFo zQ O<|G O<|qN O ok42 (ih a (qA ha) (by have:=kL (qA ha);omega)) ⟨zB,O,zB,O,T⟩<|zA<|zC O (fun c4=>?_) (fun c4=>?_)
    ·try simp only [sx] at c4
     refine R O<|G O<|zA<|zK<|zR O ?_
     rw [h0,hp,qY ha,pZ,c4];rfl
    ·try simp only [sx] at c4
     refine zJ<|zM O<|G O<|qB O ⟨by omega,by omega⟩<|G O<|zA ?_
     refine ⟨k+1,⟨by omega,by rw [hp,qY ha,pZ,c4];rfl⟩,(by omega),Weak.mk [true] ⟨zB,zB,zB,T⟩ O⟩
   ·try simp only [sx] at c3
    refine qH<|R O<|G O<|zA<|zK<|zR O ?_
    rw [h0,hp,kV (by omega),pZ]
theorem ref41_Accesses (s:St) (t:ByteArray) (hs:s.wt<=900000):Pur cfg 42 [vSt s,vS t] (vB (nL t s)):=by
  induction s using St.ind with
  |_ s ih=>exact zKo s t ih hs
end Go.W
