/-
  What functions compute.
  Conditions: none.
-/
import Derived.Test.YtlfjpejkoccibaaGreatDoorNC
import Derived.Test.YtlfjpejkoccibaaGreatDoorPlain2
import Derived.Test.YtlfjpejkoccibaaGreatDoorEngZ
set_option linter.unusedSimpArgs false
set_option linter.unusedVariables false
set_option maxRecDepth 10000
namespace Go.W
open Go Go.Eng Go.Proofs Go.L41 Go.Br
attribute [local irreducible] AWP RWP TD fH
theorem ok38:bA Tryz.prog 38=true:=by kernel_rfl
theorem ok44:bA Tryz.prog 44=true:=by kernel_rfl
theorem ok78:bA Tryz.prog 78=true:=by kernel_rfl
theorem zr26:fS Tryz.prog 26=some [(Value.slice none 0 0)]:=by kernel_rfl
theorem visit_step (y:C) (J Jx:List (St×List Int)->List E->Prop) (M:Nat) (hy:∀(pre:List (St×List Int)) (x:St×List Int) (μ:List E),x.2≠[]->x.1.wt<=536870912->pre.length+1<=M->J pre μ->FnCon cfg y [vSt x.1,vIs x.2] μ fun r μ'=>∃b,r=.c (.lit (.bool b))/\(b=true->J (pre++[x]) μ')/\(b=false->Jx (pre++[x]) μ')) (l:List St) (hl:bC l<=536870912) (ih:∀s,s∈l->∀(way:List Int) (pre0:List (St×List Int)) (μ:List E),way.length+bN s.Body<=1073741824->pre0.length+bN s.Body<=M->J pre0 μ->Con cfg 44 [bM s.Body,vIs way,.c y] μ fun r μ'=>∃b,r=.c (.lit (.bool b))/\(b=true->J (pre0++gB way 0 s.Body) μ')/\(b=false->∃pre x suf,gB way 0 s.Body=pre++x::suf/\Jx (pre0++pre++[x]) μ')) (way:List Int) (hw:way.length+bN l<=1073741824) (pre0:List (St×List Int)) (hM:pre0.length+bN l<=M) (μ:List E) (h0:J pre0 μ):
    Con cfg 44 [bM l,vIs way,.c y] μ fun r μ'=>∃b,r=.c (.lit (.bool b))/\(b=true->J (pre0++gB way 0 l) μ')/\(b=false->∃pre x suf,gB way 0 l=pre++x::suf/\Jx (pre0++pre++[x]) μ'):=by
 refine zT Tryz.func44 O Tryz.ntmps44 Tryz.results44 O ?_
 intro z hz
 have hll:=kO l
 have hlN:=zBt l
 refine F O<|A O<|H<|zK<|F O<|A O<|qC O D<|A O<|H<|zR<|zY ⟨[(11,.c _),(0,.c _),(1,.c _),(2,.c _),(10,.c _)],_⟩ (Weak.regs ⟨G,G,G,G,G,T⟩)<|zDf 1 O (Nat×List E) (fun ⟨k,m⟩=>[(11,vI k)]) (fun ⟨k,m⟩=>m) (fun ⟨k,m⟩=>k<=l.length/\(J (pre0++gB way 0 (l.take k)) m)) (fun ⟨k,m⟩=>l.length-k) ⟨⟨0,μ⟩,⟨by omega,by simpa [gB] using h0⟩,Weak.regs ⟨G,G,G,G,G,T⟩⟩ ?_
 rintro ⟨k,m⟩ ⟨hk,hJ⟩
 refine F O<|yD O<|H<|zK<|zD O (fun c1=>?_) (fun c1=>?_)
 ·try simp only [I] at c1
  obtain ⟨s,hs⟩:=qY l k (by omega)
  have hsN:=zHq (zZ hs)
  have hse:=zDi s
  have hst:=zTu hs
  refine zM<|zK<|zR<|F O<|A O<|A O<|H<|F O<|A O<|zV O O (zBb O ok96 (zIp way (by omega)) ⟨G,O,T⟩) ?_
  rintro _ _ ⟨sv1,rfl,rfl⟩
  refine A O<|yV O K zr3<|zV O O (qV 0 O K O O O (by simp only [List.length_map,List.length_append,List.length_cons,List.length_nil,List.length_take,List.length_drop];omega) (by simp only [List.length_map,List.length_append,List.length_cons,List.length_nil,List.length_take,List.length_drop];omega)) ?_
  rintro _ _ ⟨sv2,rfl,rfl⟩
  refine A O<|H<|zK<|zY _ (Weak.vecEq 0 O (rows':=(way++[(k:Int)]).map fun n=>[cI n]) (by first|rfl|simp|rw [List.take_of_length_le (by simp)]))<|zY _ (yK 0 O (regs':=[(18,_),(8,_)]) (μ':=_) ⟨FLe.sl,FLe.sl,T⟩ (efles_refl _))<|zQ O<|A O<|A O<|A O<|qD O D (by omega) (wD hs)<|zP zAv qA O<|A O<|zV O O (zAh O O (hy _ (s,(way++[(k:Int)])) _ (by simp) (by have:=yC (zZ hs);show s.wt<=_;omega) (by rw [List.length_append,zSe];omega) hJ) ⟨G,O,G,O,T⟩) ?_
  rintro _ m1 ⟨y1,rfl,t1,f1⟩
  refine kQ O<|A O<|rwp_split 27 O (fun h1=>?_) (fun h1=>?_)
  ·have hy1:y1=false:=by simpa using h1
   subst hy1
   refine zNr O O O O gv1 (by simp [Lz,h1])<|zNr O O O O gv1 (by simp [Lz,h1])<|zNr O O O O gv1 (by simp [Lz,h1])<|zNr O O O O gv1 (by simp [Lz,h1])<|zNr O O O O gv1 (by simp [Lz,h1])<|zNr O O O O gv1 (by simp [Lz,h1])<|zNr O O O O gv1 (by simp [Lz,h1])<|zNr O O O O gv1 (by simp [Lz,h1])<|zNr O O O O gv1 (by simp [Lz,h1])<|zU O (det_pick O O)<|H<|zD O (fun c2=>?_) (fun c2=>?_)
   ·refine F O<|A O<|H<|o<|X O ?_
    exact ⟨false,O,fun h=>(by cases h),fun _=>⟨_,(s,(way++[(k:Int)])),_,pre_at1 hs,by simpa using f1 rfl⟩⟩
   ·exact absurd c2 (by decide)
  ·have hy1:y1=true:=by simpa using h1
   subst hy1
   refine zBx O O O O gv1 (by simp [Lz,h1]) (zN O O)<|zBx O O O O gv1 (by simp [Lz,h1]) (zN O O)<|zBx O O O O gv1 (by simp [Lz,h1]) (qF O D O O (by omega) (wD hs))<|zBx O O O O gv1 (by simp [Lz,h1]) (qL O kK O)<|zBx O O O O gv1 (by simp [Lz,h1]) (zF O kP O qA O)<|zBx O O O O gv1 (by simp [Lz,h1]) (zN O O)<|zBx O O O O gv1 (by simp [Lz,h1]) (zN O O)<|rwp_yes O O O O gv1 (by simp [Lz,h1]) (zBe O ok44 (ih s (zZ hs) (way++[(k:Int)]) _ _ (by simp;omega) (by rw [List.length_append,List.length_append,zSe,List.length_singleton];omega) (t1 O)) ⟨G,O,G,O,G,O,T⟩) ?_
   rintro _ m2 ⟨y2,rfl,t2,f2⟩
   refine zBx O O O O gv1 (by simp [Lz,h1]) (kW O O)<|zU O (det_pick O O)<|H<|zD O (fun c2=>?_) (fun c2=>?_)
   ·have hy2:y2=false:=by cases y2;rfl;exact absurd c2 (by decide)
    subst hy2
    refine F O<|A O<|H<|o<|X O ?_
    obtain ⟨pre,x,suf,h1,h2⟩:=f2 rfl
    exact ⟨false,O,fun h=>(by cases h),fun _=>⟨_,x,_,pre_at2 hs h1,by simpa using h2⟩⟩
   ·have hy2:y2=true:=by cases y2;exact absurd c2 (by decide);rfl
    subst hy2
    refine zM<|zQ O<|qJ O ⟨by omega,by omega⟩<|A O<|H ?_
    refine ⟨⟨k+1,m2⟩,⟨by omega,by rw [preL_next hs,preS_eq,←List.append_assoc];have:=t2 rfl;simpa using this⟩,(by show l.length-(k+1)<l.length-k;omega),Weak.regs ⟨G,G,G,G,G,T⟩⟩
 ·try simp only [I] at c1
  refine qQ<|F O<|A O<|H<|o<|X O ?_
  rw [yU (by omega)] at hJ
  exact ⟨true,O,fun _=>hJ,fun h=>(by cases h)⟩
theorem visit_body (y:C) (J Jx:List (St×List Int)->List E->Prop) (M:Nat) (hy:∀(pre:List (St×List Int)) (x:St×List Int) (μ:List E),x.2≠[]->x.1.wt<=536870912->pre.length+1<=M->J pre μ->FnCon cfg y [vSt x.1,vIs x.2] μ fun r μ'=>∃b,r=.c (.lit (.bool b))/\(b=true->J (pre++[x]) μ')/\(b=false->Jx (pre++[x]) μ')) (s:St) (hl:bC s.Body<=536870912):∀(way:List Int) (pre0:List (St×List Int)) (μ:List E),way.length+bN s.Body<=1073741824->pre0.length+bN s.Body<=M->J pre0 μ->Con cfg 44 [bM s.Body,vIs way,.c y] μ fun r μ'=>∃b,r=.c (.lit (.bool b))/\(b=true->J (pre0++gB way 0 s.Body) μ')/\(b=false->∃pre x suf,gB way 0 s.Body=pre++x::suf/\Jx (pre0++pre++[x]) μ'):=by
  induction s using St.ind with
  |_ s ih=>exact fun way pre0 μ hw hM h0=>visit_step y J Jx M hy s.Body hl (fun a ha=>ih a ha (by have:=yC ha;have:=St.body_wt a;omega)) way hw pre0 hM μ h0
theorem visit_con (y:C) (J Jx:List (St×List Int)->List E->Prop) (M:Nat) (hy:∀(pre:List (St×List Int)) (x:St×List Int) (μ:List E),x.2≠[]->x.1.wt<=536870912->pre.length+1<=M->J pre μ->FnCon cfg y [vSt x.1,vIs x.2] μ fun r μ'=>∃b,r=.c (.lit (.bool b))/\(b=true->J (pre++[x]) μ')/\(b=false->Jx (pre++[x]) μ')) (l:List St) (hl:bC l<=536870912) (way:List Int) (hw:way.length+bN l<=1073741824) (pre0:List (St×List Int)) (hM:pre0.length+bN l<=M) (μ:List E) (h0:J pre0 μ):Con cfg 44 [bM l,vIs way,.c y] μ fun r μ'=>∃b,r=.c (.lit (.bool b))/\(b=true->J (pre0++gB way 0 l) μ')/\(b=false->∃pre x suf,gB way 0 l=pre++x::suf/\Jx (pre0++pre++[x]) μ'):=
  visit_step y J Jx M hy l hl (fun s hs=>visit_body y J Jx M hy s (by have:=yC hs;have:=St.body_wt s;omega)) way hw pre0 hM μ h0
theorem zMe (l:List St) (way:List Int) (hw:way.length<=1073741824):
    Pur cfg 38 [bM l,vIs way] (bM (fI l way)):=by
 refine zT Tryz.func38 O Tryz.ntmps38 Tryz.results38 O ?_
 intro z hz
 refine F O<|qX 20 O<|H<|F O<|A O<|yI _ (kR 46 20)<|H<|zK<|F O<|A O<|qC O K<|A O<|H<|zR<|zY ⟨[(10,.c _),(0,.c _),(5,.c _),(8,.c _),(9,.c _)],[_]⟩ (Weak.mk [true] ⟨G,G,G,G,G,T⟩ O)<|qK 3 1 O O (Nat×Value×List St×List St) (fun ⟨k,sv,lc,out⟩=>[(10,vI k),(0,bM lc),(5,.c (.lit sv))]) (fun ⟨k,sv,lc,out⟩=>[E.vec sv 46 20 (out.map St.cells)]) (fun ⟨k,sv,lc,out⟩=>k<=way.length/\(out.length=k)/\(fI l way=trl (way.drop k) lc out)) (fun ⟨k,sv,lc,out⟩=>way.length-k) ⟨⟨0,(.slice none 0 0),l,[]⟩,⟨by omega,O,O⟩,Weak.mk [true] ⟨G,G,G,G,G,T⟩ O⟩ ?_
 rintro ⟨k,sv,lc,out⟩ ⟨hk,ho,hp⟩
 show AWP _ _ _ _ _ ⟨[(10,vI k),(0,bM lc),(5,.c (.lit sv))]++_,[E.vec sv 46 20 (out.map St.cells)]++_⟩
 refine F O<|yD O<|H<|zK<|zD O (fun c1=>?_) (fun c1=>?_)
 ·try simp only [I] at c1
  obtain ⟨i,hi⟩:=qY way k (by omega)
  refine zM<|zK<|zR<|F O<|qD O K (by omega) (Q (by assumption))<|zJ one3 qA O<|A O<|H<|zK<|F O<|A O<|yD O<|A O<|rL0 O (fun g5_2=>zN O O) O<|rL0 O (fun g5_2=>zN O O) O<|B 18 O (fun g5_2=>yB O D O) O<|rLz [(17,_),(19,_)] O gv1 ⟨O,O,O,O,T⟩ (fun g5_2=>wI O O O) O<|r_or O (fun h=>(lzf h))<|H<|zD O (fun c2=>?_) (fun c2=>?_)
  ·try simp only [I] at c2
   refine F O<|qX 20 O<|H<|o<|X O ?_
   rw [show fI l way=[] from trl_no hi hp (by omega)];rfl
  ·try simp only [I] at c2
   have hs:=zJk (l:=lc) (i:=i) (by omega)
   refine zM<|F O<|A O<|A O<|A O<|qD O D (by omega) (wD hs)<|zP zAv qA O<|yV O D j<|zV O O (qV 0 O D O O O (by simp only [List.length_map,List.length_append,List.length_cons,List.length_nil,List.length_take,List.length_drop];omega) (by simp only [List.length_map,List.length_append,List.length_cons,List.length_nil,List.length_take,List.length_drop];omega)) ?_
   rintro _ _ ⟨sv2,rfl,rfl⟩
   refine A O<|H<|zQ O<|A O<|A O<|qD O D (by omega) (wD hs)<|qO O kK<|zJ kP qA O<|A O<|H<|zQ O<|qJ O ⟨by omega,by omega⟩<|A O<|H ?_
   refine ⟨⟨k+1,sv2,(lc.getD i.toNat zSt).Body,out++[lc.getD i.toNat zSt]⟩,⟨by omega,by simp;omega,trl_next hi hp (by omega)⟩,(by show way.length-(k+1)<way.length-k;omega),Weak.mk [true] ⟨G,G,G,G,G,T⟩ (by exact zCv (by rw [List.map_append,List.map_singleton,St.cells_eq];rfl))⟩
 ·try simp only [I] at c1
  refine qQ<|zK<|zY _ (yK 0 O (regs':=[(5,_)]) (μ':=[]) ⟨FLe.sl,T⟩ T)<|zQ O<|A O<|A O<|H<|o<|X O ?_
  rw [show fI l way=out from trl_end hp (by omega)]
theorem zVl (bb:Nat) (t:ByteArray) (s:St) (w:List Int) (hw:w≠[]):
    Con cfg 78 [vSt s,vIs w,.c (.iptr [cS t]),.c (.lit (.pointer (some ⟨bb,0,none⟩)))] [E.row bb 26 [pU none]] fun r μ'=>r=vB (!fX t s)/\μ'=[E.row bb 26 [pU (if fX t s=true then some w else none)]]:=by
 refine Con.drop<|zT Tryz.func78 O Tryz.ntmps78 Tryz.results78 O ?_
 intro z hz
 refine F O<|zV O O (qN O O) ?_
 rintro _ _ ⟨b1,rfl,rfl⟩
 refine A O<|H<|zK<|F O<|zG O zAp<|zJ one3 (R 0 O) O<|yF O<|A O<|rL0 O (fun g1_3=>zE O zAj O) O<|B 11 O (fun g1_3=>zF O one9 O (R 0 O) O) O<|rL0 O (fun g1_3=>zF O one9 O qA O) O<|rLz [(12,_),(13,_)] O gv1 ⟨O,O,O,O,T⟩ (fun g1_3=>yR O O O) O<|yQ O (fun h=>h)<|H<|zD O (fun c1=>?_) (fun c1=>?_)
 ·refine zQ O<|A O<|Y 1 sz26 O<|H<|F O<|zJ zGy (R 1 O) O<|zU O (zWl (q:=(some w)) O K O O (by intro u h;cases h;exact hw))<|A O<|H<|o<|X O ?_
  have hc:fX t s=true:=c1
  exact ⟨by rw [hc];rfl,[_],by rw [if_pos hc];rfl⟩
 ·refine zM<|F O<|zJ zGy (R 1 O) O<|zU O (zWl (q:=none) O K O O (by intro u h;cases h))<|A O<|H<|o<|X O ?_
  have hc:fX t s=false:=c1
  exact ⟨by rw [hc];rfl,[_],by rw [if_neg (by rw [hc];simp)];rfl⟩
theorem visit_find (bb:Nat) (t:ByteArray) (l:List St) (hl:bC l<=536870912):Con cfg 44 [bM l,vIs [],.c (.fn (.func 78) [] [.iptr [cS t],.lit (.pointer (some ⟨bb,0,none⟩))])] [E.row bb 26 [pU none]] fun r μ'=>r=vB (dX l t).isNone/\μ'=[E.row bb 26 [pU (dX l t)]]:=by
  have hN:=zCr l
  refine (visit_con (.fn (.func 78) [] [.iptr [cS t],.lit (.pointer (some ⟨bb,0,none⟩))]) (fun pre μ=>pre.any (pM t)=false/\μ=[E.row bb 26 [pU none]]) (fun pre μ=>∃p x,pre=p++[x]/\p.any (pM t)=false/\pM t x=true/\μ=[E.row bb 26 [pU (some x.2)]]) (bN l) (fun pre x μ hx hxw hM hJ=>?_) l hl [] (by simp;omega) [] (by simp) _ ⟨O,O⟩).mono ?_
  · obtain ⟨h1,rfl⟩:=hJ
    refine (FnCon.of_con (first:=[]) (cap:=[.iptr [cS t],.lit (.pointer (some ⟨bb,0,none⟩))]) ok78 (zVl bb t x.1 x.2 hx)).mono ?_
    rintro r μ' ⟨rfl,rfl⟩
    refine ⟨!fX t x.1,O,fun h=>?_,fun h=>?_⟩
    · have hc:fX t x.1=false:=by simpa using h
      exact ⟨any_one h1 hc,by rw [hc];rfl⟩
    · have hc:fX t x.1=true:=by simpa using h
      exact ⟨pre,x,O,h1,hc,by rw [hc];rfl⟩
  · rintro r μ' ⟨b,rfl,h1,h2⟩
    cases b with
    |true=>
      obtain ⟨k1,k2⟩:=h1 rfl
      have e:dX l t=none:=findA_none k1
      exact ⟨by rw [e];rfl,by rw [e];exact k2⟩
    |false=>
      obtain ⟨pre,x,suf,h3,p,y,h4,h5,h6,h7⟩:=h2 rfl
      have e:dX l t=some y.2:=by
        obtain ⟨e1,e2⟩:=List.append_inj' h4 rfl
        have e3:x=y:=by simpa using e2
        have e4:pre=p:=by simpa using e1
        unfold dX
        rw [h3,e3,e4]
        exact findA_some h5 h6
      exact ⟨by rw [e];rfl,by rw [e];exact h7⟩
theorem zOi (n:Ns) (t:ByteArray) (hl:bC n.Body<=536870912):
    Pur cfg 32 [vNs n,vS t] (.tup [vIs ((dX n.Body t).getD []),vB (dX n.Body t).isSome]):=by
 refine zT Tryz.func32 O Tryz.ntmps32 Tryz.results32 O ?_
 intro z hz
 refine F O<|zV O O (qN O O) ?_
 rintro _ _ ⟨b1,rfl,rfl⟩
 refine zV O O (qN O O) ?_
 rintro _ _ ⟨b2,rfl,rfl⟩
 refine yI _ (yS 0 O 3 _ PLe.ptr)<|qX 1 O<|A O<|H<|F O<|zV O O (yT O zr26) ?_
 rintro _ _ ⟨b3,rfl,rfl⟩
 refine H<|F O<|zG O zAd<|zJ kP (R 1 O) O<|zU O (zEe O O O O O)<|zV O O (ope_call_reg 0 O O ok44 (visit_find _ t n.Body hl) ⟨G,O,VLe.nil,O,G,O,T⟩) ?_
 rintro _ _ ⟨rfl,rfl⟩
 refine H<|zK<|qZ 5 mixed (by kernel_rfl) O O<|M O O (zF O zGy O (R 0 O) O)<|M O O (zF O zGy O (R 0 O) O)<|M O O (det_fnil_ne (q:=(dX n.Body t)) O K O O (fun u h=>findN_ne h))<|M O O (yA O O)<|M O O (yA O O)<|kE<|H<|zY ⟨[(4,.c _),(5,.c _)],_⟩ (Weak.regs ⟨fndC_le _,G,T⟩)<|o<|w (J O) (J O) ?_
 exact O
end Go.W
