/-
  Walks: what functions of the program compute. Printed by wip/gen/mk2.py.
  Conditions: none.
-/
import Derived.Test.YtlfjpejkoccibaaGreatDoorNC
import Derived.Test.YtlfjpejkoccibaaGreatDoorPlain2
import Derived.Test.YtlfjpejkoccibaaGreatDoorEngZ
set_option linter.unusedSimpArgs false
set_option linter.unusedVariables false
set_option maxRecDepth 10000
namespace Go.W
open Go Go.Eng Go.Proofs Go.L41 Go.Br
attribute [local irreducible] AWP RWP TD finQ
theorem ok38:callOk Tryz.prog 38=true:=by kernel_rfl
theorem ok44:callOk Tryz.prog 44=true:=by kernel_rfl
theorem ok78:callOk Tryz.prog 78=true:=by kernel_rfl
theorem zr26:zeroT Tryz.prog 26=some [(Value.slice none 0 0)]:=by kernel_rfl
theorem visit_step (y:C) (J Jx:List (St×List Int)->List E->Prop) (M:Nat) (hy:∀(pre:List (St×List Int)) (x:St×List Int) (μ:List E),x.2≠[]->x.1.wt<=536870912->pre.length+1<=M->J pre μ->FnCon cfg y [vSt x.1,vIs x.2] μ fun r μ'=>∃b,r=.c (.lit (.bool b))/\(b=true->J (pre++[x]) μ')/\(b=false->Jx (pre++[x]) μ')) (l:List St) (hl:stsWt l<=536870912) (ih:∀s,s∈l->∀(way:List Int) (pre0:List (St×List Int)) (μ:List E),way.length+stsN s.Body<=1073741824->pre0.length+stsN s.Body<=M->J pre0 μ->Con cfg 44 [vSts s.Body,vIs way,.c y] μ fun r μ'=>∃b,r=.c (.lit (.bool b))/\(b=true->J (pre0++preL way 0 s.Body) μ')/\(b=false->∃pre x suf,preL way 0 s.Body=pre++x::suf/\Jx (pre0++pre++[x]) μ')) (way:List Int) (hw:way.length+stsN l<=1073741824) (pre0:List (St×List Int)) (hM:pre0.length+stsN l<=M) (μ:List E) (h0:J pre0 μ):
    Con cfg 44 [vSts l,vIs way,.c y] μ fun r μ'=>∃b,r=.c (.lit (.bool b))/\(b=true->J (pre0++preL way 0 l) μ')/\(b=false->∃pre x suf,preL way 0 l=pre++x::suf/\Jx (pre0++pre++[x]) μ'):=by
 refine zT Tryz.func44 O Tryz.ntmps44 Tryz.results44 O ?_
 intro z hz
 have hll:=kP l
 have hlN:=zDv l
 refine F O<|A O<|G<|zJ<|F O<|A O<|qC O D<|A O<|G<|zR<|zY ⟨[(11,.c _),(0,.c _),(1,.c _),(2,.c _),(10,.c _)],_⟩ (Weak.regs ⟨H,H,H,H,H,T⟩)<|zDe 1 O (Nat×List E) (fun ⟨k,m⟩=>[(11,vI k)]) (fun ⟨k,m⟩=>m) (fun ⟨k,m⟩=>k<=l.length/\(J (pre0++preL way 0 (l.take k)) m)) (fun ⟨k,m⟩=>l.length-k) ⟨⟨0,μ⟩,⟨by omega,by simpa [preL] using h0⟩,Weak.regs ⟨H,H,H,H,H,T⟩⟩ ?_
 rintro ⟨k,m⟩ ⟨hk,hJ⟩
 refine F O<|yD O<|G<|zJ<|zD O (fun c1=>?_) (fun c1=>?_)
 ·try simp only [I] at c1
  obtain ⟨s,hs⟩:=qV l k (by omega)
  have hsN:=zHd (qB hs)
  have hse:=zGi s
  have hst:=zSm hs
  refine zK<|zJ<|zR<|F O<|A O<|A O<|G<|F O<|A O<|zX O O (zBb O ok96 (zIc way (by omega)) ⟨H,O,T⟩) ?_
  rintro _ _ ⟨sv1,rfl,rfl⟩
  refine A O<|yZ O K zr3<|zX O O (qX 0 O K O O O (by simp only [List.length_map,List.length_append,List.length_cons,List.length_nil,List.length_take,List.length_drop];omega) (by simp only [List.length_map,List.length_append,List.length_cons,List.length_nil,List.length_take,List.length_drop];omega)) ?_
  rintro _ _ ⟨sv2,rfl,rfl⟩
  refine A O<|G<|zJ<|zY _ (Weak.vecEq 0 O (rows':=(way++[(k:Int)]).map fun n=>[cI n]) (by first|rfl|simp|rw [List.take_of_length_le (by simp)]))<|zY _ (yH 0 O (regs':=[(18,_),(8,_)]) (μ':=_) ⟨FLe.sl,FLe.sl,T⟩ (efles_refl _))<|zQ O<|A O<|A O<|A O<|qD O D (by omega) (wG hs)<|zP zAt qA O<|A O<|zX O O (zAf O O (hy _ (s,(way++[(k:Int)])) _ (by simp) (by have:=yE (qB hs);show s.wt<=_;omega) (by rw [List.length_append,zRb];omega) hJ) ⟨H,O,H,O,T⟩) ?_
  rintro _ m1 ⟨y1,rfl,t1,f1⟩
  refine kO O<|A O<|rwp_split 27 O (fun h1=>?_) (fun h1=>?_)
  ·have hy1:y1=false:=by simpa using h1
   subst hy1
   refine zMm O O O O gv1 (by simp [Lz,h1])<|zMm O O O O gv1 (by simp [Lz,h1])<|zMm O O O O gv1 (by simp [Lz,h1])<|zMm O O O O gv1 (by simp [Lz,h1])<|zMm O O O O gv1 (by simp [Lz,h1])<|zMm O O O O gv1 (by simp [Lz,h1])<|zMm O O O O gv1 (by simp [Lz,h1])<|zMm O O O O gv1 (by simp [Lz,h1])<|zMm O O O O gv1 (by simp [Lz,h1])<|zU O (det_pick O O)<|G<|zD O (fun c2=>?_) (fun c2=>?_)
   ·refine F O<|A O<|G<|o<|X O ?_
    exact ⟨false,O,fun h=>(by cases h),fun _=>⟨_,(s,(way++[(k:Int)])),_,pre_at1 hs,by simpa using f1 rfl⟩⟩
   ·exact absurd c2 (by decide)
  ·have hy1:y1=true:=by simpa using h1
   subst hy1
   refine zBt O O O O gv1 (by simp [Lz,h1]) (w O O)<|zBt O O O O gv1 (by simp [Lz,h1]) (w O O)<|zBt O O O O gv1 (by simp [Lz,h1]) (qG O D O O (by omega) (wG hs))<|zBt O O O O gv1 (by simp [Lz,h1]) (qL O kM O)<|zBt O O O O gv1 (by simp [Lz,h1]) (zF O kQ O qA O)<|zBt O O O O gv1 (by simp [Lz,h1]) (w O O)<|zBt O O O O gv1 (by simp [Lz,h1]) (w O O)<|rwp_yes O O O O gv1 (by simp [Lz,h1]) (zAu O ok44 (ih s (qB hs) (way++[(k:Int)]) _ _ (by simp;omega) (by rw [List.length_append,List.length_append,zRb,List.length_singleton];omega) (t1 O)) ⟨H,O,H,O,H,O,T⟩) ?_
   rintro _ m2 ⟨y2,rfl,t2,f2⟩
   refine zBt O O O O gv1 (by simp [Lz,h1]) (kX O O)<|zU O (det_pick O O)<|G<|zD O (fun c2=>?_) (fun c2=>?_)
   ·have hy2:y2=false:=by cases y2;rfl;exact absurd c2 (by decide)
    subst hy2
    refine F O<|A O<|G<|o<|X O ?_
    obtain ⟨pre,x,suf,h1,h2⟩:=f2 rfl
    exact ⟨false,O,fun h=>(by cases h),fun _=>⟨_,x,_,pre_at2 hs h1,by simpa using h2⟩⟩
   ·have hy2:y2=true:=by cases y2;exact absurd c2 (by decide);rfl
    subst hy2
    refine zK<|zQ O<|qJ O ⟨by omega,by omega⟩<|A O<|G ?_
    refine ⟨⟨k+1,m2⟩,⟨by omega,by rw [preL_next hs,preS_eq,←List.append_assoc];have:=t2 rfl;simpa using this⟩,(by show l.length-(k+1)<l.length-k;omega),Weak.regs ⟨H,H,H,H,H,T⟩⟩
 ·try simp only [I] at c1
  refine qQ<|F O<|A O<|G<|o<|X O ?_
  rw [yO (by omega)] at hJ
  exact ⟨true,O,fun _=>hJ,fun h=>(by cases h)⟩
theorem visit_body (y:C) (J Jx:List (St×List Int)->List E->Prop) (M:Nat) (hy:∀(pre:List (St×List Int)) (x:St×List Int) (μ:List E),x.2≠[]->x.1.wt<=536870912->pre.length+1<=M->J pre μ->FnCon cfg y [vSt x.1,vIs x.2] μ fun r μ'=>∃b,r=.c (.lit (.bool b))/\(b=true->J (pre++[x]) μ')/\(b=false->Jx (pre++[x]) μ')) (s:St) (hl:stsWt s.Body<=536870912):∀(way:List Int) (pre0:List (St×List Int)) (μ:List E),way.length+stsN s.Body<=1073741824->pre0.length+stsN s.Body<=M->J pre0 μ->Con cfg 44 [vSts s.Body,vIs way,.c y] μ fun r μ'=>∃b,r=.c (.lit (.bool b))/\(b=true->J (pre0++preL way 0 s.Body) μ')/\(b=false->∃pre x suf,preL way 0 s.Body=pre++x::suf/\Jx (pre0++pre++[x]) μ'):=by
  induction s using St.ind with
  |_ s ih=>exact fun way pre0 μ hw hM h0=>visit_step y J Jx M hy s.Body hl (fun a ha=>ih a ha (by have:=yE ha;have:=St.body_wt a;omega)) way hw pre0 hM μ h0
theorem visit_con (y:C) (J Jx:List (St×List Int)->List E->Prop) (M:Nat) (hy:∀(pre:List (St×List Int)) (x:St×List Int) (μ:List E),x.2≠[]->x.1.wt<=536870912->pre.length+1<=M->J pre μ->FnCon cfg y [vSt x.1,vIs x.2] μ fun r μ'=>∃b,r=.c (.lit (.bool b))/\(b=true->J (pre++[x]) μ')/\(b=false->Jx (pre++[x]) μ')) (l:List St) (hl:stsWt l<=536870912) (way:List Int) (hw:way.length+stsN l<=1073741824) (pre0:List (St×List Int)) (hM:pre0.length+stsN l<=M) (μ:List E) (h0:J pre0 μ):Con cfg 44 [vSts l,vIs way,.c y] μ fun r μ'=>∃b,r=.c (.lit (.bool b))/\(b=true->J (pre0++preL way 0 l) μ')/\(b=false->∃pre x suf,preL way 0 l=pre++x::suf/\Jx (pre0++pre++[x]) μ'):=
  visit_step y J Jx M hy l hl (fun s hs=>visit_body y J Jx M hy s (by have:=yE hs;have:=St.body_wt s;omega)) way hw pre0 hM μ h0
theorem zLe (l:List St) (way:List Int) (hw:way.length<=1073741824):
    Pur cfg 38 [vSts l,vIs way] (vSts (trailT l way)):=by
 refine zT Tryz.func38 O Tryz.ntmps38 Tryz.results38 O ?_
 intro z hz
 refine F O<|qZ 20 O<|G<|F O<|A O<|yI _ (kN 46 20)<|G<|zJ<|F O<|A O<|qC O K<|A O<|G<|zR<|zY ⟨[(10,.c _),(0,.c _),(5,.c _),(8,.c _),(9,.c _)],[_]⟩ (Weak.mk [true] ⟨H,H,H,H,H,T⟩ O)<|qK 3 1 O O (Nat×Value×List St×List St) (fun ⟨k,sv,lc,out⟩=>[(10,vI k),(0,vSts lc),(5,.c (.lit sv))]) (fun ⟨k,sv,lc,out⟩=>[E.vec sv 46 20 (out.map St.cells)]) (fun ⟨k,sv,lc,out⟩=>k<=way.length/\(out.length=k)/\(trailT l way=trl (way.drop k) lc out)) (fun ⟨k,sv,lc,out⟩=>way.length-k) ⟨⟨0,(.slice none 0 0),l,[]⟩,⟨by omega,O,O⟩,Weak.mk [true] ⟨H,H,H,H,H,T⟩ O⟩ ?_
 rintro ⟨k,sv,lc,out⟩ ⟨hk,ho,hp⟩
 show AWP _ _ _ _ _ ⟨[(10,vI k),(0,vSts lc),(5,.c (.lit sv))]++_,[E.vec sv 46 20 (out.map St.cells)]++_⟩
 refine F O<|yD O<|G<|zJ<|zD O (fun c1=>?_) (fun c1=>?_)
 ·try simp only [I] at c1
  obtain ⟨i,hi⟩:=qV way k (by omega)
  refine zK<|zJ<|zR<|F O<|qD O K (by omega) (Q (by assumption))<|zM one3 qA O<|A O<|G<|zJ<|F O<|A O<|yD O<|A O<|rL0 O (fun g5_2=>w O O) O<|rL0 O (fun g5_2=>w O O) O<|B 18 O (fun g5_2=>yC O D O) O<|rLz [(17,_),(19,_)] O gv1 ⟨O,O,O,O,T⟩ (fun g5_2=>wH O O O) O<|r_or O (fun h=>(lzf h))<|G<|zD O (fun c2=>?_) (fun c2=>?_)
  ·try simp only [I] at c2
   refine F O<|qZ 20 O<|G<|o<|X O ?_
   rw [show trailT l way=[] from trl_no hi hp (by omega)];rfl
  ·try simp only [I] at c2
   have hs:=zIs (l:=lc) (i:=i) (by omega)
   refine zK<|F O<|A O<|A O<|A O<|qD O D (by omega) (wG hs)<|zP zAt qA O<|yZ O D j<|zX O O (qX 0 O D O O O (by simp only [List.length_map,List.length_append,List.length_cons,List.length_nil,List.length_take,List.length_drop];omega) (by simp only [List.length_map,List.length_append,List.length_cons,List.length_nil,List.length_take,List.length_drop];omega)) ?_
   rintro _ _ ⟨sv2,rfl,rfl⟩
   refine A O<|G<|zQ O<|A O<|A O<|qD O D (by omega) (wG hs)<|qP O kM<|zM kQ qA O<|A O<|G<|zQ O<|qJ O ⟨by omega,by omega⟩<|A O<|G ?_
   refine ⟨⟨k+1,sv2,(lc.getD i.toNat zSt).Body,out++[lc.getD i.toNat zSt]⟩,⟨by omega,by simp;omega,trl_next hi hp (by omega)⟩,(by show way.length-(k+1)<way.length-k;omega),Weak.mk [true] ⟨H,H,H,H,H,T⟩ (by exact zHo (by rw [List.map_append,List.map_singleton,St.cells_eq];rfl))⟩
 ·try simp only [I] at c1
  refine qQ<|zJ<|zY _ (yH 0 O (regs':=[(5,_)]) (μ':=[]) ⟨FLe.sl,T⟩ T)<|zQ O<|A O<|A O<|G<|o<|X O ?_
  rw [show trailT l way=out from trl_end hp (by omega)]
theorem zUb (bb:Nat) (t:ByteArray) (s:St) (w:List Int) (hw:w≠[]):
    Con cfg 78 [vSt s,vIs w,.c (.iptr [cS t]),.c (.lit (.pointer (some ⟨bb,0,none⟩)))] [E.row bb 26 [fndC none]] fun r μ'=>r=vB (!isLoop t s)/\μ'=[E.row bb 26 [fndC (if isLoop t s=true then some w else none)]]:=by
 refine Con.drop<|zT Tryz.func78 O Tryz.ntmps78 Tryz.results78 O ?_
 intro z hz
 refine F O<|zX O O (qN O O) ?_
 rintro _ _ ⟨b1,rfl,rfl⟩
 refine A O<|G<|zJ<|F O<|zH O zAm<|zM one3 (R 0 O) O<|yF O<|A O<|rL0 O (fun g1_3=>zE O zAo O) O<|B 11 O (fun g1_3=>zF O one9 O (R 0 O) O) O<|rL0 O (fun g1_3=>zF O one9 O qA O) O<|rLz [(12,_),(13,_)] O gv1 ⟨O,O,O,O,T⟩ (fun g1_3=>yV O O O) O<|yS O (fun h=>h)<|G<|zD O (fun c1=>?_) (fun c1=>?_)
 ·refine zQ O<|A O<|Y 1 sz26 O<|G<|F O<|zM zGo (R 1 O) O<|zU O (zUx (q:=(some w)) O K O O (by intro u h;cases h;exact hw))<|A O<|G<|o<|X O ?_
  have hc:isLoop t s=true:=c1
  exact ⟨by rw [hc];rfl,[_],by rw [if_pos hc];rfl⟩
 ·refine zK<|F O<|zM zGo (R 1 O) O<|zU O (zUx (q:=none) O K O O (by intro u h;cases h))<|A O<|G<|o<|X O ?_
  have hc:isLoop t s=false:=c1
  exact ⟨by rw [hc];rfl,[_],by rw [if_neg (by rw [hc];simp)];rfl⟩
theorem visit_find (bb:Nat) (t:ByteArray) (l:List St) (hl:stsWt l<=536870912):Con cfg 44 [vSts l,vIs [],.c (.fn (.func 78) [] [.iptr [cS t],.lit (.pointer (some ⟨bb,0,none⟩))])] [E.row bb 26 [fndC none]] fun r μ'=>r=vB (findN l t).isNone/\μ'=[E.row bb 26 [fndC (findN l t)]]:=by
  have hN:=zCt l
  refine (visit_con (.fn (.func 78) [] [.iptr [cS t],.lit (.pointer (some ⟨bb,0,none⟩))]) (fun pre μ=>pre.any (hitN t)=false/\μ=[E.row bb 26 [fndC none]]) (fun pre μ=>∃p x,pre=p++[x]/\p.any (hitN t)=false/\hitN t x=true/\μ=[E.row bb 26 [fndC (some x.2)]]) (stsN l) (fun pre x μ hx hxw hM hJ=>?_) l hl [] (by simp;omega) [] (by simp) _ ⟨O,O⟩).mono ?_
  · obtain ⟨h1,rfl⟩:=hJ
    refine (FnCon.of_con (first:=[]) (cap:=[.iptr [cS t],.lit (.pointer (some ⟨bb,0,none⟩))]) ok78 (zUb bb t x.1 x.2 hx)).mono ?_
    rintro r μ' ⟨rfl,rfl⟩
    refine ⟨!isLoop t x.1,O,fun h=>?_,fun h=>?_⟩
    · have hc:isLoop t x.1=false:=by simpa using h
      exact ⟨any_one h1 hc,by rw [hc];rfl⟩
    · have hc:isLoop t x.1=true:=by simpa using h
      exact ⟨pre,x,O,h1,hc,by rw [hc];rfl⟩
  · rintro r μ' ⟨b,rfl,h1,h2⟩
    cases b with
    |true=>
      obtain ⟨k1,k2⟩:=h1 rfl
      have e:findN l t=none:=findA_none k1
      exact ⟨by rw [e];rfl,by rw [e];exact k2⟩
    |false=>
      obtain ⟨pre,x,suf,h3,p,y,h4,h5,h6,h7⟩:=h2 rfl
      have e:findN l t=some y.2:=by
        obtain ⟨e1,e2⟩:=List.append_inj' h4 rfl
        have e3:x=y:=by simpa using e2
        have e4:pre=p:=by simpa using e1
        unfold findN
        rw [h3,e3,e4]
        exact findA_some h5 h6
      exact ⟨by rw [e];rfl,by rw [e];exact h7⟩
theorem zNd (n:Ns) (t:ByteArray) (hl:stsWt n.Body<=536870912):
    Pur cfg 32 [vNs n,vS t] (.tup [vIs ((findN n.Body t).getD []),vB (findN n.Body t).isSome]):=by
 refine zT Tryz.func32 O Tryz.ntmps32 Tryz.results32 O ?_
 intro z hz
 refine F O<|zX O O (qN O O) ?_
 rintro _ _ ⟨b1,rfl,rfl⟩
 refine zX O O (qN O O) ?_
 rintro _ _ ⟨b2,rfl,rfl⟩
 refine yI _ (yW 0 O 3 _ PLe.ptr)<|qZ 1 O<|A O<|G<|F O<|zX O O (yX O zr26) ?_
 rintro _ _ ⟨b3,rfl,rfl⟩
 refine G<|F O<|zH O zAd<|zM kQ (R 1 O) O<|zU O (zDz O O O O O)<|zX O O (ope_call_reg 0 O O ok44 (visit_find _ t n.Body hl) ⟨H,O,VLe.nil,O,H,O,T⟩) ?_
 rintro _ _ ⟨rfl,rfl⟩
 refine G<|zJ<|qY 5 mixed (by kernel_rfl) O O<|M O O (zF O zGo O (R 0 O) O)<|M O O (zF O zGo O (R 0 O) O)<|M O O (det_fnil_ne (q:=(findN n.Body t)) O K O O (fun u h=>findN_ne h))<|M O O (yA O O)<|M O O (yA O O)<|kD<|G<|zY ⟨[(4,.c _),(5,.c _)],_⟩ (Weak.regs ⟨fndC_le _,H,T⟩)<|o<|p (J O) (J O) ?_
 exact O
end Go.W
