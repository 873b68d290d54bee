/-
  Walks: what functions of the program compute. Printed by wip/gen/mk2.py.
  Walks: what functions of the program compute. Printed by wip/gen/mk2.py.
  Walks: what functions of the program compute. Printed by wip/gen/mk2.py.
  Walks: what functions of the program compute. Printed by wip/gen/mk2.py.
  Walks: what functions of the program compute. Printed by wip/gen/mk2.py.
  Walks: what functions of the program compute. Printed by wip/gen/mk2.py.
  Conditions: none.
-/
import Derived.Test.YtmmiedgoamlhpaaGreatDoorNC
import Derived.Test.YtmmiedgoamlhpaaGreatDoorPlain2
import Derived.Test.YtmmiedgoamlhpaaGreatDoorEngZ
import Derived.Test.YtmmiedgoamlhpaaGreatDoorNE
import Derived.Test.YtmmiedgoamlhpaaGreatDoorOpenX
set_option linter.unusedSimpArgs false
set_option linter.unusedVariables false
section
set_option maxRecDepth 10000
namespace Go.W
open Go Go.Eng Go.Proofs Go.L41 Go.Br
attribute [local irreducible] AWP RWP TD finQ
theorem ok79:callOk Tryz.prog 79=true:=by kernel_rfl
theorem ok80:callOk Tryz.prog 80=true:=by kernel_rfl
theorem ok81:callOk Tryz.prog 81=true:=by kernel_rfl
theorem ok92:callOk Tryz.prog 92=true:=by kernel_rfl
theorem zr55:zeroT Tryz.prog 55=some [(Value.slice none 0 0)]:=by kernel_rfl
theorem visit_step (y:C) (J Jx:List (St×List Int)->List E->Prop) (M:Nat) (hy:∀(pre:List (St×List Int)) (x:St×List Int) (μ:List E),x.2≠[]->x.1.wt<=536870912->pre.length+1<=M->J pre μ->FnCon cfg y [vSt x.1,vIs x.2] μ fun r μ'=>∃b,r=.c (.lit (.bool b))/\(b=true->J (pre++[x]) μ')/\(b=false->Jx (pre++[x]) μ')) (l:List St) (hl:stsWt l<=536870912) (ih:∀s,s∈l->∀(way:List Int) (pre0:List (St×List Int)) (μ:List E),way.length+stsN s.Body<=1073741824->pre0.length+stsN s.Body<=M->J pre0 μ->Con cfg 79 [vSts s.Body,vIs way,.c y] μ fun r μ'=>∃b,r=.c (.lit (.bool b))/\(b=true->J (pre0++preL way 0 s.Body) μ')/\(b=false->∃pre x suf,preL way 0 s.Body=pre++x::suf/\Jx (pre0++pre++[x]) μ')) (way:List Int) (hw:way.length+stsN l<=1073741824) (pre0:List (St×List Int)) (hM:pre0.length+stsN l<=M) (μ:List E) (h0:J pre0 μ):
    Con cfg 79 [vSts l,vIs way,.c y] μ fun r μ'=>∃b,r=.c (.lit (.bool b))/\(b=true->J (pre0++preL way 0 l) μ')/\(b=false->∃pre x suf,preL way 0 l=pre++x::suf/\Jx (pre0++pre++[x]) μ'):=by
 refine zS Tryz.func79 O Tryz.ntmps79 Tryz.results79 O ?_
 intro z hz
 have hll:=zAe l
 have hlN:=zDp l
 refine A O<|G O<|R<|zK<|A O<|G O<|zZ O el51<|G O<|R<|zR<|zX ⟨[(11,.c _),(0,.c _),(1,.c _),(2,.c _),(10,.c _)],_⟩ (Weak.regs ⟨Y,Y,Y,Y,Y,T⟩)<|zEn 1 O (Nat×List E) (fun ⟨k,m⟩=>[(11,vI k)]) (fun ⟨k,m⟩=>m) (fun ⟨k,m⟩=>k<=l.length/\(J (pre0++preL way 0 (l.take k)) m)) (fun ⟨k,m⟩=>l.length-k) ⟨⟨0,μ⟩,⟨by omega,by simpa [preL] using h0⟩,Weak.regs ⟨Y,Y,Y,Y,Y,T⟩⟩ ?_
 rintro ⟨k,m⟩ ⟨hk,hJ⟩
 refine A O<|yJ O<|R<|zK<|zC O (fun c1=>?_) (fun c1=>?_)
 ·try simp only [sx] at c1
  obtain ⟨s,hs⟩:=qY l k (by omega)
  have hsN:=zLj (zY hs)
  have hse:=zKb s
  have hst:=stsN_take hs
  refine zI<|zK<|zR<|A O<|G O<|G O<|R<|A O<|G O<|zU O O (zIb O ok128 (zHg way (by omega)) ⟨Y,O,T⟩) ?_
  rintro _ _ ⟨sv1,rfl,rfl⟩
  refine G O<|zT O (yK O el55 zr3 O O O O)<|zU O O (kG 0 O el55 O O O (by simp only [List.length_map,List.length_append,List.length_cons,List.length_nil,List.length_take,List.length_drop];omega) (by simp only [List.length_map,List.length_append,List.length_cons,List.length_nil,List.length_take,List.length_drop];omega)) ?_
  rintro _ _ ⟨sv2,rfl,rfl⟩
  refine G O<|R<|zK<|zX _ (Weak.vecEq 0 O (rows':=(way++[(k:Int)]).map fun n=>[cI n]) (by first|rfl|simp|rw [List.take_of_length_le (by simp)]))<|zX _ (kQ 0 O (regs':=[(18,_),(8,_)]) (μ':=_) ⟨FLe.sl,FLe.sl,T⟩ (efles_refl _))<|zN O<|G O<|G O<|G O<|qE O el51 (by omega) (zDc hs)<|zO zDe qA O<|G O<|zU O O (zAl O O (hy _ (s,(way++[(k:Int)])) _ (by simp) (by have:=kK (zY hs);show s.wt<=_;omega) (by rw [List.length_append,zLp];omega) hJ) ⟨Y,O,Y,O,T⟩) ?_
  rintro _ m1 ⟨y1,rfl,t1,f1⟩
  refine wA O<|G O<|rwp_split 27 O (fun h1=>?_) (fun h1=>?_)
  ·have hy1:y1=false:=by simpa using h1
   subst hy1
   refine zLm O O O O gv1 (by simp [Lz,h1])<|zLm O O O O gv1 (by simp [Lz,h1])<|zLm O O O O gv1 (by simp [Lz,h1])<|zLm O O O O gv1 (by simp [Lz,h1])<|zLm O O O O gv1 (by simp [Lz,h1])<|zLm O O O O gv1 (by simp [Lz,h1])<|zLm O O O O gv1 (by simp [Lz,h1])<|zLm O O O O gv1 (by simp [Lz,h1])<|zLm O O O O gv1 (by simp [Lz,h1])<|zT O (det_pick O O)<|R<|zC O (fun c2=>?_) (fun c2=>?_)
   ·refine A O<|G O<|R<|zF<|zQ O ?_
    exact ⟨false,O,fun h=>(by cases h),fun _=>⟨_,(s,(way++[(k:Int)])),_,pre_at1 hs,by simpa using f1 rfl⟩⟩
   ·exact absurd c2 (by decide)
  ·have hy1:y1=true:=by simpa using h1
   subst hy1
   refine zBn O O O O gv1 (by simp [Lz,h1]) (zP O O)<|zBn O O O O gv1 (by simp [Lz,h1]) (zP O O)<|zBn O O O O gv1 (by simp [Lz,h1]) (qO O el51 O O (by omega) (zDc hs))<|zBn O O O O gv1 (by simp [Lz,h1]) (qW O zAu O)<|zBn O O O O gv1 (by simp [Lz,h1]) (zJ O zCg O qA O)<|zBn O O O O gv1 (by simp [Lz,h1]) (zP O O)<|zBn O O O O gv1 (by simp [Lz,h1]) (zP O O)<|rwp_yes O O O O gv1 (by simp [Lz,h1]) (zBy O ok79 (ih s (zY hs) (way++[(k:Int)]) _ _ (by simp;omega) (by rw [List.length_append,List.length_append,zLp,List.length_singleton];omega) (t1 O)) ⟨Y,O,Y,O,Y,O,T⟩) ?_
   rintro _ m2 ⟨y2,rfl,t2,f2⟩
   refine zBn O O O O gv1 (by simp [Lz,h1]) (wL O O)<|zT O (det_pick O O)<|R<|zC O (fun c2=>?_) (fun c2=>?_)
   ·have hy2:y2=false:=by cases y2;rfl;exact absurd c2 (by decide)
    subst hy2
    refine A O<|G O<|R<|zF<|zQ O ?_
    obtain ⟨pre,x,suf,h1,h2⟩:=f2 rfl
    exact ⟨false,O,fun h=>(by cases h),fun _=>⟨_,x,_,pre_at2 hs h1,by simpa using h2⟩⟩
   ·have hy2:y2=true:=by cases y2;exact absurd c2 (by decide);rfl
    subst hy2
    refine zI<|zN O<|qI O ⟨by omega,by omega⟩<|G O<|R ?_
    refine ⟨⟨k+1,m2⟩,⟨by omega,by rw [preL_next hs,preS_eq,←List.append_assoc];have:=t2 rfl;simpa using this⟩,(by show l.length-(k+1)<l.length-k;omega),Weak.regs ⟨Y,Y,Y,Y,Y,T⟩⟩
 ·try simp only [sx] at c1
  refine qP<|A O<|G O<|R<|zF<|zQ O ?_
  rw [yE (by omega)] at hJ
  exact ⟨true,O,fun _=>hJ,fun h=>(by cases h)⟩
theorem visit_body (y:C) (J Jx:List (St×List Int)->List E->Prop) (M:Nat) (hy:∀(pre:List (St×List Int)) (x:St×List Int) (μ:List E),x.2≠[]->x.1.wt<=536870912->pre.length+1<=M->J pre μ->FnCon cfg y [vSt x.1,vIs x.2] μ fun r μ'=>∃b,r=.c (.lit (.bool b))/\(b=true->J (pre++[x]) μ')/\(b=false->Jx (pre++[x]) μ')) (s:St) (hl:stsWt s.Body<=536870912):∀(way:List Int) (pre0:List (St×List Int)) (μ:List E),way.length+stsN s.Body<=1073741824->pre0.length+stsN s.Body<=M->J pre0 μ->Con cfg 79 [vSts s.Body,vIs way,.c y] μ fun r μ'=>∃b,r=.c (.lit (.bool b))/\(b=true->J (pre0++preL way 0 s.Body) μ')/\(b=false->∃pre x suf,preL way 0 s.Body=pre++x::suf/\Jx (pre0++pre++[x]) μ'):=by
  induction s using St.ind with
  |_ s ih=>exact fun way pre0 μ hw hM h0=>visit_step y J Jx M hy s.Body hl (fun a ha=>ih a ha (by have:=kK ha;have:=St.body_wt a;omega)) way hw pre0 hM μ h0
theorem zQj (y:C) (J Jx:List (St×List Int)->List E->Prop) (M:Nat) (hy:∀(pre:List (St×List Int)) (x:St×List Int) (μ:List E),x.2≠[]->x.1.wt<=536870912->pre.length+1<=M->J pre μ->FnCon cfg y [vSt x.1,vIs x.2] μ fun r μ'=>∃b,r=.c (.lit (.bool b))/\(b=true->J (pre++[x]) μ')/\(b=false->Jx (pre++[x]) μ')) (l:List St) (hl:stsWt l<=536870912) (way:List Int) (hw:way.length+stsN l<=1073741824) (pre0:List (St×List Int)) (hM:pre0.length+stsN l<=M) (μ:List E) (h0:J pre0 μ):Con cfg 79 [vSts l,vIs way,.c y] μ fun r μ'=>∃b,r=.c (.lit (.bool b))/\(b=true->J (pre0++preL way 0 l) μ')/\(b=false->∃pre x suf,preL way 0 l=pre++x::suf/\Jx (pre0++pre++[x]) μ'):=
  visit_step y J Jx M hy l hl (fun s hs=>visit_body y J Jx M hy s (by have:=kK hs;have:=St.body_wt s;omega)) way hw pre0 hM μ h0
theorem loopnest_trail (l:List St) (way:List Int) (hw:way.length<=1073741824):
    Pur cfg 81 [vSts l,vIs way] (vSts (trailT l way)):=by
 refine zS Tryz.func81 O Tryz.ntmps81 Tryz.results81 O ?_
 intro z hz
 refine A O<|zT O (kE 20 O O)<|R<|A O<|G O<|yX _ (wI 110 20)<|R<|zK<|A O<|G O<|zZ O el55<|G O<|R<|zR<|zX ⟨[(10,.c _),(0,.c _),(5,.c _),(8,.c _),(9,.c _)],[_]⟩ (Weak.mk [true] ⟨Y,Y,Y,Y,Y,T⟩ O)<|qG 3 1 O O (Nat×Value×List St×List St) (fun ⟨k,sv,lc,out⟩=>[(10,vI k),(0,vSts lc),(5,.c (.lit sv))]) (fun ⟨k,sv,lc,out⟩=>[E.vec sv 110 20 (out.map St.cells)]) (fun ⟨k,sv,lc,out⟩=>k<=way.length/\(out.length=k)/\(trailT l way=trl (way.drop k) lc out)) (fun ⟨k,sv,lc,out⟩=>way.length-k) ⟨⟨0,(.slice none 0 0),l,[]⟩,⟨by omega,O,O⟩,Weak.mk [true] ⟨Y,Y,Y,Y,Y,T⟩ O⟩ ?_
 rintro ⟨k,sv,lc,out⟩ ⟨hk,ho,hp⟩
 show AWP _ _ _ _ _ ⟨[(10,vI k),(0,vSts lc),(5,.c (.lit sv))]++_,[E.vec sv 110 20 (out.map St.cells)]++_⟩
 refine A O<|yJ O<|R<|zK<|zC O (fun c1=>?_) (fun c1=>?_)
 ·try simp only [sx] at c1
  obtain ⟨i,hi⟩:=qY way k (by omega)
  refine zI<|zK<|zR<|A O<|qE O el55 (by omega) (getm (by assumption))<|zM one3 qA O<|G O<|R<|zK<|A O<|G O<|yJ O<|G O<|rL0 O (fun g5_2=>zP O O) O<|rL0 O (fun g5_2=>zP O O) O<|rL1 18 O (fun g5_2=>yG O el51 O) O<|rLz [(17,_),(19,_)] O gv1 ⟨O,O,O,O,T⟩ (fun g5_2=>wO O O O) O<|r_or O (fun h=>(lzf h))<|R<|zC O (fun c2=>?_) (fun c2=>?_)
  ·try simp only [sx] at c2
   refine A O<|zT O (kE 20 O O)<|R<|zF<|zQ O ?_
   rw [show trailT l way=[] from trl_no hi hp (by omega)];rfl
  ·try simp only [sx] at c2
   have hs:=stD_get (l:=lc) (i:=i) (by omega)
   refine zI<|A O<|G O<|G O<|G O<|qE O el51 (by omega) (zDc hs)<|zO zDe qA O<|zT O (yK O el51 zQb O O O O)<|zU O O (kG 0 O el51 O O O (by simp only [List.length_map,List.length_append,List.length_cons,List.length_nil,List.length_take,List.length_drop];omega) (by simp only [List.length_map,List.length_append,List.length_cons,List.length_nil,List.length_take,List.length_drop];omega)) ?_
   rintro _ _ ⟨sv2,rfl,rfl⟩
   refine G O<|R<|zN O<|G O<|G O<|qE O el51 (by omega) (zDc hs)<|yB O zAu<|zM zCg qA O<|G O<|R<|zN O<|qI O ⟨by omega,by omega⟩<|G O<|R ?_
   refine ⟨⟨k+1,sv2,(lc.getD i.toNat zSt).Body,out++[lc.getD i.toNat zSt]⟩,⟨by omega,by simp;omega,trl_next hi hp (by omega)⟩,(by show way.length-(k+1)<way.length-k;omega),Weak.mk [true] ⟨Y,Y,Y,Y,Y,T⟩ (by exact zFm (by rw [List.map_append,List.map_singleton,St.cells_eq];rfl))⟩
 ·try simp only [sx] at c1
  refine qP<|zK<|zX _ (kQ 0 O (regs':=[(5,_)]) (μ':=[]) ⟨FLe.sl,T⟩ T)<|zN O<|G O<|G O<|R<|zF<|zQ O ?_
  rw [show trailT l way=out from trl_end hp (by omega)]
theorem zSj (bb:Nat) (n:Int) (s:St) (w:List Int) (h1:0<=n) (h2:n<=1099511627776):
    Con cfg 92 [vSt s,vIs w,.c (.lit (.pointer (some ⟨bb,0,none⟩)))] [E.row bb 3 [cI n]] fun r μ'=>r=vB true/\μ'=[E.row bb 3 [cI (n+1)]]:=by
 refine Con.drop<|zS Tryz.func92 O Tryz.ntmps92 Tryz.results92 O ?_
 intro z hz
 refine A O<|zU O O (qN O O) ?_
 rintro _ _ ⟨b1,rfl,rfl⟩
 refine G O<|R<|A O<|zM one3 (zD 1 O) O<|qI O ⟨by omega,by omega⟩<|rStR 1 sz3 O<|R<|A O<|G O<|R<|zF<|zQ O ?_
 exact ⟨O,[_],O⟩
theorem visit_size (bb:Nat) (l:List St) (hl:stsWt l<=536870912):Con cfg 79 [vSts l,vIs [],.c (.fn (.func 92) [] [.lit (.pointer (some ⟨bb,0,none⟩))])] [E.row bb 3 [cI 0]] fun r μ'=>r=vB true/\μ'=[E.row bb 3 [cI (stsN l)]]:=by
  have hN:=zHr l
  refine (zQj (.fn (.func 92) [] [.lit (.pointer (some ⟨bb,0,none⟩))]) (fun pre μ=>μ=[E.row bb 3 [cI pre.length]]) (fun _ _=>False) (stsN l) (fun pre x μ hx hxw hM hJ=>?_) l hl [] (by simp;omega) [] (by simp) _ O).mono ?_
  · subst hJ
    refine (FnCon.of_con (first:=[]) (cap:=[.lit (.pointer (some ⟨bb,0,none⟩))]) ok92 (zSj bb pre.length x.1 x.2 (by omega) (by omega))).mono ?_
    rintro r μ' ⟨rfl,rfl⟩
    exact ⟨true,O,fun _=>by simp,fun h=>by cases h⟩
  · rintro r μ' ⟨b,rfl,h1,h2⟩
    cases b with
    |true=>exact ⟨rfl,by rw [h1 rfl];simp [zLp]⟩
    |false=>obtain ⟨_,_,_,_,h⟩:=h2 rfl;exact h.elim
theorem loopnest_Size (n:Ns) (hl:stsWt n.Body<=536870912):
    Pur cfg 44 [vNs n] (vI (stsN n.Body)):=by
 refine zS Tryz.func44 O Tryz.ntmps44 Tryz.results44 O ?_
 intro z hz
 refine A O<|zU O O (qN O O) ?_
 rintro _ _ ⟨b1,rfl,rfl⟩
 refine G O<|R<|A O<|zU O O (yL O zr3) ?_
 rintro _ _ ⟨b2,rfl,rfl⟩
 refine rStR 0 sz3 O<|R<|A O<|zH O zFf<|zM zCg (zD 1 O) O<|zT O (zCn O O O O O)<|zU O O (zDu 0 O O ok79 (visit_size _ n.Body hl) ⟨Y,O,VLe.nil,O,Y,O,T⟩) ?_
 rintro _ _ ⟨rfl,rfl⟩
 refine R<|A O<|zM one3 (zD 0 O) O<|G O<|R<|zF<|zQ O ?_
 exact O
theorem zSk (bb:Nat) (t:ByteArray) (s:St) (w:List Int) (hw:w≠[]):
    Con cfg 80 [vSt s,vIs w,.c (.iptr [cS t]),.c (.lit (.pointer (some ⟨bb,0,none⟩)))] [E.row bb 55 [fndC none]] fun r μ'=>r=vB (!isLoop t s)/\μ'=[E.row bb 55 [fndC (if isLoop t s=true then some w else none)]]:=by
 refine Con.drop<|zS Tryz.func80 O Tryz.ntmps80 Tryz.results80 O ?_
 intro z hz
 refine A O<|zU O O (qN O O) ?_
 rintro _ _ ⟨b1,rfl,rfl⟩
 refine G O<|R<|zK<|A O<|zH O zAf<|zM one3 (zD 0 O) O<|L O<|G O<|rL0 O (fun g1_3=>zE O wZ O) O<|rL1 11 O (fun g1_3=>zJ O one9 O (zD 0 O) O) O<|rL0 O (fun g1_3=>zJ O one9 O qA O) O<|rLz [(12,_),(13,_)] O gv1 ⟨O,O,O,O,T⟩ (fun g1_3=>zGw O O O) O<|yZ O (fun h=>h)<|R<|zC O (fun c1=>?_) (fun c1=>?_)
 ·refine zN O<|G O<|rStR 1 sz55 O<|R<|A O<|zM zEh (zD 1 O) O<|zT O (zSy (q:=(some w)) O el55 O O (by intro u h;cases h;exact hw))<|G O<|R<|zF<|zQ O ?_
  have hc:isLoop t s=true:=c1
  exact ⟨by rw [hc];rfl,[_],by rw [if_pos hc];rfl⟩
 ·refine zI<|A O<|zM zEh (zD 1 O) O<|zT O (zSy (q:=none) O el55 O O (by intro u h;cases h))<|G O<|R<|zF<|zQ O ?_
  have hc:isLoop t s=false:=c1
  exact ⟨by rw [hc];rfl,[_],by rw [if_neg (by rw [hc];simp)];rfl⟩
theorem visit_find (bb:Nat) (t:ByteArray) (l:List St) (hl:stsWt l<=536870912):Con cfg 79 [vSts l,vIs [],.c (.fn (.func 80) [] [.iptr [cS t],.lit (.pointer (some ⟨bb,0,none⟩))])] [E.row bb 55 [fndC none]] fun r μ'=>r=vB (findN l t).isNone/\μ'=[E.row bb 55 [fndC (findN l t)]]:=by
  have hN:=zHr l
  refine (zQj (.fn (.func 80) [] [.iptr [cS t],.lit (.pointer (some ⟨bb,0,none⟩))]) (fun pre μ=>pre.any (hitN t)=false/\μ=[E.row bb 55 [fndC none]]) (fun pre μ=>∃p x,pre=p++[x]/\p.any (hitN t)=false/\hitN t x=true/\μ=[E.row bb 55 [fndC (some x.2)]]) (stsN l) (fun pre x μ hx hxw hM hJ=>?_) l hl [] (by simp;omega) [] (by simp) _ ⟨O,O⟩).mono ?_
  · obtain ⟨h1,rfl⟩:=hJ
    refine (FnCon.of_con (first:=[]) (cap:=[.iptr [cS t],.lit (.pointer (some ⟨bb,0,none⟩))]) ok80 (zSk bb t x.1 x.2 hx)).mono ?_
    rintro r μ' ⟨rfl,rfl⟩
    refine ⟨!isLoop t x.1,O,fun h=>?_,fun h=>?_⟩
    · have hc:isLoop t x.1=false:=by simpa using h
      exact ⟨any_one h1 hc,by rw [hc];rfl⟩
    · have hc:isLoop t x.1=true:=by simpa using h
      exact ⟨pre,x,O,h1,hc,by rw [hc];rfl⟩
  · rintro r μ' ⟨b,rfl,h1,h2⟩
    cases b with
    |true=>
      obtain ⟨k1,k2⟩:=h1 rfl
      have e:findN l t=none:=findA_none k1
      exact ⟨by rw [e];rfl,by rw [e];exact k2⟩
    |false=>
      obtain ⟨pre,x,suf,h3,p,y,h4,h5,h6,h7⟩:=h2 rfl
      have e:findN l t=some y.2:=by
        obtain ⟨e1,e2⟩:=List.append_inj' h4 rfl
        have e3:x=y:=by simpa using e2
        have e4:pre=p:=by simpa using e1
        unfold findN
        rw [h3,e3,e4]
        exact findA_some h5 h6
      exact ⟨by rw [e];rfl,by rw [e];exact h7⟩
theorem loopnest_Find (n:Ns) (t:ByteArray) (hl:stsWt n.Body<=536870912):
    Pur cfg 38 [vNs n,vS t] (.tup [vIs ((findN n.Body t).getD []),vB (findN n.Body t).isSome]):=by
 refine zS Tryz.func38 O Tryz.ntmps38 Tryz.results38 O ?_
 intro z hz
 refine A O<|zU O O (qN O O) ?_
 rintro _ _ ⟨b1,rfl,rfl⟩
 refine zU O O (qN O O) ?_
 rintro _ _ ⟨b2,rfl,rfl⟩
 refine yX _ (kJ 0 O 3 _ PLe.ptr)<|zT O (kE 1 O O)<|G O<|R<|A O<|zU O O (yL O zr55) ?_
 rintro _ _ ⟨b3,rfl,rfl⟩
 refine R<|A O<|zH O zFf<|zM zCg (zD 1 O) O<|zT O (zCn O O O O O)<|zU O O (zDu 0 O O ok79 (visit_find _ t n.Body hl) ⟨Y,O,VLe.nil,O,Y,O,T⟩) ?_
 rintro _ _ ⟨rfl,rfl⟩
 refine R<|zK<|qU 5 mixed (by kernel_rfl) O O<|J O O (zJ O zEh O (zD 0 O) O)<|J O O (zJ O zEh O (zD 0 O) O)<|J O O (det_fnil_ne (q:=(findN n.Body t)) O el55 O O (fun u h=>findN_ne h))<|J O O (qV O O)<|J O O (qV O O)<|yO<|R<|zX ⟨[(4,.c _),(5,.c _)],_⟩ (Weak.regs ⟨fndC_le _,Y,T⟩)<|zF<|D (B O) (B O) ?_
 exact O
theorem zLw (n:Ns) (way:List Int) (hw:way.length<=1073741824):
    Pur cfg 39 [vNs n,vIs way] (vBds (enclT n.Body way)):=by
 refine zS Tryz.func39 O Tryz.ntmps39 Tryz.results39 O ?_
 intro z hz
 have htl:=trl_len way n.Body []
 have htl2:(trailT n.Body way).length<=way.length:=by unfold trailT;simpa using htl
 refine A O<|zU O O (qN O O) ?_
 rintro _ _ ⟨b1,rfl,rfl⟩
 refine zT O (kE 2 O O)<|R<|A O<|G O<|yX _ (wI 118 2)<|R<|A O<|zH O zFf<|zM zCg (zD 1 O) O<|G O<|qK O ok81 (loopnest_trail n.Body way hw) ⟨Y,O,Y,O,T⟩<|G O<|R<|zK<|A O<|G O<|zZ O el51<|zT O (yD O O O ⟨by omega,by omega⟩)<|zT O (zLb O O O)<|G O<|R<|zR<|zX ⟨[(16,.c _),(5,.c _),(6,.c _),(15,.c _)],[_]⟩ (Weak.mk [true,false] ⟨Y,Y,Y,Y,T⟩ O)<|qG 2 1 O O (Nat×Value) (fun ⟨k,sv⟩=>[(16,vI k),(5,.c (.lit sv))]) (fun ⟨k,sv⟩=>[E.vec sv 118 2 ((((trailT n.Body way).take k).flatMap bdNm).map Bd.cells)]) (fun ⟨k,sv⟩=>(k:Int)<=max 0 (((trailT n.Body way).length:Int)-1)) (fun ⟨k,sv⟩=>(trailT n.Body way).length-k) ⟨⟨0,.slice none 0 0⟩,(by omega),Weak.mk [true] ⟨Y,Y,Y,Y,T⟩ O⟩ ?_
 rintro ⟨k,sv⟩ hk
 show AWP _ _ _ _ _ ⟨[(16,vI k),(5,.c (.lit sv))]++_,[E.vec sv 118 2 ((((trailT n.Body way).take k).flatMap bdNm).map Bd.cells)]++_⟩
 refine A O<|yJ O<|R<|zK<|zC O (fun c1=>?_) (fun c1=>?_)
 ·try simp only [sx] at c1
  obtain ⟨s,hs⟩:=qY (trailT n.Body way) k (by omega)
  have hel:=enc_len ((trailT n.Body way).take k)
  have hel2:=List.length_take_le k (trailT n.Body way)
  refine zI<|zK<|zR<|A O<|G O<|G O<|R<|A O<|G O<|G O<|qE O el51 (by omega) (zDc hs)<|yB O zAf<|zM one3 qA O<|L O<|R<|zC O (fun c2=>?_) (fun c2=>?_)
  ·try simp only [sx] at c2
   refine qU 13 mixed (by kernel_rfl) O O<|J O O (zP O O)<|J O O (zP O O)<|J O O (zP O O)<|J O O (qO O el51 O O (by omega) (zDc hs))<|J O O (qW O wZ O)<|J O O (zJ O one9 O qA O)<|J O O (zP O O)<|J O O (zP O O)<|J O O (qO O el51 O O (by omega) (zDc hs))<|J O O (qW O zFo O)<|J O O (zJ O one3 O qA O)<|J O O (zBt O zr118 pl118 O)<|J O O (yK O el113 zr118 O O O O)<|yO<|zU O O (kG 0 O el113 O O O (by simp only [List.length_map,List.length_append,List.length_cons,List.length_nil,List.length_take,List.length_drop];omega) (by simp only [List.length_map,List.length_append,List.length_cons,List.length_nil,List.length_take,List.length_drop];omega)) ?_
   rintro _ _ ⟨sv3,rfl,rfl⟩
   refine G O<|R<|zN O<|qI O ⟨by omega,by omega⟩<|G O<|R ?_
   refine ⟨⟨k+1,sv3⟩,(by omega),(by show (trailT n.Body way).length-(k+1)<(trailT n.Body way).length-k;omega),Weak.mk [true] ⟨Y,Y,Y,Y,T⟩ (by exact zFm (by rw [enc_step hs];first|(rw [bdNm_yes c2,List.map_append];rfl)|(rw [bdNm_no c2,List.append_nil])))⟩
  ·try simp only [sx] at c2
   refine zI<|zN O<|qI O ⟨by omega,by omega⟩<|G O<|R ?_
   refine ⟨⟨k+1,sv⟩,(by omega),(by show (trailT n.Body way).length-(k+1)<(trailT n.Body way).length-k;omega),Weak.mk [true] ⟨Y,Y,Y,Y,T⟩ (by exact zFm (by rw [enc_step hs];first|(rw [bdNm_yes c2,List.map_append];rfl)|(rw [bdNm_no c2,List.append_nil])))⟩
 ·try simp only [sx] at c1
  refine qP<|zK<|zX _ (kQ 0 O (regs':=[(5,_)]) (μ':=[]) ⟨FLe.sl,T⟩ T)<|zN O<|G O<|G O<|R<|zF<|zQ O ?_
  rw [←enc_all (l:=n.Body) (way:=way) (k:=k) (by omega)]
end Go.W
end
section
set_option maxRecDepth 10000
namespace Go.W
open Go Go.Eng Go.Proofs Go.L41 Go.Br
attribute [local irreducible] AWP RWP TD finQ
theorem ok134:callOk Tryz.prog 134=true:=by kernel_rfl
theorem ok195:callOk Tryz.prog 195=true:=by kernel_rfl
theorem pl101:placesT Tryz.prog 101=some [(0,1),(1,1)]:=by kernel_rfl
theorem pl104:placesT Tryz.prog 104=some [(0,2),(2,1),(3,1)]:=by kernel_rfl
theorem sz99:(Tryz.prog.info? 99).map (·.size)=some 1:=by kernel_rfl
theorem sz102:(Tryz.prog.info? 102).map (·.size)=some 1:=by kernel_rfl
theorem sz105:(Tryz.prog.info? 105).map (·.size)=some 1:=by kernel_rfl
theorem sz106:(Tryz.prog.info? 106).map (·.size)=some 1:=by kernel_rfl
theorem zNf (l:Lf) (hl:l.L.length<=4294967296):
    Pur cfg 195 [vLin l] (vLin l):=by
 refine zS Tryz.func195 O Tryz.ntmps195 Tryz.results195 O ?_
 intro z hz
 refine A O<|zU O O (qN O O) ?_
 rintro _ _ ⟨b1,rfl,rfl⟩
 refine zU O O (qT [none,some 2] O zKm O) ?_
 rintro _ _ ⟨b2,rfl,rfl⟩
 refine R<|A O<|zH O zCt<|zM r (zD 1 O) O<|yU O zKm pl101<|zU O O (yL O zKm) ?_
 rintro _ _ ⟨b3,rfl,rfl⟩
 refine yX _ (wI 98 2)<|rStR 1 zQt O<|R<|A O<|zH O kT<|zM zBp (zD 1 O) O<|zH O kT<|zM zBp (zD 3 O) O<|zU O O (kG 0 O el99 O O O (by simp;omega) (by simp;omega)) ?_
 rintro _ _ ⟨sv5,rfl,rfl⟩
 refine zH O kT<|rStR 1 sz99 O<|R<|A O<|yX _ (kQ 0 O (regs':=[(11,_)]) (μ':=[_,_,_]) ⟨FLe.sl,T⟩ ⟨EFle.row (ds:=[_,_]) ⟨.inl O,.inr ⟨O,O⟩,T⟩,EFle.refl _,EFle.refl _,T⟩)<|zO kL (zD 0 O) O<|rStR 1 zQt O<|R<|zF<|v (qL kL O (zD 1 O) O) ?_
 rfl
theorem zRk (e:Ex) (ih:∀a,a∈e.Args->a.wt<=4294967296->Pur cfg 134 [vE a] (vE a)) (he:e.wt<=4294967296):
    Pur cfg 134 [vE e] (vE e):=by
 refine zS Tryz.func134 O Tryz.ntmps134 Tryz.results134 O ?_
 intro z hz
 obtain ⟨hL,hI,hA⟩:=e.parts he
 refine A O<|zU O O (qN O O) ?_
 rintro _ _ ⟨b1,rfl,rfl⟩
 refine zU O O (qT [none,none,none,none,none,none,none,none,none,none,some 2,some 4,some 13] O zDx O) ?_
 rintro _ _ ⟨b2,rfl,rfl⟩
 refine R<|zK<|kN 13 1 [⟨0,.q []⟩,⟨1,.q [2]⟩,⟨2,.q []⟩,⟨3,.q [2]⟩,⟨4,.q []⟩,⟨5,.q [2]⟩,⟨6,.q []⟩,⟨7,.q [2]⟩,⟨8,.q []⟩,⟨9,.q [2]⟩,⟨10,.q []⟩,⟨11,.q []⟩,⟨12,.f 0⟩] mixed (by kernel_rfl) (by kernel_rfl) O O O<|zW O<|zW O<|zW O<|zW O<|zW O<|zW O<|zW O<|zW O<|zW O<|zW O<|zW O<|zW O<|zPp O O (zFc (qT [none,none,none,none,none,none,none,none,none,none,some 2,some 4,some 13] O zDx O)) ⟨_,_,0,O,O⟩<|zCc<|qF O (by decide) O O (zE O kA O)<|qF O (by decide) O O (zJ O one3 O (zD 0 O) O)<|qF O (by decide) O O (zE O zBs O)<|qF O (by decide) O O (zJ O one9 O (zD 0 O) O)<|qF O (by decide) O O (zE O zDm O)<|qF O (by decide) O O (zV O zAw O (zD 0 O) O)<|qF O (by decide) O O (zE O zAo O)<|qF O (by decide) O O (zV O yI O (zD 0 O) O)<|qF O (by decide) O O (zE O zCs O)<|qF O (by decide) O O (zV O kL O (zD 0 O) O)<|qF O (by decide) O O (qC O ok195 (zNf e.Lin hL) ⟨Y,O,T⟩)<|qF O (by decide) O O (zBt O zDx zRn O)<|zPe O O ?_
 rintro _ _ ⟨b3,rfl,rfl⟩
 refine zCb O<|rStR 0 zNb O<|R<|zK<|A O<|yX _ (wI 104 4)<|yX _ (wI 108 13)<|G O<|R<|zR<|zX ⟨[(4,.c _),(1,.c _),(2,.c _),(3,.c _)],[_,_,_,_,_]⟩ (Weak.mk [true,true,true,true,true] ⟨Y,Y,Y,Y,T⟩ O)<|qG 1 3 O O (Nat×Value) (fun ⟨k,sv⟩=>[(4,vI k)]) (fun ⟨k,sv⟩=>[E.vec (.slice none 0 0) 108 13 [],E.vec sv 104 4 ((e.Idx.take k).map Ix.cells),E.row b3 108 [cI e.Op,cS e.Name,cI e.Val.N,cI e.Val.D,cI e.Ty.Kind,cI e.Ty.Bits,cI e.Ty.Frac,cI e.Ty.Round,cI e.Ty.Over,cI e.Lin.K,.sl 2 (e.Lin.L.map Mono.cells),.lit sv,.lit (.slice none 0 0)]]) (fun ⟨k,sv⟩=>k<=e.Idx.length) (fun ⟨k,sv⟩=>e.Idx.length-k) ⟨⟨0,(.slice none 0 0)⟩,(by omega),Weak.mk [true,true,true,true,true] ⟨Y,Y,Y,Y,T⟩ O⟩ ?_
 rintro ⟨k,sv⟩ hk
 show AWP _ _ _ _ _ ⟨[(4,vI k)]++_,[E.vec (.slice none 0 0) 108 13 [],E.vec sv 104 4 ((e.Idx.take k).map Ix.cells),E.row b3 108 [cI e.Op,cS e.Name,cI e.Val.N,cI e.Val.D,cI e.Ty.Kind,cI e.Ty.Bits,cI e.Ty.Frac,cI e.Ty.Round,cI e.Ty.Over,cI e.Lin.K,.sl 2 (e.Lin.L.map Mono.cells),.lit sv,.lit (.slice none 0 0)]]++_⟩
 refine zK<|A O<|G O<|zH O yV<|zM kF (zD 4 O) O<|zZ O kO<|yJ O<|R<|zC O (fun c1=>?_) (fun c1=>?_)
 ·try simp only [sx] at c1
  obtain ⟨x,hx⟩:=qY e.Idx k (by omega)
  have hxw:=Ex.idx_wt (zY hx)
  refine zI<|zK<|zR<|zK<|kN 15 1 [⟨0,.q []⟩,⟨1,.q [5]⟩,⟨2,.q []⟩,⟨3,.q []⟩,⟨4,.q []⟩,⟨5,.q []⟩,⟨6,.q []⟩,⟨7,.q []⟩,⟨8,.q [5]⟩,⟨9,.q []⟩,⟨10,.q []⟩,⟨11,.q []⟩,⟨12,.q []⟩,⟨13,.q []⟩,⟨14,.f 0⟩] mixed (by kernel_rfl) (by kernel_rfl) O O O<|zW O<|zW O<|zW O<|zW O<|zW O<|zW O<|zW O<|zW O<|zW O<|zW O<|zW O<|zW O<|zW O<|zW O<|zPp O O (zFc (qT [none,some 2,none,some 2] O zLf O)) ⟨_,_,0,O,O⟩<|zCc<|qF O (by decide) O O (zE O yV O)<|qF O (by decide) O O (zJ O kF O (zD 0 O) O)<|qF O (by decide) O O (zP O O)<|qF O (by decide) O O (qO O kO O O (by omega) (getm (by assumption)))<|qF O (by decide) O O (qW O zAh O)<|qF O (by decide) O O (zV O kL O qA O)<|qF O (by decide) O O (qC O ok195 (zNf x.Lin (by have:=Ex.idx_wt (zY hx);omega)) ⟨Y,O,T⟩)<|qF O (by decide) O O (zE O yV O)<|qF O (by decide) O O (zJ O kF O (zD 0 O) O)<|qF O (by decide) O O (zP O O)<|qF O (by decide) O O (qO O kO O O (by omega) (getm (by assumption)))<|qF O (by decide) O O (qW O zAg O)<|qF O (by decide) O O (zJ O one9 O qA O)<|qF O (by decide) O O (zBt O zLf pl104 O)<|zPe O O ?_
  rintro _ _ ⟨b4,rfl,rfl⟩
  refine zCb O<|rStR 0 sz104 O<|R<|zK<|A O<|yX _ (wI 101 2)<|G O<|R<|zR<|zX ⟨[(6,.c _),(1,.c _),(2,.c _),(3,.c _),(4,.c _),(5,.c _)],[_,_,_,_,_,_,_]⟩ (Weak.mk [true,true,true,true,true,true,true] ⟨Y,Y,Y,Y,Y,Y,T⟩ O)<|qG 1 2 O O (Nat×Value) (fun ⟨j,sw⟩=>[(6,vI j)]) (fun ⟨j,sw⟩=>[E.vec sw 101 2 ((x.At.take j).map Lf.cells),E.row b4 104 [cI x.Lin.K,.sl 2 (x.Lin.L.map Mono.cells),cS x.From,.lit sw]]) (fun ⟨j,sw⟩=>j<=x.At.length) (fun ⟨j,sw⟩=>x.At.length-j) ⟨⟨0,(.slice none 0 0)⟩,(by omega),Weak.mk [true,true,true,true,true,true,true] ⟨Y,Y,Y,Y,Y,Y,T⟩ O⟩ ?_
  rintro ⟨j,sw⟩ hj
  show AWP _ _ _ _ _ ⟨[(6,vI j)]++_,[E.vec sw 101 2 ((x.At.take j).map Lf.cells),E.row b4 104 [cI x.Lin.K,.sl 2 (x.Lin.L.map Mono.cells),cS x.From,.lit sw]]++_⟩
  refine zK<|A O<|G O<|zH O yV<|zM kF (zD 6 O) O<|G O<|qE O kO (by omega) (getm (by assumption))<|yB O wC<|zM zAk qA O<|zZ O wV<|yJ O<|R<|zC O (fun c2=>?_) (fun c2=>?_)
  ·try simp only [sx] at c2
   obtain ⟨l,hl⟩:=qY x.At j (by omega)
   refine zI<|zK<|zR<|qU 13 mixed (by kernel_rfl) O O<|J O O (zE O wC O)<|J O O (zJ O zAk O (zD 1 O) O)<|J O O (zE O yV O)<|J O O (zJ O kF O (zD 6 O) O)<|J O O (zP O O)<|J O O (qO O kO O O (by omega) (getm (by assumption)))<|J O O (qW O wC O)<|J O O (zJ O zAk O qA O)<|J O O (zP O O)<|J O O (qO O wV O O (by omega) (getm (by assumption)))<|J O O (zV O kL O qA O)<|J O O (qC O ok195 (zNf l (by have:=Ex.idx_wt (zY hx);have:=zAd (zY hl);omega)) ⟨Y,O,T⟩)<|J O O (yK O wV zKm O O O O)<|yO<|zU O O (kG 0 O wV O O O (by simp only [List.length_take,List.length_map,List.length_append,List.length_cons,List.length_nil];omega) (by simp only [List.length_take,List.length_map,List.length_append,List.length_cons,List.length_nil];omega)) ?_
   rintro _ _ ⟨sv5,rfl,rfl⟩
   refine zH O wC<|rStR 1 sz102 O<|R<|zN O<|G O<|qI O ⟨by omega,by omega⟩<|G O<|R ?_
   refine ⟨⟨j+1,sv5⟩,(by omega),(by show x.At.length-(j+1)<x.At.length-j;omega),Weak.mk [true,true,true,true,true,true,true] ⟨Y,Y,Y,Y,Y,Y,T⟩ (by exact mem2_eq' (by rw [yN hl,List.map_append];rfl))⟩
  ·try simp only [sx] at c2
   rw [yE (l:=x.At) (k:=j) (by omega)]
   refine zX _ (kQ 0 O (regs':=[]) (μ':=[_,_,_,_,_,_]) T ⟨EFle.row (ds:=[_,_,_,_]) ⟨.inl O,.inl O,.inl O,.inr ⟨O,O⟩,T⟩,EFle.refl _,EFle.refl _,EFle.refl _,EFle.refl _,EFle.refl _,T⟩)<|qP<|zN O<|zH O yV<|zM kF (zD 3 O) O<|zO zDf (zD 0 O) O<|zT O (yK O kO zLf O O O O)<|zU O O (kG 2 O kO O O O (by simp only [List.length_take,List.length_map,List.length_append,List.length_cons,List.length_nil];omega) (by simp only [List.length_take,List.length_map,List.length_append,List.length_cons,List.length_nil];omega)) ?_
   rintro _ _ ⟨sv6,rfl,rfl⟩
   refine zH O yV<|rStR 3 sz105 O<|R<|zN O<|G O<|qI O ⟨by omega,by omega⟩<|G O<|R ?_
   refine ⟨⟨k+1,sv6⟩,(by omega),(by show e.Idx.length-(k+1)<e.Idx.length-k;omega),Weak.mk [false,true,true,true,true,true] ⟨Y,Y,Y,Y,T⟩ (by exact mem3_eq (by rw [yN hx,List.map_append];rfl))⟩
 ·try simp only [sx] at c1
  rw [yE (l:=e.Idx) (k:=k) (by omega)]
  refine zX _ (kQ 1 O (regs':=[]) (μ':=[_,_,_,_]) T ⟨EFle.refl _,EFle.row (ds:=[_,_,_,_,_,_,_,_,_,_,_,_,_]) ⟨.inl O,.inl O,.inl O,.inl O,.inl O,.inl O,.inl O,.inl O,.inl O,.inl O,.inl O,.inr ⟨O,O⟩,.inl O,T⟩,EFle.refl _,EFle.refl _,T⟩)<|qP<|zK<|A O<|G O<|R<|zR<|zX ⟨[(7,.c _),(1,.c _),(2,.c _),(3,.c _)],[_,_,_,_]⟩ (Weak.mk [true,true,true,true] ⟨Y,Y,Y,Y,T⟩ O)<|qG 1 2 O O (Nat×Value) (fun ⟨n,su⟩=>[(7,vI n)]) (fun ⟨n,su⟩=>[E.vec su 108 13 ((e.Args.take n).map Ex.cells),E.row b3 108 [cI e.Op,cS e.Name,cI e.Val.N,cI e.Val.D,cI e.Ty.Kind,cI e.Ty.Bits,cI e.Ty.Frac,cI e.Ty.Round,cI e.Ty.Over,cI e.Lin.K,.sl 2 (e.Lin.L.map Mono.cells),.sl 4 (e.Idx.map Ix.cells),.lit su]]) (fun ⟨n,su⟩=>n<=e.Args.length) (fun ⟨n,su⟩=>e.Args.length-n) ⟨⟨0,(.slice none 0 0)⟩,(by omega),Weak.mk [true,true,true,true] ⟨Y,Y,Y,Y,T⟩ O⟩ ?_
  rintro ⟨n,su⟩ hn
  show AWP _ _ _ _ _ ⟨[(7,vI n)]++_,[E.vec su 108 13 ((e.Args.take n).map Ex.cells),E.row b3 108 [cI e.Op,cS e.Name,cI e.Val.N,cI e.Val.D,cI e.Ty.Kind,cI e.Ty.Bits,cI e.Ty.Frac,cI e.Ty.Round,cI e.Ty.Over,cI e.Lin.K,.sl 2 (e.Lin.L.map Mono.cells),.sl 4 (e.Idx.map Ix.cells),.lit su]]++_⟩
  refine zK<|A O<|G O<|zH O yY<|zM kU (zD 3 O) O<|zZ O wE<|yJ O<|R<|zC O (fun c3=>?_) (fun c3=>?_)
  ·try simp only [sx] at c3
   obtain ⟨a,ha⟩:=qY e.Args n (by omega)
   refine zI<|zK<|zR<|qU 9 mixed (by kernel_rfl) O O<|J O O (zE O yY O)<|J O O (zJ O kU O (zD 1 O) O)<|J O O (zE O yY O)<|J O O (zJ O kU O (zD 3 O) O)<|J O O (zP O O)<|J O O (qO O wE O O (by omega) (zBr (by assumption)))<|J O O (zV O qX O qA O)<|J O O (qC O ok134 (ih a (zY ha) (by have:=Ex.arg_wt (zY ha);omega)) ⟨Y,O,T⟩)<|J O O (yK O wE zDx O O O O)<|yO<|zU O O (kG 0 O wE O O O (by simp only [List.length_take,List.length_map,List.length_append,List.length_cons,List.length_nil];omega) (by simp only [List.length_take,List.length_map,List.length_append,List.length_cons,List.length_nil];omega)) ?_
   rintro _ _ ⟨sv7,rfl,rfl⟩
   refine zH O yY<|rStR 1 sz106 O<|R<|zN O<|G O<|qI O ⟨by omega,by omega⟩<|G O<|R ?_
   refine ⟨⟨n+1,sv7⟩,(by omega),(by show e.Args.length-(n+1)<e.Args.length-n;omega),Weak.mk [true,true,true,true] ⟨Y,Y,Y,Y,T⟩ (by exact mem2_eq' (by rw [yN ha,List.map_append];simp only [List.map_cons,List.map_nil,Ex.cells_eq]))⟩
  ·try simp only [sx] at c3
   rw [yE (l:=e.Args) (k:=n) (by omega)]
   refine zX _ (kQ 0 O (regs':=[]) (μ':=[_,_,_]) T ⟨EFle.row (ds:=[_,_,_,_,_,_,_,_,_,_,_,_,_]) ⟨.inl O,.inl O,.inl O,.inl O,.inl O,.inl O,.inl O,.inl O,.inl O,.inl O,.inl O,.inl O,.inr ⟨O,O⟩,T⟩,EFle.refl _,EFle.refl _,T⟩)<|qP<|A O<|zO qX (zD 0 O) O<|rStR 1 zNb O<|R<|zF<|v (qL qX O (zD 1 O) O) ?_
   rfl
theorem ref14_Twin (e:Ex) (he:e.wt<=4294967296):Pur cfg 134 [vE e] (vE e):=by
  induction e using Ex.ind with
  |_ e ih=>exact zRk e (fun a ha h=>ih a ha h) he
end Go.W
end
section
set_option maxRecDepth 10000
namespace Go.W
open Go Go.Eng Go.Proofs Go.L41 Go.Br
attribute [local irreducible] AWP RWP TD finQ
theorem zNu:elemT Tryz.prog 128=some (5,1,1):=by kernel_rfl
theorem ik5:intT Tryz.prog 5=some .u8:=by kernel_rfl
theorem ok37:callOk Tryz.prog 37=true:=by kernel_rfl
theorem ok78:callOk Tryz.prog 78=true:=by kernel_rfl
theorem ok86:callOk Tryz.prog 86=true:=by kernel_rfl
theorem sz51:(Tryz.prog.info? 51).map (·.size)=some 1:=by kernel_rfl
theorem un5:Tryz.prog.underlying 5=some (.int .u8):=by kernel_rfl
theorem un128:Tryz.prog.underlying 128=some (.slice 5):=by kernel_rfl
theorem zr5:zeroT Tryz.prog 5=some [(Value.int IntKind.u8 0)]:=by kernel_rfl
theorem base_Ints (a b:List Int) (ha:a.length<=17592186044416):
    Pur cfg 42 [vIs a,vIs b] (vB (decide (a=b))):=by
 refine zS Tryz.func42 O Tryz.ntmps42 Tryz.results42 O ?_
 intro z hz
 refine A O<|G O<|R<|zK<|A O<|G O<|zZ O el55<|G O<|zZ O el55<|kP O<|R<|zC O (fun c1=>?_) (fun c1=>?_)
 ·try simp only [sx] at c1
  refine A O<|G O<|R<|zF<|zQ O ?_
  rw [yF (fun h=>c1 (by rw [h]))]
 ·try simp only [sx] at c1
  refine zI<|zK<|A O<|G O<|R<|zR<|zX ⟨[(5,.c _),(0,.c _),(1,.c _)],[]⟩ (Weak.mk [] ⟨Y,Y,Y,T⟩ O)<|qG 1 0 O O (Nat) (fun k=>[(5,vI k)]) (fun k=>[]) (fun k=>k<=a.length/\(a.take k=b.take k)) (fun k=>a.length-k) ⟨0,⟨by omega,O⟩,Weak.mk [] ⟨Y,Y,Y,T⟩ O⟩ ?_
  rintro k ⟨hk,hp⟩
  refine zK<|A O<|G O<|G O<|zZ O el55<|yJ O<|R<|zC O (fun c2=>?_) (fun c2=>?_)
  ·try simp only [sx] at c2
   obtain ⟨x,hx⟩:=qY a k (by omega)
   obtain ⟨y,hy⟩:=qY b k (by omega)
   refine zI<|zK<|zR<|zK<|qU 9 mixed (by kernel_rfl) O O<|J O O (zP O O)<|J O O (zP O O)<|J O O (qO O el55 O O (by omega) (getm (by assumption)))<|J O O (zJ O one3 O qA O)<|J O O (zP O O)<|J O O (zP O O)<|J O O (qO O el55 O O (by omega) (getm (by assumption)))<|J O O (zJ O one3 O qA O)<|J O O (wU O O O)<|yO<|R<|zC O (fun c3=>?_) (fun c3=>?_)
   ·try simp only [sx] at c3
    refine A O<|G O<|R<|zF<|zQ O ?_
    rw [yF (zIh hx hy c3)]
   ·try simp only [sx] at c3
    refine zI<|zN O<|G O<|qI O ⟨by omega,by omega⟩<|G O<|R ?_
    refine ⟨k+1,⟨by omega,zDs hx hy hp c3⟩,(by omega),Weak.mk [] ⟨Y,Y,Y,T⟩ O⟩
  ·try simp only [sx] at c2
   refine qP<|A O<|G O<|R<|zF<|zQ O ?_
   rw [zAi (zFx hp (by omega) (by omega))]
theorem ref30_digits (n:Nat) (h1:1<=n) (h2:n<10^18):
    Pur cfg 54 [vI n] (vS (decB n)):=by
 refine zS Tryz.func54 O Tryz.ntmps54 Tryz.results54 O ?_
 intro z hz
 have hds:=zBu (n:=n) (by omega)
 refine A O<|G O<|R<|A O<|G O<|R<|zK<|zR<|zX ⟨[(0,.c _),(3,.c _)],[]⟩ (Weak.mk [] ⟨Y,Y,T⟩ O)<|qG 2 0 O O (Nat×ByteArray) (fun ⟨m,s⟩=>[(0,vI m),(3,vS s)]) (fun ⟨m,s⟩=>[]) (fun ⟨m,s⟩=>m<=n/\decB n=digB m++s) (fun ⟨m,s⟩=>m) ⟨⟨n,bs []⟩,⟨by omega,by rw [digB_pos (by omega)];apply ByteArray.ext;simp [bs]⟩,Weak.mk [] ⟨Y,VLe.of_eq (O),T⟩ O⟩ ?_
 rintro ⟨m,s⟩ ⟨hm,hp⟩
 show AWP _ _ _ _ _ ⟨[(0,vI m),(3,vS s)]++_,[]++_⟩
 refine zK<|A O<|G O<|zT O (yA O O O)<|R<|zC O (fun c1=>?_) (fun c1=>?_)
 ·try simp only [sx] at c1
  have hsz:=congrArg ByteArray.size hp
  rw [ByteArray.size_append] at hsz
  refine zI<|zK<|zR<|zN O<|G O<|zT O (zSx O O O (by decide))<|qI O ⟨by have:=dig_rem m;omega,by have:=dig_rem m;omega⟩<|zT O (wK O us3 ik5 O)<|zT O (yK O zNu zr5 O O O O)<|zT O (zKk [_] O un128 un5 un9 O (by simp) (dig_conv m))<|G O<|kY O (by have:(bs [UInt8.ofNat (48+m%10)]).size=1:=rfl;omega)<|G O<|R<|zN O<|G O<|zT O (det_quo O O O (by decide))<|G O<|R ?_
  refine ⟨⟨m/10,bs [UInt8.ofNat (48+m%10)]++s⟩,⟨by omega,dig_next (by omega) hp⟩,(by show m/10<m;omega),Weak.mk [] ⟨VLe.of_eq (congrArg vI (dig_quo m (by omega))),Y,T⟩ O⟩
 ·try simp only [sx] at c1
  refine qP<|A O<|G O<|G O<|R<|zF<|zQ O ?_
  rw [dig_end (by omega) hp]
theorem zHl (l:List St) (hl:stsWt l<=536870912) (ih:∀s,s∈l->Pur cfg 78 [vSts s.Body] (vB (shortL s.Body))):
    Pur cfg 78 [vSts l] (vB (shortL l)):=by
 refine zS Tryz.func78 O Tryz.ntmps78 Tryz.results78 O ?_
 intro z hz
 have hll:=zAe l
 refine A O<|G O<|R<|zK<|A O<|G O<|R<|zR<|zX ⟨[(3,.c _),(0,.c _)],[]⟩ (Weak.mk [] ⟨Y,Y,T⟩ O)<|qG 1 0 O O (Nat) (fun k=>[(3,vI k)]) (fun k=>[]) (fun k=>k<=l.length/\((l.take k).all shortT=true)) (fun k=>l.length-k) ⟨0,⟨by omega,O⟩,Weak.mk [] ⟨Y,Y,T⟩ O⟩ ?_
 rintro k ⟨hk,hp⟩
 refine zK<|A O<|G O<|G O<|zZ O el51<|yJ O<|R<|zC O (fun c1=>?_) (fun c1=>?_)
 ·try simp only [sx] at c1
  obtain ⟨s,hs⟩:=qY l k (by omega)
  refine zI<|zK<|zR<|A O<|G O<|G O<|qE O el51 (by omega) (zDc hs)<|yB O wZ<|zM one9 qA O<|zT O (kS O un9 O)<|zT O (yA O O O)<|G O<|rL0 O (fun g4_7=>zP O O) O<|rL0 O (fun g4_7=>zP O O) O<|rLz [(18,_),(19,_)] O gv1 ⟨O,O,O,O,T⟩ (fun g4_7=>qO O el51 O O (by omega) (zDc hs)) O<|rL1 20 O (fun g4_7=>qW O zDl O) O<|rL1 21 O (fun g4_7=>zJ O kF O qA O) O<|rL1 22 O (fun g4_7=>yG O kO O) O<|rL1 23 O (fun g4_7=>yA O O O) O<|r_or O (fun h=>(lzf h))<|G O<|rL0 O (fun g4_16=>zP O O) O<|rL0 O (fun g4_16=>zP O O) O<|rLz [(27,_),(28,_)] O gv1 ⟨O,O,O,O,T⟩ (fun g4_16=>qO O el51 O O (by omega) (zDc hs)) O<|rL1 29 O (fun g4_16=>qW O zAu O) O<|rL1 30 O (fun g4_16=>zJ O zCg O qA O) O<|rL1 31 O (fun g4_16=>qC O ok78 (ih s (zY hs)) ⟨Y,O,T⟩) O<|rL1 32 O (fun g4_16=>wL O O) O<|r_or O (fun h=>(lzf h))<|R<|zC O (fun c2=>?_) (fun c2=>?_)
  ·refine A O<|G O<|R<|zF<|zQ O ?_
   rw [zRa,zKl hs (short_t c2)]
  ·refine zI<|zN O<|G O<|qI O ⟨by omega,by omega⟩<|G O<|R ?_
   refine ⟨k+1,⟨by omega,zEu hs hp (short_f c2)⟩,(by omega),Weak.mk [] ⟨Y,Y,T⟩ O⟩
 ·try simp only [sx] at c1
  refine qP<|A O<|G O<|R<|zF<|zQ O ?_
  rw [yE (by omega)] at hp;rw [zRa,hp]
theorem zOu (s:St) (hl:stsWt s.Body<=536870912):Pur cfg 78 [vSts s.Body] (vB (shortL s.Body)):=by
  induction s using St.ind with
  |_ s ih=>exact zHl s.Body hl fun a ha=>ih a ha (by have:=kK ha;have:=St.body_wt a;omega)
theorem law30_short (l:List St) (hl:stsWt l<=536870912):Pur cfg 78 [vSts l] (vB (shortL l)):=
  zHl l hl fun s hs=>zOu s (by have:=kK hs;have:=St.body_wt s;omega)
theorem law30_FewStmts (l:List St) (m:Nat) (x:Int) (hf:fitS l) (hl:l.length<=140737488355328) (hm:m<=5000) (hx:x=m):
    Pur cfg 37 [vSts l,vI x] (vB (fewS l m)):=by
 refine zS Tryz.func37 O Tryz.ntmps37 Tryz.results37 O ?_
 intro z hz
 refine A O<|G O<|R<|A O<|G O<|G O<|qK O ok77 (zTm l m x hf hl hm hx) ⟨Y,O,Y,O,T⟩<|G O<|zT O (zAa O O O)<|G O<|rL0 O (fun g1_5=>zP O O) O<|rL1 11 O (fun g1_5=>qC O ok78 (law30_short l (by simp only [Lz,cond_true,cond_false,Bool.and_eq_true,Bool.or_eq_true,Bool.not_eq_true',Bool.not_eq_false',Bool.or_eq_false_iff,Bool.and_eq_false_iff,decide_eq_true_eq,decide_eq_false_iff_not,Bool.not_eq_true,Bool.not_eq_false] at g1_5;have:=zQg (l:=l) (m:=m) (by omega);omega)) ⟨Y,O,T⟩) O<|yZ O (fun h=>h)<|G O<|R<|zF<|zQ O ?_
 subst hx
 exact congrArg vB (by unfold fewS;congr 1;exact decide_eq_decide.2 (by omega))
theorem law30_Few (n:Ns) (m:Nat) (x:Int) (hf:n.Fit) (hm:m<=5000) (hx:x=m):
    Pur cfg 14 [vNs n,vI x] (vB (fewN n m)):=by
 refine zS Tryz.func14 O Tryz.ntmps14 Tryz.results14 O ?_
 intro z hz
 have hbl:=hf.bufs
 refine A O<|zU O O (qN O O) ?_
 rintro _ _ ⟨b1,rfl,rfl⟩
 refine G O<|R<|zK<|A O<|zH O zAt<|zM zDv (zD 0 O) O<|zZ O el50<|zT O (yA O O O)<|R<|zC O (fun c1=>?_) (fun c1=>?_)
 ·try simp only [sx] at c1
  refine A O<|G O<|R<|zF<|zQ O ?_
  rw [few_1 (by omega)]
 ·try simp only [sx] at c1
  refine zI<|zK<|A O<|G O<|R<|zR<|zX ⟨[(5,.c _),(1,.c _),(2,.c _)],[_]⟩ (Weak.mk [true] ⟨Y,Y,Y,T⟩ O)<|qG 1 0 O O (Nat) (fun k=>[(5,vI k)]) (fun k=>[]) (fun k=>k<=n.Bufs.length/\((n.Bufs.take k).all fewBf=true)) (fun k=>n.Bufs.length-k) ⟨0,⟨by omega,O⟩,Weak.mk [true] ⟨Y,Y,Y,T⟩ O⟩ ?_
  rintro k ⟨hk,hp⟩
  refine zK<|A O<|G O<|zH O zAt<|zM zDv (zD 0 O) O<|zZ O el50<|yJ O<|R<|zC O (fun c2=>?_) (fun c2=>?_)
  ·try simp only [sx] at c2
   obtain ⟨b,hb⟩:=qY n.Bufs k (by omega)
   refine zI<|zK<|zR<|A O<|zH O zAt<|zM zDv (zD 0 O) O<|G O<|qE O el50 (by omega) (getm (by assumption))<|yB O zEt<|zM zEh qA O<|zZ O el55<|zT O (yA O O O)<|G O<|rL0 O (fun g6_8=>zE O zAt O) O<|rL1 26 O (fun g6_8=>zJ O zDv O (zD 0 O) O) O<|rL0 O (fun g6_8=>zP O O) O<|rLz [(27,_),(28,_)] O gv1 ⟨O,O,O,O,T⟩ (fun g6_8=>qO O el50 O O (by omega) (getm (by assumption))) O<|rL1 29 O (fun g6_8=>qW O zHm O) O<|rL1 30 O (fun g6_8=>zJ O one9 O qA O) O<|rL1 31 O (fun g6_8=>kS O un9 O) O<|rL1 32 O (fun g6_8=>yA O O O) O<|r_or O (fun h=>(lzf h))<|R<|zC O (fun c3=>?_) (fun c3=>?_)
   ·refine A O<|G O<|R<|zF<|zQ O ?_
    rw [few_2 hb (fewB_t c3)]
   ·refine zI<|zN O<|G O<|qI O ⟨by omega,by omega⟩<|G O<|R ?_
    refine ⟨k+1,⟨by omega,zEu hb hp (fewB_f c3)⟩,(by omega),Weak.mk [true] ⟨Y,Y,Y,T⟩ O⟩
  ·try simp only [sx] at c2
   refine qP<|A O<|zH O zFf<|zM zCg (zD 0 O) O<|G O<|qK O ok37 (law30_FewStmts n.Body m x hf.body hf.len hm hx) ⟨Y,O,Y,O,T⟩<|G O<|R<|zF<|zQ O ?_
   rw [yE (by omega)] at hp;exact congrArg vB (few_3 (by omega) hp)
theorem zHi (l:List St) (hl:stsWt l<=1000000) (ih:∀s,s∈l->Pur cfg 86 [vSts s.Body] (vSts s.Body)):
    Pur cfg 86 [vSts l] (vSts l):=by
 refine zS Tryz.func86 O Tryz.ntmps86 Tryz.results86 O ?_
 intro z hz
 have hll:=zAe l
 refine A O<|zT O (kE 20 O O)<|R<|A O<|G O<|yX _ (wI 110 20)<|R<|zK<|A O<|G O<|R<|zR<|zX ⟨[(4,.c _),(3,.c _),(0,.c _)],[_]⟩ (Weak.mk [true] ⟨Y,Y,Y,T⟩ O)<|qG 2 1 O O (Nat×Value) (fun ⟨k,sv⟩=>[(4,vI k),(3,.c (.lit sv))]) (fun ⟨k,sv⟩=>[E.vec sv 110 20 ((l.take k).map St.cells)]) (fun ⟨k,sv⟩=>k<=l.length) (fun ⟨k,sv⟩=>l.length-k) ⟨⟨0,(.slice none 0 0)⟩,(by omega),Weak.mk [true] ⟨Y,Y,Y,T⟩ O⟩ ?_
 rintro ⟨k,sv⟩ hk
 show AWP _ _ _ _ _ ⟨[(4,vI k),(3,.c (.lit sv))]++_,[E.vec sv 110 20 ((l.take k).map St.cells)]++_⟩
 refine zK<|A O<|G O<|G O<|zZ O el51<|yJ O<|R<|zC O (fun c1=>?_) (fun c1=>?_)
 ·try simp only [sx] at c1
  obtain ⟨s,hs⟩:=qY l k (by omega)
  have hsw:=kK (zY hs)
  have hse:=St.wt_eq s
  refine zI<|zK<|zR<|A O<|G O<|G O<|qE O el51 (by omega) (zDc hs)<|zO zDe qA O<|zU O O (qT [none,none,none,none,none,some 4,none,none,none,none,none,none,none,none,none,none,some 2,some 4,some 13,some 20] O zQb O) ?_
  rintro _ _ ⟨b2,rfl,rfl⟩
  refine rStR 0 sz110 O<|R<|A O<|zH O zDl<|zM kF (zD 0 O) O<|zT O (wG [none,none,none,none,none,none,none,none,none,none,some 2,none,some 13] O zDx zRn O O)<|qK O ok134 (ref14_Twin (rdZ s.Idx) (by rw [rdZ_wt];omega)) ⟨Y,O,T⟩<|zT O (det_part_one O yV kF O O)<|zH O zDl<|rStR 0 sz105 O<|R<|A O<|zH O zAv<|zO qX (zD 0 O) O<|qK O ok134 (ref14_Twin s.E (by omega)) ⟨Y,O,T⟩<|zH O zAv<|rStR 0 zNb O<|R<|A O<|zH O zAu<|zM zCg (zD 0 O) O<|qK O ok86 (ih s (zY hs)) ⟨Y,O,T⟩<|zH O zAu<|rStR 0 sz51 O<|R<|zN O<|G O<|zO zDe (zD 0 O) O<|zT O (yK O el51 zQb O O O O)<|zU O O (kG 1 O el51 O O O (by simp only [List.length_map,List.length_append,List.length_cons,List.length_nil,List.length_take,List.length_drop];omega) (by simp only [List.length_map,List.length_append,List.length_cons,List.length_nil,List.length_take,List.length_drop];omega)) ?_
  rintro _ _ ⟨sv3,rfl,rfl⟩
  refine G O<|R<|zN O<|G O<|qI O ⟨by omega,by omega⟩<|G O<|R ?_
  refine ⟨⟨k+1,sv3⟩,(by omega),(by show l.length-(k+1)<l.length-k;omega),Weak.mk [false,true] ⟨Y,Y,Y,T⟩ (by exact zFm (by rw [yN hs,List.map_append,List.map_singleton,St.cells_eq];rfl))⟩
 ·try simp only [sx] at c1
  rw [yE (l:=l) (k:=k) (by omega)]
  refine qP<|zK<|zX _ (kQ 0 O (regs':=[(3,_)]) (μ':=[]) ⟨FLe.sl,T⟩ T)<|zN O<|G O<|G O<|R<|zF<|zQ O ?_
  exact O
theorem zOt (s:St) (hl:stsWt s.Body<=1000000):Pur cfg 86 [vSts s.Body] (vSts s.Body):=by
  induction s using St.ind with
  |_ s ih=>exact zHi s.Body hl fun a ha=>ih a ha (by have:=kK ha;have:=St.body_wt a;omega)
theorem ref30_twins (l:List St) (hl:stsWt l<=1000000):Pur cfg 86 [vSts l] (vSts l):=
  zHi l hl fun s hs=>zOt s (by have:=kK hs;have:=St.body_wt s;omega)
end Go.W
end
section
set_option maxRecDepth 10000
namespace Go.W
open Go Go.Eng Go.Proofs Go.L41 Go.Br
attribute [local irreducible] AWP RWP TD finQ
theorem ok138:callOk Tryz.prog 138=true:=by kernel_rfl
theorem ok139:callOk Tryz.prog 139=true:=by kernel_rfl
end Go.W
end
section
set_option maxRecDepth 10000
namespace Go.W
open Go Go.Eng Go.Proofs Go.L41 Go.Br
attribute [local irreducible] AWP RWP TD finQ
theorem ok87:callOk Tryz.prog 87=true:=by kernel_rfl
theorem ok88:callOk Tryz.prog 88=true:=by kernel_rfl
theorem ok89:callOk Tryz.prog 89=true:=by kernel_rfl
theorem ok90:callOk Tryz.prog 90=true:=by kernel_rfl
theorem ok91:callOk Tryz.prog 91=true:=by kernel_rfl
theorem one170:oneT Tryz.prog 170=true:=by kernel_rfl
theorem one171:oneT Tryz.prog 171=true:=by kernel_rfl
theorem sm170:smapT Tryz.prog 170=some (Value.bool false):=by kernel_rfl
theorem sz170:(Tryz.prog.info? 170).map (·.size)=some 1:=by kernel_rfl
theorem sz171:(Tryz.prog.info? 171).map (·.size)=some 1:=by kernel_rfl
theorem zr170:zeroT Tryz.prog 170=some [(Value.map none)]:=by kernel_rfl
theorem zr171:zeroT Tryz.prog 171=some [Value.nilFunc]:=by kernel_rfl
theorem fresh_mark (mb:Nat) (m:BM) (l:Lf) (hl:l.L.length<=4294967296):
    Con cfg 87 [vLin l,.c (.iptr [.lit (.map (some mb))])] [E.blk mb (MapR vB (m))] fun r μ'=>r=.tup [vLin l,vI 0]/\μ'=[E.blk mb (MapR vB ((namesF l).foldl putB m))]:=by
 refine Con.drop<|zS Tryz.func87 O Tryz.ntmps87 Tryz.results87 O ?_
 intro z hz
 refine A O<|zU O O (qN O O) ?_
 rintro _ _ ⟨b1,rfl,rfl⟩
 refine zU O O (qT [none,some 2] O zKm O) ?_
 rintro _ _ ⟨b2,rfl,rfl⟩
 refine G O<|R<|zK<|A O<|zH O kT<|zM zBp (zD 1 O) O<|zZ O el99<|G O<|R<|zR<|zX ⟨[(10,.c _),(1,.c _),(2,.c _),(3,.c _),(8,.c _),(9,.c _)],[_,_,_]⟩ (Weak.mk [true,true,true] ⟨Y,Y,Y,Y,Y,Y,T⟩ O)<|qG 1 3 O O (Nat) (fun k=>[(10,vI k)]) (fun k=>[E.row b2 101 [cI 0,.sl 2 []],E.row b1 101 l.cells,E.blk mb (MapR vB (((l.L.take k).map Mono.Name).foldl putB m))]) (fun k=>k<=l.L.length) (fun k=>l.L.length-k) ⟨0,(by omega),Weak.mk [true,true,true] ⟨Y,Y,Y,Y,Y,Y,T⟩ O⟩ ?_
 rintro k hk
 refine A O<|yJ O<|R<|zK<|zC O (fun c1=>?_) (fun c1=>?_)
 ·try simp only [sx] at c1
  obtain ⟨q,hq⟩:=qY l.L k (by omega)
  refine zI<|zK<|zR<|A O<|qE O el99 (by omega) (getm (by assumption))<|zO zTq qA O<|zU O O (yL O zr98) ?_
  rintro _ _ ⟨b3,rfl,rfl⟩
  refine rStR 0 sz98 O<|R<|zN O<|zM one170 qA O<|zH O zEb<|zM one9 (zD 0 O) O<|zEg O O (zFy 3 true O sm170 O O O (Y) O)<|R<|zN O<|qI O ⟨by omega,by omega⟩<|G O<|R ?_
  refine ⟨k+1,(by omega),(by omega),Weak.mk [false,true,true,true] ⟨Y,Y,Y,Y,Y,Y,T⟩ (by rw [zSb hq,List.foldl_append];rfl)⟩
 ·try simp only [sx] at c1
  refine qP<|A O<|zO kL (zD 1 O) O<|rStR 0 zQt O<|G O<|R<|zF<|D (qL kL O (zD 0 O) O) (B O) ?_
  rw [yE (l:=l.L) (k:=k) (by omega)]
  exact ⟨O,[_,_],O⟩
theorem zIj (mb:Nat) (m:BM) (i:List Ix) (hi:i.length<=536870912) (hw:idxWt i<=536870912):
    Con cfg 90 [vIndices i,.c (.fn (.func 87) [] [.iptr [.lit (.map (some mb))]])] [E.blk mb (MapR vB (m))] fun r μ'=>r=.tup [vIndices i,vI 0]/\μ'=[E.blk mb (MapR vB ((namesI i).foldl putB m))]:=by
 refine Con.drop<|zS Tryz.func90 O Tryz.ntmps90 Tryz.results90 O ?_
 intro z hz
 refine A O<|zT O (kE 4 O O)<|G O<|R<|A O<|G O<|zU O O (zIb O ok138 (zQy i (by omega)) ⟨Y,O,T⟩) ?_
 rintro _ _ ⟨sv1,rfl,rfl⟩
 refine G O<|R<|A O<|G O<|R<|zK<|A O<|G O<|zZ O kO<|G O<|R<|zR<|zX ⟨[(14,.c _),(0,.c _),(1,.c _),(6,.c _),(13,.c _)],[_,_]⟩ (Weak.mk [true,true] ⟨Y,Y,Y,Y,Y,T⟩ O)<|qG 1 2 O O (Nat) (fun k=>[(14,vI k)]) (fun k=>[E.vec sv1 104 4 ((i.take k).map Ix.cells++(i.drop k).map Ix.cells),E.blk mb (MapR vB ((((i.take k).flatMap ixF).flatMap namesF).foldl putB m))]) (fun k=>k<=i.length) (fun k=>i.length-k) ⟨0,(by omega),Weak.mk [true,true] ⟨Y,Y,Y,Y,Y,T⟩ O⟩ ?_
 rintro k hk
 refine A O<|yJ O<|R<|zK<|zC O (fun c1=>?_) (fun c1=>?_)
 ·try simp only [sx] at c1
  obtain ⟨x,hx⟩:=qY i k (by omega)
  have hxw:=zCz (zY hx)
  rw [Ix.wt] at hxw
  refine zI<|zK<|zR<|A O<|G O<|G O<|R<|zK<|A O<|G O<|G O<|G O<|G O<|G O<|qE O kO (by omega) (getm (by assumption))<|yB O zAh<|zO kL qA O<|zU O O (zRp 1 O O O (FnCon.of_con (first:=[]) (cap:=[.iptr [.lit (.map (some mb))]]) (args:=[vLin x.Lin]) ok87 (fresh_mark mb _ x.Lin (by omega))) ⟨Y,O,T⟩) ?_
  rintro _ _ ⟨rfl,rfl⟩
  refine zT O (yH O O)<|zT O (yW O O O)<|zT O (kC O O O)<|zT O (yC 0 O kO O O O (by omega) (mid_len (by simp;omega) (by omega)))<|zT O (zEj O zAh O)<|zEg O O (zAn O zQt O O O (st_vec 0 O (mid_get (by simp;omega) hx) O))<|G O<|R<|A O<|G O<|kP O<|R<|zC O (fun c2=>?_) (fun c2=>?_)
  ·try simp only [sx] at c2
   exact absurd T c2
  ·try simp only [sx] at c2
   refine zI<|A O<|G O<|G O<|G O<|G O<|qE O kO (by omega) (getm (by assumption))<|yB O wC<|zM zAk qA O<|zU O O (zIb O ok139 (zOs x.At (by omega)) ⟨Y,O,T⟩) ?_
   rintro _ _ ⟨sv2,rfl,rfl⟩
   refine zT O (yC 1 O kO O O O (by omega) (by simp;omega))<|zT O (zEj O wC O)<|zEg O O (zAn O sz102 O O O (st_vec 1 O (set_get (by simp;omega)) O))<|R<|A O<|G O<|G O<|qE O kO (by omega) (getm (by assumption))<|yB O wC<|zM zAk qA O<|zZ O wV<|G O<|R<|zR<|zX ⟨[(50,.c _),(0,.c _),(1,.c _),(6,.c _),(8,.c _),(13,.c _),(14,.c _),(49,.c _)],[_,_,_]⟩ (Weak.mk [true,true,true] ⟨Y,Y,Y,Y,Y,Y,Y,Y,T⟩ O)<|qG 1 3 O O (Nat) (fun j=>[(50,vI j)]) (fun j=>[E.vec sv2 101 2 ((x.At.take j).map Lf.cells++(x.At.drop j).map Lf.cells),E.vec sv1 104 4 _,E.blk mb (MapR vB (((x.At.take j).flatMap namesF).foldl putB ((namesF x.Lin).foldl putB ((((i.take k).flatMap ixF).flatMap namesF).foldl putB m))))]) (fun j=>j<=x.At.length) (fun j=>x.At.length-j) ⟨0,(by omega),Weak.mk [true,true,true] ⟨Y,Y,Y,Y,Y,Y,Y,Y,T⟩ O⟩ ?_
   rintro j hj
   refine A O<|yJ O<|R<|zK<|zC O (fun c3=>?_) (fun c3=>?_)
   ·try simp only [sx] at c3
    obtain ⟨l,hl⟩:=qY x.At j (by omega)
    have hlw:=zAd (zY hl)
    refine zI<|zK<|zR<|A O<|G O<|G O<|R<|zK<|kN 21 0 [⟨0,.q []⟩,⟨1,.q []⟩,⟨2,.q [1]⟩,⟨3,.q []⟩,⟨4,.q [1]⟩,⟨5,.q []⟩,⟨6,.q []⟩,⟨7,.q []⟩,⟨8,.q []⟩,⟨9,.q []⟩,⟨10,.q []⟩,⟨11,.q []⟩,⟨12,.q []⟩,⟨13,.q []⟩,⟨14,.q []⟩,⟨15,.e 2 []⟩,⟨16,.q []⟩,⟨17,.q []⟩,⟨18,.q []⟩,⟨19,.q [0]⟩,⟨20,.e 0 []⟩] mixed (by kernel_rfl) (by kernel_rfl) O O O<|zW O<|zW O<|zW O<|zW O<|zW O<|zW O<|zW O<|zW O<|zW O<|zW O<|zW O<|zW O<|zW O<|zW O<|zW O<|zW O<|zW O<|zW O<|zW O<|zW O<|zW O<|zCc<|qF O (by decide) O O (zP O O)<|qF O (by decide) O O (zP O O)<|qF O (by decide) O O (yC 0 O kO O O O (by omega) (by simp;omega))<|qF O (by decide) O O (zEj O wC O)<|qF O (by decide) O O (zJ O zAk O (wY 0 O (set_get (by simp;omega))) O)<|qF O (by decide) O O (zP O O)<|qF O (by decide) O O (zP O O)<|qF O (by decide) O O (zP O O)<|qF O (by decide) O O (zP O O)<|qF O (by decide) O O (qO O kO O O (by omega) (getm (by assumption)))<|qF O (by decide) O O (qW O wC O)<|qF O (by decide) O O (zJ O zAk O qA O)<|qF O (by decide) O O (zP O O)<|qF O (by decide) O O (qO O wV O O (by omega) (getm (by assumption)))<|qF O (by decide) O O (zV O kL O qA O)<|zJw O O (by decide) O O (zRp 0 O O O (FnCon.of_con (first:=[]) (cap:=[.iptr [.lit (.map (some mb))]]) (args:=[vLin l]) ok87 (fresh_mark mb _ l (by omega))) ⟨Y,O,T⟩) ?_
    rintro _ _ ⟨rfl,rfl⟩
    refine ⟨_,O,?_⟩
    refine qF O (by decide) O O (yH O O)<|qF O (by decide) O O (yW O O O)<|qF O (by decide) O O (kC O O O)<|qF O (by decide) O O (yC 0 O wV O O O (by omega) (mid_len (by simp;omega) (by omega)))<|zKc O O (by decide) O O (zAn O zQt O O O (st_vec 0 O (mid_get (by simp;omega) hl) O)) ?_
    rintro _ _ ⟨rfl,rfl⟩
    refine ⟨_,O,?_⟩
    refine zCb O<|G O<|R<|A O<|G O<|kP O<|R<|zC O (fun c4=>?_) (fun c4=>?_)
    ·try simp only [sx] at c4
     exact absurd T c4
    ·try simp only [sx] at c4
     refine zI<|zN O<|qI O ⟨by omega,by omega⟩<|G O<|R ?_
     refine ⟨j+1,(by omega),(by omega),Weak.mk [true,true,true] ⟨Y,Y,Y,Y,Y,Y,Y,Y,T⟩ (by simp only [Int.toNat_natCast];rw [mid_set (by simp;omega) hl,mark_at hl,yN hl];simp only [List.map_append,List.map_cons,List.map_nil];rfl)⟩
   ·try simp only [sx] at c3
    rw [kW (l:=x.At) (k:=j) (by omega),yE (l:=x.At) (k:=j) (by omega)]
    simp only [List.map_nil,List.append_nil]
    refine zX _ (kQ 0 O (regs':=[]) (μ':=[_,_]) T ⟨EFle.vec (r':=[_,_,_,_]) (set_get (by simp;omega)) ⟨.inl O,.inl O,.inl O,.inr ⟨O,O⟩,T⟩,EFle.refl _,T⟩)<|qP<|zN O<|qI O ⟨by omega,by omega⟩<|G O<|R ?_
    refine ⟨k+1,(by omega),(by omega),Weak.mk [true,true] ⟨Y,Y,Y,Y,Y,T⟩ (by simp only [Int.toNat_natCast,List.set_set];rw [mid_set (by simp;omega) hx,mark_ix hx,yN hx];simp only [List.map_append,List.map_cons,List.map_nil];rfl)⟩
 ·try simp only [sx] at c1
  rw [kW (l:=i) (k:=k) (by omega),yE (l:=i) (k:=k) (by omega)]
  simp only [List.map_nil,List.append_nil]
  refine zX _ (kQ 0 O (regs':=[(6,_)]) (μ':=[_]) ⟨FLe.sl,T⟩ ⟨EFle.refl _,T⟩)<|qP<|A O<|G O<|G O<|G O<|R<|zF<|D (B O) (B O) ?_
  exact ⟨O,[],O⟩
theorem fresh_stmt (mb:Nat) (m:BM) (s:St) (w:List Int) (hs:s.wt<=536870912):
    Con cfg 88 [vSt s,vIs w,.c (.iptr [.lit (.map (some mb))]),.c (.iptr [.fn (.func 87) [] [.iptr [.lit (.map (some mb))]]])] [E.blk mb (MapR vB (m))] fun r μ'=>r=vB true/\μ'=[E.blk mb (MapR vB ((markHd s).foldl putB m))]:=by
 refine Con.drop<|zS Tryz.func88 O Tryz.ntmps88 Tryz.results88 O ?_
 intro z hz
 have hse:=St.wt_eq s
 have hil:(indexT s.E).length<=s.E.wt:=by have h1:=thin_len (sortB (namesA (nodes s.E)));have h2:=zQv (namesA (nodes s.E));have h3:=zJj s.E;unfold indexT;omega
 refine A O<|zU O O (qN O O) ?_
 rintro _ _ ⟨b1,rfl,rfl⟩
 refine G O<|R<|zK<|A O<|zH O zAf<|zM one3 (zD 0 O) O<|L O<|R<|zC O (fun c1=>?_) (fun c1=>?_)
 ·try simp only [sx] at c1
  refine zN O<|zM one170 qA O<|zH O wZ<|zM one9 (zD 0 O) O<|zEg O O (zFy 1 true O sm170 O O O (Y) O)<|R<|zK<|A O<|zH O zAv<|zO qX (zD 0 O) O<|qK O ok89 (OwnR.pur (zIu s.E (by omega))) ⟨Y,O,T⟩<|zZ O zBz<|G O<|R<|zR<|zX ⟨[(19,.c _),(2,.c _),(3,.c _),(4,.c _),(17,.c _),(18,.c _)],[_,_]⟩ (Weak.mk [true,true] ⟨Y,Y,Y,Y,Y,Y,T⟩ O)<|qG 1 2 O O (Nat) (fun k=>[(19,vI k)]) (fun k=>[E.row b1 110 s.cs,E.blk mb (MapR vB ((loopNm s++(indexT s.E).take k).foldl putB m))]) (fun k=>k<=(indexT s.E).length) (fun k=>(indexT s.E).length-k) ⟨0,(by omega),Weak.mk [true,true] ⟨Y,Y,Y,Y,Y,Y,T⟩ (by first|(rw [show loopNm s=[s.Name] from if_pos c1];rfl)|(rw [show loopNm s=[] from if_neg c1];rfl))⟩ ?_
  rintro k hk
  refine A O<|yJ O<|R<|zK<|zC O (fun c2=>?_) (fun c2=>?_)
  ·try simp only [sx] at c2
   obtain ⟨t,ht⟩:=qY (indexT s.E) k (by omega)
   refine zI<|zK<|zR<|A O<|qE O zBz (by omega) (getm (by assumption))<|zM one9 qA O<|G O<|R<|zN O<|zM one170 qA O<|G O<|zEg O O (zFy 1 true O sm170 O O O (Y) O)<|R<|zN O<|qI O ⟨by omega,by omega⟩<|G O<|R ?_
   refine ⟨k+1,(by omega),(by omega),Weak.mk [true,true] ⟨Y,Y,Y,Y,Y,Y,T⟩ (by rw [←set_at ht];rfl)⟩
  ·try simp only [sx] at c2
   refine qP<|A O<|zH O zDl<|zM kF (zD 0 O) O<|zM one171 qA O<|zU O O (zDu 1 O O ok90 (zIj mb _ s.Idx (by omega) (by omega)) ⟨Y,O,Y,O,T⟩) ?_
   rintro _ _ ⟨rfl,rfl⟩
   refine R<|A O<|G O<|R<|zF<|zQ O ?_
   rw [yE (l:=indexT s.E) (k:=k) (by omega),←List.foldl_append]
   exact ⟨O,[_],O⟩
 ·try simp only [sx] at c1
  refine zI<|zK<|A O<|zH O zAv<|zO qX (zD 0 O) O<|qK O ok89 (OwnR.pur (zIu s.E (by omega))) ⟨Y,O,T⟩<|zZ O zBz<|G O<|R<|zR<|zX ⟨[(19,.c _),(2,.c _),(3,.c _),(4,.c _),(17,.c _),(18,.c _)],[_,_]⟩ (Weak.mk [true,true] ⟨Y,Y,Y,Y,Y,Y,T⟩ O)<|qG 1 2 O O (Nat) (fun k=>[(19,vI k)]) (fun k=>[E.row b1 110 s.cs,E.blk mb (MapR vB ((loopNm s++(indexT s.E).take k).foldl putB m))]) (fun k=>k<=(indexT s.E).length) (fun k=>(indexT s.E).length-k) ⟨0,(by omega),Weak.mk [true,true] ⟨Y,Y,Y,Y,Y,Y,T⟩ (by first|(rw [show loopNm s=[s.Name] from if_pos c1];rfl)|(rw [show loopNm s=[] from if_neg c1];rfl))⟩ ?_
  rintro k hk
  refine A O<|yJ O<|R<|zK<|zC O (fun c2=>?_) (fun c2=>?_)
  ·try simp only [sx] at c2
   obtain ⟨t,ht⟩:=qY (indexT s.E) k (by omega)
   refine zI<|zK<|zR<|A O<|qE O zBz (by omega) (getm (by assumption))<|zM one9 qA O<|G O<|R<|zN O<|zM one170 qA O<|G O<|zEg O O (zFy 1 true O sm170 O O O (Y) O)<|R<|zN O<|qI O ⟨by omega,by omega⟩<|G O<|R ?_
   refine ⟨k+1,(by omega),(by omega),Weak.mk [true,true] ⟨Y,Y,Y,Y,Y,Y,T⟩ (by rw [←set_at ht];rfl)⟩
  ·try simp only [sx] at c2
   refine qP<|A O<|zH O zDl<|zM kF (zD 0 O) O<|zM one171 qA O<|zU O O (zDu 1 O O ok90 (zIj mb _ s.Idx (by omega) (by omega)) ⟨Y,O,Y,O,T⟩) ?_
   rintro _ _ ⟨rfl,rfl⟩
   refine R<|A O<|G O<|R<|zF<|zQ O ?_
   rw [yE (l:=indexT s.E) (k:=k) (by omega),←List.foldl_append]
   exact ⟨O,[_],O⟩
theorem visit_mark (mb:Nat) (m:BM) (l:List St) (hl:stsWt l<=536870912):Con cfg 79 [vSts l,vIs [],.c (.fn (.func 88) [] [.iptr [.lit (.map (some mb))],.iptr [.fn (.func 87) [] [.iptr [.lit (.map (some mb))]]]])] [E.blk mb (MapR vB (m))] fun r μ'=>r=vB true/\μ'=[E.blk mb (MapR vB ((markA (preL [] 0 l)).foldl putB m))]:=by
  have hN:=zHr l
  refine (zQj (.fn (.func 88) [] [.iptr [.lit (.map (some mb))],.iptr [.fn (.func 87) [] [.iptr [.lit (.map (some mb))]]]]) (fun pre μ=>μ=[E.blk mb (MapR vB ((markA pre).foldl putB m))]) (fun _ _=>False) (stsN l) (fun pre x μ hx hxw hM hJ=>?_) l hl [] (by simp;omega) [] (by simp) _ O).mono ?_
  · subst hJ
    refine (FnCon.of_con (first:=[]) (cap:=[.iptr [.lit (.map (some mb))],.iptr [.fn (.func 87) [] [.iptr [.lit (.map (some mb))]]]]) ok88 (fresh_stmt mb ((markA pre).foldl putB m) x.1 x.2 hxw)).mono ?_
    rintro r μ' ⟨rfl,rfl⟩
    exact ⟨true,O,fun _=>by rw [markA_one,List.foldl_append],fun h=>by cases h⟩
  · rintro r μ' ⟨b,rfl,h1,h2⟩
    cases b with
    |true=>exact ⟨rfl,by rw [h1 rfl,List.nil_append]⟩
    |false=>obtain ⟨_,_,_,_,h⟩:=h2 rfl;exact h.elim
theorem zLv (n:Ns) (base:ByteArray) (hl:stsWt n.Body<=400000) (hb:n.Bufs.length<=1000) (hs:base.size<=1000):
    Pur cfgI 43 [vNs n,vS base] (vS (freshN n base)):=by
 refine zS Tryz.func43 O Tryz.ntmps43 Tryz.results43 O ?_
 intro z hz
 have hul:=usedP_len n
 refine A O<|zU O O (qN O O) ?_
 rintro _ _ ⟨b1,rfl,rfl⟩
 refine G O<|R<|A O<|zU O O (ope_mkmap vB O O) ?_
 rintro _ _ ⟨b2,rfl,rfl⟩
 refine zU O O (yL O zr170) ?_
 rintro _ _ ⟨b3,rfl,rfl⟩
 refine rStR 0 sz170 O<|yX _ (kJ 0 O 5 _ PLe.ptr)<|R<|zK<|A O<|zH O zAt<|zM zDv (zD 1 O) O<|zZ O el50<|G O<|R<|zR<|zX ⟨[(14,.c _),(1,.c _),(2,.c _),(5,.c _),(13,.c _)],[_,_]⟩ (Weak.mk [true,true] ⟨Y,Y,Y,Y,Y,T⟩ O)<|qG 1 2 O O (Nat) (fun k=>[(14,vI k)]) (fun k=>[E.blk b2 (MapR vB (((n.Bufs.take k).map Bf.Name).foldl putB [])),E.row b1 53 n.cells]) (fun k=>k<=n.Bufs.length) (fun k=>n.Bufs.length-k) ⟨0,(by omega),Weak.mk [true,true] ⟨Y,Y,Y,Y,Y,T⟩ O⟩ ?_
 rintro k hk
 refine A O<|yJ O<|R<|zK<|zC O (fun c1=>?_) (fun c1=>?_)
 ·try simp only [sx] at c1
  obtain ⟨b,hbx⟩:=qY n.Bufs k (by omega)
  refine zI<|zK<|zR<|A O<|G O<|G O<|R<|qU 7 mixed (by kernel_rfl) O O<|J O O (zJ O one170 O qA O)<|J O O (zE O zAt O)<|J O O (zJ O zDv O (zD 1 O) O)<|J O O (zP O O)<|J O O (qO O el50 O O (by omega) (getm (by assumption)))<|J O O (qW O zHm O)<|J O O (zJ O one9 O qA O)<|yO<|zEg O O (zFy 0 true O sm170 O O O (Y) O)<|R<|zN O<|qI O ⟨by omega,by omega⟩<|G O<|R ?_
  refine ⟨k+1,(by omega),(by omega),Weak.mk [true,true] ⟨Y,Y,Y,Y,Y,T⟩ (by rw [yN hbx,List.map_append,List.foldl_append];rfl)⟩
 ·try simp only [sx] at c1
  rw [yE (l:=n.Bufs) (k:=k) (by omega)]
  refine qP<|A O<|zT O (zCn O O O O O)<|zU O O (yL O zr171) ?_
  rintro _ _ ⟨b4,rfl,rfl⟩
  refine rStR 0 sz171 O<|yX _ (kJ 0 O 7 _ PLe.ptr)<|R<|A O<|zH O zFf<|zM zCg (zD 1 O) O<|zT O (zCn O O O O O)<|zU O O (zDu 0 O O ok79 (upI (visit_mark _ _ n.Body (by omega))) ⟨Y,O,VLe.nil,O,Y,O,T⟩) ?_
  rintro _ _ ⟨rfl,rfl⟩
  refine R<|A O<|G O<|G O<|R<|zK<|A O<|G O<|R<|zR<|zX ⟨[(9,.c _),(8,.c _),(1,.c _),(5,.c _)],[_]⟩ (Weak.mk [true,false] ⟨Y,Y,Y,Y,T⟩ O)<|qG 2 0 O O (Nat) (fun j=>[(9,vI (j+1)),(8,vS (nmK base j))]) (fun j=>[]) (fun j=>j<=(usedP n).length/\∀i,i<j->hasB (usedP n) (nmK base i)=true) (fun j=>(usedP n).length+1-j) ⟨0,⟨by omega,fun i hi=>by omega⟩,Weak.mk [true] ⟨Y,VLe.of_eq (O),Y,Y,T⟩ O⟩ ?_
  rintro j ⟨hj,hp⟩
  refine zK<|A O<|zM one170 qA O<|G O<|zT O (det_lookup 0 false O sm170 O O O (fun _ _=>CRep.lit _ O))<|R<|zC O (fun c2=>?_) (fun c2=>?_)
  ·rw [←List.foldl_append,show n.Bufs.map Bf.Name++markA (preL [] 0 n.Body)=usedP n from rfl,set_has] at c2
   have hnx:=fresh_next hp c2
   have hlt:=fresh_lt hnx
   refine zI<|zK<|zR<|zN O<|G O<|G O<|qK O ok91 (strconv_Itoa (j+1) (by omega)) ⟨Y,O,T⟩<|kY O (by have:=zBu (n:=j+1) (by omega);omega)<|G O<|R<|zN O<|G O<|qI O ⟨by omega,by omega⟩<|G O<|R ?_
   refine ⟨j+1,⟨hlt,hnx⟩,(by omega),Weak.mk [true] ⟨Y,VLe.of_eq (congrArg vS (nmK_succ base j)),Y,Y,T⟩ O⟩
  ·rw [←List.foldl_append,show n.Bufs.map Bf.Name++markA (preL [] 0 n.Body)=usedP n from rfl,set_has] at c2
   refine qP<|A O<|G O<|G O<|R<|zF<|zQ O ?_
   rw [show freshN n base=nmK base j from (freshP n base).symm.trans (zMd hp c2)]
end Go.W
end
section
set_option maxRecDepth 10000
namespace Go.W
open Go Go.Eng Go.Proofs Go.L41 Go.Br
attribute [local irreducible] AWP RWP TD finQ
theorem agg118:aggT Tryz.prog 118=some 2:=by kernel_rfl
theorem fl118:flatK Tryz.prog 118=some [.str,.int]:=by kernel_rfl
theorem ok38:callOk Tryz.prog 38=true:=by kernel_rfl
theorem ok39:callOk Tryz.prog 39=true:=by kernel_rfl
theorem ok40:callOk Tryz.prog 40=true:=by kernel_rfl
theorem ok41:callOk Tryz.prog 41=true:=by kernel_rfl
theorem ok42:callOk Tryz.prog 42=true:=by kernel_rfl
theorem ok43:callOk Tryz.prog 43=true:=by kernel_rfl
theorem ok44:callOk Tryz.prog 44=true:=by kernel_rfl
theorem pl53:placesT Tryz.prog 53=some [(0,1),(1,1)]:=by kernel_rfl
theorem pl98:placesT Tryz.prog 98=some [(0,1),(1,1)]:=by kernel_rfl
theorem pl110:placesT Tryz.prog 110=some [(0,1),(1,1),(2,1),(3,1),(4,1),(5,1),(6,13),(19,1)]:=by kernel_rfl
theorem sz50:(Tryz.prog.info? 50).map (·.size)=some 1:=by kernel_rfl
theorem sz53:(Tryz.prog.info? 53).map (·.size)=some 2:=by kernel_rfl
theorem zr53:zeroT Tryz.prog 53=some [(Value.slice none 0 0),(Value.slice none 0 0)]:=by kernel_rfl
theorem ref30_Twin (n:Ns) (hn:n.Ok) (hl:stsWt n.Body<=1000000):
    Con cfg 41 [vNs n] [] fun r μ'=>∃sv,r=.agg [.lit sv,.sl 20 (n.Body.map St.cells)]/\μ'=[E.vec sv 95 8 (n.Bufs.map Bf.cells)]:=by
 refine Con.dropG<|zS Tryz.func41 O Tryz.ntmps41 Tryz.results41 O ?_
 intro z hz
 have hnb:=hn.bufs
 refine A O<|zU O O (qN O O) ?_
 rintro _ _ ⟨b1,rfl,rfl⟩
 refine zU O O (qT [some 8,some 20] O zr53 O) ?_
 rintro _ _ ⟨b2,rfl,rfl⟩
 refine R<|A O<|zH O zFf<|zM zCg (zD 1 O) O<|qK O ok86 (ref30_twins n.Body hl) ⟨Y,O,T⟩<|yU O zr53 pl53<|zU O O (qT [some 8,some 20] O zr53 O) ?_
 rintro _ _ ⟨b3,rfl,rfl⟩
 refine rStR 0 sz53 O<|R<|zK<|A O<|yX _ (wI 95 8)<|G O<|R<|zR<|zX ⟨[(4,.c _),(1,.c _),(2,.c _),(3,.c _)],[_,_,_,_]⟩ (Weak.mk [true,true,true,true] ⟨Y,Y,Y,Y,T⟩ O)<|qG 1 2 O O (Nat×Value) (fun ⟨k,sv⟩=>[(4,vI k)]) (fun ⟨k,sv⟩=>[E.vec sv 95 8 ((n.Bufs.take k).map Bf.cells),E.row b3 53 [.lit sv,.sl 20 (n.Body.map St.cells)]]) (fun ⟨k,sv⟩=>k<=n.Bufs.length) (fun ⟨k,sv⟩=>n.Bufs.length-k) ⟨⟨0,(.slice none 0 0)⟩,(by omega),Weak.mk [true,true,true,true] ⟨Y,Y,Y,Y,T⟩ O⟩ ?_
 rintro ⟨k,sv⟩ hk
 show AWP _ _ _ _ _ ⟨[(4,vI k)]++_,[E.vec sv 95 8 ((n.Bufs.take k).map Bf.cells),E.row b3 53 [.lit sv,.sl 20 (n.Body.map St.cells)]]++_⟩
 refine zK<|A O<|G O<|zH O zAt<|zM zDv (zD 3 O) O<|zZ O el50<|yJ O<|R<|zC O (fun c1=>?_) (fun c1=>?_)
 ·try simp only [sx] at c1
  obtain ⟨b,hb⟩:=qY n.Bufs k (by omega)
  have hbd:=hn.dims b (zY hb)
  refine zI<|zK<|zR<|A O<|zH O zAt<|zM zDv (zD 3 O) O<|G O<|qE O el50 (by omega) (getm (by assumption))<|zO zLe qA O<|zU O O (qT [none,none,none,none,none,none,some 1,none] O zr95 O) ?_
  rintro _ _ ⟨b4,rfl,rfl⟩
  refine rStR 0 sz95 O<|R<|A O<|zT O (zHc O el55 zr3)<|zH O zEt<|zM zEh (zD 0 O) O<|zU O O (zGl O el55 O O (by simp only [List.length_map,List.length_append,List.length_cons,List.length_nil,List.length_take,List.length_drop];omega) (by simp only [List.length_map,List.length_append,List.length_cons,List.length_nil,List.length_take,List.length_drop];omega)) ?_
  rintro _ _ ⟨sv5,rfl,rfl⟩
  refine yX _ (kQ 0 O (regs':=[(25,_)]) (μ':=[_,_,_,_,_]) ⟨FLe.sl,T⟩ ⟨EFle.refl _,EFle.refl _,EFle.refl _,EFle.refl _,EFle.refl _,T⟩)<|zH O zEt<|rStR 0 sz55 O<|R<|zN O<|zH O zAt<|zM zDv (zD 2 O) O<|zO zLe (zD 0 O) O<|zT O (yK O el50 zr95 O O O O)<|zU O O (kG 1 O el50 O O O (by simp only [List.length_map,List.length_append,List.length_cons,List.length_nil,List.length_take,List.length_drop];omega) (by simp only [List.length_map,List.length_append,List.length_cons,List.length_nil,List.length_take,List.length_drop];omega)) ?_
  rintro _ _ ⟨sv6,rfl,rfl⟩
  refine zH O zAt<|rStR 2 sz50 O<|R<|zN O<|G O<|qI O ⟨by omega,by omega⟩<|G O<|R ?_
  refine ⟨⟨k+1,sv6⟩,(by omega),(by show n.Bufs.length-(k+1)<n.Bufs.length-k;omega),Weak.mk [false,true,true,true,true] ⟨Y,Y,Y,Y,T⟩ (by exact mem2_eq' (by rw [yN hb,List.map_append];rfl))⟩
 ·try simp only [sx] at c1
  rw [yE (l:=n.Bufs) (k:=k) (by omega)]
  refine qP<|A O<|zO zBb (zD 1 O) O<|rStR 2 sz53 O<|R<|zF<|v (qL zBb O (zD 2 O) O) ?_
  exact ⟨[E.vec _ _ _ _],⟨[],[_,_,_],O⟩,_,O,O⟩
theorem find_ex:Pur cfgI 38 [vNs lvN,vS (bs [105])] (.tup [vIs [0],vB true]):=by
  have h:=loopnest_Find lvN (bs [105]) (by have:=lvN_wt;omega)
  rw [lvN_find] at h;exact upI h
theorem encl_ex:Pur cfgI 39 [vNs lvN,vIs [0,0]] (vBds [⟨bs [105],2⟩]):=by
  have h:=zLw lvN [0,0] (by decide)
  rw [lvN_encl] at h;exact upI h
theorem valid_ex:Pur cfgI 40 [vNs lvN] (.tup [vIs [],vI 0]):=by
  have h:=zDk lvN lvN_ok.1
  rw [lvN_valid.1] at h;exact upI h
theorem valid_ex2:Pur cfgI 40 [vNs lvM] (.tup [vIs [0,0],vI 1]):=by
  have h:=zDk lvM lvN_ok.2
  rw [lvN_valid.2] at h;exact upI h
theorem fresh_ex:Pur cfgI 43 [vNs lvN,vS (bs [105])] (vS (bs [105,49])):=by
  have h:=zLv lvN (bs [105]) (by have:=lvN_wt;omega) (by decide) (by decide)
  rw [lvN_fresh] at h;exact h
theorem size_ex:Pur cfgI 44 [vNs lvN] (vI 2):=by
  have h:=loopnest_Size lvN (by have:=lvN_wt;omega)
  rw [lvN_size] at h;exact upI h
theorem zNn  :
    Pur cfgI 15 [] (vB true):=by
 refine zS Tryz.func15 O Tryz.ntmps15 Tryz.results15 O ?_
 intro z hz
 refine A O<|G O<|R<|A O<|yU O zr65 pl65<|zU O O (yL O zr65) ?_
 rintro _ _ ⟨b1,rfl,rfl⟩
 refine rStR 0 sz65 O<|R<|A O<|yU O zr98 pl98<|zT O (yK O el99 zr98 O O O O)<|yU O zKm pl101<|zT O (wG [none,none,none,some 2] O zLf pl104 O O)<|zU O O (qT [none,some 2,none,some 2] O zLf O) ?_
 rintro _ _ ⟨b2,rfl,rfl⟩
 refine rStR 0 sz104 O<|R<|A O<|zO zDf (zD 0 O) O<|zT O (yK O kO zLf O O O O)<|zO zDf (zD 0 O) O<|zT O (yK O kO zLf O O O O)<|zT O (wG [none,none,none,none,none,none,none,none,none,none,some 2,none,some 13] O zDx zRn O O)<|zT O (wG [none,none,none,none,none,none,none,none,none,none,none,none,none,none,none,none,none,none,none,some 20] O zQb pl110 O O)<|zU O O (qT [none,none,none,none,none,some 4,none,none,none,none,none,none,none,none,none,none,some 2,some 4,some 13,some 20] O zQb O) ?_
 rintro _ _ ⟨b3,rfl,rfl⟩
 refine rStR 0 sz110 O<|R<|A O<|zO yI (zD 2 O) O<|zT O (yK O el55 zr3 O O O O)<|yU O zr95 pl95<|zO yI (zD 2 O) O<|zT O (yK O el55 zr3 O O O O)<|yU O zr95 pl95<|zT O (yK O el50 zr95 O O O O)<|zO zDe (zD 0 O) O<|zT O (yK O el51 zQb O O O O)<|zT O (wG [none,none,none,none,none,some 4,none,none,none,none,none,none,none,none,none,none,some 2,some 4,some 13,none] O zQb pl110 O O)<|zT O (yK O el51 zQb O O O O)<|yU O zr53 pl53<|zU O O (qT [some 8,some 20] O zr53 O) ?_
 rintro _ _ ⟨b4,rfl,rfl⟩
 refine rStR 0 sz53 O<|R<|A O<|zO zBb (zD 0 O) O<|qK O ok38 find_ex ⟨Y,O,Y,O,T⟩<|zT O (yH O O)<|zT O (kC O O O)<|zT O (kC O O O)<|G O<|G O<|R<|A O<|zO zBb (zD 0 O) O<|zT O (yK O el55 zr3 O O O O)<|qK O ok39 encl_ex ⟨Y,O,Y,O,T⟩<|G O<|R<|A O<|zO zBb (zD 0 O) O<|qK O ok40 valid_ex ⟨Y,O,T⟩<|zT O (yH O O)<|zT O (kC O O O)<|zT O (kC O O O)<|G O<|G O<|R<|A O<|zO zBb (zD 0 O) O<|zU O O (zBy O ok41 (Con.frame (upI (ref30_Twin lvN lvN_ok.1 (by have:=lvN_wt;omega))) _) ⟨Y,O,T⟩) ?_
 rintro _ _ ⟨_,⟨svT,rfl,rfl⟩,rfl⟩
 refine zU O O (qT [some 8,some 20] O zr53 O) ?_
 rintro _ _ ⟨b6,rfl,rfl⟩
 refine rStR 0 sz53 O<|R<|A O<|zH O zAt<|zM zDv (zD 0 O) O<|zT O (yC 1 O el50 O O O (by decide) (by decide))<|zT O (zEj O zMe O)<|zEg O O (zAn O sz3 O O O (st_vec 1 O O O))<|R<|zK<|zX _ (kQ 1 O (regs':=[(50,.agg [_,_]),(52,_)]) (μ':=[_,_,_,_,_]) ⟨FLe.agg ⟨.inr ⟨O,O⟩,.inl O,T⟩,FLe.sl,T⟩ ⟨EFle.row (ds:=[_,_]) ⟨.inr ⟨O,O⟩,.inl O,T⟩,EFle.refl _,EFle.refl _,EFle.refl _,EFle.refl _,T⟩)<|zN O<|zO zBb (zD 0 O) O<|qK O ok40 valid_ex2 ⟨Y,O,T⟩<|zT O (yH O O)<|zT O (kC O O O)<|zT O (kC O O O)<|G O<|G O<|R<|A O<|G O<|G O<|rL0 O (fun g11_1=>zP O O) O<|rL0 O (fun g11_1=>yK O el55 zr3 O O O O) O<|rLz [(62,_),(63,_)] O gv1 ⟨O,O,O,O,T⟩ (fun g11_1=>qC O ok42 (upI (base_Ints [0] [0] (by decide))) ⟨Y,O,Y,O,T⟩) O<|yZ O (fun h=>h)<|G O<|rL0 O (fun g11_6=>zP O O) O<|rL1 67 O (fun g11_6=>yG O el113 O) O<|rL1 68 O (fun g11_6=>kB O O O) O<|yZ O (fun h=>h)<|G O<|rL0 O (fun g11_11=>zP O O) O<|rL1 72 O (fun g11_11=>qO O el113 O O (by decide) O) O<|rL1 73 O (fun g11_11=>zV O agg118 O qA O) O<|rL0 O (fun g11_11=>zBt O zr118 pl118 O) O<|rLz [(74,_),(75,_)] O gv1 ⟨O,O,O,O,T⟩ (fun g11_11=>zPs O fl118 O O O) O<|yZ O (fun h=>h)<|G O<|rL0 O (fun g11_18=>zP O O) O<|rL1 79 O (fun g11_18=>kB O O O) O<|yZ O (fun h=>h)<|G O<|rL0 O (fun g11_22=>zP O O) O<|rL1 83 O (fun g11_22=>kB O O O) O<|yZ O (fun h=>h)<|G O<|rL0 O (fun g11_26=>zP O O) O<|rL0 O (fun g11_26=>yK O el55 zr3 O O O O) O<|rLz [(87,_),(88,_)] O gv1 ⟨O,O,O,O,T⟩ (fun g11_26=>qC O ok42 (upI (base_Ints [0,0] [0,0] (by decide))) ⟨Y,O,Y,O,T⟩) O<|yZ O (fun h=>h)<|G O<|rL0 O (fun g11_31=>zV O zBb O (zD 1 O) O) O<|rL1 92 O (fun g11_31=>qC O ok43 fresh_ex ⟨Y,O,Y,O,T⟩) O<|rL1 93 O (fun g11_31=>zGw O O O) O<|yZ O (fun h=>h)<|G O<|rL0 O (fun g11_36=>zV O zBb O (zD 1 O) O) O<|rL1 97 O (fun g11_36=>qC O ok44 size_ex ⟨Y,O,T⟩) O<|rL1 98 O (fun g11_36=>kB O O O) O ?_
 refine yZ O (fun h=>h)<|G O<|R<|zF<|zQ O ?_
 exact congrArg vB (by decide)
end Go.W
end
