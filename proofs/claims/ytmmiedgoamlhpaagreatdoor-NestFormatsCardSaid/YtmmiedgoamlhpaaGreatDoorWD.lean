/-
  Walks: what functions of the program compute. Printed by wip/gen/mk2.py.
  Conditions: none.
-/
import Derived.Test.YtmmiedgoamlhpaaGreatDoorWC
set_option linter.unusedSimpArgs false
set_option linter.unusedVariables false
set_option maxRecDepth 10000
namespace Go.W
open Go Go.Eng Go.Proofs Go.L41 Go.Br
attribute [local irreducible] AWP RWP TD finQ
theorem ok117:callOk Tryz.prog 117=true:=by kernel_rfl
theorem ok135:callOk Tryz.prog 135=true:=by kernel_rfl
theorem ok136:callOk Tryz.prog 136=true:=by kernel_rfl
theorem ok196:callOk Tryz.prog 196=true:=by kernel_rfl
theorem ok197:callOk Tryz.prog 197=true:=by kernel_rfl
theorem ok198:callOk Tryz.prog 198=true:=by kernel_rfl
theorem ok207:callOk Tryz.prog 207=true:=by kernel_rfl
theorem ok208:callOk Tryz.prog 208=true:=by kernel_rfl
theorem ok209:callOk Tryz.prog 209=true:=by kernel_rfl
theorem ok270:callOk Tryz.prog 270=true:=by kernel_rfl
theorem ok271:callOk Tryz.prog 271=true:=by kernel_rfl
theorem ok272:callOk Tryz.prog 272=true:=by kernel_rfl
theorem ok273:callOk Tryz.prog 273=true:=by kernel_rfl
theorem ok274:callOk Tryz.prog 274=true:=by kernel_rfl
theorem zIc:oneT Tryz.prog 32=true:=by kernel_rfl
theorem sz3:(Tryz.prog.info? 3).map (·.size)=some 1:=by kernel_rfl
theorem sz32:(Tryz.prog.info? 32).map (·.size)=some 1:=by kernel_rfl
theorem zQt:(Tryz.prog.info? 101).map (·.size)=some 2:=by kernel_rfl
theorem zr3:zeroT Tryz.prog 3=some [(Value.int IntKind.i64 0)]:=by kernel_rfl
theorem zr32:zeroT Tryz.prog 32=some [(Value.int IntKind.i64 0)]:=by kernel_rfl
theorem zKm:zeroT Tryz.prog 101=some [(Value.int IntKind.i64 0),(Value.slice none 0 0)]:=by kernel_rfl
theorem expr_forms (e:Ex):
    Pur cfg 136 [vE e] (.c (.fn (.func 198) [] [.iptr e.cs])):=by
 refine zS Tryz.func136 O Tryz.ntmps136 Tryz.results136 O ?_
 intro z hz
 refine A O<|zU O O (qN O O) ?_
 rintro _ _ ⟨b1,rfl,rfl⟩
 refine G O<|R<|A O<|zT O (zCn O O O O O)<|yX _ (kJ 0 O 3 (.c (.fn _ _ [_])) (PLe.fn ⟨.inr ⟨O,O⟩,T⟩))<|G O<|R<|zF<|zQ O ?_
 exact O
theorem forms_iter (e:Ex) (he:e.wt<=6000000000000):
    Iter cfg 198 [] [.iptr e.cs] (formsL e) fun l=>[vLin l]:=by
 obtain ⟨hL,hI,hA⟩:=e.parts he
 intro y J Jx μ hy0 h0
 have hy:=fun pre x suf μ h1 h2=>fn_bool (hy0 pre x suf μ h1 h2)
 refine zS Tryz.func198 O Tryz.ntmps198 Tryz.results198 O ?_
 intro z hz
 refine zK<|A O<|G O<|yB O zCs<|zO kL qA O<|zU O O (zAl O O (hy [] e.Lin _ _ O h0) ⟨Y,O,T⟩) ?_
 rintro _ m0 ⟨y0,rfl,t0,f0⟩
 refine wA O<|R<|zC O (fun c1=>?_) (fun c1=>?_)
 ·try simp only [sx] at c1
  refine zF<|fin0 ?_
  exact .inr ⟨[],e.Lin,_,O,f0 c1⟩
 ·try simp only [sx] at c1
  refine zI<|A O<|yB O yV<|zM kF qA O<|zZ O kO<|G O<|R<|zR<|zX ⟨[(15,.c _),(0,.c _),(13,.c _),(14,.c _)],_⟩ (Weak.regs ⟨Y,Y,Y,Y,T⟩)<|zEn 1 O (Nat×List E) (fun ⟨k,m⟩=>[(15,vI k)]) (fun ⟨k,m⟩=>m) (fun ⟨k,m⟩=>k<=e.Idx.length/\(J (e.Lin::(e.Idx.take k).flatMap ixF) m)) (fun ⟨k,m⟩=>e.Idx.length-k) ⟨⟨0,m0⟩,⟨by omega,t0 c1⟩,Weak.regs ⟨Y,Y,Y,Y,T⟩⟩ ?_
  rintro ⟨k,m⟩ ⟨hk,hJ⟩
  refine A O<|yJ O<|R<|zK<|zC O (fun c2=>?_) (fun c2=>?_)
  ·try simp only [sx] at c2
   obtain ⟨x,hx⟩:=qY e.Idx k (by omega)
   have hxw:=Ex.idx_wt (zY hx)
   refine zI<|zK<|zR<|A O<|qE O kO (by omega) (getm (by assumption))<|zO zDf qA O<|zU O O (qT [none,some 2,none,some 2] O zLf O) ?_
   rintro _ _ ⟨b1,rfl,rfl⟩
   refine rStR 0 sz104 O<|yX _ (kJ 0 O 4 _ PLe.ptr)<|R<|zK<|A O<|G O<|yB O zAh<|zO kL qA O<|zU O O (zAl O O (hy _ x.Lin _ _ (forms_at hx) hJ) ⟨Y,O,T⟩) ?_
   rintro _ m1 ⟨y1,rfl,t1,f1⟩
   refine wA O<|R<|zC O (fun c3=>?_) (fun c3=>?_)
   ·try simp only [sx] at c3
    refine zF<|fin0 ?_
    exact .inr ⟨_,x.Lin,_,forms_at hx,f1 c3⟩
   ·try simp only [sx] at c3
    refine zI<|A O<|yB O wC<|zM zAk qA O<|zZ O wV<|G O<|R<|zR<|zX ⟨[(27,.c _),(0,.c _),(13,.c _),(14,.c _),(15,.c _),(25,.c _),(26,.c _)],_⟩ (Weak.regs ⟨Y,Y,Y,Y,Y,Y,Y,T⟩)<|zEn 1 O (Nat×List E) (fun ⟨j,n⟩=>[(27,vI j)]) (fun ⟨j,n⟩=>n) (fun ⟨j,n⟩=>j<=x.At.length/\(J ((e.Lin::(e.Idx.take k).flatMap ixF)++[x.Lin]++x.At.take j) n)) (fun ⟨j,n⟩=>x.At.length-j) ⟨⟨0,m1⟩,⟨by omega,by simpa using t1 c3⟩,Weak.regs ⟨Y,Y,Y,Y,Y,Y,Y,T⟩⟩ ?_
    rintro ⟨j,n⟩ ⟨hj,hJ2⟩
    refine A O<|yJ O<|R<|zK<|zC O (fun c4=>?_) (fun c4=>?_)
    ·try simp only [sx] at c4
     obtain ⟨l,hl⟩:=qY x.At j (by omega)
     refine zI<|zK<|zR<|A O<|qE O wV (by omega) (getm (by assumption))<|zO kL qA O<|zU O O (qT [none,some 2] O zKm O) ?_
     rintro _ _ ⟨b2,rfl,rfl⟩
     refine rStR 0 zQt O<|yX _ (kJ 0 O 6 _ PLe.ptr)<|R<|A O<|G O<|zO kL qA O<|zU O O (zAl O O (hy _ l _ _ (forms_at2 hx hl) hJ2) ⟨Y,O,T⟩) ?_
     rintro _ m2 ⟨y2,rfl,t2,f2⟩
     refine wA O<|R<|zC O (fun c5=>?_) (fun c5=>?_)
     ·try simp only [sx] at c5
      refine zF<|fin0 ?_
      exact .inr ⟨_,l,_,forms_at2 hx hl,f2 c5⟩
     ·try simp only [sx] at c5
      refine zI<|zN O<|qI O ⟨by omega,by omega⟩<|G O<|R ?_
      refine ⟨⟨j+1,m2⟩,⟨by omega,by rw [yN hl];simpa [List.append_assoc] using t2 c5⟩,(by show x.At.length-(j+1)<x.At.length-j;omega),Weak.regs ⟨Y,Y,Y,Y,Y,Y,Y,T⟩⟩
    ·try simp only [sx] at c4
     refine qP<|zN O<|qI O ⟨by omega,by omega⟩<|G O<|R ?_
     refine ⟨⟨k+1,n⟩,⟨by omega,by rw [forms_next hx];rw [yE (l:=x.At) (by omega)] at hJ2;exact hJ2⟩,(by show e.Idx.length-(k+1)<e.Idx.length-k;omega),Weak.regs ⟨Y,Y,Y,Y,T⟩⟩
  ·try simp only [sx] at c2
   refine qP ?_
   repeat (first|refine yS ?_|refine yM ?_)
   refine kZ<|fin0 ?_
   rw [yE (by omega)] at hJ;exact .inl hJ
theorem zMg (e:Ex):
    Pur cfg 135 [vE e] (.c (.fn (.func 196) [] [.iptr e.cs])):=by
 refine zS Tryz.func135 O Tryz.ntmps135 Tryz.results135 O ?_
 intro z hz
 refine A O<|zU O O (qN O O) ?_
 rintro _ _ ⟨b1,rfl,rfl⟩
 refine G O<|R<|A O<|zT O (zCn O O O O O)<|yX _ (kJ 0 O 3 (.c (.fn _ _ [_])) (PLe.fn ⟨.inr ⟨O,O⟩,T⟩))<|G O<|R<|zF<|zQ O ?_
 exact O
theorem walk_step (e:Ex) (he:e.wt<=6000000000000) (ih:∀a,a∈e.Args->a.wt<=6000000000000->(∀(y:C) (J Jx:List Ex->List E->Prop) (pre0:List Ex) (μ:List E),(∀pre x suf μ,nodes a=pre++x::suf->J (pre0++pre) μ->FnCon cfg y [vE x] μ fun r μ'=>∃b,r=.c (.lit (.bool b))/\(b=true->J (pre0++pre++[x]) μ')/\(b=false->Jx (pre0++pre++[x]) μ'))->J pre0 μ->Con cfg 197 [vE a,.c y] μ fun r μ'=>∃b,r=.c (.lit (.bool b))/\(b=true->J (pre0++nodes a) μ')/\(b=false->∃pre x suf,nodes a=pre++x::suf/\Jx (pre0++pre++[x]) μ'))):
    ∀(y:C) (J Jx:List Ex->List E->Prop) (pre0:List Ex) (μ:List E),(∀pre x suf μ,nodes e=pre++x::suf->J (pre0++pre) μ->FnCon cfg y [vE x] μ fun r μ'=>∃b,r=.c (.lit (.bool b))/\(b=true->J (pre0++pre++[x]) μ')/\(b=false->Jx (pre0++pre++[x]) μ'))->J pre0 μ->Con cfg 197 [vE e,.c y] μ fun r μ'=>∃b,r=.c (.lit (.bool b))/\(b=true->J (pre0++nodes e) μ')/\(b=false->∃pre x suf,nodes e=pre++x::suf/\Jx (pre0++pre++[x]) μ'):=by
 obtain ⟨hL,hI,hA⟩:=e.parts he
 intro y J Jx pre0 μ hy h0
 refine zS Tryz.func197 O Tryz.ntmps197 Tryz.results197 O ?_
 intro z hz
 refine A O<|zU O O (qN O O) ?_
 rintro _ _ ⟨b1,rfl,rfl⟩
 refine yX _ (kJ 0 O 2 _ PLe.ptr)<|G O<|R<|zK<|A O<|G O<|zO qX qA O<|zU O O (zAl O O (hy [] e _ _ (wJ e) (show J (pre0++[]) μ by simpa using h0)) ⟨Y,O,T⟩) ?_
 rintro _ m0 ⟨y0,rfl,t0,f0⟩
 refine wA O<|R<|zC O (fun c1=>?_) (fun c1=>?_)
 ·try simp only [sx] at c1
  refine A O<|G O<|R<|zF<|zQ O ?_
  exact ⟨false,O,fun h=>(by cases h),fun _=>⟨[],e,_,wJ e,by simpa using f0 c1⟩⟩
 ·try simp only [sx] at c1
  refine zI<|zK<|A O<|yB O yY<|zM kU qA O<|zZ O wE<|G O<|R<|zR<|zX ⟨[(14,.c _),(1,.c _),(12,.c _),(13,.c _)],_⟩ (Weak.regs ⟨Y,Y,Y,Y,T⟩)<|zEn 1 O (Nat×List E) (fun ⟨k,m⟩=>[(14,vI k)]) (fun ⟨k,m⟩=>m) (fun ⟨k,m⟩=>k<=e.Args.length/\(J (pre0++e::nodesL (e.Args.take k)) m)) (fun ⟨k,m⟩=>e.Args.length-k) ⟨⟨0,m0⟩,⟨by omega,by simpa [nodesL] using t0 c1⟩,Weak.regs ⟨Y,Y,Y,Y,T⟩⟩ ?_
  rintro ⟨k,m⟩ ⟨hk,hJ⟩
  refine A O<|yJ O<|R<|zK<|zC O (fun c2=>?_) (fun c2=>?_)
  ·try simp only [sx] at c2
   obtain ⟨a,ha⟩:=qY e.Args k (by omega)
   refine zI<|zK<|zR<|A O<|qE O wE (by omega) (zBr (by assumption))<|zO qX qA O<|zU O O (qT [none,none,none,none,none,none,none,none,none,none,some 2,some 4,some 13] O zDx O) ?_
   rintro _ _ ⟨b2,rfl,rfl⟩
   refine rStR 0 zNb O<|yX _ (kJ 0 O 6 _ PLe.ptr)<|R<|A O<|zO qX qA O<|G O<|zU O O (zBy O ok197 (ih a (zY ha) (by have:=Ex.arg_wt (zY ha);omega) y J Jx (pre0++e::nodesL (e.Args.take k)) _ (fun pre x suf μ hx hj=>by have:=hy _ x _ μ (nodes_at ha hx) (by simpa using hj);simpa using this) hJ) ⟨Y,O,Y,O,T⟩) ?_
   rintro _ m1 ⟨y1,rfl,t1,f1⟩
   refine wA O<|R<|zC O (fun c3=>?_) (fun c3=>?_)
   ·try simp only [sx] at c3
    refine A O<|G O<|R<|zF<|zQ O ?_
    obtain ⟨pre,x,suf,h1,h2⟩:=f1 c3
    exact ⟨false,O,fun h=>(by cases h),fun _=>⟨_,x,_,nodes_at ha h1,by simpa using h2⟩⟩
   ·try simp only [sx] at c3
    refine zI<|zN O<|qI O ⟨by omega,by omega⟩<|G O<|R ?_
    refine ⟨⟨k+1,m1⟩,⟨by omega,by rw [zRy ha];simpa using t1 c3⟩,(by show e.Args.length-(k+1)<e.Args.length-k;omega),Weak.regs ⟨Y,Y,Y,Y,T⟩⟩
  ·try simp only [sx] at c2
   refine qP<|A O<|G O<|R<|zF<|zQ O ?_
   rw [yE (by omega)] at hJ
   exact ⟨true,O,fun _=>(by rw [wJ];exact hJ),fun h=>(by cases h)⟩
theorem walk_con (e:Ex) (he:e.wt<=6000000000000):∀(y:C) (J Jx:List Ex->List E->Prop) (pre0:List Ex) (μ:List E),(∀pre x suf μ,nodes e=pre++x::suf->J (pre0++pre) μ->FnCon cfg y [vE x] μ fun r μ'=>∃b,r=.c (.lit (.bool b))/\(b=true->J (pre0++pre++[x]) μ')/\(b=false->Jx (pre0++pre++[x]) μ'))->J pre0 μ->Con cfg 197 [vE e,.c y] μ fun r μ'=>∃b,r=.c (.lit (.bool b))/\(b=true->J (pre0++nodes e) μ')/\(b=false->∃pre x suf,nodes e=pre++x::suf/\Jx (pre0++pre++[x]) μ'):=by
  induction e using Ex.ind with
  |_ e ih=>exact walk_step e he ih
theorem zLg (e:Ex) (he:e.wt<=6000000000000):
    Iter cfg 196 [] [.iptr e.cs] (nodes e) fun x=>[vE x]:=by
 intro y J Jx μ hy0 h0
 have hy:=fun pre x suf μ h1 h2=>fn_bool (hy0 pre x suf μ h1 h2)
 refine zS Tryz.func196 O Tryz.ntmps196 Tryz.results196 O ?_
 intro z hz
 refine zN O<|zO qX qA O<|G O<|zU O O (zBy O ok197 (walk_con e he y J Jx [] _ (fun pre x suf μ h1 h2=>hy pre x suf μ h1 h2) h0) ⟨Y,O,Y,O,T⟩) ?_
 rintro _ m0 ⟨y0,rfl,t0,f0⟩
 refine R ?_
 repeat (first|refine yS ?_|refine yM ?_)
 refine kZ<|fin0 ?_
 cases y0
 · exact .inr (f0 rfl)
 · exact .inl (t0 rfl)
theorem expr_validNode (e:Ex) (he:e.wt<=6000000000000):
    Pur cfg 209 [vE e] (vI (nodeErr e)):=by
 refine zS Tryz.func209 O Tryz.ntmps209 Tryz.results209 O ?_
 intro z hz
 obtain ⟨hL,hI,hA⟩:=e.parts he
 refine A O<|zU O O (qN O O) ?_
 rintro _ _ ⟨b1,rfl,rfl⟩
 refine zU O O (yL O zr32) ?_
 rintro _ _ ⟨b2,rfl,rfl⟩
 refine R<|zK<|zR<|A O<|zO qX (zD 1 O) O<|qK O ok270 (expr_syntax e he) ⟨Y,O,T⟩<|wA O<|G O<|R<|zC O (fun c1=>?_) (fun c1=>?_)
 ·try simp only [sx] at c1
  refine A O<|rStR 0 sz32 O<|R<|zF<|v (wM zIc O (zD 0 O) O) ?_
  rw [nodeErr,c1];rfl
 ·try simp only [sx] at c1
  refine A O<|zO qX (zD 1 O) O<|qK O ok271 (expr_names e he) ⟨Y,O,T⟩<|wA O<|G O<|R<|zC O (fun c2=>?_) (fun c2=>?_)
  ·try simp only [sx] at c2
   refine A O<|rStR 0 sz32 O<|R<|zF<|v (wM zIc O (zD 0 O) O) ?_
   rw [nodeErr,c1,c2];rfl
  ·try simp only [sx] at c2
   refine A O<|zO qX (zD 1 O) O<|qK O ok272 (expr_rank e he) ⟨Y,O,T⟩<|wA O<|G O<|R<|zC O (fun c3=>?_) (fun c3=>?_)
   ·try simp only [sx] at c3
    refine A O<|rStR 0 sz32 O<|R<|zF<|v (wM zIc O (zD 0 O) O) ?_
    rw [nodeErr,c1,c2,c3];rfl
   ·try simp only [sx] at c3
    refine A O<|zO qX (zD 1 O) O<|qK O ok273 (expr_types e he) ⟨Y,O,T⟩<|wA O<|G O<|R<|zC O (fun c4=>?_) (fun c4=>?_)
    ·try simp only [sx] at c4
     refine A O<|rStR 0 sz32 O<|R<|zF<|v (wM zIc O (zD 0 O) O) ?_
     rw [nodeErr,c1,c2,c3,c4];rfl
    ·try simp only [sx] at c4
     refine A O<|zH O kA<|zM one3 (zD 1 O) O<|L O<|G O<|rL0 O (fun g9_3=>zE O zAo O) O<|rL1 25 O (fun g9_3=>zV O yI O (zD 1 O) O) O<|rL0 O (fun g9_3=>zE O zDm O) O<|rL1 27 O (fun g9_3=>zV O zAw O (zD 1 O) O) O<|rLz [(26,_),(28,_)] O gv1 ⟨O,O,O,O,T⟩ (fun g9_3=>qC O ok117 (zQl e.Ty e.Val) ⟨Y,O,Y,O,T⟩) O<|rL1 29 O (fun g9_3=>wL O O) O<|yZ O (fun h=>h)<|G O<|R<|zC O (fun c5=>?_) (fun c5=>?_)
     ·have h5:=node5 c4 c5
      refine A O<|rStR 0 sz32 O<|R<|zF<|v (wM zIc O (zD 0 O) O) ?_
      rw [nodeErr,c1,c2,c3,c4,formOk,h5];rfl
     ·have h5:=node5 c4 c5
      refine zI<|zK<|A O<|zO qX (zD 1 O) O<|qK O ok136 (expr_forms _) ⟨Y,O,T⟩<|R<|zR<|zX _ (Weak.mem [true,false] O)<|zHf (ps:=[34]) hz 1 O O ok198 (forms_iter e he) (fun _ _=>O) O (fun pre=>pre.all linOk=true) (fun pre=>[E.row b2 32 [cI 0]]) (fun c pre=>(c=.ret/\pre.all linOk=false)) (fun c pre=>[E.row b2 32 [cI 1]]) ⟨O,O⟩ ?_ ?_ ?_ ?_
      ·intro pre x suf hxs hi z hz
       refine zN O<|zU O O (qT [none,some 2] O zKm O) ?_
       rintro _ _ ⟨b3,rfl,rfl⟩
       refine rStR 0 zQt O<|R ?_
       intro z hz
       refine zR<|A O<|zO kL (zD 0 O) O<|qK O ok274 (zFb x (forms_wt he (by rw [hxs];simp))) ⟨Y,O,T⟩<|kP O<|R<|zC O (fun c6=>?_) (fun c6=>?_)
       ·try simp only [sx] at c6
        refine A O<|rStR 1 sz32 O<|R<|zF ?_
        exact zCi (τ:=⟨[],_⟩) (Weak.mk [false,true] T O) ⟨⟨O,by simp only [List.all_append,List.all_cons,linErr_ne c6,Bool.false_and,Bool.and_false]⟩,O⟩
       ·try simp only [sx] at c6
        refine zI ?_
        exact zCi (τ:=⟨[],_⟩) (Weak.mk [false,true] T O) ⟨by simp only [List.all_append,hi,List.all_cons,List.all_nil,linErr_eq c6,Bool.and_self],O⟩
      ·intro hd
       refine A O<|rStR 0 sz32 O<|R<|zF<|v (wM zIc O (zD 0 O) O) ?_
       rw [nodeErr,c1,c2,c3,c4,formOk,h5,hd];rfl
      ·rintro pre x suf hxs hx
       rcases hx with ⟨hc,hx⟩
       clear hc
       repeat (first|refine zQq ?_|refine zNz ?_)
       refine v (wM zIc O (zD 0 O) O) ?_
       rw [nodeErr,c1,c2,c3,c4,formOk,h5,hxs,all_app_no hx];rfl
      ·rintro i pre x suf hxs hx
       rcases hx with ⟨hc,hx⟩
       cases hc
theorem expr_Size (e:Ex) (he:e.wt<=6000000000000):
    Pur cfg 208 [vE e] (vI (szT e)):=by
 refine zS Tryz.func208 O Tryz.ntmps208 Tryz.results208 O ?_
 intro z hz
 refine A O<|zU O O (qN O O) ?_
 rintro _ _ ⟨b1,rfl,rfl⟩
 refine G O<|R<|A O<|zU O O (yL O zr3) ?_
 rintro _ _ ⟨b2,rfl,rfl⟩
 refine rStR 0 sz3 O<|R<|zK<|A O<|zO qX (zD 1 O) O<|qK O ok135 (zMg _) ⟨Y,O,T⟩<|R<|zR<|zX _ (Weak.mem [true,false] O)<|zHf (ps:=[6]) hz 1 O O ok196 (zLg e he) (fun _ _=>O) O (fun pre=>pre.length<=2000) (fun pre=>[E.row b2 3 [cI (pre.length:Int)]]) (fun c pre=>(c=.exit 0/\pre.length=2001)) (fun c pre=>[E.row b2 3 [cI (pre.length:Int)]]) ⟨by simp,O⟩ ?_ ?_ ?_ ?_
 ·intro pre x suf hxs hi z hz
  refine zI ?_
  intro z hz
  refine zR<|A O<|zM one3 (zD 0 O) O<|qI O ⟨by omega,by omega⟩<|rStR 0 sz3 O<|R<|A O<|zM one3 (zD 0 O) O<|zT O (yA O O O)<|R<|zC O (fun c1=>?_) (fun c1=>?_)
  ·try simp only [sx] at c1
   refine qP ?_
   exact zCi (τ:=⟨[],_⟩) (Weak.mk [true] T O) ⟨⟨O,by simp;omega⟩,(by dsimp only;rw [show ((pre++[x]).length:Int)=pre.length+1 by simp];rfl)⟩
  ·try simp only [sx] at c1
   refine zI ?_
   exact zCi (τ:=⟨[],_⟩) (Weak.mk [true] T O) ⟨(by simp;omega),(by dsimp only;rw [show ((pre++[x]).length:Int)=pre.length+1 by simp];rfl)⟩
 ·intro hd
  refine A O<|zM one3 (zD 0 O) O<|G O<|R<|zF<|zQ O ?_
  exact congrArg vI (by rw [szT];omega)
 ·rintro pre x suf hxs hx
  rcases hx with ⟨hc,hx⟩
  cases hc
 ·rintro i pre x suf hxs hx
  rcases hx with ⟨hc,hx⟩
  injection hc with hc
  subst hc
  refine A O<|zM one3 (zD 0 O) O<|G O<|R<|zF<|zQ O ?_
  exact congrArg vI (by rw [szT,hxs];simp at hx⊢;omega)
theorem zMh (e:Ex) (he:e.wt<=6000000000000):
    Pur cfg 151 [vE e] (vI (validE e)):=by
 refine zS Tryz.func151 O Tryz.ntmps151 Tryz.results151 O ?_
 intro z hz
 refine A O<|zU O O (qN O O) ?_
 rintro _ _ ⟨b1,rfl,rfl⟩
 refine zU O O (yL O zr32) ?_
 rintro _ _ ⟨b2,rfl,rfl⟩
 refine R<|zK<|A O<|zO qX (zD 1 O) O<|qK O ok207 (expr_Depth e he) ⟨Y,O,T⟩<|zT O (yA O O O)<|R<|zC O (fun c1=>?_) (fun c1=>?_)
 ·try simp only [sx] at c1
  refine A O<|rStR 0 sz32 O<|R<|zF<|v (wM zIc O (zD 0 O) O) ?_
  rw [validE,zAi c1];rfl
 ·try simp only [sx] at c1
  refine zI<|zK<|A O<|zO qX (zD 1 O) O<|qK O ok208 (expr_Size e he) ⟨Y,O,T⟩<|zT O (yA O O O)<|R<|zC O (fun c2=>?_) (fun c2=>?_)
  ·try simp only [sx] at c2
   refine A O<|rStR 0 sz32 O<|R<|zF<|v (wM zIc O (zD 0 O) O) ?_
   rw [validE,yF (by omega),zAi c2];rfl
  ·try simp only [sx] at c2
   refine zI<|zK<|A O<|zO qX (zD 1 O) O<|qK O ok135 (zMg _) ⟨Y,O,T⟩<|R<|zR<|zX _ (Weak.mem [true,false] O)<|zHf (ps:=[13]) hz 1 O O ok196 (zLg e he) (fun _ _=>O) O (fun pre=>errsL pre=0) (fun pre=>[E.row b2 32 [cI 0]]) (fun c pre=>(c=.ret/\¬errsL pre=0)) (fun c pre=>[E.row b2 32 [cI (errsL pre)]]) ⟨O,O⟩ ?_ ?_ ?_ ?_
   ·intro pre x suf hxs hi z hz
    have hxw:x.wt<=6000000000000:=by have:=zGn e x (by rw [hxs];simp);omega
    refine zN O<|zU O O (qT [none,none,none,none,none,none,none,none,none,none,some 2,some 4,some 13] O zDx O) ?_
    rintro _ _ ⟨b3,rfl,rfl⟩
    refine rStR 0 zNb O<|R ?_
    intro z hz
    refine zR<|A O<|zO qX (zD 0 O) O<|qK O ok209 (expr_validNode x hxw) ⟨Y,O,T⟩<|G O<|R<|A O<|G O<|kP O<|R<|zC O (fun c3=>?_) (fun c3=>?_)
    ·try simp only [sx] at c3
     refine A O<|G O<|rStR 1 sz32 O<|R<|zF ?_
     exact zCi (τ:=⟨[],_⟩) (Weak.mk [false,true] T O) ⟨⟨O,by rw [errs_one hi c3];exact c3⟩,(by dsimp only;rw [errs_one hi c3];rfl)⟩
    ·try simp only [sx] at c3
     refine zI ?_
     exact zCi (τ:=⟨[],_⟩) (Weak.mk [false,true] T O) ⟨(by dsimp only;rw [zFg,hi,errsL,c3];rfl),O⟩
   ·intro hd
    refine A O<|rStR 0 sz32 O<|R<|zF<|v (wM zIc O (zD 0 O) O) ?_
    rw [validE,yF (by omega),yF (by omega),cond_false,cond_false,partE,hd]
   ·rintro pre x suf hxs hx
    rcases hx with ⟨hc,hx⟩
    clear hc
    repeat (first|refine zQq ?_|refine zNz ?_)
    refine v (wM zIc O (zD 0 O) O) ?_
    rw [validE,yF (by omega),yF (by omega),cond_false,cond_false,partE,hxs,errs_pre (suf:=suf) hx]
   ·rintro i pre x suf hxs hx
    rcases hx with ⟨hc,hx⟩
    cases hc
end Go.W
