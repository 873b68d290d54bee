/-
  Walks: what functions of the program compute. Printed by wip/gen/mk2.py.
  Conditions: none.
-/
import Derived.Test.YtkidnhldibjiaaaGreatDoorWC
set_option linter.unusedSimpArgs false
set_option linter.unusedVariables false
set_option maxRecDepth 10000
namespace Go.W
open Go Go.Eng Go.Proofs Go.L41 Go.Br
attribute [local irreducible] AWP RWP TD finQ
theorem ok87:callOk Tryz.prog 87=true:=by kernel_rfl
theorem ok154:callOk Tryz.prog 154=true:=by kernel_rfl
theorem ok166:callOk Tryz.prog 166=true:=by kernel_rfl
theorem ok167:callOk Tryz.prog 167=true:=by kernel_rfl
theorem ok190:callOk Tryz.prog 190=true:=by kernel_rfl
theorem ok193:callOk Tryz.prog 193=true:=by kernel_rfl
theorem ok205:callOk Tryz.prog 205=true:=by kernel_rfl
theorem ok206:callOk Tryz.prog 206=true:=by kernel_rfl
theorem ok221:callOk Tryz.prog 221=true:=by kernel_rfl
theorem ok222:callOk Tryz.prog 222=true:=by kernel_rfl
theorem ok223:callOk Tryz.prog 223=true:=by kernel_rfl
theorem ok224:callOk Tryz.prog 224=true:=by kernel_rfl
theorem ok225:callOk Tryz.prog 225=true:=by kernel_rfl
theorem ok237:callOk Tryz.prog 237=true:=by kernel_rfl
theorem zOm:oneT Tryz.prog 57=true:=by kernel_rfl
theorem sz3:(Tryz.prog.info? 3).map (·.size)=some 1:=by kernel_rfl
theorem sz57:(Tryz.prog.info? 57).map (·.size)=some 1:=by kernel_rfl
theorem zr3:zeroT Tryz.prog 3=some [(Value.int IntKind.i64 0)]:=by kernel_rfl
theorem zr57:zeroT Tryz.prog 57=some [(Value.int IntKind.i64 0)]:=by kernel_rfl
theorem expr_forms (e:Ex):
    Pur cfg 193 [vE e] (.c (.fn (.func 237) [] [.iptr e.cs])):=by
 refine zR Tryz.func193 O Tryz.ntmps193 Tryz.results193 O ?_
 intro z hz
 refine G O<|zS O O (qG O O) ?_
 rintro _ _ ⟨b1,rfl,rfl⟩
 refine Y O<|W<|G O<|zX O (zFd O O O O O)<|qV _ (yC 0 O 3 (.c (.fn _ _ [_])) (PLe.fn ⟨.inr ⟨O,O⟩,T⟩))<|Y O<|W<|zJ<|zP O ?_
 exact O
theorem forms_iter (e:Ex) (he:e.wt<=6000000000000):
    Iter cfg 237 [] [.iptr e.cs] (formsL e) fun l=>[vLin l]:=by
 obtain ⟨hL,hI,hA⟩:=e.parts he
 intro y J Jx μ hy0 h0
 have hy:=fun pre x suf μ h1 h2=>fn_bool (hy0 pre x suf μ h1 h2)
 refine zR Tryz.func237 O Tryz.ntmps237 Tryz.results237 O ?_
 intro z hz
 refine zG<|G O<|Y O<|qN O zCo<|zL kF zY O<|zS O O (zBj O O (hy [] e.Lin _ _ O h0) ⟨U,O,T⟩) ?_
 rintro _ m0 ⟨y0,rfl,t0,f0⟩
 refine wD O<|W<|zE O (fun c1=>?_) (fun c1=>?_)
 ·try simp only [sx] at c1
  refine zJ<|fin0 ?_
  exact .inr ⟨[],e.Lin,_,O,f0 c1⟩
 ·try simp only [sx] at c1
  refine zI<|G O<|qN O kC<|zH wK zY O<|zV O el41<|Y O<|W<|zN<|zU ⟨[(15,.c _),(0,.c _),(13,.c _),(14,.c _)],_⟩ (Weak.regs ⟨U,U,U,U,T⟩)<|zDe 1 O (Nat×List E) (fun ⟨k,m⟩=>[(15,vI k)]) (fun ⟨k,m⟩=>m) (fun ⟨k,m⟩=>k<=e.Idx.length/\(J (e.Lin::(e.Idx.take k).flatMap ixF) m)) (fun ⟨k,m⟩=>e.Idx.length-k) ⟨⟨0,m0⟩,⟨by omega,t0 c1⟩,Weak.regs ⟨U,U,U,U,T⟩⟩ ?_
  rintro ⟨k,m⟩ ⟨hk,hJ⟩
  refine G O<|qW O<|W<|zG<|zE O (fun c2=>?_) (fun c2=>?_)
  ·try simp only [sx] at c2
   obtain ⟨x,hx⟩:=qP e.Idx k (by omega)
   have hxw:=Ex.idx_wt (zW hx)
   refine zI<|zG<|zN<|G O<|zZ O el41 (by omega) (getm (by assumption))<|zL zAx zY O<|zS O O (qD [none,some 2,none,some 2] O zDp O) ?_
   rintro _ _ ⟨b1,rfl,rfl⟩
   refine N 0 zNp O<|qV _ (yC 0 O 4 _ PLe.ptr)<|W<|zG<|G O<|Y O<|qN O zAz<|zL kF zY O<|zS O O (zBj O O (hy _ x.Lin _ _ (forms_at hx) hJ) ⟨U,O,T⟩) ?_
   rintro _ m1 ⟨y1,rfl,t1,f1⟩
   refine wD O<|W<|zE O (fun c3=>?_) (fun c3=>?_)
   ·try simp only [sx] at c3
    refine zJ<|fin0 ?_
    exact .inr ⟨_,x.Lin,_,forms_at hx,f1 c3⟩
   ·try simp only [sx] at c3
    refine zI<|G O<|qN O kW<|zH zAr zY O<|zV O el65<|Y O<|W<|zN<|zU ⟨[(27,.c _),(0,.c _),(13,.c _),(14,.c _),(15,.c _),(25,.c _),(26,.c _)],_⟩ (Weak.regs ⟨U,U,U,U,U,U,U,T⟩)<|zDe 1 O (Nat×List E) (fun ⟨j,n⟩=>[(27,vI j)]) (fun ⟨j,n⟩=>n) (fun ⟨j,n⟩=>j<=x.At.length/\(J ((e.Lin::(e.Idx.take k).flatMap ixF)++[x.Lin]++x.At.take j) n)) (fun ⟨j,n⟩=>x.At.length-j) ⟨⟨0,m1⟩,⟨by omega,by simpa using t1 c3⟩,Weak.regs ⟨U,U,U,U,U,U,U,T⟩⟩ ?_
    rintro ⟨j,n⟩ ⟨hj,hJ2⟩
    refine G O<|qW O<|W<|zG<|zE O (fun c4=>?_) (fun c4=>?_)
    ·try simp only [sx] at c4
     obtain ⟨l,hl⟩:=qP x.At j (by omega)
     refine zI<|zG<|zN<|G O<|zZ O el65 (by omega) (getm (by assumption))<|zL kF zY O<|zS O O (qD [none,some 2] O zr40 O) ?_
     rintro _ _ ⟨b2,rfl,rfl⟩
     refine N 0 sz40 O<|qV _ (yC 0 O 6 _ PLe.ptr)<|W<|G O<|Y O<|zL kF zY O<|zS O O (zBj O O (hy _ l _ _ (forms_at2 hx hl) hJ2) ⟨U,O,T⟩) ?_
     rintro _ m2 ⟨y2,rfl,t2,f2⟩
     refine wD O<|W<|zE O (fun c5=>?_) (fun c5=>?_)
     ·try simp only [sx] at c5
      refine zJ<|fin0 ?_
      exact .inr ⟨_,l,_,forms_at2 hx hl,f2 c5⟩
     ·try simp only [sx] at c5
      refine zI<|zO O<|qB O ⟨by omega,by omega⟩<|Y O<|W ?_
      refine ⟨⟨j+1,m2⟩,⟨by omega,by rw [qM hl];simpa [List.append_assoc] using t2 c5⟩,(by show x.At.length-(j+1)<x.At.length-j;omega),Weak.regs ⟨U,U,U,U,U,U,U,T⟩⟩
    ·try simp only [sx] at c4
     refine qE<|zO O<|qB O ⟨by omega,by omega⟩<|Y O<|W ?_
     refine ⟨⟨k+1,n⟩,⟨by omega,by rw [forms_next hx];rw [qS (l:=x.At) (by omega)] at hJ2;exact hJ2⟩,(by show e.Idx.length-(k+1)<e.Idx.length-k;omega),Weak.regs ⟨U,U,U,U,T⟩⟩
  ·try simp only [sx] at c2
   refine qE ?_
   repeat (first|refine zEc ?_|refine zDd ?_)
   refine zLd<|fin0 ?_
   rw [qS (by omega)] at hJ;exact .inl hJ
theorem zPq (e:Ex):
    Pur cfg 154 [vE e] (.c (.fn (.func 205) [] [.iptr e.cs])):=by
 refine zR Tryz.func154 O Tryz.ntmps154 Tryz.results154 O ?_
 intro z hz
 refine G O<|zS O O (qG O O) ?_
 rintro _ _ ⟨b1,rfl,rfl⟩
 refine Y O<|W<|G O<|zX O (zFd O O O O O)<|qV _ (yC 0 O 3 (.c (.fn _ _ [_])) (PLe.fn ⟨.inr ⟨O,O⟩,T⟩))<|Y O<|W<|zJ<|zP O ?_
 exact O
theorem walk_step (e:Ex) (he:e.wt<=6000000000000) (ih:∀a,a∈e.Args->a.wt<=6000000000000->(∀(y:C) (J Jx:List Ex->List E->Prop) (pre0:List Ex) (μ:List E),(∀pre x suf μ,nodes a=pre++x::suf->J (pre0++pre) μ->FnCon cfg y [vE x] μ fun r μ'=>∃b,r=.c (.lit (.bool b))/\(b=true->J (pre0++pre++[x]) μ')/\(b=false->Jx (pre0++pre++[x]) μ'))->J pre0 μ->Con cfg 206 [vE a,.c y] μ fun r μ'=>∃b,r=.c (.lit (.bool b))/\(b=true->J (pre0++nodes a) μ')/\(b=false->∃pre x suf,nodes a=pre++x::suf/\Jx (pre0++pre++[x]) μ'))):
    ∀(y:C) (J Jx:List Ex->List E->Prop) (pre0:List Ex) (μ:List E),(∀pre x suf μ,nodes e=pre++x::suf->J (pre0++pre) μ->FnCon cfg y [vE x] μ fun r μ'=>∃b,r=.c (.lit (.bool b))/\(b=true->J (pre0++pre++[x]) μ')/\(b=false->Jx (pre0++pre++[x]) μ'))->J pre0 μ->Con cfg 206 [vE e,.c y] μ fun r μ'=>∃b,r=.c (.lit (.bool b))/\(b=true->J (pre0++nodes e) μ')/\(b=false->∃pre x suf,nodes e=pre++x::suf/\Jx (pre0++pre++[x]) μ'):=by
 obtain ⟨hL,hI,hA⟩:=e.parts he
 intro y J Jx pre0 μ hy h0
 refine zR Tryz.func206 O Tryz.ntmps206 Tryz.results206 O ?_
 intro z hz
 refine G O<|zS O O (qG O O) ?_
 rintro _ _ ⟨b1,rfl,rfl⟩
 refine qV _ (yC 0 O 2 _ PLe.ptr)<|Y O<|W<|zG<|G O<|Y O<|zL qZ zY O<|zS O O (zBj O O (hy [] e _ _ (kH e) (show J (pre0++[]) μ by simpa using h0)) ⟨U,O,T⟩) ?_
 rintro _ m0 ⟨y0,rfl,t0,f0⟩
 refine wD O<|W<|zE O (fun c1=>?_) (fun c1=>?_)
 ·try simp only [sx] at c1
  refine G O<|Y O<|W<|zJ<|zP O ?_
  exact ⟨false,O,fun h=>(by cases h),fun _=>⟨[],e,_,kH e,by simpa using f0 c1⟩⟩
 ·try simp only [sx] at c1
  refine zI<|zG<|G O<|qN O kG<|zH wS zY O<|zV O el42<|Y O<|W<|zN<|zU ⟨[(14,.c _),(1,.c _),(12,.c _),(13,.c _)],_⟩ (Weak.regs ⟨U,U,U,U,T⟩)<|zDe 1 O (Nat×List E) (fun ⟨k,m⟩=>[(14,vI k)]) (fun ⟨k,m⟩=>m) (fun ⟨k,m⟩=>k<=e.Args.length/\(J (pre0++e::nodesL (e.Args.take k)) m)) (fun ⟨k,m⟩=>e.Args.length-k) ⟨⟨0,m0⟩,⟨by omega,by simpa [nodesL] using t0 c1⟩,Weak.regs ⟨U,U,U,U,T⟩⟩ ?_
  rintro ⟨k,m⟩ ⟨hk,hJ⟩
  refine G O<|qW O<|W<|zG<|zE O (fun c2=>?_) (fun c2=>?_)
  ·try simp only [sx] at c2
   obtain ⟨a,ha⟩:=qP e.Args k (by omega)
   refine zI<|zG<|zN<|G O<|zZ O el42 (by omega) (zBr (by assumption))<|zL qZ zY O<|zS O O (qD [none,none,none,none,none,none,none,none,none,none,some 2,some 4,some 13] O zr44 O) ?_
   rintro _ _ ⟨b2,rfl,rfl⟩
   refine N 0 sz44 O<|qV _ (yC 0 O 6 _ PLe.ptr)<|W<|G O<|zL qZ zY O<|Y O<|zS O O (zCf O ok206 (ih a (zW ha) (by have:=Ex.arg_wt (zW ha);omega) y J Jx (pre0++e::nodesL (e.Args.take k)) _ (fun pre x suf μ hx hj=>by have:=hy _ x _ μ (nodes_at ha hx) (by simpa using hj);simpa using this) hJ) ⟨U,O,U,O,T⟩) ?_
   rintro _ m1 ⟨y1,rfl,t1,f1⟩
   refine wD O<|W<|zE O (fun c3=>?_) (fun c3=>?_)
   ·try simp only [sx] at c3
    refine G O<|Y O<|W<|zJ<|zP O ?_
    obtain ⟨pre,x,suf,h1,h2⟩:=f1 c3
    exact ⟨false,O,fun h=>(by cases h),fun _=>⟨_,x,_,nodes_at ha h1,by simpa using h2⟩⟩
   ·try simp only [sx] at c3
    refine zI<|zO O<|qB O ⟨by omega,by omega⟩<|Y O<|W ?_
    refine ⟨⟨k+1,m1⟩,⟨by omega,by rw [zOr ha];simpa using t1 c3⟩,(by show e.Args.length-(k+1)<e.Args.length-k;omega),Weak.regs ⟨U,U,U,U,T⟩⟩
  ·try simp only [sx] at c2
   refine qE<|G O<|Y O<|W<|zJ<|zP O ?_
   rw [qS (by omega)] at hJ
   exact ⟨true,O,fun _=>(by rw [kH];exact hJ),fun h=>(by cases h)⟩
theorem walk_con (e:Ex) (he:e.wt<=6000000000000):∀(y:C) (J Jx:List Ex->List E->Prop) (pre0:List Ex) (μ:List E),(∀pre x suf μ,nodes e=pre++x::suf->J (pre0++pre) μ->FnCon cfg y [vE x] μ fun r μ'=>∃b,r=.c (.lit (.bool b))/\(b=true->J (pre0++pre++[x]) μ')/\(b=false->Jx (pre0++pre++[x]) μ'))->J pre0 μ->Con cfg 206 [vE e,.c y] μ fun r μ'=>∃b,r=.c (.lit (.bool b))/\(b=true->J (pre0++nodes e) μ')/\(b=false->∃pre x suf,nodes e=pre++x::suf/\Jx (pre0++pre++[x]) μ'):=by
  induction e using Ex.ind with
  |_ e ih=>exact walk_step e he ih
theorem zNk (e:Ex) (he:e.wt<=6000000000000):
    Iter cfg 205 [] [.iptr e.cs] (nodes e) fun x=>[vE x]:=by
 intro y J Jx μ hy0 h0
 have hy:=fun pre x suf μ h1 h2=>fn_bool (hy0 pre x suf μ h1 h2)
 refine zR Tryz.func205 O Tryz.ntmps205 Tryz.results205 O ?_
 intro z hz
 refine zO O<|zL qZ zY O<|Y O<|zS O O (zCf O ok206 (walk_con e he y J Jx [] _ (fun pre x suf μ h1 h2=>hy pre x suf μ h1 h2) h0) ⟨U,O,U,O,T⟩) ?_
 rintro _ m0 ⟨y0,rfl,t0,f0⟩
 refine W ?_
 repeat (first|refine zEc ?_|refine zDd ?_)
 refine zLd<|fin0 ?_
 cases y0
 · exact .inr (f0 rfl)
 · exact .inl (t0 rfl)
theorem expr_validNode (e:Ex) (he:e.wt<=6000000000000):
    Pur cfg 167 [vE e] (vI (nodeErr e)):=by
 refine zR Tryz.func167 O Tryz.ntmps167 Tryz.results167 O ?_
 intro z hz
 obtain ⟨hL,hI,hA⟩:=e.parts he
 refine G O<|zS O O (qG O O) ?_
 rintro _ _ ⟨b1,rfl,rfl⟩
 refine zS O O (yB O zr57) ?_
 rintro _ _ ⟨b2,rfl,rfl⟩
 refine W<|zG<|zN<|G O<|zL qZ (J 1 O) O<|qK O ok221 (expr_syntax e he) ⟨U,O,T⟩<|wD O<|Y O<|W<|zE O (fun c1=>?_) (fun c1=>?_)
 ·try simp only [sx] at c1
  refine G O<|N 0 sz57 O<|W<|zJ<|fin1 (wI zOm O (J 0 O) O) ?_
  rw [nodeErr,c1];rfl
 ·try simp only [sx] at c1
  refine G O<|zL qZ (J 1 O) O<|qK O ok222 (expr_names e he) ⟨U,O,T⟩<|wD O<|Y O<|W<|zE O (fun c2=>?_) (fun c2=>?_)
  ·try simp only [sx] at c2
   refine G O<|N 0 sz57 O<|W<|zJ<|fin1 (wI zOm O (J 0 O) O) ?_
   rw [nodeErr,c1,c2];rfl
  ·try simp only [sx] at c2
   refine G O<|zL qZ (J 1 O) O<|qK O ok223 (expr_rank e he) ⟨U,O,T⟩<|wD O<|Y O<|W<|zE O (fun c3=>?_) (fun c3=>?_)
   ·try simp only [sx] at c3
    refine G O<|N 0 sz57 O<|W<|zJ<|fin1 (wI zOm O (J 0 O) O) ?_
    rw [nodeErr,c1,c2,c3];rfl
   ·try simp only [sx] at c3
    refine G O<|zL qZ (J 1 O) O<|qK O ok224 (expr_types e he) ⟨U,O,T⟩<|wD O<|Y O<|W<|zE O (fun c4=>?_) (fun c4=>?_)
    ·try simp only [sx] at c4
     refine G O<|N 0 sz57 O<|W<|zJ<|fin1 (wI zOm O (J 0 O) O) ?_
     rw [nodeErr,c1,c2,c3,c4];rfl
    ·try simp only [sx] at c4
     refine G O<|zD O yY<|zH one3 (J 1 O) O<|yG O<|Y O<|rL0 O (fun g9_3=>zF O zEm O) O<|rL1 25 O (fun g9_3=>zT O yD O (J 1 O) O) O<|rL0 O (fun g9_3=>zF O zHq O) O<|rL1 27 O (fun g9_3=>zT O agg35 O (J 1 O) O) O<|rLz [(26,_),(28,_)] O gv1 ⟨O,O,O,O,T⟩ (fun g9_3=>qH O ok225 (value_Valid e.Ty e.Val) ⟨U,O,U,O,T⟩) O<|rL1 29 O (fun g9_3=>wB O O) O<|kD O (fun h=>h)<|Y O<|W<|zE O (fun c5=>?_) (fun c5=>?_)
     ·have h5:=node5 c4 c5
      refine G O<|N 0 sz57 O<|W<|zJ<|fin1 (wI zOm O (J 0 O) O) ?_
      rw [nodeErr,c1,c2,c3,c4,formOk,h5];rfl
     ·have h5:=node5 c4 c5
      refine zI<|zG<|G O<|zL qZ (J 1 O) O<|qK O ok193 (expr_forms _) ⟨U,O,T⟩<|W<|zN<|zU _ (Weak.mem [true,false] O)<|zIn (ps:=[34]) hz 1 O O ok237 (forms_iter e he) (fun _ _=>O) O (fun pre=>pre.all linOk=true) (fun pre=>[E.row b2 57 [cI 0]]) (fun c pre=>(c=.ret/\pre.all linOk=false)) (fun c pre=>[E.row b2 57 [cI 1]]) ⟨O,O⟩ ?_ ?_ ?_ ?_
      ·intro pre x suf hxs hi z hz
       refine zO O<|zS O O (qD [none,some 2] O zr40 O) ?_
       rintro _ _ ⟨b3,rfl,rfl⟩
       refine N 0 sz40 O<|W ?_
       intro z hz
       refine zN<|G O<|zL kF (J 0 O) O<|qK O ok190 (zGd x (forms_wt he (by rw [hxs];simp))) ⟨U,O,T⟩<|yR O<|W<|zE O (fun c6=>?_) (fun c6=>?_)
       ·try simp only [sx] at c6
        refine G O<|N 1 sz57 O<|W<|zJ ?_
        exact zCi (τ:=⟨[],_⟩) (Weak.mk [false,true] T O) ⟨⟨O,by simp only [List.all_append,List.all_cons,linErr_ne c6,Bool.false_and,Bool.and_false]⟩,O⟩
       ·try simp only [sx] at c6
        refine zI ?_
        exact zCi (τ:=⟨[],_⟩) (Weak.mk [false,true] T O) ⟨by simp only [List.all_append,hi,List.all_cons,List.all_nil,linErr_eq c6,Bool.and_self],O⟩
      ·intro hd
       refine G O<|N 0 sz57 O<|W<|zJ<|fin1 (wI zOm O (J 0 O) O) ?_
       rw [nodeErr,c1,c2,c3,c4,formOk,h5,hd];rfl
      ·rintro pre x suf hxs hx
       rcases hx with ⟨hc,hx⟩
       clear hc
       repeat (first|refine thenQ_ret ?_|refine blockQ_ret ?_)
       refine fin1 (wI zOm O (J 0 O) O) ?_
       rw [nodeErr,c1,c2,c3,c4,formOk,h5,hxs,all_app_no hx];rfl
      ·rintro i pre x suf hxs hx
       rcases hx with ⟨hc,hx⟩
       cases hc
theorem expr_Size (e:Ex) (he:e.wt<=6000000000000):
    Pur cfg 87 [vE e] (vI (szT e)):=by
 refine zR Tryz.func87 O Tryz.ntmps87 Tryz.results87 O ?_
 intro z hz
 refine G O<|zS O O (qG O O) ?_
 rintro _ _ ⟨b1,rfl,rfl⟩
 refine Y O<|W<|G O<|zS O O (yB O zr3) ?_
 rintro _ _ ⟨b2,rfl,rfl⟩
 refine N 0 sz3 O<|W<|zG<|G O<|zL qZ (J 1 O) O<|qK O ok154 (zPq _) ⟨U,O,T⟩<|W<|zN<|zU _ (Weak.mem [true,false] O)<|zIn (ps:=[6]) hz 1 O O ok205 (zNk e he) (fun _ _=>O) O (fun pre=>pre.length<=2000) (fun pre=>[E.row b2 3 [cI (pre.length:Int)]]) (fun c pre=>(c=.exit 0/\pre.length=2001)) (fun c pre=>[E.row b2 3 [cI (pre.length:Int)]]) ⟨by simp,O⟩ ?_ ?_ ?_ ?_
 ·intro pre x suf hxs hi z hz
  refine zI ?_
  intro z hz
  refine zN<|G O<|zH one3 (J 0 O) O<|qB O ⟨by omega,by omega⟩<|N 0 sz3 O<|W<|G O<|zH one3 (J 0 O) O<|zX O (yF O O O)<|W<|zE O (fun c1=>?_) (fun c1=>?_)
  ·try simp only [sx] at c1
   refine qE ?_
   exact zCi (τ:=⟨[],_⟩) (Weak.mk [true] T O) ⟨⟨O,by simp;omega⟩,(by dsimp only;rw [show ((pre++[x]).length:Int)=pre.length+1 by simp];rfl)⟩
  ·try simp only [sx] at c1
   refine zI ?_
   exact zCi (τ:=⟨[],_⟩) (Weak.mk [true] T O) ⟨(by simp;omega),(by dsimp only;rw [show ((pre++[x]).length:Int)=pre.length+1 by simp];rfl)⟩
 ·intro hd
  refine G O<|zH one3 (J 0 O) O<|Y O<|W<|zJ<|zP O ?_
  exact congrArg vI (by rw [szT];omega)
 ·rintro pre x suf hxs hx
  rcases hx with ⟨hc,hx⟩
  cases hc
 ·rintro i pre x suf hxs hx
  rcases hx with ⟨hc,hx⟩
  injection hc with hc
  subst hc
  refine G O<|zH one3 (J 0 O) O<|Y O<|W<|zJ<|zP O ?_
  exact congrArg vI (by rw [szT,hxs];simp at hx⊢;omega)
theorem expr_Validate (e:Ex) (he:e.wt<=6000000000000):
    Pur cfg 113 [vE e] (vI (validE e)):=by
 refine zR Tryz.func113 O Tryz.ntmps113 Tryz.results113 O ?_
 intro z hz
 refine G O<|zS O O (qG O O) ?_
 rintro _ _ ⟨b1,rfl,rfl⟩
 refine zS O O (yB O zr57) ?_
 rintro _ _ ⟨b2,rfl,rfl⟩
 refine W<|zG<|G O<|zL qZ (J 1 O) O<|qK O ok166 (expr_Depth e he) ⟨U,O,T⟩<|zX O (yF O O O)<|W<|zE O (fun c1=>?_) (fun c1=>?_)
 ·try simp only [sx] at c1
  refine G O<|N 0 sz57 O<|W<|zJ<|fin1 (wI zOm O (J 0 O) O) ?_
  rw [validE,wA c1];rfl
 ·try simp only [sx] at c1
  refine zI<|zG<|G O<|zL qZ (J 1 O) O<|qK O ok87 (expr_Size e he) ⟨U,O,T⟩<|zX O (yF O O O)<|W<|zE O (fun c2=>?_) (fun c2=>?_)
  ·try simp only [sx] at c2
   refine G O<|N 0 sz57 O<|W<|zJ<|fin1 (wI zOm O (J 0 O) O) ?_
   rw [validE,yI (by omega),wA c2];rfl
  ·try simp only [sx] at c2
   refine zI<|zG<|G O<|zL qZ (J 1 O) O<|qK O ok154 (zPq _) ⟨U,O,T⟩<|W<|zN<|zU _ (Weak.mem [true,false] O)<|zIn (ps:=[13]) hz 1 O O ok205 (zNk e he) (fun _ _=>O) O (fun pre=>errsL pre=0) (fun pre=>[E.row b2 57 [cI 0]]) (fun c pre=>(c=.ret/\¬errsL pre=0)) (fun c pre=>[E.row b2 57 [cI (errsL pre)]]) ⟨O,O⟩ ?_ ?_ ?_ ?_
   ·intro pre x suf hxs hi z hz
    have hxw:x.wt<=6000000000000:=by have:=zAo e x (by rw [hxs];simp);omega
    refine zO O<|zS O O (qD [none,none,none,none,none,none,none,none,none,none,some 2,some 4,some 13] O zr44 O) ?_
    rintro _ _ ⟨b3,rfl,rfl⟩
    refine N 0 sz44 O<|W ?_
    intro z hz
    refine zN<|G O<|zL qZ (J 0 O) O<|qK O ok167 (expr_validNode x hxw) ⟨U,O,T⟩<|Y O<|W<|G O<|Y O<|yR O<|W<|zE O (fun c3=>?_) (fun c3=>?_)
    ·try simp only [sx] at c3
     refine G O<|Y O<|N 1 sz57 O<|W<|zJ ?_
     exact zCi (τ:=⟨[],_⟩) (Weak.mk [false,true] T O) ⟨⟨O,by rw [errs_one hi c3];exact c3⟩,(by dsimp only;rw [errs_one hi c3];rfl)⟩
    ·try simp only [sx] at c3
     refine zI ?_
     exact zCi (τ:=⟨[],_⟩) (Weak.mk [false,true] T O) ⟨(by dsimp only;rw [zDu,hi,errsL,c3];rfl),O⟩
   ·intro hd
    refine G O<|N 0 sz57 O<|W<|zJ<|fin1 (wI zOm O (J 0 O) O) ?_
    rw [validE,yI (by omega),yI (by omega),cond_false,cond_false,partE,hd]
   ·rintro pre x suf hxs hx
    rcases hx with ⟨hc,hx⟩
    clear hc
    repeat (first|refine thenQ_ret ?_|refine blockQ_ret ?_)
    refine fin1 (wI zOm O (J 0 O) O) ?_
    rw [validE,yI (by omega),yI (by omega),cond_false,cond_false,partE,hxs,errs_pre (suf:=suf) hx]
   ·rintro i pre x suf hxs hx
    rcases hx with ⟨hc,hx⟩
    cases hc
end Go.W
