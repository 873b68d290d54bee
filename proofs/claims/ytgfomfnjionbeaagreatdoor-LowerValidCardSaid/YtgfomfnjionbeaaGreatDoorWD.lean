/-
  What functions compute.
  Conditions: none.
-/
import Derived.Test.YtgfomfnjionbeaaGreatDoorWC
set_option linter.unusedSimpArgs false
set_option linter.unusedVariables false
set_option maxRecDepth 10000
namespace Go.W
open Go Go.Eng Go.Proofs Go.L41 Go.Br
attribute [local irreducible] AWP RWP TD fQ
theorem ok122:bA Tryz.prog 122=true:=by kernel_rfl
theorem ok218:bA Tryz.prog 218=true:=by kernel_rfl
theorem ok219:bA Tryz.prog 219=true:=by kernel_rfl
theorem ok220:bA Tryz.prog 220=true:=by kernel_rfl
theorem ok221:bA Tryz.prog 221=true:=by kernel_rfl
theorem ok254:bA Tryz.prog 254=true:=by kernel_rfl
theorem ok255:bA Tryz.prog 255=true:=by kernel_rfl
theorem ok256:bA Tryz.prog 256=true:=by kernel_rfl
theorem ok257:bA Tryz.prog 257=true:=by kernel_rfl
theorem ok258:bA Tryz.prog 258=true:=by kernel_rfl
theorem ok259:bA Tryz.prog 259=true:=by kernel_rfl
theorem ok260:bA Tryz.prog 260=true:=by kernel_rfl
theorem ok261:bA Tryz.prog 261=true:=by kernel_rfl
theorem ok294:bA Tryz.prog 294=true:=by kernel_rfl
theorem zIz:gB Tryz.prog 34=true:=by kernel_rfl
theorem sz3:(Tryz.prog.info? 3).map (·.size)=some 1:=by kernel_rfl
theorem sz34:(Tryz.prog.info? 34).map (·.size)=some 1:=by kernel_rfl
theorem zr3:dO Tryz.prog 3=some [(Value.int IntKind.i64 0)]:=by kernel_rfl
theorem zr34:dO Tryz.prog 34=some [(Value.int IntKind.i64 0)]:=by kernel_rfl
theorem expr_forms (e:Ex):
    Pur cfg 261 [vE e] (.c (.fn (.func 294) [] [.iptr e.cs])):=by
 refine zV Tryz.func261 O Tryz.ntmps261 Tryz.results261 O ?_
 exact v43
theorem forms_iter (e:Ex) (he:e.wt<=6000000000000):
    eF cfg 294 [] [.iptr e.cs] (dI e) fun l=>[dP l]:=by
 obtain ⟨hL,hI,hA⟩:=e.parts he
 intro y J Jx μ hy0 h0
 have hy:=fun pre x suf μ h1 h2=>fn_bool (hy0 pre x suf μ h1 h2)
 refine zV Tryz.func294 O Tryz.ntmps294 Tryz.results294 O ?_
 intro z hz
 refine zH<|Y O<|G O<|qW O zDi<|zM kD qD O<|zY O O (zAl O O (hy [] e.Lin _ _ O h0) ⟨zB,O,T⟩) ?_
 rintro _ m0 ⟨y0,rfl,t0,f0⟩
 refine kZ O<|zA<|zE O (fun c1=>?_) (fun c1=>?_)
 ·try simp only [sx] at c1
  refine zJ<|fin0 ?_
  exact .inr ⟨[],e.Lin,_,O,f0 c1⟩
 ·try simp only [sx] at c1
  refine zI<|Y O<|qW O kQ<|zG wG qD O<|qB O N<|G O<|zA<|zR<|zU ⟨[(15,.c _),(0,.c _),(13,.c _),(14,.c _)],_⟩ (Weak.regs ⟨zB,zB,zB,zB,T⟩)<|zFb 1 O (Nat×List E) (fun ⟨k,m⟩=>[(15,vI k)]) (fun ⟨k,m⟩=>m) (fun ⟨k,m⟩=>k<=e.Idx.length/\(J (e.Lin::(e.Idx.take k).flatMap ixF) m)) (fun ⟨k,m⟩=>e.Idx.length-k) ⟨⟨0,m0⟩,⟨zC,t0 c1⟩,Weak.regs ⟨zB,zB,zB,zB,T⟩⟩ ?_
  rintro ⟨k,m⟩ ⟨hk,hJ⟩
  refine Y O<|yA O<|zA<|zH<|zE O (fun c2=>?_) (fun c2=>?_)
  ·try simp only [sx] at c2
   obtain ⟨x,hx⟩:=qV e.Idx k zC
   have hxw:=Ex.idx_wt (qC hx)
   refine zI<|zH<|zR<|Y O<|qE O N zC (getm uD)<|zM zJx qD O<|zY O O (qG [none,some 2,none,some 2] O zr93 O) ?_
   rintro _ _ ⟨b1,rfl,rfl⟩
   refine D 0 sz93 O<|yT _ (kG 0 O 4 _ PLe.ptr)<|zA<|zH<|Y O<|G O<|qW O zCi<|zM kD qD O<|zY O O (zAl O O (hy _ x.Lin _ _ (forms_at hx) hJ) ⟨zB,O,T⟩) ?_
   rintro _ m1 ⟨y1,rfl,t1,f1⟩
   refine kZ O<|zA<|zE O (fun c3=>?_) (fun c3=>?_)
   ·try simp only [sx] at c3
    refine zJ<|fin0 ?_
    exact .inr ⟨_,x.Lin,_,forms_at hx,f1 c3⟩
   ·try simp only [sx] at c3
    refine zI<|Y O<|qW O zAg<|zG zCg qD O<|qB O el72<|G O<|zA<|zR<|zU ⟨[(27,.c _),(0,.c _),(13,.c _),(14,.c _),(15,.c _),(25,.c _),(26,.c _)],_⟩ (Weak.regs ⟨zB,zB,zB,zB,zB,zB,zB,T⟩)<|zFb 1 O (Nat×List E) (fun ⟨j,n⟩=>[(27,vI j)]) (fun ⟨j,n⟩=>n) (fun ⟨j,n⟩=>j<=x.At.length/\(J ((e.Lin::(e.Idx.take k).flatMap ixF)++[x.Lin]++x.At.take j) n)) (fun ⟨j,n⟩=>x.At.length-j) ⟨⟨0,m1⟩,⟨zC,by simpa using t1 c3⟩,Weak.regs ⟨zB,zB,zB,zB,zB,zB,zB,T⟩⟩ ?_
    rintro ⟨j,n⟩ ⟨hj,hJ2⟩
    refine Y O<|yA O<|zA<|zH<|zE O (fun c4=>?_) (fun c4=>?_)
    ·try simp only [sx] at c4
     obtain ⟨l,hl⟩:=qV x.At j zC
     refine zI<|zH<|zR<|Y O<|qE O el72 zC (getm uD)<|zM kD qD O<|zY O O (qG [none,some 2] O zr59 O) ?_
     rintro _ _ ⟨b2,rfl,rfl⟩
     refine D 0 sz59 O<|yT _ (kG 0 O 6 _ PLe.ptr)<|zA<|Y O<|G O<|zM kD qD O<|zY O O (zAl O O (hy _ l _ _ (forms_at2 hx hl) hJ2) ⟨zB,O,T⟩) ?_
     rintro _ m2 ⟨y2,rfl,t2,f2⟩
     refine kZ O<|zA<|zE O (fun c5=>?_) (fun c5=>?_)
     ·try simp only [sx] at c5
      refine zJ<|fin0 ?_
      exact .inr ⟨_,l,_,forms_at2 hx hl,f2 c5⟩
     ·try simp only [sx] at c5
      refine zI<|zO O<|qH O ⟨zC,zC⟩<|G O<|zA ?_
      refine ⟨⟨j+1,m2⟩,⟨zC,by rw [yB hl];simpa [List.append_assoc] using t2 c5⟩,(by show x.At.length-(j+1)<x.At.length-j;omega),Weak.regs ⟨zB,zB,zB,zB,zB,zB,zB,T⟩⟩
    ·try simp only [sx] at c4
     refine qM<|zO O<|qH O ⟨zC,zC⟩<|G O<|zA ?_
     refine ⟨⟨k+1,n⟩,⟨zC,by rw [forms_next hx];rw [yD (l:=x.At) zC] at hJ2;exact hJ2⟩,(by show e.Idx.length-(k+1)<e.Idx.length-k;omega),Weak.regs ⟨zB,zB,zB,zB,T⟩⟩
  ·try simp only [sx] at c2
   refine qM ?_
   repeat (first|refine yV ?_|refine yP ?_)
   refine kR<|fin0 ?_
   rw [yD zC] at hJ;exact .inl hJ
theorem zTu (e:Ex):
    Pur cfg 220 [vE e] (.c (.fn (.func 254) [] [.iptr e.cs])):=by
 refine zV Tryz.func220 O Tryz.ntmps220 Tryz.results220 O ?_
 exact v43
theorem walk_step (e:Ex) (he:e.wt<=6000000000000) (ih:∀a,a∈e.Args->a.wt<=6000000000000->(∀(y:C) (J Jx:List Ex->List E->Prop) (pre0:List Ex) (μ:List E),(∀pre x suf μ,bY a=pre++x::suf->J (pre0++pre) μ->FnCon cfg y [vE x] μ fun r μ'=>∃b,r=.c (.lit (.bool b))/\(b=true->J (pre0++pre++[x]) μ')/\(b=false->Jx (pre0++pre++[x]) μ'))->J pre0 μ->Con cfg 255 [vE a,.c y] μ fun r μ'=>∃b,r=.c (.lit (.bool b))/\(b=true->J (pre0++bY a) μ')/\(b=false->∃pre x suf,bY a=pre++x::suf/\Jx (pre0++pre++[x]) μ'))):
    ∀(y:C) (J Jx:List Ex->List E->Prop) (pre0:List Ex) (μ:List E),(∀pre x suf μ,bY e=pre++x::suf->J (pre0++pre) μ->FnCon cfg y [vE x] μ fun r μ'=>∃b,r=.c (.lit (.bool b))/\(b=true->J (pre0++pre++[x]) μ')/\(b=false->Jx (pre0++pre++[x]) μ'))->J pre0 μ->Con cfg 255 [vE e,.c y] μ fun r μ'=>∃b,r=.c (.lit (.bool b))/\(b=true->J (pre0++bY e) μ')/\(b=false->∃pre x suf,bY e=pre++x::suf/\Jx (pre0++pre++[x]) μ'):=by
 obtain ⟨hL,hI,hA⟩:=e.parts he
 intro y J Jx pre0 μ hy h0
 refine zV Tryz.func255 O Tryz.ntmps255 Tryz.results255 O ?_
 intro z hz
 refine Y O<|zY O O (qL O O) ?_
 rintro _ _ ⟨b1,rfl,rfl⟩
 refine yT _ (kG 0 O 2 _ PLe.ptr)<|G O<|zA<|zH<|Y O<|G O<|zM yU qD O<|zY O O (zAl O O (hy [] e _ _ (wZ e) (show J (pre0++[]) μ by simpa using h0)) ⟨zB,O,T⟩) ?_
 rintro _ m0 ⟨y0,rfl,t0,f0⟩
 refine kZ O<|zA<|zE O (fun c1=>?_) (fun c1=>?_)
 ·try simp only [sx] at c1
  refine Y O<|G O<|zA<|zJ<|zT O ?_
  exact ⟨false,O,fun h=>(by cases h),fun _=>⟨[],e,_,wZ e,by simpa using f0 c1⟩⟩
 ·try simp only [sx] at c1
  refine zI<|zH<|Y O<|qW O wP<|zG zBy qD O<|qB O el60<|G O<|zA<|zR<|zU ⟨[(14,.c _),(1,.c _),(12,.c _),(13,.c _)],_⟩ (Weak.regs ⟨zB,zB,zB,zB,T⟩)<|zFb 1 O (Nat×List E) (fun ⟨k,m⟩=>[(14,vI k)]) (fun ⟨k,m⟩=>m) (fun ⟨k,m⟩=>k<=e.Args.length/\(J (pre0++e::bM (e.Args.take k)) m)) (fun ⟨k,m⟩=>e.Args.length-k) ⟨⟨0,m0⟩,⟨zC,by simpa [bM] using t0 c1⟩,Weak.regs ⟨zB,zB,zB,zB,T⟩⟩ ?_
  rintro ⟨k,m⟩ ⟨hk,hJ⟩
  refine Y O<|yA O<|zA<|zH<|zE O (fun c2=>?_) (fun c2=>?_)
  ·try simp only [sx] at c2
   obtain ⟨a,ha⟩:=qV e.Args k zC
   refine zI<|zH<|zR<|Y O<|qE O el60 zC (zGh uD)<|zM yU qD O<|zY O O (qG [none,none,none,none,none,none,none,none,none,none,some 2,some 4,some 13] O zr62 O) ?_
   rintro _ _ ⟨b2,rfl,rfl⟩
   refine D 0 sz62 O<|yT _ (kG 0 O 6 _ PLe.ptr)<|zA<|Y O<|zM yU qD O<|G O<|zY O O (zDs O ok255 (ih a (qC ha) (by have:=Ex.arg_wt (qC ha);omega) y J Jx (pre0++e::bM (e.Args.take k)) _ (fun pre x suf μ hx hj=>by have:=hy _ x _ μ (nodes_at ha hx) (by simpa using hj);simpa using this) hJ) ⟨zB,O,zB,O,T⟩) ?_
   rintro _ m1 ⟨y1,rfl,t1,f1⟩
   refine kZ O<|zA<|zE O (fun c3=>?_) (fun c3=>?_)
   ·try simp only [sx] at c3
    refine Y O<|G O<|zA<|zJ<|zT O ?_
    obtain ⟨pre,x,suf,h1,h2⟩:=f1 c3
    exact ⟨false,O,fun h=>(by cases h),fun _=>⟨_,x,_,nodes_at ha h1,by simpa using h2⟩⟩
   ·try simp only [sx] at c3
    refine zI<|zO O<|qH O ⟨zC,zC⟩<|G O<|zA ?_
    refine ⟨⟨k+1,m1⟩,⟨zC,by rw [zSv ha];simpa using t1 c3⟩,(by show e.Args.length-(k+1)<e.Args.length-k;omega),Weak.regs ⟨zB,zB,zB,zB,T⟩⟩
  ·try simp only [sx] at c2
   refine qM<|Y O<|G O<|zA<|zJ<|zT O ?_
   rw [yD zC] at hJ
   exact ⟨true,O,fun _=>(by rw [wZ];exact hJ),fun h=>(by cases h)⟩
theorem walk_con (e:Ex) (he:e.wt<=6000000000000):∀(y:C) (J Jx:List Ex->List E->Prop) (pre0:List Ex) (μ:List E),(∀pre x suf μ,bY e=pre++x::suf->J (pre0++pre) μ->FnCon cfg y [vE x] μ fun r μ'=>∃b,r=.c (.lit (.bool b))/\(b=true->J (pre0++pre++[x]) μ')/\(b=false->Jx (pre0++pre++[x]) μ'))->J pre0 μ->Con cfg 255 [vE e,.c y] μ fun r μ'=>∃b,r=.c (.lit (.bool b))/\(b=true->J (pre0++bY e) μ')/\(b=false->∃pre x suf,bY e=pre++x::suf/\Jx (pre0++pre++[x]) μ'):=by
  induction e using Ex.ind with
  |_ e ih=>exact walk_step e he ih
theorem zRr (e:Ex) (he:e.wt<=6000000000000):
    eF cfg 254 [] [.iptr e.cs] (bY e) fun x=>[vE x]:=by
 intro y J Jx μ hy0 h0
 have hy:=fun pre x suf μ h1 h2=>fn_bool (hy0 pre x suf μ h1 h2)
 refine zV Tryz.func254 O Tryz.ntmps254 Tryz.results254 O ?_
 intro z hz
 refine zO O<|zM yU qD O<|G O<|zY O O (zDs O ok255 (walk_con e he y J Jx [] _ (fun pre x suf μ h1 h2=>hy pre x suf μ h1 h2) h0) ⟨zB,O,zB,O,T⟩) ?_
 rintro _ m0 ⟨y0,rfl,t0,f0⟩
 refine zA ?_
 repeat (first|refine yV ?_|refine yP ?_)
 refine kR<|fin0 ?_
 cases y0
 · exact .inr (f0 rfl)
 · exact .inl (t0 rfl)
theorem expr_validNode (e:Ex) (he:e.wt<=6000000000000):
    Pur cfg 221 [vE e] (vI (bW e)):=by
 refine zV Tryz.func221 O Tryz.ntmps221 Tryz.results221 O ?_
 intro z hz
 obtain ⟨hL,hI,hA⟩:=e.parts he
 refine Y O<|zY O O (qL O O) ?_
 rintro _ _ ⟨b1,rfl,rfl⟩
 refine zY O O (yC O zr34) ?_
 rintro _ _ ⟨b2,rfl,rfl⟩
 refine zA<|zH<|zR<|Y O<|zM yU (J 1 O) O<|qJ O ok256 (expr_syntax e he) ⟨zB,O,T⟩<|kZ O<|G O<|zA<|zE O (fun c1=>?_) (fun c1=>?_)
 ·try simp only [sx] at c1
  refine Y O<|D 0 sz34 O<|zA<|zJ<|fin1 (wI zIz O (J 0 O) O) ?_
  rw [bW,c1];rfl
 ·try simp only [sx] at c1
  refine Y O<|zM yU (J 1 O) O<|qJ O ok257 (expr_names e he) ⟨zB,O,T⟩<|kZ O<|G O<|zA<|zE O (fun c2=>?_) (fun c2=>?_)
  ·try simp only [sx] at c2
   refine Y O<|D 0 sz34 O<|zA<|zJ<|fin1 (wI zIz O (J 0 O) O) ?_
   rw [bW,c1,c2];rfl
  ·try simp only [sx] at c2
   refine Y O<|zM yU (J 1 O) O<|qJ O ok258 (expr_rank e he) ⟨zB,O,T⟩<|kZ O<|G O<|zA<|zE O (fun c3=>?_) (fun c3=>?_)
   ·try simp only [sx] at c3
    refine Y O<|D 0 sz34 O<|zA<|zJ<|fin1 (wI zIz O (J 0 O) O) ?_
    rw [bW,c1,c2,c3];rfl
   ·try simp only [sx] at c3
    refine Y O<|zM yU (J 1 O) O<|qJ O ok259 (expr_types e he) ⟨zB,O,T⟩<|kZ O<|G O<|zA<|zE O (fun c4=>?_) (fun c4=>?_)
    ·try simp only [sx] at c4
     refine Y O<|D 0 sz34 O<|zA<|zJ<|fin1 (wI zIz O (J 0 O) O) ?_
     rw [bW,c1,c2,c3,c4];rfl
    ·try simp only [sx] at c4
     refine Y O<|zD O wE<|zG one3 (J 1 O) O<|yJ O<|G O<|rL0 O (fun g9_3=>zF O zEo O) O<|rL1 25 O (fun g9_3=>qA O qZ O (J 1 O) O) O<|rL0 O (fun g9_3=>zF O zLa O) O<|rL1 27 O (fun g9_3=>qA O zFt O (J 1 O) O) O<|rLz [(26,_),(28,_)] O gv1 ⟨O,O,O,O,T⟩ (fun g9_3=>qS O ok260 (value_Valid e.Ty e.Val) ⟨zB,O,zB,O,T⟩) O<|rL1 29 O (fun g9_3=>wJ O O) O<|kB O (fun h=>h)<|G O<|zA<|zE O (fun c5=>?_) (fun c5=>?_)
     ·have h5:=node5 c4 c5
      refine Y O<|D 0 sz34 O<|zA<|zJ<|fin1 (wI zIz O (J 0 O) O) ?_
      rw [bW,c1,c2,c3,c4,lB,h5];rfl
     ·have h5:=node5 c4 c5
      refine zI<|zH<|Y O<|zM yU (J 1 O) O<|qJ O ok261 (expr_forms _) ⟨zB,O,T⟩<|zA<|zR<|zU _ (Weak.mem [true,false] O)<|zHy (ps:=[34]) hz 1 O O ok294 (forms_iter e he) (fun _ _=>O) O (fun pre=>pre.all bP=true) (fun pre=>[E.row b2 34 [cI 0]]) (fun c pre=>(c=.ret/\pre.all bP=false)) (fun c pre=>[E.row b2 34 [cI 1]]) ⟨O,O⟩ ?_ ?_ ?_ ?_
      ·intro pre x suf hxs hi z hz
       refine zO O<|zY O O (qG [none,some 2] O zr59 O) ?_
       rintro _ _ ⟨b3,rfl,rfl⟩
       refine D 0 sz59 O<|zA ?_
       intro z hz
       refine zR<|Y O<|zM kD (J 0 O) O<|qJ O ok122 (zAn x (zRc he (by rw [hxs];simp))) ⟨zB,O,T⟩<|yN O<|zA<|zE O (fun c6=>?_) (fun c6=>?_)
       ·try simp only [sx] at c6
        refine Y O<|D 1 sz34 O<|zA<|zJ ?_
        exact zDz (τ:=⟨[],_⟩) (Weak.mk [false,true] T O) ⟨⟨O,by simp only [List.all_append,List.all_cons,zJk c6,Bool.false_and,Bool.and_false]⟩,O⟩
       ·try simp only [sx] at c6
        refine zI ?_
        exact zDz (τ:=⟨[],_⟩) (Weak.mk [false,true] T O) ⟨by simp only [List.all_append,hi,List.all_cons,List.all_nil,zJl c6,Bool.and_self],O⟩
      ·intro hd
       refine Y O<|D 0 sz34 O<|zA<|zJ<|fin1 (wI zIz O (J 0 O) O) ?_
       rw [bW,c1,c2,c3,c4,lB,h5,hd];rfl
      ·rintro pre x suf hxs hx
       rcases hx with ⟨hc,hx⟩
       clear hc
       repeat (first|refine zRw ?_|refine zPj ?_)
       refine fin1 (wI zIz O (J 0 O) O) ?_
       rw [bW,c1,c2,c3,c4,lB,h5,hxs,all_app_no hx];rfl
      ·rintro i pre x suf hxs hx
       rcases hx with ⟨hc,hx⟩
       cases hc
theorem expr_Size (e:Ex) (he:e.wt<=6000000000000):
    Pur cfg 219 [vE e] (vI (szT e)):=by
 refine zV Tryz.func219 O Tryz.ntmps219 Tryz.results219 O ?_
 intro z hz
 refine Y O<|zY O O (qL O O) ?_
 rintro _ _ ⟨b1,rfl,rfl⟩
 refine G O<|zA<|Y O<|zY O O (yC O zr3) ?_
 rintro _ _ ⟨b2,rfl,rfl⟩
 refine D 0 sz3 O<|zA<|zH<|Y O<|zM yU (J 1 O) O<|qJ O ok220 (zTu _) ⟨zB,O,T⟩<|zA<|zR<|zU _ (Weak.mem [true,false] O)<|zHy (ps:=[6]) hz 1 O O ok254 (zRr e he) (fun _ _=>O) O (fun pre=>pre.length<=2000) (fun pre=>[E.row b2 3 [cI (pre.length:Int)]]) (fun c pre=>(c=.exit 0/\pre.length=2001)) (fun c pre=>[E.row b2 3 [cI (pre.length:Int)]]) ⟨uG,O⟩ ?_ ?_ ?_ ?_
 ·intro pre x suf hxs hi z hz
  refine zI ?_
  intro z hz
  refine zR<|Y O<|zG one3 (J 0 O) O<|qH O ⟨zC,zC⟩<|D 0 sz3 O<|zA<|Y O<|zG one3 (J 0 O) O<|zW O (yF O O O)<|zA<|zE O (fun c1=>?_) (fun c1=>?_)
  ·try simp only [sx] at c1
   refine qM ?_
   exact zDz (τ:=⟨[],_⟩) (Weak.mk [true] T O) ⟨⟨O,uF⟩,(by dsimp only;rw [show ((pre++[x]).length:Int)=pre.length+1 by simp];rfl)⟩
  ·try simp only [sx] at c1
   refine zI ?_
   exact zDz (τ:=⟨[],_⟩) (Weak.mk [true] T O) ⟨uF,(by dsimp only;rw [show ((pre++[x]).length:Int)=pre.length+1 by simp];rfl)⟩
 ·intro hd
  refine Y O<|zG one3 (J 0 O) O<|G O<|zA<|zJ<|zT O ?_
  exact congrArg vI (by rw [szT];omega)
 ·rintro pre x suf hxs hx
  rcases hx with ⟨hc,hx⟩
  cases hc
 ·rintro i pre x suf hxs hx
  rcases hx with ⟨hc,hx⟩
  injection hc with hc
  subst hc
  refine Y O<|zG one3 (J 0 O) O<|G O<|zA<|zJ<|zT O ?_
  exact congrArg vI (by rw [szT,hxs];simp at hx⊢;omega)
theorem zMz (e:Ex) (he:e.wt<=6000000000000):
    Pur cfg 178 [vE e] (vI (dQ e)):=by
 refine zV Tryz.func178 O Tryz.ntmps178 Tryz.results178 O ?_
 intro z hz
 refine Y O<|zY O O (qL O O) ?_
 rintro _ _ ⟨b1,rfl,rfl⟩
 refine zY O O (yC O zr34) ?_
 rintro _ _ ⟨b2,rfl,rfl⟩
 refine zA<|zH<|Y O<|zM yU (J 1 O) O<|qJ O ok218 (expr_Depth e he) ⟨zB,O,T⟩<|zW O (yF O O O)<|zA<|zE O (fun c1=>?_) (fun c1=>?_)
 ·try simp only [sx] at c1
  refine Y O<|D 0 sz34 O<|zA<|zJ<|fin1 (wI zIz O (J 0 O) O) ?_
  rw [dQ,zAk c1];rfl
 ·try simp only [sx] at c1
  refine zI<|zH<|Y O<|zM yU (J 1 O) O<|qJ O ok219 (expr_Size e he) ⟨zB,O,T⟩<|zW O (yF O O O)<|zA<|zE O (fun c2=>?_) (fun c2=>?_)
  ·try simp only [sx] at c2
   refine Y O<|D 0 sz34 O<|zA<|zJ<|fin1 (wI zIz O (J 0 O) O) ?_
   rw [dQ,kF zC,zAk c2];rfl
  ·try simp only [sx] at c2
   refine zI<|zH<|Y O<|zM yU (J 1 O) O<|qJ O ok220 (zTu _) ⟨zB,O,T⟩<|zA<|zR<|zU _ (Weak.mem [true,false] O)<|zHy (ps:=[13]) hz 1 O O ok254 (zRr e he) (fun _ _=>O) O (fun pre=>jC pre=0) (fun pre=>[E.row b2 34 [cI 0]]) (fun c pre=>(c=.ret/\¬jC pre=0)) (fun c pre=>[E.row b2 34 [cI (jC pre)]]) ⟨O,O⟩ ?_ ?_ ?_ ?_
   ·intro pre x suf hxs hi z hz
    have hxw:x.wt<=6000000000000:=by have:=zFh e x (by rw [hxs];simp);omega
    refine zO O<|zY O O (qG [none,none,none,none,none,none,none,none,none,none,some 2,some 4,some 13] O zr62 O) ?_
    rintro _ _ ⟨b3,rfl,rfl⟩
    refine D 0 sz62 O<|zA ?_
    intro z hz
    refine zR<|Y O<|zM yU (J 0 O) O<|qJ O ok221 (expr_validNode x hxw) ⟨zB,O,T⟩<|G O<|zA<|Y O<|G O<|yN O<|zA<|zE O (fun c3=>?_) (fun c3=>?_)
    ·try simp only [sx] at c3
     refine Y O<|G O<|D 1 sz34 O<|zA<|zJ ?_
     exact zDz (τ:=⟨[],_⟩) (Weak.mk [false,true] T O) ⟨⟨O,by rw [errs_one hi c3];exact c3⟩,(by dsimp only;rw [errs_one hi c3];rfl)⟩
    ·try simp only [sx] at c3
     refine zI ?_
     exact zDz (τ:=⟨[],_⟩) (Weak.mk [false,true] T O) ⟨(by dsimp only;rw [zFx,hi,jC,c3];rfl),O⟩
   ·intro hd
    refine Y O<|D 0 sz34 O<|zA<|zJ<|fin1 (wI zIz O (J 0 O) O) ?_
    rw [dQ,kF zC,kF zC,cond_false,cond_false,dZ,hd]
   ·rintro pre x suf hxs hx
    rcases hx with ⟨hc,hx⟩
    clear hc
    repeat (first|refine zRw ?_|refine zPj ?_)
    refine fin1 (wI zIz O (J 0 O) O) ?_
    rw [dQ,kF zC,kF zC,cond_false,cond_false,dZ,hxs,errs_pre (suf:=suf) hx]
   ·rintro i pre x suf hxs hx
    rcases hx with ⟨hc,hx⟩
    cases hc
end Go.W
