/-
  What functions compute.
  Conditions: none.
-/
import Derived.Test.YtkidnhldibjiaaaGreatDoorWC
set_option linter.unusedSimpArgs false
set_option linter.unusedVariables false
set_option maxRecDepth 10000
namespace Go.W
open Go Go.Eng Go.Proofs Go.L41 Go.Br
attribute [local irreducible] AWP RWP TD fL
theorem ok87:bA Tryz.prog 87=true:=by kernel_rfl
theorem ok154:bA Tryz.prog 154=true:=by kernel_rfl
theorem ok166:bA Tryz.prog 166=true:=by kernel_rfl
theorem ok167:bA Tryz.prog 167=true:=by kernel_rfl
theorem ok190:bA Tryz.prog 190=true:=by kernel_rfl
theorem ok193:bA Tryz.prog 193=true:=by kernel_rfl
theorem ok205:bA Tryz.prog 205=true:=by kernel_rfl
theorem ok206:bA Tryz.prog 206=true:=by kernel_rfl
theorem ok221:bA Tryz.prog 221=true:=by kernel_rfl
theorem ok222:bA Tryz.prog 222=true:=by kernel_rfl
theorem ok223:bA Tryz.prog 223=true:=by kernel_rfl
theorem ok224:bA Tryz.prog 224=true:=by kernel_rfl
theorem ok225:bA Tryz.prog 225=true:=by kernel_rfl
theorem ok237:bA Tryz.prog 237=true:=by kernel_rfl
theorem zRc:lS Tryz.prog 57=true:=by kernel_rfl
theorem sz3:(Tryz.prog.info? 3).map (·.size)=some 1:=by kernel_rfl
theorem sz57:(Tryz.prog.info? 57).map (·.size)=some 1:=by kernel_rfl
theorem zr3:fD Tryz.prog 3=some [(Value.int IntKind.i64 0)]:=by kernel_rfl
theorem zr57:fD Tryz.prog 57=some [(Value.int IntKind.i64 0)]:=by kernel_rfl
theorem expr_forms (e:Ex):
    Pur cfg 193 [vE e] (.c (.fn (.func 237) [] [.iptr e.cs])):=by
 refine zW Tryz.func193 O Tryz.ntmps193 Tryz.results193 O ?_
 intro z hz
 refine Y O<|zY O O (qN O O) ?_
 rintro _ _ ⟨b1,rfl,rfl⟩
 refine G O<|W<|Y O<|qA O (zEf O O O O O)<|yE _ (kD 0 O 3 (.c (.fn _ _ [_])) (PLe.fn ⟨.inr ⟨O,O⟩,T⟩))<|G O<|W<|zO<|zV O ?_
 exact O
theorem forms_iter (e:Ex) (he:e.wt<=6000000000000):
    vM cfg 237 [] [.iptr e.cs] (dL e) fun l=>[dK l]:=by
 obtain ⟨hL,hI,hA⟩:=e.parts he
 intro y J Jx μ hy0 h0
 have hy:=fun pre x suf μ h1 h2=>fn_bool (hy0 pre x suf μ h1 h2)
 refine zW Tryz.func237 O Tryz.ntmps237 Tryz.results237 O ?_
 intro z hz
 refine zM<|Y O<|G O<|qS O zBk<|zP yB qE O<|zY O O (zAw O O (hy [] e.Lin _ _ O h0) ⟨U,O,T⟩) ?_
 rintro _ m0 ⟨y0,rfl,t0,f0⟩
 refine wE O<|W<|zH O (fun c1=>?_) (fun c1=>?_)
 ·try simp only [sx] at c1
  refine zO<|fin0 ?_
  exact .inr ⟨[],e.Lin,_,O,f0 c1⟩
 ·try simp only [sx] at c1
  refine zN<|Y O<|qS O kM<|zK zAh qE O<|qB O el41<|G O<|W<|zR<|qC ⟨[(15,.c _),(0,.c _),(13,.c _),(14,.c _)],_⟩ (Weak.regs ⟨U,U,U,U,T⟩)<|zGl 1 O (Nat×List E) (fun ⟨k,m⟩=>[(15,vI k)]) (fun ⟨k,m⟩=>m) (fun ⟨k,m⟩=>k<=e.Idx.length/\(J (e.Lin::(e.Idx.take k).flatMap ixF) m)) (fun ⟨k,m⟩=>e.Idx.length-k) ⟨⟨0,m0⟩,⟨by omega,t0 c1⟩,Weak.regs ⟨U,U,U,U,T⟩⟩ ?_
  rintro ⟨k,m⟩ ⟨hk,hJ⟩
  refine Y O<|yI O<|W<|zM<|zH O (fun c2=>?_) (fun c2=>?_)
  ·try simp only [sx] at c2
   obtain ⟨x,hx⟩:=qU e.Idx k (by omega)
   have hxw:=Ex.idx_wt (zX hx)
   refine zN<|zM<|zR<|Y O<|qJ O el41 (by omega) (getm (by assumption))<|zP zDv qE O<|zY O O (qF [none,some 2,none,some 2] O zJa O) ?_
   rintro _ _ ⟨b1,rfl,rfl⟩
   refine rStR 0 zQb O<|yE _ (kD 0 O 4 _ PLe.ptr)<|W<|zM<|Y O<|G O<|qS O zCp<|zP yB qE O<|zY O O (zAw O O (hy _ x.Lin _ _ (forms_at hx) hJ) ⟨U,O,T⟩) ?_
   rintro _ m1 ⟨y1,rfl,t1,f1⟩
   refine wE O<|W<|zH O (fun c3=>?_) (fun c3=>?_)
   ·try simp only [sx] at c3
    refine zO<|fin0 ?_
    exact .inr ⟨_,x.Lin,_,forms_at hx,f1 c3⟩
   ·try simp only [sx] at c3
    refine zN<|Y O<|qS O wI<|zK zAp qE O<|qB O el65<|G O<|W<|zR<|qC ⟨[(27,.c _),(0,.c _),(13,.c _),(14,.c _),(15,.c _),(25,.c _),(26,.c _)],_⟩ (Weak.regs ⟨U,U,U,U,U,U,U,T⟩)<|zGl 1 O (Nat×List E) (fun ⟨j,n⟩=>[(27,vI j)]) (fun ⟨j,n⟩=>n) (fun ⟨j,n⟩=>j<=x.At.length/\(J ((e.Lin::(e.Idx.take k).flatMap ixF)++[x.Lin]++x.At.take j) n)) (fun ⟨j,n⟩=>x.At.length-j) ⟨⟨0,m1⟩,⟨by omega,by simpa using t1 c3⟩,Weak.regs ⟨U,U,U,U,U,U,U,T⟩⟩ ?_
    rintro ⟨j,n⟩ ⟨hj,hJ2⟩
    refine Y O<|yI O<|W<|zM<|zH O (fun c4=>?_) (fun c4=>?_)
    ·try simp only [sx] at c4
     obtain ⟨l,hl⟩:=qU x.At j (by omega)
     refine zN<|zM<|zR<|Y O<|qJ O el65 (by omega) (getm (by assumption))<|zP yB qE O<|zY O O (qF [none,some 2] O v O) ?_
     rintro _ _ ⟨b2,rfl,rfl⟩
     refine rStR 0 sz40 O<|yE _ (kD 0 O 6 _ PLe.ptr)<|W<|Y O<|G O<|zP yB qE O<|zY O O (zAw O O (hy _ l _ _ (forms_at2 hx hl) hJ2) ⟨U,O,T⟩) ?_
     rintro _ m2 ⟨y2,rfl,t2,f2⟩
     refine wE O<|W<|zH O (fun c5=>?_) (fun c5=>?_)
     ·try simp only [sx] at c5
      refine zO<|fin0 ?_
      exact .inr ⟨_,l,_,forms_at2 hx hl,f2 c5⟩
     ·try simp only [sx] at c5
      refine zN<|zT O<|qK O ⟨by omega,by omega⟩<|G O<|W ?_
      refine ⟨⟨j+1,m2⟩,⟨by omega,by rw [qT hl];simpa [List.append_assoc] using t2 c5⟩,(by show x.At.length-(j+1)<x.At.length-j;omega),Weak.regs ⟨U,U,U,U,U,U,U,T⟩⟩
    ·try simp only [sx] at c4
     refine qO<|zT O<|qK O ⟨by omega,by omega⟩<|G O<|W ?_
     refine ⟨⟨k+1,n⟩,⟨by omega,by rw [forms_next hx];rw [qY (l:=x.At) (by omega)] at hJ2;exact hJ2⟩,(by show e.Idx.length-(k+1)<e.Idx.length-k;omega),Weak.regs ⟨U,U,U,U,T⟩⟩
  ·try simp only [sx] at c2
   refine qO ?_
   repeat (first|refine zHl ?_|refine zGk ?_)
   refine zRy<|fin0 ?_
   rw [qY (by omega)] at hJ;exact .inl hJ
theorem expr_Walk (e:Ex):
    Pur cfg 154 [vE e] (.c (.fn (.func 205) [] [.iptr e.cs])):=by
 refine zW Tryz.func154 O Tryz.ntmps154 Tryz.results154 O ?_
 intro z hz
 refine Y O<|zY O O (qN O O) ?_
 rintro _ _ ⟨b1,rfl,rfl⟩
 refine G O<|W<|Y O<|qA O (zEf O O O O O)<|yE _ (kD 0 O 3 (.c (.fn _ _ [_])) (PLe.fn ⟨.inr ⟨O,O⟩,T⟩))<|G O<|W<|zO<|zV O ?_
 exact O
theorem walk_step (e:Ex) (he:e.wt<=6000000000000) (ih:∀a,a∈e.Args->a.wt<=6000000000000->(∀(y:C) (J Jx:List Ex->List E->Prop) (pre0:List Ex) (μ:List E),(∀pre x suf μ,dE a=pre++x::suf->J (pre0++pre) μ->FnCon cfg y [vE x] μ fun r μ'=>∃b,r=.c (.lit (.bool b))/\(b=true->J (pre0++pre++[x]) μ')/\(b=false->Jx (pre0++pre++[x]) μ'))->J pre0 μ->Con cfg 206 [vE a,.c y] μ fun r μ'=>∃b,r=.c (.lit (.bool b))/\(b=true->J (pre0++dE a) μ')/\(b=false->∃pre x suf,dE a=pre++x::suf/\Jx (pre0++pre++[x]) μ'))):
    ∀(y:C) (J Jx:List Ex->List E->Prop) (pre0:List Ex) (μ:List E),(∀pre x suf μ,dE e=pre++x::suf->J (pre0++pre) μ->FnCon cfg y [vE x] μ fun r μ'=>∃b,r=.c (.lit (.bool b))/\(b=true->J (pre0++pre++[x]) μ')/\(b=false->Jx (pre0++pre++[x]) μ'))->J pre0 μ->Con cfg 206 [vE e,.c y] μ fun r μ'=>∃b,r=.c (.lit (.bool b))/\(b=true->J (pre0++dE e) μ')/\(b=false->∃pre x suf,dE e=pre++x::suf/\Jx (pre0++pre++[x]) μ'):=by
 obtain ⟨hL,hI,hA⟩:=e.parts he
 intro y J Jx pre0 μ hy h0
 refine zW Tryz.func206 O Tryz.ntmps206 Tryz.results206 O ?_
 intro z hz
 refine Y O<|zY O O (qN O O) ?_
 rintro _ _ ⟨b1,rfl,rfl⟩
 refine yE _ (kD 0 O 2 _ PLe.ptr)<|G O<|W<|zM<|Y O<|G O<|zP yG qE O<|zY O O (zAw O O (hy [] e _ _ (kZ e) (show J (pre0++[]) μ by simpa using h0)) ⟨U,O,T⟩) ?_
 rintro _ m0 ⟨y0,rfl,t0,f0⟩
 refine wE O<|W<|zH O (fun c1=>?_) (fun c1=>?_)
 ·try simp only [sx] at c1
  refine Y O<|G O<|W<|zO<|zV O ?_
  exact ⟨false,O,fun h=>(by cases h),fun _=>⟨[],e,_,kZ e,by simpa using f0 c1⟩⟩
 ·try simp only [sx] at c1
  refine zN<|zM<|Y O<|qS O kO<|zK zAj qE O<|qB O el42<|G O<|W<|zR<|qC ⟨[(14,.c _),(1,.c _),(12,.c _),(13,.c _)],_⟩ (Weak.regs ⟨U,U,U,U,T⟩)<|zGl 1 O (Nat×List E) (fun ⟨k,m⟩=>[(14,vI k)]) (fun ⟨k,m⟩=>m) (fun ⟨k,m⟩=>k<=e.Args.length/\(J (pre0++e::bK (e.Args.take k)) m)) (fun ⟨k,m⟩=>e.Args.length-k) ⟨⟨0,m0⟩,⟨by omega,by simpa [bK] using t0 c1⟩,Weak.regs ⟨U,U,U,U,T⟩⟩ ?_
  rintro ⟨k,m⟩ ⟨hk,hJ⟩
  refine Y O<|yI O<|W<|zM<|zH O (fun c2=>?_) (fun c2=>?_)
  ·try simp only [sx] at c2
   obtain ⟨a,ha⟩:=qU e.Args k (by omega)
   refine zN<|zM<|zR<|Y O<|qJ O el42 (by omega) (zBj (by assumption))<|zP yG qE O<|zY O O (qF [none,none,none,none,none,none,none,none,none,none,some 2,some 4,some 13] O zr44 O) ?_
   rintro _ _ ⟨b2,rfl,rfl⟩
   refine rStR 0 sz44 O<|yE _ (kD 0 O 6 _ PLe.ptr)<|W<|Y O<|zP yG qE O<|G O<|zY O O (zDk O ok206 (ih a (zX ha) (by have:=Ex.arg_wt (zX ha);omega) y J Jx (pre0++e::bK (e.Args.take k)) _ (fun pre x suf μ hx hj=>by have:=hy _ x _ μ (nodes_at ha hx) (by simpa using hj);simpa using this) hJ) ⟨U,O,U,O,T⟩) ?_
   rintro _ m1 ⟨y1,rfl,t1,f1⟩
   refine wE O<|W<|zH O (fun c3=>?_) (fun c3=>?_)
   ·try simp only [sx] at c3
    refine Y O<|G O<|W<|zO<|zV O ?_
    obtain ⟨pre,x,suf,h1,h2⟩:=f1 c3
    exact ⟨false,O,fun h=>(by cases h),fun _=>⟨_,x,_,nodes_at ha h1,by simpa using h2⟩⟩
   ·try simp only [sx] at c3
    refine zN<|zT O<|qK O ⟨by omega,by omega⟩<|G O<|W ?_
    refine ⟨⟨k+1,m1⟩,⟨by omega,by rw [nodesL_next ha];simpa using t1 c3⟩,(by show e.Args.length-(k+1)<e.Args.length-k;omega),Weak.regs ⟨U,U,U,U,T⟩⟩
  ·try simp only [sx] at c2
   refine qO<|Y O<|G O<|W<|zO<|zV O ?_
   rw [qY (by omega)] at hJ
   exact ⟨true,O,fun _=>(by rw [kZ];exact hJ),fun h=>(by cases h)⟩
theorem walk_con (e:Ex) (he:e.wt<=6000000000000):∀(y:C) (J Jx:List Ex->List E->Prop) (pre0:List Ex) (μ:List E),(∀pre x suf μ,dE e=pre++x::suf->J (pre0++pre) μ->FnCon cfg y [vE x] μ fun r μ'=>∃b,r=.c (.lit (.bool b))/\(b=true->J (pre0++pre++[x]) μ')/\(b=false->Jx (pre0++pre++[x]) μ'))->J pre0 μ->Con cfg 206 [vE e,.c y] μ fun r μ'=>∃b,r=.c (.lit (.bool b))/\(b=true->J (pre0++dE e) μ')/\(b=false->∃pre x suf,dE e=pre++x::suf/\Jx (pre0++pre++[x]) μ'):=by
  induction e using Ex.ind with
  |_ e ih=>exact walk_step e he ih
theorem walk_iter (e:Ex) (he:e.wt<=6000000000000):
    vM cfg 205 [] [.iptr e.cs] (dE e) fun x=>[vE x]:=by
 intro y J Jx μ hy0 h0
 have hy:=fun pre x suf μ h1 h2=>fn_bool (hy0 pre x suf μ h1 h2)
 refine zW Tryz.func205 O Tryz.ntmps205 Tryz.results205 O ?_
 intro z hz
 refine zT O<|zP yG qE O<|G O<|zY O O (zDk O ok206 (walk_con e he y J Jx [] _ (fun pre x suf μ h1 h2=>hy pre x suf μ h1 h2) h0) ⟨U,O,U,O,T⟩) ?_
 rintro _ m0 ⟨y0,rfl,t0,f0⟩
 refine W ?_
 repeat (first|refine zHl ?_|refine zGk ?_)
 refine zRy<|fin0 ?_
 cases y0
 · exact .inr (f0 rfl)
 · exact .inl (t0 rfl)
theorem expr_validNode (e:Ex) (he:e.wt<=6000000000000):
    Pur cfg 167 [vE e] (vI (bS e)):=by
 refine zW Tryz.func167 O Tryz.ntmps167 Tryz.results167 O ?_
 intro z hz
 obtain ⟨hL,hI,hA⟩:=e.parts he
 refine Y O<|zY O O (qN O O) ?_
 rintro _ _ ⟨b1,rfl,rfl⟩
 refine zY O O (yJ O zr57) ?_
 rintro _ _ ⟨b2,rfl,rfl⟩
 refine W<|zM<|zR<|Y O<|zP yG (J 1 O) O<|qQ O ok221 (expr_syntax e he) ⟨U,O,T⟩<|wE O<|G O<|W<|zH O (fun c1=>?_) (fun c1=>?_)
 ·try simp only [sx] at c1
  refine Y O<|rStR 0 sz57 O<|W<|zO<|fin1 (zAc zRc O (J 0 O) O) ?_
  rw [bS,c1];rfl
 ·try simp only [sx] at c1
  refine Y O<|zP yG (J 1 O) O<|qQ O ok222 (expr_names e he) ⟨U,O,T⟩<|wE O<|G O<|W<|zH O (fun c2=>?_) (fun c2=>?_)
  ·try simp only [sx] at c2
   refine Y O<|rStR 0 sz57 O<|W<|zO<|fin1 (zAc zRc O (J 0 O) O) ?_
   rw [bS,c1,c2];rfl
  ·try simp only [sx] at c2
   refine Y O<|zP yG (J 1 O) O<|qQ O ok223 (expr_rank e he) ⟨U,O,T⟩<|wE O<|G O<|W<|zH O (fun c3=>?_) (fun c3=>?_)
   ·try simp only [sx] at c3
    refine Y O<|rStR 0 sz57 O<|W<|zO<|fin1 (zAc zRc O (J 0 O) O) ?_
    rw [bS,c1,c2,c3];rfl
   ·try simp only [sx] at c3
    refine Y O<|zP yG (J 1 O) O<|qQ O ok224 (expr_types e he) ⟨U,O,T⟩<|wE O<|G O<|W<|zH O (fun c4=>?_) (fun c4=>?_)
    ·try simp only [sx] at c4
     refine Y O<|rStR 0 sz57 O<|W<|zO<|fin1 (zAc zRc O (J 0 O) O) ?_
     rw [bS,c1,c2,c3,c4];rfl
    ·try simp only [sx] at c4
     refine Y O<|zF O kE<|zK one3 (J 1 O) O<|yK O<|G O<|rL0 O (fun g9_3=>zE O zCw O) O<|rL1 25 O (fun g9_3=>zU O yO O (J 1 O) O) O<|rL0 O (fun g9_3=>zE O zHe O) O<|rL1 27 O (fun g9_3=>zU O zJe O (J 1 O) O) O<|rLz [(26,_),(28,_)] O gv1 ⟨O,O,O,O,T⟩ (fun g9_3=>qL O ok225 (value_Valid e.Ty e.Val) ⟨U,O,U,O,T⟩) O<|rL1 29 O (fun g9_3=>kT O O) O<|yZ O (fun h=>h)<|G O<|W<|zH O (fun c5=>?_) (fun c5=>?_)
     ·have h5:=node5 c4 c5
      refine Y O<|rStR 0 sz57 O<|W<|zO<|fin1 (zAc zRc O (J 0 O) O) ?_
      rw [bS,c1,c2,c3,c4,jF,h5];rfl
     ·have h5:=node5 c4 c5
      refine zN<|zM<|Y O<|zP yG (J 1 O) O<|qQ O ok193 (expr_forms _) ⟨U,O,T⟩<|W<|zR<|qC _ (Weak.mem [true,false] O)<|zKl (ps:=[34]) hz 1 O O ok237 (forms_iter e he) (fun _ _=>O) O (fun pre=>pre.all bJ=true) (fun pre=>[E.row b2 57 [cI 0]]) (fun c pre=>(c=.ret/\pre.all bJ=false)) (fun c pre=>[E.row b2 57 [cI 1]]) ⟨O,O⟩ ?_ ?_ ?_ ?_
      ·intro pre x suf hxs hi z hz
       refine zT O<|zY O O (qF [none,some 2] O v O) ?_
       rintro _ _ ⟨b3,rfl,rfl⟩
       refine rStR 0 sz40 O<|W ?_
       intro z hz
       refine zR<|Y O<|zP yB (J 0 O) O<|qQ O ok190 (zAx x (zPi he (by rw [hxs];simp))) ⟨U,O,T⟩<|yW O<|W<|zH O (fun c6=>?_) (fun c6=>?_)
       ·try simp only [sx] at c6
        refine Y O<|rStR 1 sz57 O<|W<|zO ?_
        exact zFw (τ:=⟨[],_⟩) (Weak.mk [false,true] T O) ⟨⟨O,by simp only [List.all_append,List.all_cons,zHz c6,Bool.false_and,Bool.and_false]⟩,O⟩
       ·try simp only [sx] at c6
        refine zN ?_
        exact zFw (τ:=⟨[],_⟩) (Weak.mk [false,true] T O) ⟨by simp only [List.all_append,hi,List.all_cons,List.all_nil,zIa c6,Bool.and_self],O⟩
      ·intro hd
       refine Y O<|rStR 0 sz57 O<|W<|zO<|fin1 (zAc zRc O (J 0 O) O) ?_
       rw [bS,c1,c2,c3,c4,jF,h5,hd];rfl
      ·rintro pre x suf hxs hx
       rcases hx with ⟨hc,hx⟩
       clear hc
       repeat (first|refine thenQ_ret ?_|refine blockQ_ret ?_)
       refine fin1 (zAc zRc O (J 0 O) O) ?_
       rw [bS,c1,c2,c3,c4,jF,h5,hxs,all_app_no hx];rfl
      ·rintro i pre x suf hxs hx
       rcases hx with ⟨hc,hx⟩
       cases hc
theorem expr_Size (e:Ex) (he:e.wt<=6000000000000):
    Pur cfg 87 [vE e] (vI (szT e)):=by
 refine zW Tryz.func87 O Tryz.ntmps87 Tryz.results87 O ?_
 intro z hz
 refine Y O<|zY O O (qN O O) ?_
 rintro _ _ ⟨b1,rfl,rfl⟩
 refine G O<|W<|Y O<|zY O O (yJ O zr3) ?_
 rintro _ _ ⟨b2,rfl,rfl⟩
 refine rStR 0 sz3 O<|W<|zM<|Y O<|zP yG (J 1 O) O<|qQ O ok154 (expr_Walk _) ⟨U,O,T⟩<|W<|zR<|qC _ (Weak.mem [true,false] O)<|zKl (ps:=[6]) hz 1 O O ok205 (walk_iter e he) (fun _ _=>O) O (fun pre=>pre.length<=2000) (fun pre=>[E.row b2 3 [cI (pre.length:Int)]]) (fun c pre=>(c=.exit 0/\pre.length=2001)) (fun c pre=>[E.row b2 3 [cI (pre.length:Int)]]) ⟨by simp,O⟩ ?_ ?_ ?_ ?_
 ·intro pre x suf hxs hi z hz
  refine zN ?_
  intro z hz
  refine zR<|Y O<|zK one3 (J 0 O) O<|qK O ⟨by omega,by omega⟩<|rStR 0 sz3 O<|W<|Y O<|zK one3 (J 0 O) O<|qA O (yL O O O)<|W<|zH O (fun c1=>?_) (fun c1=>?_)
  ·try simp only [sx] at c1
   refine qO ?_
   exact zFw (τ:=⟨[],_⟩) (Weak.mk [true] T O) ⟨⟨O,by simp;omega⟩,(by dsimp only;rw [show ((pre++[x]).length:Int)=pre.length+1 by simp];rfl)⟩
  ·try simp only [sx] at c1
   refine zN ?_
   exact zFw (τ:=⟨[],_⟩) (Weak.mk [true] T O) ⟨(by simp;omega),(by dsimp only;rw [show ((pre++[x]).length:Int)=pre.length+1 by simp];rfl)⟩
 ·intro hd
  refine Y O<|zK one3 (J 0 O) O<|G O<|W<|zO<|zV O ?_
  exact congrArg vI (by rw [szT];omega)
 ·rintro pre x suf hxs hx
  rcases hx with ⟨hc,hx⟩
  cases hc
 ·rintro i pre x suf hxs hx
  rcases hx with ⟨hc,hx⟩
  injection hc with hc
  subst hc
  refine Y O<|zK one3 (J 0 O) O<|G O<|W<|zO<|zV O ?_
  exact congrArg vI (by rw [szT,hxs];simp at hx⊢;omega)
theorem zEc (e:Ex) (he:e.wt<=6000000000000):
    Pur cfg 113 [vE e] (vI (bP e)):=by
 refine zW Tryz.func113 O Tryz.ntmps113 Tryz.results113 O ?_
 intro z hz
 refine Y O<|zY O O (qN O O) ?_
 rintro _ _ ⟨b1,rfl,rfl⟩
 refine zY O O (yJ O zr57) ?_
 rintro _ _ ⟨b2,rfl,rfl⟩
 refine W<|zM<|Y O<|zP yG (J 1 O) O<|qQ O ok166 (expr_Depth e he) ⟨U,O,T⟩<|qA O (yL O O O)<|W<|zH O (fun c1=>?_) (fun c1=>?_)
 ·try simp only [sx] at c1
  refine Y O<|rStR 0 sz57 O<|W<|zO<|fin1 (zAc zRc O (J 0 O) O) ?_
  rw [bP,kR c1];rfl
 ·try simp only [sx] at c1
  refine zN<|zM<|Y O<|zP yG (J 1 O) O<|qQ O ok87 (expr_Size e he) ⟨U,O,T⟩<|qA O (yL O O O)<|W<|zH O (fun c2=>?_) (fun c2=>?_)
  ·try simp only [sx] at c2
   refine Y O<|rStR 0 sz57 O<|W<|zO<|fin1 (zAc zRc O (J 0 O) O) ?_
   rw [bP,yD (by omega),kR c2];rfl
  ·try simp only [sx] at c2
   refine zN<|zM<|Y O<|zP yG (J 1 O) O<|qQ O ok154 (expr_Walk _) ⟨U,O,T⟩<|W<|zR<|qC _ (Weak.mem [true,false] O)<|zKl (ps:=[13]) hz 1 O O ok205 (walk_iter e he) (fun _ _=>O) O (fun pre=>jA pre=0) (fun pre=>[E.row b2 57 [cI 0]]) (fun c pre=>(c=.ret/\¬jA pre=0)) (fun c pre=>[E.row b2 57 [cI (jA pre)]]) ⟨O,O⟩ ?_ ?_ ?_ ?_
   ·intro pre x suf hxs hi z hz
    have hxw:x.wt<=6000000000000:=by have:=zDc e x (by rw [hxs];simp);omega
    refine zT O<|zY O O (qF [none,none,none,none,none,none,none,none,none,none,some 2,some 4,some 13] O zr44 O) ?_
    rintro _ _ ⟨b3,rfl,rfl⟩
    refine rStR 0 sz44 O<|W ?_
    intro z hz
    refine zR<|Y O<|zP yG (J 0 O) O<|qQ O ok167 (expr_validNode x hxw) ⟨U,O,T⟩<|G O<|W<|Y O<|G O<|yW O<|W<|zH O (fun c3=>?_) (fun c3=>?_)
    ·try simp only [sx] at c3
     refine Y O<|G O<|rStR 1 sz57 O<|W<|zO ?_
     exact zFw (τ:=⟨[],_⟩) (Weak.mk [false,true] T O) ⟨⟨O,by rw [errs_one hi c3];exact c3⟩,(by dsimp only;rw [errs_one hi c3];rfl)⟩
    ·try simp only [sx] at c3
     refine zN ?_
     exact zFw (τ:=⟨[],_⟩) (Weak.mk [false,true] T O) ⟨(by dsimp only;rw [zFi,hi,jA,c3];rfl),O⟩
   ·intro hd
    refine Y O<|rStR 0 sz57 O<|W<|zO<|fin1 (zAc zRc O (J 0 O) O) ?_
    rw [bP,yD (by omega),yD (by omega),cond_false,cond_false,dQ,hd]
   ·rintro pre x suf hxs hx
    rcases hx with ⟨hc,hx⟩
    clear hc
    repeat (first|refine thenQ_ret ?_|refine blockQ_ret ?_)
    refine fin1 (zAc zRc O (J 0 O) O) ?_
    rw [bP,yD (by omega),yD (by omega),cond_false,cond_false,dQ,hxs,errs_pre (suf:=suf) hx]
   ·rintro i pre x suf hxs hx
    rcases hx with ⟨hc,hx⟩
    cases hc
end Go.W
