/-
  What functions compute.
  Conditions: none.
-/
import Derived.Test.YtdldhbfgfkebjaaGreatDoorWC
set_option linter.unusedSimpArgs false
set_option linter.unusedVariables false
set_option maxRecDepth 10000
namespace Go.W
open Go Go.Eng Go.Proofs Go.L41 Go.Br
attribute [local irreducible] AWP RWP TD fY
theorem ok144:bA Tryz.prog 144=true:=by kernel_rfl
theorem ok173:bA Tryz.prog 173=true:=by kernel_rfl
theorem ok174:bA Tryz.prog 174=true:=by kernel_rfl
theorem ok211:bA Tryz.prog 211=true:=by kernel_rfl
theorem ok212:bA Tryz.prog 212=true:=by kernel_rfl
theorem ok213:bA Tryz.prog 213=true:=by kernel_rfl
theorem ok241:bA Tryz.prog 241=true:=by kernel_rfl
theorem ok242:bA Tryz.prog 242=true:=by kernel_rfl
theorem ok243:bA Tryz.prog 243=true:=by kernel_rfl
theorem ok244:bA Tryz.prog 244=true:=by kernel_rfl
theorem ok245:bA Tryz.prog 245=true:=by kernel_rfl
theorem ok246:bA Tryz.prog 246=true:=by kernel_rfl
theorem ok247:bA Tryz.prog 247=true:=by kernel_rfl
theorem ok282:bA Tryz.prog 282=true:=by kernel_rfl
theorem zIi:jQ Tryz.prog 36=true:=by kernel_rfl
theorem sz3:(Tryz.prog.info? 3).map (·.size)=some 1:=by kernel_rfl
theorem sz36:(Tryz.prog.info? 36).map (·.size)=some 1:=by kernel_rfl
theorem sz54:(Tryz.prog.info? 54).map (·.size)=some 2:=by kernel_rfl
theorem zr3:dS Tryz.prog 3=some [(Value.int IntKind.i64 0)]:=by kernel_rfl
theorem zr36:dS Tryz.prog 36=some [(Value.int IntKind.i64 0)]:=by kernel_rfl
theorem zr54:dS Tryz.prog 54=some [(Value.int IntKind.i64 0),(Value.slice none 0 0)]:=by kernel_rfl
theorem expr_forms (e:Ex):
    Pur cfg 246 [vE e] (.c (.fn (.func 282) [] [.iptr e.cs])):=by
 refine zU Tryz.func246 O Tryz.ntmps246 Tryz.results246 O ?_
 exact v32
theorem forms_iter (e:Ex) (he:e.wt<=6000000000000):
    xP cfg 282 [] [.iptr e.cs] (jC e) fun l=>[mD l]:=by
 obtain ⟨hL,hI,hA⟩:=e.parts he
 intro y J Jx μ hy0 h0
 have hy:=fun pre x suf μ h1 h2=>fn_bool (hy0 pre x suf μ h1 h2)
 refine zU Tryz.func282 O Tryz.ntmps282 Tryz.results282 O ?_
 intro z hz
 refine zI<|R O<|G O<|zX O zFc<|zO zBa zQ O<|zV O O (wR O O (hy [] e.Lin _ _ O h0) ⟨zB,O,T⟩) ?_
 rintro _ m0 ⟨y0,rfl,t0,f0⟩
 refine kP O<|zA<|zC O (fun c1=>?_) (fun c1=>?_)
 ·try simp only [sx] at c1
  refine zK<|U ?_
  exact .inr ⟨[],e.Lin,_,O,f0 c1⟩
 ·try simp only [sx] at c1
  refine zJ<|R O<|zX O kR<|zH wJ zQ O<|zZ O el51<|G O<|zA<|zP<|zT ⟨[(15,.c _),(0,.c _),(13,.c _),(14,.c _)],_⟩ (Weak.regs ⟨zB,zB,zB,zB,T⟩)<|zBe 1 O (Nat×List E) (fun ⟨k,m⟩=>[(15,vI k)]) (fun ⟨k,m⟩=>m) (fun ⟨k,m⟩=>k<=e.Idx.length/\(J (e.Lin::(e.Idx.take k).flatMap ixF) m)) (fun ⟨k,m⟩=>e.Idx.length-k) ⟨⟨0,m0⟩,⟨by omega,t0 c1⟩,Weak.regs ⟨zB,zB,zB,zB,T⟩⟩ ?_
  rintro ⟨k,m⟩ ⟨hk,hJ⟩
  refine R O<|yB O<|zA<|zI<|zC O (fun c2=>?_) (fun c2=>?_)
  ·try simp only [sx] at c2
   obtain ⟨x,hx⟩:=qU e.Idx k (by omega)
   have hxw:=Ex.idx_wt (qA hx)
   refine zJ<|zI<|zP<|R O<|qD O el51 (by omega) (B (by assumption))<|zO zDc zQ O<|zV O O (qR [none,some 2,none,some 2] O zPb O) ?_
   rintro _ _ ⟨b1,rfl,rfl⟩
   refine D 0 zPc O<|qX _ (qK 0 O 4 _ PLe.ptr)<|zA<|zI<|R O<|G O<|zX O zCy<|zO zBa zQ O<|zV O O (wR O O (hy _ x.Lin _ _ (forms_at hx) hJ) ⟨zB,O,T⟩) ?_
   rintro _ m1 ⟨y1,rfl,t1,f1⟩
   refine kP O<|zA<|zC O (fun c3=>?_) (fun c3=>?_)
   ·try simp only [sx] at c3
    refine zK<|U ?_
    exact .inr ⟨_,x.Lin,_,forms_at hx,f1 c3⟩
   ·try simp only [sx] at c3
    refine zJ<|R O<|zX O zAr<|zH zCl zQ O<|zZ O zAv<|G O<|zA<|zP<|zT ⟨[(27,.c _),(0,.c _),(13,.c _),(14,.c _),(15,.c _),(25,.c _),(26,.c _)],_⟩ (Weak.regs ⟨zB,zB,zB,zB,zB,zB,zB,T⟩)<|zBe 1 O (Nat×List E) (fun ⟨j,n⟩=>[(27,vI j)]) (fun ⟨j,n⟩=>n) (fun ⟨j,n⟩=>j<=x.At.length/\(J ((e.Lin::(e.Idx.take k).flatMap ixF)++[x.Lin]++x.At.take j) n)) (fun ⟨j,n⟩=>x.At.length-j) ⟨⟨0,m1⟩,⟨by omega,by simpa using t1 c3⟩,Weak.regs ⟨zB,zB,zB,zB,zB,zB,zB,T⟩⟩ ?_
    rintro ⟨j,n⟩ ⟨hj,hJ2⟩
    refine R O<|yB O<|zA<|zI<|zC O (fun c4=>?_) (fun c4=>?_)
    ·try simp only [sx] at c4
     obtain ⟨l,hl⟩:=qU x.At j (by omega)
     refine zJ<|zI<|zP<|R O<|qD O zAv (by omega) (B (by assumption))<|zO zBa zQ O<|zV O O (qR [none,some 2] O zr54 O) ?_
     rintro _ _ ⟨b2,rfl,rfl⟩
     refine D 0 sz54 O<|qX _ (qK 0 O 6 _ PLe.ptr)<|zA<|R O<|G O<|zO zBa zQ O<|zV O O (wR O O (hy _ l _ _ (forms_at2 hx hl) hJ2) ⟨zB,O,T⟩) ?_
     rintro _ m2 ⟨y2,rfl,t2,f2⟩
     refine kP O<|zA<|zC O (fun c5=>?_) (fun c5=>?_)
     ·try simp only [sx] at c5
      refine zK<|U ?_
      exact .inr ⟨_,l,_,forms_at2 hx hl,f2 c5⟩
     ·try simp only [sx] at c5
      refine zJ<|zM O<|qB O ⟨by omega,by omega⟩<|G O<|zA ?_
      refine ⟨⟨j+1,m2⟩,⟨by omega,by rw [yC hl];simpa [List.append_assoc] using t2 c5⟩,(by show x.At.length-(j+1)<x.At.length-j;omega),Weak.regs ⟨zB,zB,zB,zB,zB,zB,zB,T⟩⟩
    ·try simp only [sx] at c4
     refine qH<|zM O<|qB O ⟨by omega,by omega⟩<|G O<|zA ?_
     refine ⟨⟨k+1,n⟩,⟨by omega,by rw [forms_next hx];rw [yA (l:=x.At) (by omega)] at hJ2;exact hJ2⟩,(by show e.Idx.length-(k+1)<e.Idx.length-k;omega),Weak.regs ⟨zB,zB,zB,zB,T⟩⟩
  ·try simp only [sx] at c2
   refine qH ?_
   repeat (first|refine qV ?_|refine qT ?_)
   refine yF<|U ?_
   rw [yA (by omega)] at hJ;exact .inl hJ
theorem zMl (e:Ex):
    Pur cfg 144 [vE e] (.c (.fn (.func 173) [] [.iptr e.cs])):=by
 refine zU Tryz.func144 O Tryz.ntmps144 Tryz.results144 O ?_
 exact v32
theorem walk_step (e:Ex) (he:e.wt<=6000000000000) (ih:∀a,a∈e.Args->a.wt<=6000000000000->(∀(y:C) (J Jx:List Ex->List E->Prop) (pre0:List Ex) (μ:List E),(∀pre x suf μ,bF a=pre++x::suf->J (pre0++pre) μ->FnCon cfg y [vE x] μ fun r μ'=>∃b,r=.c (.lit (.bool b))/\(b=true->J (pre0++pre++[x]) μ')/\(b=false->Jx (pre0++pre++[x]) μ'))->J pre0 μ->Con cfg 174 [vE a,.c y] μ fun r μ'=>∃b,r=.c (.lit (.bool b))/\(b=true->J (pre0++bF a) μ')/\(b=false->∃pre x suf,bF a=pre++x::suf/\Jx (pre0++pre++[x]) μ'))):
    ∀(y:C) (J Jx:List Ex->List E->Prop) (pre0:List Ex) (μ:List E),(∀pre x suf μ,bF e=pre++x::suf->J (pre0++pre) μ->FnCon cfg y [vE x] μ fun r μ'=>∃b,r=.c (.lit (.bool b))/\(b=true->J (pre0++pre++[x]) μ')/\(b=false->Jx (pre0++pre++[x]) μ'))->J pre0 μ->Con cfg 174 [vE e,.c y] μ fun r μ'=>∃b,r=.c (.lit (.bool b))/\(b=true->J (pre0++bF e) μ')/\(b=false->∃pre x suf,bF e=pre++x::suf/\Jx (pre0++pre++[x]) μ'):=by
 obtain ⟨hL,hI,hA⟩:=e.parts he
 intro y J Jx pre0 μ hy h0
 refine zU Tryz.func174 O Tryz.ntmps174 Tryz.results174 O ?_
 intro z hz
 refine R O<|zV O O (qO O O) ?_
 rintro _ _ ⟨b1,rfl,rfl⟩
 refine qX _ (qK 0 O 2 _ PLe.ptr)<|G O<|zA<|zI<|R O<|G O<|zO yP zQ O<|zV O O (wR O O (hy [] e _ _ (wO e) (show J (pre0++[]) μ by simpa using h0)) ⟨zB,O,T⟩) ?_
 rintro _ m0 ⟨y0,rfl,t0,f0⟩
 refine kP O<|zA<|zC O (fun c1=>?_) (fun c1=>?_)
 ·try simp only [sx] at c1
  refine R O<|G O<|zA<|zK<|zR O ?_
  exact ⟨false,O,fun h=>(by cases h),fun _=>⟨[],e,_,wO e,by simpa using f0 c1⟩⟩
 ·try simp only [sx] at c1
  refine zJ<|zI<|R O<|zX O kO<|zH wZ zQ O<|zZ O el55<|G O<|zA<|zP<|zT ⟨[(14,.c _),(1,.c _),(12,.c _),(13,.c _)],_⟩ (Weak.regs ⟨zB,zB,zB,zB,T⟩)<|zBe 1 O (Nat×List E) (fun ⟨k,m⟩=>[(14,vI k)]) (fun ⟨k,m⟩=>m) (fun ⟨k,m⟩=>k<=e.Args.length/\(J (pre0++e::bK (e.Args.take k)) m)) (fun ⟨k,m⟩=>e.Args.length-k) ⟨⟨0,m0⟩,⟨by omega,by simpa [bK] using t0 c1⟩,Weak.regs ⟨zB,zB,zB,zB,T⟩⟩ ?_
  rintro ⟨k,m⟩ ⟨hk,hJ⟩
  refine R O<|yB O<|zA<|zI<|zC O (fun c2=>?_) (fun c2=>?_)
  ·try simp only [sx] at c2
   obtain ⟨a,ha⟩:=qU e.Args k (by omega)
   refine zJ<|zI<|zP<|R O<|qD O el55 (by omega) (zAa (by assumption))<|zO yP zQ O<|zV O O (qR [none,none,none,none,none,none,none,none,none,none,some 2,some 4,some 13] O zr57 O) ?_
   rintro _ _ ⟨b2,rfl,rfl⟩
   refine D 0 sz57 O<|qX _ (qK 0 O 6 _ PLe.ptr)<|zA<|R O<|zO yP zQ O<|G O<|zV O O (qQ O ok174 (ih a (qA ha) (by have:=Ex.arg_wt (qA ha);omega) y J Jx (pre0++e::bK (e.Args.take k)) _ (fun pre x suf μ hx hj=>by have:=hy _ x _ μ (nodes_at ha hx) (by simpa using hj);simpa using this) hJ) ⟨zB,O,zB,O,T⟩) ?_
   rintro _ m1 ⟨y1,rfl,t1,f1⟩
   refine kP O<|zA<|zC O (fun c3=>?_) (fun c3=>?_)
   ·try simp only [sx] at c3
    refine R O<|G O<|zA<|zK<|zR O ?_
    obtain ⟨pre,x,suf,h1,h2⟩:=f1 c3
    exact ⟨false,O,fun h=>(by cases h),fun _=>⟨_,x,_,nodes_at ha h1,by simpa using h2⟩⟩
   ·try simp only [sx] at c3
    refine zJ<|zM O<|qB O ⟨by omega,by omega⟩<|G O<|zA ?_
    refine ⟨⟨k+1,m1⟩,⟨by omega,by rw [zSb ha];simpa using t1 c3⟩,(by show e.Args.length-(k+1)<e.Args.length-k;omega),Weak.regs ⟨zB,zB,zB,zB,T⟩⟩
  ·try simp only [sx] at c2
   refine qH<|R O<|G O<|zA<|zK<|zR O ?_
   rw [yA (by omega)] at hJ
   exact ⟨true,O,fun _=>(by rw [wO];exact hJ),fun h=>(by cases h)⟩
theorem walk_con (e:Ex) (he:e.wt<=6000000000000):∀(y:C) (J Jx:List Ex->List E->Prop) (pre0:List Ex) (μ:List E),(∀pre x suf μ,bF e=pre++x::suf->J (pre0++pre) μ->FnCon cfg y [vE x] μ fun r μ'=>∃b,r=.c (.lit (.bool b))/\(b=true->J (pre0++pre++[x]) μ')/\(b=false->Jx (pre0++pre++[x]) μ'))->J pre0 μ->Con cfg 174 [vE e,.c y] μ fun r μ'=>∃b,r=.c (.lit (.bool b))/\(b=true->J (pre0++bF e) μ')/\(b=false->∃pre x suf,bF e=pre++x::suf/\Jx (pre0++pre++[x]) μ'):=by
  induction e using Ex.ind with
  |_ e ih=>exact walk_step e he ih
theorem zLb (e:Ex) (he:e.wt<=6000000000000):
    xP cfg 173 [] [.iptr e.cs] (bF e) fun x=>[vE x]:=by
 intro y J Jx μ hy0 h0
 have hy:=fun pre x suf μ h1 h2=>fn_bool (hy0 pre x suf μ h1 h2)
 refine zU Tryz.func173 O Tryz.ntmps173 Tryz.results173 O ?_
 intro z hz
 refine zM O<|zO yP zQ O<|G O<|zV O O (qQ O ok174 (walk_con e he y J Jx [] _ (fun pre x suf μ h1 h2=>hy pre x suf μ h1 h2) h0) ⟨zB,O,zB,O,T⟩) ?_
 rintro _ m0 ⟨y0,rfl,t0,f0⟩
 refine zA ?_
 repeat (first|refine qV ?_|refine qT ?_)
 refine yF<|U ?_
 cases y0
 · exact .inr (f0 rfl)
 · exact .inl (t0 rfl)
theorem expr_validNode (e:Ex) (he:e.wt<=6000000000000):
    Pur cfg 213 [vE e] (vI (bU e)):=by
 refine zU Tryz.func213 O Tryz.ntmps213 Tryz.results213 O ?_
 intro z hz
 obtain ⟨hL,hI,hA⟩:=e.parts he
 refine R O<|zV O O (qO O O) ?_
 rintro _ _ ⟨b1,rfl,rfl⟩
 refine zV O O (yN O zr36) ?_
 rintro _ _ ⟨b2,rfl,rfl⟩
 refine zA<|zI<|zP<|R O<|zO yP (Y 1 O) O<|qN O ok241 (expr_syntax e he) ⟨zB,O,T⟩<|kP O<|G O<|zA<|zC O (fun c1=>?_) (fun c1=>?_)
 ·try simp only [sx] at c1
  refine R O<|D 0 sz36 O<|zA<|zK<|fin1 (wF zIi O (Y 0 O) O) ?_
  rw [bU,c1];rfl
 ·try simp only [sx] at c1
  refine R O<|zO yP (Y 1 O) O<|qN O ok242 (expr_names e he) ⟨zB,O,T⟩<|kP O<|G O<|zA<|zC O (fun c2=>?_) (fun c2=>?_)
  ·try simp only [sx] at c2
   refine R O<|D 0 sz36 O<|zA<|zK<|fin1 (wF zIi O (Y 0 O) O) ?_
   rw [bU,c1,c2];rfl
  ·try simp only [sx] at c2
   refine R O<|zO yP (Y 1 O) O<|qN O ok243 (expr_rank e he) ⟨zB,O,T⟩<|kP O<|G O<|zA<|zC O (fun c3=>?_) (fun c3=>?_)
   ·try simp only [sx] at c3
    refine R O<|D 0 sz36 O<|zA<|zK<|fin1 (wF zIi O (Y 0 O) O) ?_
    rw [bU,c1,c2,c3];rfl
   ·try simp only [sx] at c3
    refine R O<|zO yP (Y 1 O) O<|qN O ok244 (expr_types e he) ⟨zB,O,T⟩<|kP O<|G O<|zA<|zC O (fun c4=>?_) (fun c4=>?_)
    ·try simp only [sx] at c4
     refine R O<|D 0 sz36 O<|zA<|zK<|fin1 (wF zIi O (Y 0 O) O) ?_
     rw [bU,c1,c2,c3,c4];rfl
    ·try simp only [sx] at c4
     refine R O<|zG O kS<|zH one3 (Y 1 O) O<|qZ O<|G O<|rL0 O (fun g9_3=>zD O zCx O) O<|A 25 O (fun g9_3=>qC O yH O (Y 1 O) O) O<|rL0 O (fun g9_3=>zD O zIp O) O<|A 27 O (fun g9_3=>qC O zTv O (Y 1 O) O) O<|rLz [(26,_),(28,_)] O J ⟨O,O,O,O,T⟩ (fun g9_3=>qS O ok245 (value_Valid e.Ty e.Val) ⟨zB,O,zB,O,T⟩) O<|A 29 O (fun g9_3=>wA O O) O<|yK O (fun h=>h)<|G O<|zA<|zC O (fun c5=>?_) (fun c5=>?_)
     ·have h5:=node5 c4 c5
      refine R O<|D 0 sz36 O<|zA<|zK<|fin1 (wF zIi O (Y 0 O) O) ?_
      rw [bU,c1,c2,c3,c4,jJ,h5];rfl
     ·have h5:=node5 c4 c5
      refine zJ<|zI<|R O<|zO yP (Y 1 O) O<|qN O ok246 (expr_forms _) ⟨zB,O,T⟩<|zA<|zP<|zT _ (Weak.mem [true,false] O)<|zHa (ps:=[34]) hz 1 O O ok282 (forms_iter e he) (fun _ _=>O) O (fun pre=>pre.all gD=true) (fun pre=>[E.row b2 36 [cI 0]]) (fun c pre=>(c=.ret/\pre.all gD=false)) (fun c pre=>[E.row b2 36 [cI 1]]) ⟨O,O⟩ ?_ ?_ ?_ ?_
      ·intro pre x suf hxs hi z hz
       refine zM O<|zV O O (qR [none,some 2] O zr54 O) ?_
       rintro _ _ ⟨b3,rfl,rfl⟩
       refine D 0 sz54 O<|zA ?_
       intro z hz
       refine zP<|R O<|zO zBa (Y 0 O) O<|qN O ok247 (lin_Validate x (forms_wt he (by rw [hxs];simp))) ⟨zB,O,T⟩<|kU O<|zA<|zC O (fun c6=>?_) (fun c6=>?_)
       ·try simp only [sx] at c6
        refine R O<|D 1 sz36 O<|zA<|zK ?_
        exact zBy (τ:=⟨[],_⟩) (Weak.mk [false,true] T O) ⟨⟨O,by simp only [List.all_append,List.all_cons,linErr_ne c6,Bool.false_and,Bool.and_false]⟩,O⟩
       ·try simp only [sx] at c6
        refine zJ ?_
        exact zBy (τ:=⟨[],_⟩) (Weak.mk [false,true] T O) ⟨by simp only [List.all_append,hi,List.all_cons,List.all_nil,linErr_eq c6,Bool.and_self],O⟩
      ·intro hd
       refine R O<|D 0 sz36 O<|zA<|zK<|fin1 (wF zIi O (Y 0 O) O) ?_
       rw [bU,c1,c2,c3,c4,jJ,h5,hd];rfl
      ·rintro pre x suf hxs hx
       rcases hx with ⟨hc,hx⟩
       clear hc
       repeat (first|refine zRb ?_|refine zOk ?_)
       refine fin1 (wF zIi O (Y 0 O) O) ?_
       rw [bU,c1,c2,c3,c4,jJ,h5,hxs,all_app_no hx];rfl
      ·rintro i pre x suf hxs hx
       rcases hx with ⟨hc,hx⟩
       cases hc
theorem expr_Size (e:Ex) (he:e.wt<=6000000000000):
    Pur cfg 212 [vE e] (vI (szT e)):=by
 refine zU Tryz.func212 O Tryz.ntmps212 Tryz.results212 O ?_
 intro z hz
 refine R O<|zV O O (qO O O) ?_
 rintro _ _ ⟨b1,rfl,rfl⟩
 refine G O<|zA<|R O<|zV O O (yN O zr3) ?_
 rintro _ _ ⟨b2,rfl,rfl⟩
 refine D 0 sz3 O<|zA<|zI<|R O<|zO yP (Y 1 O) O<|qN O ok144 (zMl _) ⟨zB,O,T⟩<|zA<|zP<|zT _ (Weak.mem [true,false] O)<|zHa (ps:=[6]) hz 1 O O ok173 (zLb e he) (fun _ _=>O) O (fun pre=>pre.length<=2000) (fun pre=>[E.row b2 3 [cI (pre.length:Int)]]) (fun c pre=>(c=.exit 0/\pre.length=2001)) (fun c pre=>[E.row b2 3 [cI (pre.length:Int)]]) ⟨by simp,O⟩ ?_ ?_ ?_ ?_
 ·intro pre x suf hxs hi z hz
  refine zJ ?_
  intro z hz
  refine zP<|R O<|zH one3 (Y 0 O) O<|qB O ⟨by omega,by omega⟩<|D 0 sz3 O<|zA<|R O<|zH one3 (Y 0 O) O<|zW O (yG O O O)<|zA<|zC O (fun c1=>?_) (fun c1=>?_)
  ·try simp only [sx] at c1
   refine qH ?_
   exact zBy (τ:=⟨[],_⟩) (Weak.mk [true] T O) ⟨⟨O,by simp;omega⟩,(by dsimp only;rw [show ((pre++[x]).length:Int)=pre.length+1 by simp];rfl)⟩
  ·try simp only [sx] at c1
   refine zJ ?_
   exact zBy (τ:=⟨[],_⟩) (Weak.mk [true] T O) ⟨(by simp;omega),(by dsimp only;rw [show ((pre++[x]).length:Int)=pre.length+1 by simp];rfl)⟩
 ·intro hd
  refine R O<|zH one3 (Y 0 O) O<|G O<|zA<|zK<|zR O ?_
  exact congrArg vI (by rw [szT];omega)
 ·rintro pre x suf hxs hx
  rcases hx with ⟨hc,hx⟩
  cases hc
 ·rintro i pre x suf hxs hx
  rcases hx with ⟨hc,hx⟩
  injection hc with hc
  subst hc
  refine R O<|zH one3 (Y 0 O) O<|G O<|zA<|zK<|zR O ?_
  exact congrArg vI (by rw [szT,hxs];simp at hx⊢;omega)
theorem expr_Validate (e:Ex) (he:e.wt<=6000000000000):
    Pur cfg 193 [vE e] (vI (fQ e)):=by
 refine zU Tryz.func193 O Tryz.ntmps193 Tryz.results193 O ?_
 intro z hz
 refine R O<|zV O O (qO O O) ?_
 rintro _ _ ⟨b1,rfl,rfl⟩
 refine zV O O (yN O zr36) ?_
 rintro _ _ ⟨b2,rfl,rfl⟩
 refine zA<|zI<|R O<|zO yP (Y 1 O) O<|qN O ok211 (expr_Depth e he) ⟨zB,O,T⟩<|zW O (yG O O O)<|zA<|zC O (fun c1=>?_) (fun c1=>?_)
 ·try simp only [sx] at c1
  refine R O<|D 0 sz36 O<|zA<|zK<|fin1 (wF zIi O (Y 0 O) O) ?_
  rw [fQ,zAh c1];rfl
 ·try simp only [sx] at c1
  refine zJ<|zI<|R O<|zO yP (Y 1 O) O<|qN O ok212 (expr_Size e he) ⟨zB,O,T⟩<|zW O (yG O O O)<|zA<|zC O (fun c2=>?_) (fun c2=>?_)
  ·try simp only [sx] at c2
   refine R O<|D 0 sz36 O<|zA<|zK<|fin1 (wF zIi O (Y 0 O) O) ?_
   rw [fQ,yV (by omega),zAh c2];rfl
  ·try simp only [sx] at c2
   refine zJ<|zI<|R O<|zO yP (Y 1 O) O<|qN O ok144 (zMl _) ⟨zB,O,T⟩<|zA<|zP<|zT _ (Weak.mem [true,false] O)<|zHa (ps:=[13]) hz 1 O O ok173 (zLb e he) (fun _ _=>O) O (fun pre=>gT pre=0) (fun pre=>[E.row b2 36 [cI 0]]) (fun c pre=>(c=.ret/\¬gT pre=0)) (fun c pre=>[E.row b2 36 [cI (gT pre)]]) ⟨O,O⟩ ?_ ?_ ?_ ?_
   ·intro pre x suf hxs hi z hz
    have hxw:x.wt<=6000000000000:=by have:=zEj e x (by rw [hxs];simp);omega
    refine zM O<|zV O O (qR [none,none,none,none,none,none,none,none,none,none,some 2,some 4,some 13] O zr57 O) ?_
    rintro _ _ ⟨b3,rfl,rfl⟩
    refine D 0 sz57 O<|zA ?_
    intro z hz
    refine zP<|R O<|zO yP (Y 0 O) O<|qN O ok213 (expr_validNode x hxw) ⟨zB,O,T⟩<|G O<|zA<|R O<|G O<|kU O<|zA<|zC O (fun c3=>?_) (fun c3=>?_)
    ·try simp only [sx] at c3
     refine R O<|G O<|D 1 sz36 O<|zA<|zK ?_
     exact zBy (τ:=⟨[],_⟩) (Weak.mk [false,true] T O) ⟨⟨O,by rw [errs_one hi c3];exact c3⟩,(by dsimp only;rw [errs_one hi c3];rfl)⟩
    ·try simp only [sx] at c3
     refine zJ ?_
     exact zBy (τ:=⟨[],_⟩) (Weak.mk [false,true] T O) ⟨(by dsimp only;rw [zFd,hi,gT,c3];rfl),O⟩
   ·intro hd
    refine R O<|D 0 sz36 O<|zA<|zK<|fin1 (wF zIi O (Y 0 O) O) ?_
    rw [fQ,yV (by omega),yV (by omega),cond_false,cond_false,fN,hd]
   ·rintro pre x suf hxs hx
    rcases hx with ⟨hc,hx⟩
    clear hc
    repeat (first|refine zRb ?_|refine zOk ?_)
    refine fin1 (wF zIi O (Y 0 O) O) ?_
    rw [fQ,yV (by omega),yV (by omega),cond_false,cond_false,fN,hxs,errs_pre (suf:=suf) hx]
   ·rintro i pre x suf hxs hx
    rcases hx with ⟨hc,hx⟩
    cases hc
end Go.W
