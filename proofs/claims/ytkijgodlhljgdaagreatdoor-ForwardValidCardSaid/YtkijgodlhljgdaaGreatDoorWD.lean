/-
  Walks: what functions of the program compute. Printed by wip/gen/mk2.py.
  Conditions: none.
-/
import Derived.Test.YtkijgodlhljgdaaGreatDoorWC
set_option linter.unusedSimpArgs false
set_option linter.unusedVariables false
set_option maxRecDepth 10000
namespace Go.W
open Go Go.Eng Go.Proofs Go.L41 Go.Br
attribute [local irreducible] AWP RWP TD finQ
theorem ok67:callOk Tryz.prog 67=true:=by kernel_rfl
theorem ok68:callOk Tryz.prog 68=true:=by kernel_rfl
theorem ok81:callOk Tryz.prog 81=true:=by kernel_rfl
theorem ok82:callOk Tryz.prog 82=true:=by kernel_rfl
theorem ok83:callOk Tryz.prog 83=true:=by kernel_rfl
theorem ok150:callOk Tryz.prog 150=true:=by kernel_rfl
theorem ok151:callOk Tryz.prog 151=true:=by kernel_rfl
theorem ok152:callOk Tryz.prog 152=true:=by kernel_rfl
theorem ok157:callOk Tryz.prog 157=true:=by kernel_rfl
theorem ok158:callOk Tryz.prog 158=true:=by kernel_rfl
theorem ok159:callOk Tryz.prog 159=true:=by kernel_rfl
theorem ok160:callOk Tryz.prog 160=true:=by kernel_rfl
theorem ok161:callOk Tryz.prog 161=true:=by kernel_rfl
theorem ok162:callOk Tryz.prog 162=true:=by kernel_rfl
theorem zNc:oneT Tryz.prog 43=true:=by kernel_rfl
theorem sz3:(Tryz.prog.info? 3).map (·.size)=some 1:=by kernel_rfl
theorem sz43:(Tryz.prog.info? 43).map (·.size)=some 1:=by kernel_rfl
theorem zr3:zeroT Tryz.prog 3=some [(Value.int IntKind.i64 0)]:=by kernel_rfl
theorem zr43:zeroT Tryz.prog 43=some [(Value.int IntKind.i64 0)]:=by kernel_rfl
theorem expr_forms (e:Ex):
    Pur cfg 68 [vE e] (.c (.fn (.func 152) [] [.iptr e.cs])):=by
 refine zT Tryz.func68 O Tryz.ntmps68 Tryz.results68 O ?_
 intro z hz
 refine B O<|zZ O O (qI O O) ?_
 rintro _ _ ⟨b1,rfl,rfl⟩
 refine G O<|U<|B O<|zX O (zIq O O O O O)<|yY _ (kH 0 O 3 (.c (.fn _ _ [_])) (PLe.fn ⟨.inr ⟨O,O⟩,T⟩))<|G O<|U<|zH<|zQ O ?_
 exact O
theorem forms_iter (e:Ex) (he:e.wt<=6000000000000):
    Iter cfg 152 [] [.iptr e.cs] (formsL e) fun l=>[vLin l]:=by
 obtain ⟨hL,hI,hA⟩:=e.parts he
 intro y J Jx μ hy0 h0
 have hy:=fun pre x suf μ h1 h2=>fn_bool (hy0 pre x suf μ h1 h2)
 refine zT Tryz.func152 O Tryz.ntmps152 Tryz.results152 O ?_
 intro z hz
 refine zI<|B O<|G O<|zX O (qL O zDw O)<|zL kK qB O<|zZ O O (zDr O O (hy [] e.Lin _ _ O h0) ⟨Y,O,T⟩) ?_
 rintro _ m0 ⟨y0,rfl,t0,f0⟩
 refine wB O<|U<|zE O (fun c1=>?_) (fun c1=>?_)
 ·try simp only [W] at c1
  refine zH<|fin0 ?_
  exact .inr ⟨[],e.Lin,_,O,f0 c1⟩
 ·try simp only [W] at c1
  refine zJ<|B O<|zX O (qL O kL O)<|zK zAd qB O<|zY O el35<|G O<|U<|zP<|zU ⟨[(15,.c _),(0,.c _),(13,.c _),(14,.c _)],_⟩ (Weak.regs ⟨Y,Y,Y,Y,T⟩)<|zKk 1 O (Nat×List E) (fun ⟨k,m⟩=>[(15,vI k)]) (fun ⟨k,m⟩=>m) (fun ⟨k,m⟩=>k<=e.Idx.length/\(J (e.Lin::(e.Idx.take k).flatMap ixF) m)) (fun ⟨k,m⟩=>e.Idx.length-k) ⟨⟨0,m0⟩,⟨by omega,t0 c1⟩,Weak.regs ⟨Y,Y,Y,Y,T⟩⟩ ?_
  rintro ⟨k,m⟩ ⟨hk,hJ⟩
  refine B O<|yA O<|U<|zI<|zE O (fun c2=>?_) (fun c2=>?_)
  ·try simp only [W] at c2
   obtain ⟨x,hx⟩:=qQ e.Idx k (by omega)
   have hxw:=Ex.idx_wt (qD hx)
   refine zJ<|zI<|zP<|B O<|qE O el35 (by omega) (getm (by assumption))<|zL zJe qB O<|zZ O O (qH [none,some 2,none,some 2] O zr67 O) ?_
   rintro _ _ ⟨b1,rfl,rfl⟩
   refine N 0 sz67 O<|yY _ (kH 0 O 4 _ PLe.ptr)<|U<|zI<|B O<|G O<|zX O (qL O zDv O)<|zL kK qB O<|zZ O O (zDr O O (hy _ x.Lin _ _ (forms_at hx) hJ) ⟨Y,O,T⟩) ?_
   rintro _ m1 ⟨y1,rfl,t1,f1⟩
   refine wB O<|U<|zE O (fun c3=>?_) (fun c3=>?_)
   ·try simp only [W] at c3
    refine zH<|fin0 ?_
    exact .inr ⟨_,x.Lin,_,forms_at hx,f1 c3⟩
   ·try simp only [W] at c3
    refine zJ<|B O<|zX O (qL O zAu O)<|zK zBa qB O<|zY O el63<|G O<|U<|zP<|zU ⟨[(27,.c _),(0,.c _),(13,.c _),(14,.c _),(15,.c _),(25,.c _),(26,.c _)],_⟩ (Weak.regs ⟨Y,Y,Y,Y,Y,Y,Y,T⟩)<|zKk 1 O (Nat×List E) (fun ⟨j,n⟩=>[(27,vI j)]) (fun ⟨j,n⟩=>n) (fun ⟨j,n⟩=>j<=x.At.length/\(J ((e.Lin::(e.Idx.take k).flatMap ixF)++[x.Lin]++x.At.take j) n)) (fun ⟨j,n⟩=>x.At.length-j) ⟨⟨0,m1⟩,⟨by omega,by simpa using t1 c3⟩,Weak.regs ⟨Y,Y,Y,Y,Y,Y,Y,T⟩⟩ ?_
    rintro ⟨j,n⟩ ⟨hj,hJ2⟩
    refine B O<|yA O<|U<|zI<|zE O (fun c4=>?_) (fun c4=>?_)
    ·try simp only [W] at c4
     obtain ⟨l,hl⟩:=qQ x.At j (by omega)
     refine zJ<|zI<|zP<|B O<|qE O el63 (by omega) (getm (by assumption))<|zL kK qB O<|zZ O O (qH [none,some 2] O zr34 O) ?_
     rintro _ _ ⟨b2,rfl,rfl⟩
     refine N 0 sz34 O<|yY _ (kH 0 O 6 _ PLe.ptr)<|U<|B O<|G O<|zL kK qB O<|zZ O O (zDr O O (hy _ l _ _ (forms_at2 hx hl) hJ2) ⟨Y,O,T⟩) ?_
     rintro _ m2 ⟨y2,rfl,t2,f2⟩
     refine wB O<|U<|zE O (fun c5=>?_) (fun c5=>?_)
     ·try simp only [W] at c5
      refine zH<|fin0 ?_
      exact .inr ⟨_,l,_,forms_at2 hx hl,f2 c5⟩
     ·try simp only [W] at c5
      refine zJ<|zS O<|qJ O ⟨by omega,by omega⟩<|G O<|U ?_
      refine ⟨⟨j+1,m2⟩,⟨by omega,by rw [qR hl];simpa [List.append_assoc] using t2 c5⟩,(by show x.At.length-(j+1)<x.At.length-j;omega),Weak.regs ⟨Y,Y,Y,Y,Y,Y,Y,T⟩⟩
    ·try simp only [W] at c4
     refine qO<|zS O<|qJ O ⟨by omega,by omega⟩<|G O<|U ?_
     refine ⟨⟨k+1,n⟩,⟨by omega,by rw [forms_next hx];rw [qX (l:=x.At) (by omega)] at hJ2;exact hJ2⟩,(by show e.Idx.length-(k+1)<e.Idx.length-k;omega),Weak.regs ⟨Y,Y,Y,Y,T⟩⟩
  ·try simp only [W] at c2
   refine qO ?_
   repeat (first|refine then_exit ?_|refine block_exit ?_)
   refine fin_end<|fin0 ?_
   rw [qX (by omega)] at hJ;exact .inl hJ
theorem zNw (e:Ex):
    Pur cfg 67 [vE e] (.c (.fn (.func 150) [] [.iptr e.cs])):=by
 refine zT Tryz.func67 O Tryz.ntmps67 Tryz.results67 O ?_
 intro z hz
 refine B O<|zZ O O (qI O O) ?_
 rintro _ _ ⟨b1,rfl,rfl⟩
 refine G O<|U<|B O<|zX O (zIq O O O O O)<|yY _ (kH 0 O 3 (.c (.fn _ _ [_])) (PLe.fn ⟨.inr ⟨O,O⟩,T⟩))<|G O<|U<|zH<|zQ O ?_
 exact O
theorem walk_step (e:Ex) (he:e.wt<=6000000000000) (ih:∀a,a∈e.Args->a.wt<=6000000000000->(∀(y:C) (J Jx:List Ex->List E->Prop) (pre0:List Ex) (μ:List E),(∀pre x suf μ,nodes a=pre++x::suf->J (pre0++pre) μ->FnCon cfg y [vE x] μ fun r μ'=>∃b,r=.c (.lit (.bool b))/\(b=true->J (pre0++pre++[x]) μ')/\(b=false->Jx (pre0++pre++[x]) μ'))->J pre0 μ->Con cfg 151 [vE a,.c y] μ fun r μ'=>∃b,r=.c (.lit (.bool b))/\(b=true->J (pre0++nodes a) μ')/\(b=false->∃pre x suf,nodes a=pre++x::suf/\Jx (pre0++pre++[x]) μ'))):
    ∀(y:C) (J Jx:List Ex->List E->Prop) (pre0:List Ex) (μ:List E),(∀pre x suf μ,nodes e=pre++x::suf->J (pre0++pre) μ->FnCon cfg y [vE x] μ fun r μ'=>∃b,r=.c (.lit (.bool b))/\(b=true->J (pre0++pre++[x]) μ')/\(b=false->Jx (pre0++pre++[x]) μ'))->J pre0 μ->Con cfg 151 [vE e,.c y] μ fun r μ'=>∃b,r=.c (.lit (.bool b))/\(b=true->J (pre0++nodes e) μ')/\(b=false->∃pre x suf,nodes e=pre++x::suf/\Jx (pre0++pre++[x]) μ'):=by
 obtain ⟨hL,hI,hA⟩:=e.parts he
 intro y J Jx pre0 μ hy h0
 refine zT Tryz.func151 O Tryz.ntmps151 Tryz.results151 O ?_
 intro z hz
 refine B O<|zZ O O (qI O O) ?_
 rintro _ _ ⟨b1,rfl,rfl⟩
 refine yY _ (kH 0 O 2 _ PLe.ptr)<|G O<|U<|zI<|B O<|G O<|zL qN qB O<|zZ O O (zDr O O (hy [] e _ _ (zAl e) (show J (pre0++[]) μ by simpa using h0)) ⟨Y,O,T⟩) ?_
 rintro _ m0 ⟨y0,rfl,t0,f0⟩
 refine wB O<|U<|zE O (fun c1=>?_) (fun c1=>?_)
 ·try simp only [W] at c1
  refine B O<|G O<|U<|zH<|zQ O ?_
  exact ⟨false,O,fun h=>(by cases h),fun _=>⟨[],e,_,zAl e,by simpa using f0 c1⟩⟩
 ·try simp only [W] at c1
  refine zJ<|zI<|B O<|zX O (qL O kZ O)<|zK zAy qB O<|zY O D<|G O<|U<|zP<|zU ⟨[(14,.c _),(1,.c _),(12,.c _),(13,.c _)],_⟩ (Weak.regs ⟨Y,Y,Y,Y,T⟩)<|zKk 1 O (Nat×List E) (fun ⟨k,m⟩=>[(14,vI k)]) (fun ⟨k,m⟩=>m) (fun ⟨k,m⟩=>k<=e.Args.length/\(J (pre0++e::nodesL (e.Args.take k)) m)) (fun ⟨k,m⟩=>e.Args.length-k) ⟨⟨0,m0⟩,⟨by omega,by simpa [nodesL] using t0 c1⟩,Weak.regs ⟨Y,Y,Y,Y,T⟩⟩ ?_
  rintro ⟨k,m⟩ ⟨hk,hJ⟩
  refine B O<|yA O<|U<|zI<|zE O (fun c2=>?_) (fun c2=>?_)
  ·try simp only [W] at c2
   obtain ⟨a,ha⟩:=qQ e.Args k (by omega)
   refine zJ<|zI<|zP<|B O<|qE O D (by omega) (yZ (by assumption))<|zL qN qB O<|zZ O O (qH [none,none,none,none,none,none,none,none,none,none,some 2,some 4,some 13] O zr38 O) ?_
   rintro _ _ ⟨b2,rfl,rfl⟩
   refine N 0 sz38 O<|yY _ (kH 0 O 6 _ PLe.ptr)<|U<|B O<|zL qN qB O<|G O<|zZ O O (zDs O ok151 (ih a (qD ha) (by have:=Ex.arg_wt (qD ha);omega) y J Jx (pre0++e::nodesL (e.Args.take k)) _ (fun pre x suf μ hx hj=>by have:=hy _ x _ μ (nodes_at ha hx) (by simpa using hj);simpa using this) hJ) ⟨Y,O,Y,O,T⟩) ?_
   rintro _ m1 ⟨y1,rfl,t1,f1⟩
   refine wB O<|U<|zE O (fun c3=>?_) (fun c3=>?_)
   ·try simp only [W] at c3
    refine B O<|G O<|U<|zH<|zQ O ?_
    obtain ⟨pre,x,suf,h1,h2⟩:=f1 c3
    exact ⟨false,O,fun h=>(by cases h),fun _=>⟨_,x,_,nodes_at ha h1,by simpa using h2⟩⟩
   ·try simp only [W] at c3
    refine zJ<|zS O<|qJ O ⟨by omega,by omega⟩<|G O<|U ?_
    refine ⟨⟨k+1,m1⟩,⟨by omega,by rw [nodesL_next ha];simpa using t1 c3⟩,(by show e.Args.length-(k+1)<e.Args.length-k;omega),Weak.regs ⟨Y,Y,Y,Y,T⟩⟩
  ·try simp only [W] at c2
   refine qO<|B O<|G O<|U<|zH<|zQ O ?_
   rw [qX (by omega)] at hJ
   exact ⟨true,O,fun _=>(by rw [zAl];exact hJ),fun h=>(by cases h)⟩
theorem walk_con (e:Ex) (he:e.wt<=6000000000000):∀(y:C) (J Jx:List Ex->List E->Prop) (pre0:List Ex) (μ:List E),(∀pre x suf μ,nodes e=pre++x::suf->J (pre0++pre) μ->FnCon cfg y [vE x] μ fun r μ'=>∃b,r=.c (.lit (.bool b))/\(b=true->J (pre0++pre++[x]) μ')/\(b=false->Jx (pre0++pre++[x]) μ'))->J pre0 μ->Con cfg 151 [vE e,.c y] μ fun r μ'=>∃b,r=.c (.lit (.bool b))/\(b=true->J (pre0++nodes e) μ')/\(b=false->∃pre x suf,nodes e=pre++x::suf/\Jx (pre0++pre++[x]) μ'):=by
  induction e using Ex.ind with
  |_ e ih=>exact walk_step e he ih
theorem zLz (e:Ex) (he:e.wt<=6000000000000):
    Iter cfg 150 [] [.iptr e.cs] (nodes e) fun x=>[vE x]:=by
 intro y J Jx μ hy0 h0
 have hy:=fun pre x suf μ h1 h2=>fn_bool (hy0 pre x suf μ h1 h2)
 refine zT Tryz.func150 O Tryz.ntmps150 Tryz.results150 O ?_
 intro z hz
 refine zS O<|zL qN qB O<|G O<|zZ O O (zDs O ok151 (walk_con e he y J Jx [] _ (fun pre x suf μ h1 h2=>hy pre x suf μ h1 h2) h0) ⟨Y,O,Y,O,T⟩) ?_
 rintro _ m0 ⟨y0,rfl,t0,f0⟩
 refine U ?_
 repeat (first|refine then_exit ?_|refine block_exit ?_)
 refine fin_end<|fin0 ?_
 cases y0
 · exact .inr (f0 rfl)
 · exact .inl (t0 rfl)
theorem expr_validNode (e:Ex) (he:e.wt<=6000000000000):
    Pur cfg 83 [vE e] (vI (nodeErr e)):=by
 refine zT Tryz.func83 O Tryz.ntmps83 Tryz.results83 O ?_
 intro z hz
 obtain ⟨hL,hI,hA⟩:=e.parts he
 refine B O<|zZ O O (qI O O) ?_
 rintro _ _ ⟨b1,rfl,rfl⟩
 refine zZ O O (yB O zr43) ?_
 rintro _ _ ⟨b2,rfl,rfl⟩
 refine U<|zI<|zP<|B O<|zL qN (J 1 O) O<|qK O ok157 (expr_syntax e he) ⟨Y,O,T⟩<|wB O<|G O<|U<|zE O (fun c1=>?_) (fun c1=>?_)
 ·try simp only [W] at c1
  refine B O<|N 0 sz43 O<|U<|zH<|fin1 (wG zNc O (J 0 O) O) ?_
  rw [nodeErr,c1];rfl
 ·try simp only [W] at c1
  refine B O<|zL qN (J 1 O) O<|qK O ok158 (expr_names e he) ⟨Y,O,T⟩<|wB O<|G O<|U<|zE O (fun c2=>?_) (fun c2=>?_)
  ·try simp only [W] at c2
   refine B O<|N 0 sz43 O<|U<|zH<|fin1 (wG zNc O (J 0 O) O) ?_
   rw [nodeErr,c1,c2];rfl
  ·try simp only [W] at c2
   refine B O<|zL qN (J 1 O) O<|qK O ok159 (expr_rank e he) ⟨Y,O,T⟩<|wB O<|G O<|U<|zE O (fun c3=>?_) (fun c3=>?_)
   ·try simp only [W] at c3
    refine B O<|N 0 sz43 O<|U<|zH<|fin1 (wG zNc O (J 0 O) O) ?_
    rw [nodeErr,c1,c2,c3];rfl
   ·try simp only [W] at c3
    refine B O<|zL qN (J 1 O) O<|qK O ok160 (expr_types e he) ⟨Y,O,T⟩<|wB O<|G O<|U<|zE O (fun c4=>?_) (fun c4=>?_)
    ·try simp only [W] at c4
     refine B O<|N 0 sz43 O<|U<|zH<|fin1 (wG zNc O (J 0 O) O) ?_
     rw [nodeErr,c1,c2,c3,c4];rfl
    ·try simp only [W] at c4
     refine B O<|zG O yS<|zK one3 (J 1 O) O<|L O<|G O<|rL0 O (fun g9_3=>zD O zDm O) O<|rL1 25 O (fun g9_3=>zN O qZ O (J 1 O) O) O<|rL0 O (fun g9_3=>zD O zGx O) O<|rL1 27 O (fun g9_3=>zN O agg29 O (J 1 O) O) O<|rLz [(26,_),(28,_)] O gv1 ⟨O,O,O,O,T⟩ (fun g9_3=>qG O ok161 (value_Valid e.Ty e.Val) ⟨Y,O,Y,O,T⟩) O<|rL1 29 O (fun g9_3=>wA O O) O<|yW O (fun h=>h)<|G O<|U<|zE O (fun c5=>?_) (fun c5=>?_)
     ·have h5:=node5 c4 c5
      refine B O<|N 0 sz43 O<|U<|zH<|fin1 (wG zNc O (J 0 O) O) ?_
      rw [nodeErr,c1,c2,c3,c4,formOk,h5];rfl
     ·have h5:=node5 c4 c5
      refine zJ<|zI<|B O<|zL qN (J 1 O) O<|qK O ok68 (expr_forms _) ⟨Y,O,T⟩<|U<|zP<|zU _ (Weak.mem [true,false] O)<|zHs (ps:=[34]) hz 1 O O ok152 (forms_iter e he) (fun _ _=>O) O (fun pre=>pre.all linOk=true) (fun pre=>[E.row b2 43 [cI 0]]) (fun c pre=>(c=.ret/\pre.all linOk=false)) (fun c pre=>[E.row b2 43 [cI 1]]) ⟨O,O⟩ ?_ ?_ ?_ ?_
      ·intro pre x suf hxs hi z hz
       refine zS O<|zZ O O (qH [none,some 2] O zr34 O) ?_
       rintro _ _ ⟨b3,rfl,rfl⟩
       refine N 0 sz34 O<|U ?_
       intro z hz
       refine zP<|B O<|zL kK (J 0 O) O<|qK O ok162 (zFv x (forms_wt he (by rw [hxs];simp))) ⟨Y,O,T⟩<|yN O<|U<|zE O (fun c6=>?_) (fun c6=>?_)
       ·try simp only [W] at c6
        refine B O<|N 1 sz43 O<|U<|zH ?_
        exact zCh (τ:=⟨[],_⟩) (Weak.mk [false,true] T O) ⟨⟨O,by simp only [List.all_append,List.all_cons,linErr_ne c6,Bool.false_and,Bool.and_false]⟩,O⟩
       ·try simp only [W] at c6
        refine zJ ?_
        exact zCh (τ:=⟨[],_⟩) (Weak.mk [false,true] T O) ⟨by simp only [List.all_append,hi,List.all_cons,List.all_nil,linErr_eq c6,Bool.and_self],O⟩
      ·intro hd
       refine B O<|N 0 sz43 O<|U<|zH<|fin1 (wG zNc O (J 0 O) O) ?_
       rw [nodeErr,c1,c2,c3,c4,formOk,h5,hd];rfl
      ·rintro pre x suf hxs hx
       rcases hx with ⟨hc,hx⟩
       clear hc
       repeat (first|refine thenQ_ret ?_|refine blockQ_ret ?_)
       refine fin1 (wG zNc O (J 0 O) O) ?_
       rw [nodeErr,c1,c2,c3,c4,formOk,h5,hxs,all_app_no hx];rfl
      ·rintro i pre x suf hxs hx
       rcases hx with ⟨hc,hx⟩
       cases hc
theorem expr_Size (e:Ex) (he:e.wt<=6000000000000):
    Pur cfg 82 [vE e] (vI (szT e)):=by
 refine zT Tryz.func82 O Tryz.ntmps82 Tryz.results82 O ?_
 intro z hz
 refine B O<|zZ O O (qI O O) ?_
 rintro _ _ ⟨b1,rfl,rfl⟩
 refine G O<|U<|B O<|zZ O O (yB O zr3) ?_
 rintro _ _ ⟨b2,rfl,rfl⟩
 refine N 0 sz3 O<|U<|zI<|B O<|zL qN (J 1 O) O<|qK O ok67 (zNw _) ⟨Y,O,T⟩<|U<|zP<|zU _ (Weak.mem [true,false] O)<|zHs (ps:=[6]) hz 1 O O ok150 (zLz e he) (fun _ _=>O) O (fun pre=>pre.length<=2000) (fun pre=>[E.row b2 3 [cI (pre.length:Int)]]) (fun c pre=>(c=.exit 0/\pre.length=2001)) (fun c pre=>[E.row b2 3 [cI (pre.length:Int)]]) ⟨by simp,O⟩ ?_ ?_ ?_ ?_
 ·intro pre x suf hxs hi z hz
  refine zJ ?_
  intro z hz
  refine zP<|B O<|zK one3 (J 0 O) O<|qJ O ⟨by omega,by omega⟩<|N 0 sz3 O<|U<|B O<|zK one3 (J 0 O) O<|zX O (yD O O O)<|U<|zE O (fun c1=>?_) (fun c1=>?_)
  ·try simp only [W] at c1
   refine qO ?_
   exact zCh (τ:=⟨[],_⟩) (Weak.mk [true] T O) ⟨⟨O,by simp;omega⟩,(by dsimp only;rw [show ((pre++[x]).length:Int)=pre.length+1 by simp];rfl)⟩
  ·try simp only [W] at c1
   refine zJ ?_
   exact zCh (τ:=⟨[],_⟩) (Weak.mk [true] T O) ⟨(by simp;omega),(by dsimp only;rw [show ((pre++[x]).length:Int)=pre.length+1 by simp];rfl)⟩
 ·intro hd
  refine B O<|zK one3 (J 0 O) O<|G O<|U<|zH<|zQ O ?_
  exact congrArg vI (by rw [szT];omega)
 ·rintro pre x suf hxs hx
  rcases hx with ⟨hc,hx⟩
  cases hc
 ·rintro i pre x suf hxs hx
  rcases hx with ⟨hc,hx⟩
  injection hc with hc
  subst hc
  refine B O<|zK one3 (J 0 O) O<|G O<|U<|zH<|zQ O ?_
  exact congrArg vI (by rw [szT,hxs];simp at hx⊢;omega)
theorem zEt (e:Ex) (he:e.wt<=6000000000000):
    Pur cfg 31 [vE e] (vI (validE e)):=by
 refine zT Tryz.func31 O Tryz.ntmps31 Tryz.results31 O ?_
 intro z hz
 refine B O<|zZ O O (qI O O) ?_
 rintro _ _ ⟨b1,rfl,rfl⟩
 refine zZ O O (yB O zr43) ?_
 rintro _ _ ⟨b2,rfl,rfl⟩
 refine U<|zI<|B O<|zL qN (J 1 O) O<|qK O ok81 (expr_Depth e he) ⟨Y,O,T⟩<|zX O (yD O O O)<|U<|zE O (fun c1=>?_) (fun c1=>?_)
 ·try simp only [W] at c1
  refine B O<|N 0 sz43 O<|U<|zH<|fin1 (wG zNc O (J 0 O) O) ?_
  rw [validE,kT c1];rfl
 ·try simp only [W] at c1
  refine zJ<|zI<|B O<|zL qN (J 1 O) O<|qK O ok82 (expr_Size e he) ⟨Y,O,T⟩<|zX O (yD O O O)<|U<|zE O (fun c2=>?_) (fun c2=>?_)
  ·try simp only [W] at c2
   refine B O<|N 0 sz43 O<|U<|zH<|fin1 (wG zNc O (J 0 O) O) ?_
   rw [validE,yC (by omega),kT c2];rfl
  ·try simp only [W] at c2
   refine zJ<|zI<|B O<|zL qN (J 1 O) O<|qK O ok67 (zNw _) ⟨Y,O,T⟩<|U<|zP<|zU _ (Weak.mem [true,false] O)<|zHs (ps:=[13]) hz 1 O O ok150 (zLz e he) (fun _ _=>O) O (fun pre=>errsL pre=0) (fun pre=>[E.row b2 43 [cI 0]]) (fun c pre=>(c=.ret/\¬errsL pre=0)) (fun c pre=>[E.row b2 43 [cI (errsL pre)]]) ⟨O,O⟩ ?_ ?_ ?_ ?_
   ·intro pre x suf hxs hi z hz
    have hxw:x.wt<=6000000000000:=by have:=zEr e x (by rw [hxs];simp);omega
    refine zS O<|zZ O O (qH [none,none,none,none,none,none,none,none,none,none,some 2,some 4,some 13] O zr38 O) ?_
    rintro _ _ ⟨b3,rfl,rfl⟩
    refine N 0 sz38 O<|U ?_
    intro z hz
    refine zP<|B O<|zL qN (J 0 O) O<|qK O ok83 (expr_validNode x hxw) ⟨Y,O,T⟩<|G O<|U<|B O<|G O<|yN O<|U<|zE O (fun c3=>?_) (fun c3=>?_)
    ·try simp only [W] at c3
     refine B O<|G O<|N 1 sz43 O<|U<|zH ?_
     exact zCh (τ:=⟨[],_⟩) (Weak.mk [false,true] T O) ⟨⟨O,by rw [errs_one hi c3];exact c3⟩,(by dsimp only;rw [errs_one hi c3];rfl)⟩
    ·try simp only [W] at c3
     refine zJ ?_
     exact zCh (τ:=⟨[],_⟩) (Weak.mk [false,true] T O) ⟨(by dsimp only;rw [zDx,hi,errsL,c3];rfl),O⟩
   ·intro hd
    refine B O<|N 0 sz43 O<|U<|zH<|fin1 (wG zNc O (J 0 O) O) ?_
    rw [validE,yC (by omega),yC (by omega),cond_false,cond_false,partE,hd]
   ·rintro pre x suf hxs hx
    rcases hx with ⟨hc,hx⟩
    clear hc
    repeat (first|refine thenQ_ret ?_|refine blockQ_ret ?_)
    refine fin1 (wG zNc O (J 0 O) O) ?_
    rw [validE,yC (by omega),yC (by omega),cond_false,cond_false,partE,hxs,errs_pre (suf:=suf) hx]
   ·rintro i pre x suf hxs hx
    rcases hx with ⟨hc,hx⟩
    cases hc
end Go.W
