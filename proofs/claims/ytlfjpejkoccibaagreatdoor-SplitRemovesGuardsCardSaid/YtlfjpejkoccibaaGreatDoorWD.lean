/-
  Walks: what functions of the program compute. Printed by wip/gen/mk2.py.
  Conditions: none.
-/
import Derived.Test.YtlfjpejkoccibaaGreatDoorWC
set_option linter.unusedSimpArgs false
set_option linter.unusedVariables false
set_option maxRecDepth 10000
namespace Go.W
open Go Go.Eng Go.Proofs Go.L41 Go.Br
attribute [local irreducible] AWP RWP TD finQ
theorem ok102:callOk Tryz.prog 102=true:=by kernel_rfl
theorem ok123:callOk Tryz.prog 123=true:=by kernel_rfl
theorem ok131:callOk Tryz.prog 131=true:=by kernel_rfl
theorem ok158:callOk Tryz.prog 158=true:=by kernel_rfl
theorem ok159:callOk Tryz.prog 159=true:=by kernel_rfl
theorem ok169:callOk Tryz.prog 169=true:=by kernel_rfl
theorem ok206:callOk Tryz.prog 206=true:=by kernel_rfl
theorem ok207:callOk Tryz.prog 207=true:=by kernel_rfl
theorem ok208:callOk Tryz.prog 208=true:=by kernel_rfl
theorem ok236:callOk Tryz.prog 236=true:=by kernel_rfl
theorem ok237:callOk Tryz.prog 237=true:=by kernel_rfl
theorem ok238:callOk Tryz.prog 238=true:=by kernel_rfl
theorem ok239:callOk Tryz.prog 239=true:=by kernel_rfl
theorem ok240:callOk Tryz.prog 240=true:=by kernel_rfl
theorem zIh:oneT Tryz.prog 51=true:=by kernel_rfl
theorem sz3:(Tryz.prog.info? 3).map (·.size)=some 1:=by kernel_rfl
theorem sz51:(Tryz.prog.info? 51).map (·.size)=some 1:=by kernel_rfl
theorem zr3:zeroT Tryz.prog 3=some [(Value.int IntKind.i64 0)]:=by kernel_rfl
theorem zr51:zeroT Tryz.prog 51=some [(Value.int IntKind.i64 0)]:=by kernel_rfl
theorem expr_forms (e:Ex):
    Pur cfg 131 [vE e] (.c (.fn (.func 169) [] [.iptr e.cs])):=by
 refine zR Tryz.func131 O Tryz.ntmps131 Tryz.results131 O ?_
 intro z hz
 refine G O<|zU O O (qM O O) ?_
 rintro _ _ ⟨b1,rfl,rfl⟩
 refine F O<|I<|G O<|zX O (zDj O O O O O)<|yN _ (yM 0 O 3 (.c (.fn _ _ [_])) (PLe.fn ⟨.inr ⟨O,O⟩,T⟩))<|F O<|I<|o<|X O ?_
 exact O
theorem forms_iter (e:Ex) (he:e.wt<=6000000000000):
    Iter cfg 169 [] [.iptr e.cs] (formsL e) fun l=>[vLin l]:=by
 obtain ⟨hL,hI,hA⟩:=e.parts he
 intro y J Jx μ hy0 h0
 have hy:=fun pre x suf μ h1 h2=>fn_bool (hy0 pre x suf μ h1 h2)
 refine zR Tryz.func169 O Tryz.ntmps169 Tryz.results169 O ?_
 intro z hz
 refine zJ<|G O<|F O<|qQ O zCq<|zO yY qA O<|zU O O (wU O O (hy [] e.Lin _ _ O h0) ⟨H,O,T⟩) ?_
 rintro _ m0 ⟨y0,rfl,t0,f0⟩
 refine kO O<|I<|zF O (fun c1=>?_) (fun c1=>?_)
 ·try simp only [R] at c1
  refine o<|fin0 ?_
  exact .inr ⟨[],e.Lin,_,O,f0 c1⟩
 ·try simp only [R] at c1
  refine zI<|G O<|qQ O wA<|zK wR qA O<|qB O A<|F O<|I<|zQ<|zW ⟨[(15,.c _),(0,.c _),(13,.c _),(14,.c _)],_⟩ (Weak.regs ⟨H,H,H,H,T⟩)<|zCj 1 O (Nat×List E) (fun ⟨k,m⟩=>[(15,vI k)]) (fun ⟨k,m⟩=>m) (fun ⟨k,m⟩=>k<=e.Idx.length/\(J (e.Lin::(e.Idx.take k).flatMap ixF) m)) (fun ⟨k,m⟩=>e.Idx.length-k) ⟨⟨0,m0⟩,⟨by omega,t0 c1⟩,Weak.regs ⟨H,H,H,H,T⟩⟩ ?_
  rintro ⟨k,m⟩ ⟨hk,hJ⟩
  refine G O<|yH O<|I<|zJ<|zF O (fun c2=>?_) (fun c2=>?_)
  ·try simp only [R] at c2
   obtain ⟨x,hx⟩:=qW e.Idx k (by omega)
   have hxw:=Ex.idx_wt (zZ hx)
   refine zI<|zJ<|zQ<|G O<|qC O A (by omega) (N (by assumption))<|zO zOa qA O<|zU O O (qE [none,some 2,none,some 2] O zr72 O) ?_
   rintro _ _ ⟨b1,rfl,rfl⟩
   refine D 0 sz72 O<|yN _ (yM 0 O 4 _ PLe.ptr)<|I<|zJ<|G O<|F O<|qQ O zEm<|zO yY qA O<|zU O O (wU O O (hy _ x.Lin _ _ (forms_at hx) hJ) ⟨H,O,T⟩) ?_
   rintro _ m1 ⟨y1,rfl,t1,f1⟩
   refine kO O<|I<|zF O (fun c3=>?_) (fun c3=>?_)
   ·try simp only [R] at c3
    refine o<|fin0 ?_
    exact .inr ⟨_,x.Lin,_,forms_at hx,f1 c3⟩
   ·try simp only [R] at c3
    refine zI<|G O<|qQ O zBa<|zK zEe qA O<|qB O s<|F O<|I<|zQ<|zW ⟨[(27,.c _),(0,.c _),(13,.c _),(14,.c _),(15,.c _),(25,.c _),(26,.c _)],_⟩ (Weak.regs ⟨H,H,H,H,H,H,H,T⟩)<|zCj 1 O (Nat×List E) (fun ⟨j,n⟩=>[(27,vI j)]) (fun ⟨j,n⟩=>n) (fun ⟨j,n⟩=>j<=x.At.length/\(J ((e.Lin::(e.Idx.take k).flatMap ixF)++[x.Lin]++x.At.take j) n)) (fun ⟨j,n⟩=>x.At.length-j) ⟨⟨0,m1⟩,⟨by omega,by simpa using t1 c3⟩,Weak.regs ⟨H,H,H,H,H,H,H,T⟩⟩ ?_
    rintro ⟨j,n⟩ ⟨hj,hJ2⟩
    refine G O<|yH O<|I<|zJ<|zF O (fun c4=>?_) (fun c4=>?_)
    ·try simp only [R] at c4
     obtain ⟨l,hl⟩:=qW x.At j (by omega)
     refine zI<|zJ<|zQ<|G O<|qC O s (by omega) (N (by assumption))<|zO yY qA O<|zU O O (qE [none,some 2] O zr41 O) ?_
     rintro _ _ ⟨b2,rfl,rfl⟩
     refine D 0 sz41 O<|yN _ (yM 0 O 6 _ PLe.ptr)<|I<|G O<|F O<|zO yY qA O<|zU O O (wU O O (hy _ l _ _ (forms_at2 hx hl) hJ2) ⟨H,O,T⟩) ?_
     rintro _ m2 ⟨y2,rfl,t2,f2⟩
     refine kO O<|I<|zF O (fun c5=>?_) (fun c5=>?_)
     ·try simp only [R] at c5
      refine o<|fin0 ?_
      exact .inr ⟨_,l,_,forms_at2 hx hl,f2 c5⟩
     ·try simp only [R] at c5
      refine zI<|zS O<|qH O ⟨by omega,by omega⟩<|F O<|I ?_
      refine ⟨⟨j+1,m2⟩,⟨by omega,by rw [yF hl];simpa [List.append_assoc] using t2 c5⟩,(by show x.At.length-(j+1)<x.At.length-j;omega),Weak.regs ⟨H,H,H,H,H,H,H,T⟩⟩
    ·try simp only [R] at c4
     refine qN<|zS O<|qH O ⟨by omega,by omega⟩<|F O<|I ?_
     refine ⟨⟨k+1,n⟩,⟨by omega,by rw [forms_next hx];rw [yL (l:=x.At) (by omega)] at hJ2;exact hJ2⟩,(by show e.Idx.length-(k+1)<e.Idx.length-k;omega),Weak.regs ⟨H,H,H,H,T⟩⟩
  ·try simp only [R] at c2
   refine qN ?_
   repeat (first|refine zHo ?_|refine zFu ?_)
   refine zSq<|fin0 ?_
   rw [yL (by omega)] at hJ;exact .inl hJ
theorem zMa (e:Ex):
    Pur cfg 123 [vE e] (.c (.fn (.func 158) [] [.iptr e.cs])):=by
 refine zR Tryz.func123 O Tryz.ntmps123 Tryz.results123 O ?_
 intro z hz
 refine G O<|zU O O (qM O O) ?_
 rintro _ _ ⟨b1,rfl,rfl⟩
 refine F O<|I<|G O<|zX O (zDj O O O O O)<|yN _ (yM 0 O 3 (.c (.fn _ _ [_])) (PLe.fn ⟨.inr ⟨O,O⟩,T⟩))<|F O<|I<|o<|X O ?_
 exact O
theorem walk_step (e:Ex) (he:e.wt<=6000000000000) (ih:∀a,a∈e.Args->a.wt<=6000000000000->(∀(y:C) (J Jx:List Ex->List E->Prop) (pre0:List Ex) (μ:List E),(∀pre x suf μ,nodes a=pre++x::suf->J (pre0++pre) μ->FnCon cfg y [vE x] μ fun r μ'=>∃b,r=.c (.lit (.bool b))/\(b=true->J (pre0++pre++[x]) μ')/\(b=false->Jx (pre0++pre++[x]) μ'))->J pre0 μ->Con cfg 159 [vE a,.c y] μ fun r μ'=>∃b,r=.c (.lit (.bool b))/\(b=true->J (pre0++nodes a) μ')/\(b=false->∃pre x suf,nodes a=pre++x::suf/\Jx (pre0++pre++[x]) μ'))):
    ∀(y:C) (J Jx:List Ex->List E->Prop) (pre0:List Ex) (μ:List E),(∀pre x suf μ,nodes e=pre++x::suf->J (pre0++pre) μ->FnCon cfg y [vE x] μ fun r μ'=>∃b,r=.c (.lit (.bool b))/\(b=true->J (pre0++pre++[x]) μ')/\(b=false->Jx (pre0++pre++[x]) μ'))->J pre0 μ->Con cfg 159 [vE e,.c y] μ fun r μ'=>∃b,r=.c (.lit (.bool b))/\(b=true->J (pre0++nodes e) μ')/\(b=false->∃pre x suf,nodes e=pre++x::suf/\Jx (pre0++pre++[x]) μ'):=by
 obtain ⟨hL,hI,hA⟩:=e.parts he
 intro y J Jx pre0 μ hy h0
 refine zR Tryz.func159 O Tryz.ntmps159 Tryz.results159 O ?_
 intro z hz
 refine G O<|zU O O (qM O O) ?_
 rintro _ _ ⟨b1,rfl,rfl⟩
 refine yN _ (yM 0 O 2 _ PLe.ptr)<|F O<|I<|zJ<|G O<|F O<|zO yX qA O<|zU O O (wU O O (hy [] e _ _ (wH e) (show J (pre0++[]) μ by simpa using h0)) ⟨H,O,T⟩) ?_
 rintro _ m0 ⟨y0,rfl,t0,f0⟩
 refine kO O<|I<|zF O (fun c1=>?_) (fun c1=>?_)
 ·try simp only [R] at c1
  refine G O<|F O<|I<|o<|X O ?_
  exact ⟨false,O,fun h=>(by cases h),fun _=>⟨[],e,_,wH e,by simpa using f0 c1⟩⟩
 ·try simp only [R] at c1
  refine zI<|zJ<|G O<|qQ O kZ<|zK zAj qA O<|qB O g<|F O<|I<|zQ<|zW ⟨[(14,.c _),(1,.c _),(12,.c _),(13,.c _)],_⟩ (Weak.regs ⟨H,H,H,H,T⟩)<|zCj 1 O (Nat×List E) (fun ⟨k,m⟩=>[(14,vI k)]) (fun ⟨k,m⟩=>m) (fun ⟨k,m⟩=>k<=e.Args.length/\(J (pre0++e::nodesL (e.Args.take k)) m)) (fun ⟨k,m⟩=>e.Args.length-k) ⟨⟨0,m0⟩,⟨by omega,by simpa [nodesL] using t0 c1⟩,Weak.regs ⟨H,H,H,H,T⟩⟩ ?_
  rintro ⟨k,m⟩ ⟨hk,hJ⟩
  refine G O<|yH O<|I<|zJ<|zF O (fun c2=>?_) (fun c2=>?_)
  ·try simp only [R] at c2
   obtain ⟨a,ha⟩:=qW e.Args k (by omega)
   refine zI<|zJ<|zQ<|G O<|qC O g (by omega) (zCk (by assumption))<|zO yX qA O<|zU O O (qE [none,none,none,none,none,none,none,none,none,none,some 2,some 4,some 13] O zr44 O) ?_
   rintro _ _ ⟨b2,rfl,rfl⟩
   refine D 0 sz44 O<|yN _ (yM 0 O 6 _ PLe.ptr)<|I<|G O<|zO yX qA O<|F O<|zU O O (zAh O ok159 (ih a (zZ ha) (by have:=Ex.arg_wt (zZ ha);omega) y J Jx (pre0++e::nodesL (e.Args.take k)) _ (fun pre x suf μ hx hj=>by have:=hy _ x _ μ (nodes_at ha hx) (by simpa using hj);simpa using this) hJ) ⟨H,O,H,O,T⟩) ?_
   rintro _ m1 ⟨y1,rfl,t1,f1⟩
   refine kO O<|I<|zF O (fun c3=>?_) (fun c3=>?_)
   ·try simp only [R] at c3
    refine G O<|F O<|I<|o<|X O ?_
    obtain ⟨pre,x,suf,h1,h2⟩:=f1 c3
    exact ⟨false,O,fun h=>(by cases h),fun _=>⟨_,x,_,nodes_at ha h1,by simpa using h2⟩⟩
   ·try simp only [R] at c3
    refine zI<|zS O<|qH O ⟨by omega,by omega⟩<|F O<|I ?_
    refine ⟨⟨k+1,m1⟩,⟨by omega,by rw [zRw ha];simpa using t1 c3⟩,(by show e.Args.length-(k+1)<e.Args.length-k;omega),Weak.regs ⟨H,H,H,H,T⟩⟩
  ·try simp only [R] at c2
   refine qN<|G O<|F O<|I<|o<|X O ?_
   rw [yL (by omega)] at hJ
   exact ⟨true,O,fun _=>(by rw [wH];exact hJ),fun h=>(by cases h)⟩
theorem walk_con (e:Ex) (he:e.wt<=6000000000000):∀(y:C) (J Jx:List Ex->List E->Prop) (pre0:List Ex) (μ:List E),(∀pre x suf μ,nodes e=pre++x::suf->J (pre0++pre) μ->FnCon cfg y [vE x] μ fun r μ'=>∃b,r=.c (.lit (.bool b))/\(b=true->J (pre0++pre++[x]) μ')/\(b=false->Jx (pre0++pre++[x]) μ'))->J pre0 μ->Con cfg 159 [vE e,.c y] μ fun r μ'=>∃b,r=.c (.lit (.bool b))/\(b=true->J (pre0++nodes e) μ')/\(b=false->∃pre x suf,nodes e=pre++x::suf/\Jx (pre0++pre++[x]) μ'):=by
  induction e using Ex.ind with
  |_ e ih=>exact walk_step e he ih
theorem zKv (e:Ex) (he:e.wt<=6000000000000):
    Iter cfg 158 [] [.iptr e.cs] (nodes e) fun x=>[vE x]:=by
 intro y J Jx μ hy0 h0
 have hy:=fun pre x suf μ h1 h2=>fn_bool (hy0 pre x suf μ h1 h2)
 refine zR Tryz.func158 O Tryz.ntmps158 Tryz.results158 O ?_
 intro z hz
 refine zS O<|zO yX qA O<|F O<|zU O O (zAh O ok159 (walk_con e he y J Jx [] _ (fun pre x suf μ h1 h2=>hy pre x suf μ h1 h2) h0) ⟨H,O,H,O,T⟩) ?_
 rintro _ m0 ⟨y0,rfl,t0,f0⟩
 refine I ?_
 repeat (first|refine zHo ?_|refine zFu ?_)
 refine zSq<|fin0 ?_
 cases y0
 · exact .inr (f0 rfl)
 · exact .inl (t0 rfl)
theorem expr_validNode (e:Ex) (he:e.wt<=6000000000000):
    Pur cfg 208 [vE e] (vI (nodeErr e)):=by
 refine zR Tryz.func208 O Tryz.ntmps208 Tryz.results208 O ?_
 intro z hz
 obtain ⟨hL,hI,hA⟩:=e.parts he
 refine G O<|zU O O (qM O O) ?_
 rintro _ _ ⟨b1,rfl,rfl⟩
 refine zU O O (yW O zr51) ?_
 rintro _ _ ⟨b2,rfl,rfl⟩
 refine I<|zJ<|zQ<|G O<|zO yX (Y 1 O) O<|qJ O ok236 (expr_syntax e he) ⟨H,O,T⟩<|kO O<|F O<|I<|zF O (fun c1=>?_) (fun c1=>?_)
 ·try simp only [R] at c1
  refine G O<|D 0 sz51 O<|I<|o<|fin1 (kU zIh O (Y 0 O) O) ?_
  rw [nodeErr,c1];rfl
 ·try simp only [R] at c1
  refine G O<|zO yX (Y 1 O) O<|qJ O ok237 (expr_names e he) ⟨H,O,T⟩<|kO O<|F O<|I<|zF O (fun c2=>?_) (fun c2=>?_)
  ·try simp only [R] at c2
   refine G O<|D 0 sz51 O<|I<|o<|fin1 (kU zIh O (Y 0 O) O) ?_
   rw [nodeErr,c1,c2];rfl
  ·try simp only [R] at c2
   refine G O<|zO yX (Y 1 O) O<|qJ O ok238 (expr_rank e he) ⟨H,O,T⟩<|kO O<|F O<|I<|zF O (fun c3=>?_) (fun c3=>?_)
   ·try simp only [R] at c3
    refine G O<|D 0 sz51 O<|I<|o<|fin1 (kU zIh O (Y 0 O) O) ?_
    rw [nodeErr,c1,c2,c3];rfl
   ·try simp only [R] at c3
    refine G O<|zO yX (Y 1 O) O<|qJ O ok239 (expr_types e he) ⟨H,O,T⟩<|kO O<|F O<|I<|zF O (fun c4=>?_) (fun c4=>?_)
    ·try simp only [R] at c4
     refine G O<|D 0 sz51 O<|I<|o<|fin1 (kU zIh O (Y 0 O) O) ?_
     rw [nodeErr,c1,c2,c3,c4];rfl
    ·try simp only [R] at c4
     refine G O<|zH O kQ<|zK J (Y 1 O) O<|yE O<|F O<|rL0 O (fun g9_3=>zD O zEs O) O<|B 25 O (fun g9_3=>zY O yK O (Y 1 O) O) O<|rL0 O (fun g9_3=>zD O zKb O) O<|B 27 O (fun g9_3=>zY O agg36 O (Y 1 O) O) O<|rLz [(26,_),(28,_)] O gv1 ⟨O,O,O,O,T⟩ (fun g9_3=>qL O ok240 (value_Valid e.Ty e.Val) ⟨H,O,H,O,T⟩) O<|B 29 O (fun g9_3=>kV O O) O<|yQ O (fun h=>h)<|F O<|I<|zF O (fun c5=>?_) (fun c5=>?_)
     ·have h5:=node5 c4 c5
      refine G O<|D 0 sz51 O<|I<|o<|fin1 (kU zIh O (Y 0 O) O) ?_
      rw [nodeErr,c1,c2,c3,c4,formOk,h5];rfl
     ·have h5:=node5 c4 c5
      refine zI<|zJ<|G O<|zO yX (Y 1 O) O<|qJ O ok131 (expr_forms _) ⟨H,O,T⟩<|I<|zQ<|zW _ (Weak.mem [true,false] O)<|zEn (ps:=[34]) hz 1 O O ok169 (forms_iter e he) (fun _ _=>O) O (fun pre=>pre.all linOk=true) (fun pre=>[E.row b2 51 [cI 0]]) (fun c pre=>(c=.ret/\pre.all linOk=false)) (fun c pre=>[E.row b2 51 [cI 1]]) ⟨O,O⟩ ?_ ?_ ?_ ?_
      ·intro pre x suf hxs hi z hz
       refine zS O<|zU O O (qE [none,some 2] O zr41 O) ?_
       rintro _ _ ⟨b3,rfl,rfl⟩
       refine D 0 sz41 O<|I ?_
       intro z hz
       refine zQ<|G O<|zO yY (Y 0 O) O<|qJ O ok102 (zCi x (forms_wt he (by rw [hxs];simp))) ⟨H,O,T⟩<|yR O<|I<|zF O (fun c6=>?_) (fun c6=>?_)
       ·try simp only [R] at c6
        refine G O<|D 1 sz51 O<|I<|o ?_
        exact zBv (τ:=⟨[],_⟩) (Weak.mk [false,true] T O) ⟨⟨O,by simp only [List.all_append,List.all_cons,zIo c6,Bool.false_and,Bool.and_false]⟩,O⟩
       ·try simp only [R] at c6
        refine zI ?_
        exact zBv (τ:=⟨[],_⟩) (Weak.mk [false,true] T O) ⟨by simp only [List.all_append,hi,List.all_cons,List.all_nil,zIp c6,Bool.and_self],O⟩
      ·intro hd
       refine G O<|D 0 sz51 O<|I<|o<|fin1 (kU zIh O (Y 0 O) O) ?_
       rw [nodeErr,c1,c2,c3,c4,formOk,h5,hd];rfl
      ·rintro pre x suf hxs hx
       rcases hx with ⟨hc,hx⟩
       clear hc
       repeat (first|refine zKz ?_|refine zJm ?_)
       refine fin1 (kU zIh O (Y 0 O) O) ?_
       rw [nodeErr,c1,c2,c3,c4,formOk,h5,hxs,all_app_no hx];rfl
      ·rintro i pre x suf hxs hx
       rcases hx with ⟨hc,hx⟩
       cases hc
theorem expr_Size (e:Ex) (he:e.wt<=6000000000000):
    Pur cfg 207 [vE e] (vI (szT e)):=by
 refine zR Tryz.func207 O Tryz.ntmps207 Tryz.results207 O ?_
 intro z hz
 refine G O<|zU O O (qM O O) ?_
 rintro _ _ ⟨b1,rfl,rfl⟩
 refine F O<|I<|G O<|zU O O (yW O zr3) ?_
 rintro _ _ ⟨b2,rfl,rfl⟩
 refine D 0 sz3 O<|I<|zJ<|G O<|zO yX (Y 1 O) O<|qJ O ok123 (zMa _) ⟨H,O,T⟩<|I<|zQ<|zW _ (Weak.mem [true,false] O)<|zEn (ps:=[6]) hz 1 O O ok158 (zKv e he) (fun _ _=>O) O (fun pre=>pre.length<=2000) (fun pre=>[E.row b2 3 [cI (pre.length:Int)]]) (fun c pre=>(c=.exit 0/\pre.length=2001)) (fun c pre=>[E.row b2 3 [cI (pre.length:Int)]]) ⟨by simp,O⟩ ?_ ?_ ?_ ?_
 ·intro pre x suf hxs hi z hz
  refine zI ?_
  intro z hz
  refine zQ<|G O<|zK J (Y 0 O) O<|qH O ⟨by omega,by omega⟩<|D 0 sz3 O<|I<|G O<|zK J (Y 0 O) O<|zX O (yC O O O)<|I<|zF O (fun c1=>?_) (fun c1=>?_)
  ·try simp only [R] at c1
   refine qN ?_
   exact zBv (τ:=⟨[],_⟩) (Weak.mk [true] T O) ⟨⟨O,by simp;omega⟩,(by dsimp only;rw [show ((pre++[x]).length:Int)=pre.length+1 by simp];rfl)⟩
  ·try simp only [R] at c1
   refine zI ?_
   exact zBv (τ:=⟨[],_⟩) (Weak.mk [true] T O) ⟨(by simp;omega),(by dsimp only;rw [show ((pre++[x]).length:Int)=pre.length+1 by simp];rfl)⟩
 ·intro hd
  refine G O<|zK J (Y 0 O) O<|F O<|I<|o<|X O ?_
  exact congrArg vI (by rw [szT];omega)
 ·rintro pre x suf hxs hx
  rcases hx with ⟨hc,hx⟩
  cases hc
 ·rintro i pre x suf hxs hx
  rcases hx with ⟨hc,hx⟩
  injection hc with hc
  subst hc
  refine G O<|zK J (Y 0 O) O<|F O<|I<|o<|X O ?_
  exact congrArg vI (by rw [szT,hxs];simp at hx⊢;omega)
theorem expr_Validate (e:Ex) (he:e.wt<=6000000000000):
    Pur cfg 188 [vE e] (vI (validE e)):=by
 refine zR Tryz.func188 O Tryz.ntmps188 Tryz.results188 O ?_
 intro z hz
 refine G O<|zU O O (qM O O) ?_
 rintro _ _ ⟨b1,rfl,rfl⟩
 refine zU O O (yW O zr51) ?_
 rintro _ _ ⟨b2,rfl,rfl⟩
 refine I<|zJ<|G O<|zO yX (Y 1 O) O<|qJ O ok206 (expr_Depth e he) ⟨H,O,T⟩<|zX O (yC O O O)<|I<|zF O (fun c1=>?_) (fun c1=>?_)
 ·try simp only [R] at c1
  refine G O<|D 0 sz51 O<|I<|o<|fin1 (kU zIh O (Y 0 O) O) ?_
  rw [validE,wM c1];rfl
 ·try simp only [R] at c1
  refine zI<|zJ<|G O<|zO yX (Y 1 O) O<|qJ O ok207 (expr_Size e he) ⟨H,O,T⟩<|zX O (yC O O O)<|I<|zF O (fun c2=>?_) (fun c2=>?_)
  ·try simp only [R] at c2
   refine G O<|D 0 sz51 O<|I<|o<|fin1 (kU zIh O (Y 0 O) O) ?_
   rw [validE,yJ (by omega),wM c2];rfl
  ·try simp only [R] at c2
   refine zI<|zJ<|G O<|zO yX (Y 1 O) O<|qJ O ok123 (zMa _) ⟨H,O,T⟩<|I<|zQ<|zW _ (Weak.mem [true,false] O)<|zEn (ps:=[13]) hz 1 O O ok158 (zKv e he) (fun _ _=>O) O (fun pre=>errsL pre=0) (fun pre=>[E.row b2 51 [cI 0]]) (fun c pre=>(c=.ret/\¬errsL pre=0)) (fun c pre=>[E.row b2 51 [cI (errsL pre)]]) ⟨O,O⟩ ?_ ?_ ?_ ?_
   ·intro pre x suf hxs hi z hz
    have hxw:x.wt<=6000000000000:=by have:=zEg e x (by rw [hxs];simp);omega
    refine zS O<|zU O O (qE [none,none,none,none,none,none,none,none,none,none,some 2,some 4,some 13] O zr44 O) ?_
    rintro _ _ ⟨b3,rfl,rfl⟩
    refine D 0 sz44 O<|I ?_
    intro z hz
    refine zQ<|G O<|zO yX (Y 0 O) O<|qJ O ok208 (expr_validNode x hxw) ⟨H,O,T⟩<|F O<|I<|G O<|F O<|yR O<|I<|zF O (fun c3=>?_) (fun c3=>?_)
    ·try simp only [R] at c3
     refine G O<|F O<|D 1 sz51 O<|I<|o ?_
     exact zBv (τ:=⟨[],_⟩) (Weak.mk [false,true] T O) ⟨⟨O,by rw [errs_one hi c3];exact c3⟩,(by dsimp only;rw [errs_one hi c3];rfl)⟩
    ·try simp only [R] at c3
     refine zI ?_
     exact zBv (τ:=⟨[],_⟩) (Weak.mk [false,true] T O) ⟨(by dsimp only;rw [zEu,hi,errsL,c3];rfl),O⟩
   ·intro hd
    refine G O<|D 0 sz51 O<|I<|o<|fin1 (kU zIh O (Y 0 O) O) ?_
    rw [validE,yJ (by omega),yJ (by omega),cond_false,cond_false,partE,hd]
   ·rintro pre x suf hxs hx
    rcases hx with ⟨hc,hx⟩
    clear hc
    repeat (first|refine zKz ?_|refine zJm ?_)
    refine fin1 (kU zIh O (Y 0 O) O) ?_
    rw [validE,yJ (by omega),yJ (by omega),cond_false,cond_false,partE,hxs,errs_pre (suf:=suf) hx]
   ·rintro i pre x suf hxs hx
    rcases hx with ⟨hc,hx⟩
    cases hc
end Go.W
