/-
  What functions compute.
  Conditions: none.
-/
import Derived.Test.YtdldhbfgfkebjaaGreatDoorWC
set_option linter.unusedSimpArgs false
set_option linter.unusedVariables false
set_option maxRecDepth 10000
namespace Go.W
open Go Go.Eng Go.Proofs Go.L41 Go.Br
attribute [local irreducible] AWP RWP TD fP
theorem ok144:bA Tryz.prog 144=true:=by kernel_rfl
theorem ok173:bA Tryz.prog 173=true:=by kernel_rfl
theorem ok174:bA Tryz.prog 174=true:=by kernel_rfl
theorem ok211:bA Tryz.prog 211=true:=by kernel_rfl
theorem ok212:bA Tryz.prog 212=true:=by kernel_rfl
theorem ok213:bA Tryz.prog 213=true:=by kernel_rfl
theorem ok241:bA Tryz.prog 241=true:=by kernel_rfl
theorem ok242:bA Tryz.prog 242=true:=by kernel_rfl
theorem ok243:bA Tryz.prog 243=true:=by kernel_rfl
theorem ok244:bA Tryz.prog 244=true:=by kernel_rfl
theorem ok245:bA Tryz.prog 245=true:=by kernel_rfl
theorem ok246:bA Tryz.prog 246=true:=by kernel_rfl
theorem ok247:bA Tryz.prog 247=true:=by kernel_rfl
theorem ok282:bA Tryz.prog 282=true:=by kernel_rfl
theorem zJa:jK Tryz.prog 36=true:=by kernel_rfl
theorem sz3:(Tryz.prog.info? 3).map (·.size)=some 1:=by kernel_rfl
theorem sz36:(Tryz.prog.info? 36).map (·.size)=some 1:=by kernel_rfl
theorem sz54:(Tryz.prog.info? 54).map (·.size)=some 2:=by kernel_rfl
theorem zr3:dL Tryz.prog 3=some [(Value.int IntKind.i64 0)]:=by kernel_rfl
theorem zr36:dL Tryz.prog 36=some [(Value.int IntKind.i64 0)]:=by kernel_rfl
theorem zr54:dL Tryz.prog 54=some [(Value.int IntKind.i64 0),(Value.slice none 0 0)]:=by kernel_rfl
theorem expr_forms (e:Ex):
    Pur cfg 246 [vE e] (.c (.fn (.func 282) [] [.iptr e.cs])):=by
 refine zW Tryz.func246 O Tryz.ntmps246 Tryz.results246 O ?_
 exact v27
theorem forms_iter (e:Ex) (he:e.wt<=6000000000000):
    xC cfg 282 [] [.iptr e.cs] (gW e) fun l=>[jU l]:=by
 obtain ⟨hL,hI,hA⟩:=e.parts he
 intro y J Jx μ hy0 h0
 have hy:=fun pre x suf μ h1 h2=>fn_bool (hy0 pre x suf μ h1 h2)
 refine zW Tryz.func282 O Tryz.ntmps282 Tryz.results282 O ?_
 intro z hz
 refine zF<|R O<|G O<|zT O zEd<|zQ zAj zO O<|zS O O (zAa O O (hy [] e.Lin _ _ O h0) ⟨zB,O,T⟩) ?_
 rintro _ m0 ⟨y0,rfl,t0,f0⟩
 refine wE O<|zA<|zD O (fun c1=>?_) (fun c1=>?_)
 ·try simp only [sx] at c1
  refine zN<|U ?_
  exact .inr ⟨[],e.Lin,_,O,f0 c1⟩
 ·try simp only [sx] at c1
  refine zI<|R O<|zT O kQ<|zE wI zO O<|qD O el51<|G O<|zA<|zP<|zU ⟨[(15,.c _),(0,.c _),(13,.c _),(14,.c _)],_⟩ (Weak.regs ⟨zB,zB,zB,zB,T⟩)<|zBm 1 O (Nat×List E) (fun ⟨k,m⟩=>[(15,vI k)]) (fun ⟨k,m⟩=>m) (fun ⟨k,m⟩=>k<=e.Idx.length/\(J (e.Lin::(e.Idx.take k).flatMap ixF) m)) (fun ⟨k,m⟩=>e.Idx.length-k) ⟨⟨0,m0⟩,⟨by omega,t0 c1⟩,Weak.regs ⟨zB,zB,zB,zB,T⟩⟩ ?_
  rintro ⟨k,m⟩ ⟨hk,hJ⟩
  refine R O<|yC O<|zA<|zF<|zD O (fun c2=>?_) (fun c2=>?_)
  ·try simp only [sx] at c2
   obtain ⟨x,hx⟩:=qU e.Idx k (by omega)
   have hxw:=Ex.idx_wt (qE hx)
   refine zI<|zF<|zP<|R O<|zY O el51 (by omega) (v (by assumption))<|zQ zCr zO O<|zS O O (qQ [none,some 2,none,some 2] O zKx O) ?_
   rintro _ _ ⟨b1,rfl,rfl⟩
   refine Y 0 zOd O<|qT _ (qM 0 O 4 _ PLe.ptr)<|zA<|zF<|R O<|G O<|zT O zBx<|zQ zAj zO O<|zS O O (zAa O O (hy _ x.Lin _ _ (forms_at hx) hJ) ⟨zB,O,T⟩) ?_
   rintro _ m1 ⟨y1,rfl,t1,f1⟩
   refine wE O<|zA<|zD O (fun c3=>?_) (fun c3=>?_)
   ·try simp only [sx] at c3
    refine zN<|U ?_
    exact .inr ⟨_,x.Lin,_,forms_at hx,f1 c3⟩
   ·try simp only [sx] at c3
    refine zI<|R O<|zT O wU<|zE zAx zO O<|qD O zAk<|G O<|zA<|zP<|zU ⟨[(27,.c _),(0,.c _),(13,.c _),(14,.c _),(15,.c _),(25,.c _),(26,.c _)],_⟩ (Weak.regs ⟨zB,zB,zB,zB,zB,zB,zB,T⟩)<|zBm 1 O (Nat×List E) (fun ⟨j,n⟩=>[(27,vI j)]) (fun ⟨j,n⟩=>n) (fun ⟨j,n⟩=>j<=x.At.length/\(J ((e.Lin::(e.Idx.take k).flatMap ixF)++[x.Lin]++x.At.take j) n)) (fun ⟨j,n⟩=>x.At.length-j) ⟨⟨0,m1⟩,⟨by omega,by simpa using t1 c3⟩,Weak.regs ⟨zB,zB,zB,zB,zB,zB,zB,T⟩⟩ ?_
    rintro ⟨j,n⟩ ⟨hj,hJ2⟩
    refine R O<|yC O<|zA<|zF<|zD O (fun c4=>?_) (fun c4=>?_)
    ·try simp only [sx] at c4
     obtain ⟨l,hl⟩:=qU x.At j (by omega)
     refine zI<|zF<|zP<|R O<|zY O zAk (by omega) (v (by assumption))<|zQ zAj zO O<|zS O O (qQ [none,some 2] O zr54 O) ?_
     rintro _ _ ⟨b2,rfl,rfl⟩
     refine Y 0 sz54 O<|qT _ (qM 0 O 6 _ PLe.ptr)<|zA<|R O<|G O<|zQ zAj zO O<|zS O O (zAa O O (hy _ l _ _ (forms_at2 hx hl) hJ2) ⟨zB,O,T⟩) ?_
     rintro _ m2 ⟨y2,rfl,t2,f2⟩
     refine wE O<|zA<|zD O (fun c5=>?_) (fun c5=>?_)
     ·try simp only [sx] at c5
      refine zN<|U ?_
      exact .inr ⟨_,l,_,forms_at2 hx hl,f2 c5⟩
     ·try simp only [sx] at c5
      refine zI<|zK O<|qA O ⟨by omega,by omega⟩<|G O<|zA ?_
      refine ⟨⟨j+1,m2⟩,⟨by omega,by rw [yD hl];simpa [List.append_assoc] using t2 c5⟩,(by show x.At.length-(j+1)<x.At.length-j;omega),Weak.regs ⟨zB,zB,zB,zB,zB,zB,zB,T⟩⟩
    ·try simp only [sx] at c4
     refine qK<|zK O<|qA O ⟨by omega,by omega⟩<|G O<|zA ?_
     refine ⟨⟨k+1,n⟩,⟨by omega,by rw [forms_next hx];rw [qX (l:=x.At) (by omega)] at hJ2;exact hJ2⟩,(by show e.Idx.length-(k+1)<e.Idx.length-k;omega),Weak.regs ⟨zB,zB,zB,zB,T⟩⟩
  ·try simp only [sx] at c2
   refine qK ?_
   repeat (first|refine qZ ?_|refine qV ?_)
   refine yP<|U ?_
   rw [qX (by omega)] at hJ;exact .inl hJ
theorem zNh (e:Ex):
    Pur cfg 144 [vE e] (.c (.fn (.func 173) [] [.iptr e.cs])):=by
 refine zW Tryz.func144 O Tryz.ntmps144 Tryz.results144 O ?_
 exact v27
theorem walk_step (e:Ex) (he:e.wt<=6000000000000) (ih:∀a,a∈e.Args->a.wt<=6000000000000->(∀(y:C) (J Jx:List Ex->List E->Prop) (pre0:List Ex) (μ:List E),(∀pre x suf μ,bH a=pre++x::suf->J (pre0++pre) μ->FnCon cfg y [vE x] μ fun r μ'=>∃b,r=.c (.lit (.bool b))/\(b=true->J (pre0++pre++[x]) μ')/\(b=false->Jx (pre0++pre++[x]) μ'))->J pre0 μ->Con cfg 174 [vE a,.c y] μ fun r μ'=>∃b,r=.c (.lit (.bool b))/\(b=true->J (pre0++bH a) μ')/\(b=false->∃pre x suf,bH a=pre++x::suf/\Jx (pre0++pre++[x]) μ'))):
    ∀(y:C) (J Jx:List Ex->List E->Prop) (pre0:List Ex) (μ:List E),(∀pre x suf μ,bH e=pre++x::suf->J (pre0++pre) μ->FnCon cfg y [vE x] μ fun r μ'=>∃b,r=.c (.lit (.bool b))/\(b=true->J (pre0++pre++[x]) μ')/\(b=false->Jx (pre0++pre++[x]) μ'))->J pre0 μ->Con cfg 174 [vE e,.c y] μ fun r μ'=>∃b,r=.c (.lit (.bool b))/\(b=true->J (pre0++bH e) μ')/\(b=false->∃pre x suf,bH e=pre++x::suf/\Jx (pre0++pre++[x]) μ'):=by
 obtain ⟨hL,hI,hA⟩:=e.parts he
 intro y J Jx pre0 μ hy h0
 refine zW Tryz.func174 O Tryz.ntmps174 Tryz.results174 O ?_
 intro z hz
 refine R O<|zS O O (qP O O) ?_
 rintro _ _ ⟨b1,rfl,rfl⟩
 refine qT _ (qM 0 O 2 _ PLe.ptr)<|G O<|zA<|zF<|R O<|G O<|zQ yN zO O<|zS O O (zAa O O (hy [] e _ _ (zAl e) (show J (pre0++[]) μ by simpa using h0)) ⟨zB,O,T⟩) ?_
 rintro _ m0 ⟨y0,rfl,t0,f0⟩
 refine wE O<|zA<|zD O (fun c1=>?_) (fun c1=>?_)
 ·try simp only [sx] at c1
  refine R O<|G O<|zA<|zN<|zV O ?_
  exact ⟨false,O,fun h=>(by cases h),fun _=>⟨[],e,_,zAl e,by simpa using f0 c1⟩⟩
 ·try simp only [sx] at c1
  refine zI<|zF<|R O<|zT O yU<|zE kW zO O<|qD O el55<|G O<|zA<|zP<|zU ⟨[(14,.c _),(1,.c _),(12,.c _),(13,.c _)],_⟩ (Weak.regs ⟨zB,zB,zB,zB,T⟩)<|zBm 1 O (Nat×List E) (fun ⟨k,m⟩=>[(14,vI k)]) (fun ⟨k,m⟩=>m) (fun ⟨k,m⟩=>k<=e.Args.length/\(J (pre0++e::bJ (e.Args.take k)) m)) (fun ⟨k,m⟩=>e.Args.length-k) ⟨⟨0,m0⟩,⟨by omega,by simpa [bJ] using t0 c1⟩,Weak.regs ⟨zB,zB,zB,zB,T⟩⟩ ?_
  rintro ⟨k,m⟩ ⟨hk,hJ⟩
  refine R O<|yC O<|zA<|zF<|zD O (fun c2=>?_) (fun c2=>?_)
  ·try simp only [sx] at c2
   obtain ⟨a,ha⟩:=qU e.Args k (by omega)
   refine zI<|zF<|zP<|R O<|zY O el55 (by omega) (wF (by assumption))<|zQ yN zO O<|zS O O (qQ [none,none,none,none,none,none,none,none,none,none,some 2,some 4,some 13] O zr57 O) ?_
   rintro _ _ ⟨b2,rfl,rfl⟩
   refine Y 0 sz57 O<|qT _ (qM 0 O 6 _ PLe.ptr)<|zA<|R O<|zQ yN zO O<|G O<|zS O O (W O ok174 (ih a (qE ha) (by have:=Ex.arg_wt (qE ha);omega) y J Jx (pre0++e::bJ (e.Args.take k)) _ (fun pre x suf μ hx hj=>by have:=hy _ x _ μ (nodes_at ha hx) (by simpa using hj);simpa using this) hJ) ⟨zB,O,zB,O,T⟩) ?_
   rintro _ m1 ⟨y1,rfl,t1,f1⟩
   refine wE O<|zA<|zD O (fun c3=>?_) (fun c3=>?_)
   ·try simp only [sx] at c3
    refine R O<|G O<|zA<|zN<|zV O ?_
    obtain ⟨pre,x,suf,h1,h2⟩:=f1 c3
    exact ⟨false,O,fun h=>(by cases h),fun _=>⟨_,x,_,nodes_at ha h1,by simpa using h2⟩⟩
   ·try simp only [sx] at c3
    refine zI<|zK O<|qA O ⟨by omega,by omega⟩<|G O<|zA ?_
    refine ⟨⟨k+1,m1⟩,⟨by omega,by rw [zSy ha];simpa using t1 c3⟩,(by show e.Args.length-(k+1)<e.Args.length-k;omega),Weak.regs ⟨zB,zB,zB,zB,T⟩⟩
  ·try simp only [sx] at c2
   refine qK<|R O<|G O<|zA<|zN<|zV O ?_
   rw [qX (by omega)] at hJ
   exact ⟨true,O,fun _=>(by rw [zAl];exact hJ),fun h=>(by cases h)⟩
theorem walk_con (e:Ex) (he:e.wt<=6000000000000):∀(y:C) (J Jx:List Ex->List E->Prop) (pre0:List Ex) (μ:List E),(∀pre x suf μ,bH e=pre++x::suf->J (pre0++pre) μ->FnCon cfg y [vE x] μ fun r μ'=>∃b,r=.c (.lit (.bool b))/\(b=true->J (pre0++pre++[x]) μ')/\(b=false->Jx (pre0++pre++[x]) μ'))->J pre0 μ->Con cfg 174 [vE e,.c y] μ fun r μ'=>∃b,r=.c (.lit (.bool b))/\(b=true->J (pre0++bH e) μ')/\(b=false->∃pre x suf,bH e=pre++x::suf/\Jx (pre0++pre++[x]) μ'):=by
  induction e using Ex.ind with
  |_ e ih=>exact walk_step e he ih
theorem zLs (e:Ex) (he:e.wt<=6000000000000):
    xC cfg 173 [] [.iptr e.cs] (bH e) fun x=>[vE x]:=by
 intro y J Jx μ hy0 h0
 have hy:=fun pre x suf μ h1 h2=>fn_bool (hy0 pre x suf μ h1 h2)
 refine zW Tryz.func173 O Tryz.ntmps173 Tryz.results173 O ?_
 intro z hz
 refine zK O<|zQ yN zO O<|G O<|zS O O (W O ok174 (walk_con e he y J Jx [] _ (fun pre x suf μ h1 h2=>hy pre x suf μ h1 h2) h0) ⟨zB,O,zB,O,T⟩) ?_
 rintro _ m0 ⟨y0,rfl,t0,f0⟩
 refine zA ?_
 repeat (first|refine qZ ?_|refine qV ?_)
 refine yP<|U ?_
 cases y0
 · exact .inr (f0 rfl)
 · exact .inl (t0 rfl)
theorem expr_validNode (e:Ex) (he:e.wt<=6000000000000):
    Pur cfg 213 [vE e] (vI (bS e)):=by
 refine zW Tryz.func213 O Tryz.ntmps213 Tryz.results213 O ?_
 intro z hz
 obtain ⟨hL,hI,hA⟩:=e.parts he
 refine R O<|zS O O (qP O O) ?_
 rintro _ _ ⟨b1,rfl,rfl⟩
 refine zS O O (yZ O zr36) ?_
 rintro _ _ ⟨b2,rfl,rfl⟩
 refine zA<|zF<|zP<|R O<|zQ yN (A 1 O) O<|qS O ok241 (expr_syntax e he) ⟨zB,O,T⟩<|wE O<|G O<|zA<|zD O (fun c1=>?_) (fun c1=>?_)
 ·try simp only [sx] at c1
  refine R O<|Y 0 sz36 O<|zA<|zN<|fin1 (wR zJa O (A 0 O) O) ?_
  rw [bS,c1];rfl
 ·try simp only [sx] at c1
  refine R O<|zQ yN (A 1 O) O<|qS O ok242 (expr_names e he) ⟨zB,O,T⟩<|wE O<|G O<|zA<|zD O (fun c2=>?_) (fun c2=>?_)
  ·try simp only [sx] at c2
   refine R O<|Y 0 sz36 O<|zA<|zN<|fin1 (wR zJa O (A 0 O) O) ?_
   rw [bS,c1,c2];rfl
  ·try simp only [sx] at c2
   refine R O<|zQ yN (A 1 O) O<|qS O ok243 (expr_rank e he) ⟨zB,O,T⟩<|wE O<|G O<|zA<|zD O (fun c3=>?_) (fun c3=>?_)
   ·try simp only [sx] at c3
    refine R O<|Y 0 sz36 O<|zA<|zN<|fin1 (wR zJa O (A 0 O) O) ?_
    rw [bS,c1,c2,c3];rfl
   ·try simp only [sx] at c3
    refine R O<|zQ yN (A 1 O) O<|qS O ok244 (expr_types e he) ⟨zB,O,T⟩<|wE O<|G O<|zA<|zD O (fun c4=>?_) (fun c4=>?_)
    ·try simp only [sx] at c4
     refine R O<|Y 0 sz36 O<|zA<|zN<|fin1 (wR zJa O (A 0 O) O) ?_
     rw [bS,c1,c2,c3,c4];rfl
    ·try simp only [sx] at c4
     refine R O<|zJ O kR<|zE one3 (A 1 O) O<|yE O<|G O<|rL0 O (fun g9_3=>zH O zBj O) O<|B 25 O (fun g9_3=>qC O yG O (A 1 O) O) O<|rL0 O (fun g9_3=>zH O zGp O) O<|B 27 O (fun g9_3=>qC O zUo O (A 1 O) O) O<|rLz [(26,_),(28,_)] O gv1 ⟨O,O,O,O,T⟩ (fun g9_3=>qR O ok245 (value_Valid e.Ty e.Val) ⟨zB,O,zB,O,T⟩) O<|B 29 O (fun g9_3=>wJ O O) O<|yW O (fun h=>h)<|G O<|zA<|zD O (fun c5=>?_) (fun c5=>?_)
     ·have h5:=node5 c4 c5
      refine R O<|Y 0 sz36 O<|zA<|zN<|fin1 (wR zJa O (A 0 O) O) ?_
      rw [bS,c1,c2,c3,c4,jM,h5];rfl
     ·have h5:=node5 c4 c5
      refine zI<|zF<|R O<|zQ yN (A 1 O) O<|qS O ok246 (expr_forms _) ⟨zB,O,T⟩<|zA<|zP<|zU _ (Weak.mem [true,false] O)<|zHw (ps:=[34]) hz 1 O O ok282 (forms_iter e he) (fun _ _=>O) O (fun pre=>pre.all fW=true) (fun pre=>[E.row b2 36 [cI 0]]) (fun c pre=>(c=.ret/\pre.all fW=false)) (fun c pre=>[E.row b2 36 [cI 1]]) ⟨O,O⟩ ?_ ?_ ?_ ?_
      ·intro pre x suf hxs hi z hz
       refine zK O<|zS O O (qQ [none,some 2] O zr54 O) ?_
       rintro _ _ ⟨b3,rfl,rfl⟩
       refine Y 0 sz54 O<|zA ?_
       intro z hz
       refine zP<|R O<|zQ zAj (A 0 O) O<|qS O ok247 (lin_Validate x (forms_wt he (by rw [hxs];simp))) ⟨zB,O,T⟩<|wA O<|zA<|zD O (fun c6=>?_) (fun c6=>?_)
       ·try simp only [sx] at c6
        refine R O<|Y 1 sz36 O<|zA<|zN ?_
        exact zCk (τ:=⟨[],_⟩) (Weak.mk [false,true] T O) ⟨⟨O,by simp only [List.all_append,List.all_cons,linErr_ne c6,Bool.false_and,Bool.and_false]⟩,O⟩
       ·try simp only [sx] at c6
        refine zI ?_
        exact zCk (τ:=⟨[],_⟩) (Weak.mk [false,true] T O) ⟨by simp only [List.all_append,hi,List.all_cons,List.all_nil,linErr_eq c6,Bool.and_self],O⟩
      ·intro hd
       refine R O<|Y 0 sz36 O<|zA<|zN<|fin1 (wR zJa O (A 0 O) O) ?_
       rw [bS,c1,c2,c3,c4,jM,h5,hd];rfl
      ·rintro pre x suf hxs hx
       rcases hx with ⟨hc,hx⟩
       clear hc
       repeat (first|refine zIn ?_|refine zGu ?_)
       refine fin1 (wR zJa O (A 0 O) O) ?_
       rw [bS,c1,c2,c3,c4,jM,h5,hxs,all_app_no hx];rfl
      ·rintro i pre x suf hxs hx
       rcases hx with ⟨hc,hx⟩
       cases hc
theorem expr_Size (e:Ex) (he:e.wt<=6000000000000):
    Pur cfg 212 [vE e] (vI (szT e)):=by
 refine zW Tryz.func212 O Tryz.ntmps212 Tryz.results212 O ?_
 intro z hz
 refine R O<|zS O O (qP O O) ?_
 rintro _ _ ⟨b1,rfl,rfl⟩
 refine G O<|zA<|R O<|zS O O (yZ O zr3) ?_
 rintro _ _ ⟨b2,rfl,rfl⟩
 refine Y 0 sz3 O<|zA<|zF<|R O<|zQ yN (A 1 O) O<|qS O ok144 (zNh _) ⟨zB,O,T⟩<|zA<|zP<|zU _ (Weak.mem [true,false] O)<|zHw (ps:=[6]) hz 1 O O ok173 (zLs e he) (fun _ _=>O) O (fun pre=>pre.length<=2000) (fun pre=>[E.row b2 3 [cI (pre.length:Int)]]) (fun c pre=>(c=.exit 0/\pre.length=2001)) (fun c pre=>[E.row b2 3 [cI (pre.length:Int)]]) ⟨by simp,O⟩ ?_ ?_ ?_ ?_
 ·intro pre x suf hxs hi z hz
  refine zI ?_
  intro z hz
  refine zP<|R O<|zE one3 (A 0 O) O<|qA O ⟨by omega,by omega⟩<|Y 0 sz3 O<|zA<|R O<|zE one3 (A 0 O) O<|zZ O (yH O O O)<|zA<|zD O (fun c1=>?_) (fun c1=>?_)
  ·try simp only [sx] at c1
   refine qK ?_
   exact zCk (τ:=⟨[],_⟩) (Weak.mk [true] T O) ⟨⟨O,by simp;omega⟩,(by dsimp only;rw [show ((pre++[x]).length:Int)=pre.length+1 by simp];rfl)⟩
  ·try simp only [sx] at c1
   refine zI ?_
   exact zCk (τ:=⟨[],_⟩) (Weak.mk [true] T O) ⟨(by simp;omega),(by dsimp only;rw [show ((pre++[x]).length:Int)=pre.length+1 by simp];rfl)⟩
 ·intro hd
  refine R O<|zE one3 (A 0 O) O<|G O<|zA<|zN<|zV O ?_
  exact congrArg vI (by rw [szT];omega)
 ·rintro pre x suf hxs hx
  rcases hx with ⟨hc,hx⟩
  cases hc
 ·rintro i pre x suf hxs hx
  rcases hx with ⟨hc,hx⟩
  injection hc with hc
  subst hc
  refine R O<|zE one3 (A 0 O) O<|G O<|zA<|zN<|zV O ?_
  exact congrArg vI (by rw [szT,hxs];simp at hx⊢;omega)
theorem expr_Validate (e:Ex) (he:e.wt<=6000000000000):
    Pur cfg 193 [vE e] (vI (fT e)):=by
 refine zW Tryz.func193 O Tryz.ntmps193 Tryz.results193 O ?_
 intro z hz
 refine R O<|zS O O (qP O O) ?_
 rintro _ _ ⟨b1,rfl,rfl⟩
 refine zS O O (yZ O zr36) ?_
 rintro _ _ ⟨b2,rfl,rfl⟩
 refine zA<|zF<|R O<|zQ yN (A 1 O) O<|qS O ok211 (expr_Depth e he) ⟨zB,O,T⟩<|zZ O (yH O O O)<|zA<|zD O (fun c1=>?_) (fun c1=>?_)
 ·try simp only [sx] at c1
  refine R O<|Y 0 sz36 O<|zA<|zN<|fin1 (wR zJa O (A 0 O) O) ?_
  rw [fT,zAr c1];rfl
 ·try simp only [sx] at c1
  refine zI<|zF<|R O<|zQ yN (A 1 O) O<|qS O ok212 (expr_Size e he) ⟨zB,O,T⟩<|zZ O (yH O O O)<|zA<|zD O (fun c2=>?_) (fun c2=>?_)
  ·try simp only [sx] at c2
   refine R O<|Y 0 sz36 O<|zA<|zN<|fin1 (wR zJa O (A 0 O) O) ?_
   rw [fT,kL (by omega),zAr c2];rfl
  ·try simp only [sx] at c2
   refine zI<|zF<|R O<|zQ yN (A 1 O) O<|qS O ok144 (zNh _) ⟨zB,O,T⟩<|zA<|zP<|zU _ (Weak.mem [true,false] O)<|zHw (ps:=[13]) hz 1 O O ok173 (zLs e he) (fun _ _=>O) O (fun pre=>gH pre=0) (fun pre=>[E.row b2 36 [cI 0]]) (fun c pre=>(c=.ret/\¬gH pre=0)) (fun c pre=>[E.row b2 36 [cI (gH pre)]]) ⟨O,O⟩ ?_ ?_ ?_ ?_
   ·intro pre x suf hxs hi z hz
    have hxw:x.wt<=6000000000000:=by have:=zEv e x (by rw [hxs];simp);omega
    refine zK O<|zS O O (qQ [none,none,none,none,none,none,none,none,none,none,some 2,some 4,some 13] O zr57 O) ?_
    rintro _ _ ⟨b3,rfl,rfl⟩
    refine Y 0 sz57 O<|zA ?_
    intro z hz
    refine zP<|R O<|zQ yN (A 0 O) O<|qS O ok213 (expr_validNode x hxw) ⟨zB,O,T⟩<|G O<|zA<|R O<|G O<|wA O<|zA<|zD O (fun c3=>?_) (fun c3=>?_)
    ·try simp only [sx] at c3
     refine R O<|G O<|Y 1 sz36 O<|zA<|zN ?_
     exact zCk (τ:=⟨[],_⟩) (Weak.mk [false,true] T O) ⟨⟨O,by rw [errs_one hi c3];exact c3⟩,(by dsimp only;rw [errs_one hi c3];rfl)⟩
    ·try simp only [sx] at c3
     refine zI ?_
     exact zCk (τ:=⟨[],_⟩) (Weak.mk [false,true] T O) ⟨(by dsimp only;rw [zFq,hi,gH,c3];rfl),O⟩
   ·intro hd
    refine R O<|Y 0 sz36 O<|zA<|zN<|fin1 (wR zJa O (A 0 O) O) ?_
    rw [fT,kL (by omega),kL (by omega),cond_false,cond_false,fM,hd]
   ·rintro pre x suf hxs hx
    rcases hx with ⟨hc,hx⟩
    clear hc
    repeat (first|refine zIn ?_|refine zGu ?_)
    refine fin1 (wR zJa O (A 0 O) O) ?_
    rw [fT,kL (by omega),kL (by omega),cond_false,cond_false,fM,hxs,errs_pre (suf:=suf) hx]
   ·rintro i pre x suf hxs hx
    rcases hx with ⟨hc,hx⟩
    cases hc
end Go.W
