/-
  What functions compute.
  Conditions: none.
-/
import Derived.Test.YtlfjpejkoccibaaGreatDoorWC
set_option linter.unusedSimpArgs false
set_option linter.unusedVariables false
set_option maxRecDepth 10000
namespace Go.W
open Go Go.Eng Go.Proofs Go.L41 Go.Br
attribute [local irreducible] AWP RWP TD fH
theorem ok102:bA Tryz.prog 102=true:=by kernel_rfl
theorem ok123:bA Tryz.prog 123=true:=by kernel_rfl
theorem ok131:bA Tryz.prog 131=true:=by kernel_rfl
theorem ok158:bA Tryz.prog 158=true:=by kernel_rfl
theorem ok159:bA Tryz.prog 159=true:=by kernel_rfl
theorem ok169:bA Tryz.prog 169=true:=by kernel_rfl
theorem ok206:bA Tryz.prog 206=true:=by kernel_rfl
theorem ok207:bA Tryz.prog 207=true:=by kernel_rfl
theorem ok208:bA Tryz.prog 208=true:=by kernel_rfl
theorem ok236:bA Tryz.prog 236=true:=by kernel_rfl
theorem ok237:bA Tryz.prog 237=true:=by kernel_rfl
theorem ok238:bA Tryz.prog 238=true:=by kernel_rfl
theorem ok239:bA Tryz.prog 239=true:=by kernel_rfl
theorem ok240:bA Tryz.prog 240=true:=by kernel_rfl
theorem zKc:lV Tryz.prog 51=true:=by kernel_rfl
theorem sz3:(Tryz.prog.info? 3).map (·.size)=some 1:=by kernel_rfl
theorem sz51:(Tryz.prog.info? 51).map (·.size)=some 1:=by kernel_rfl
theorem zr3:fS Tryz.prog 3=some [(Value.int IntKind.i64 0)]:=by kernel_rfl
theorem zr51:fS Tryz.prog 51=some [(Value.int IntKind.i64 0)]:=by kernel_rfl
theorem expr_forms (e:Ex):
    Pur cfg 131 [vE e] (.c (.fn (.func 169) [] [.iptr e.cs])):=by
 refine zT Tryz.func131 O Tryz.ntmps131 Tryz.results131 O ?_
 intro z hz
 refine F O<|zV O O (qN O O) ?_
 rintro _ _ ⟨b1,rfl,rfl⟩
 refine A O<|H<|F O<|zU O (zEe O O O O O)<|yI _ (yS 0 O 3 (.c (.fn _ _ [_])) (PLe.fn ⟨.inr ⟨O,O⟩,T⟩))<|A O<|H<|o<|X O ?_
 exact O
theorem forms_iter (e:Ex) (he:e.wt<=6000000000000):
    xD cfg 169 [] [.iptr e.cs] (bQ e) fun l=>[bZ l]:=by
 obtain ⟨hL,hI,hA⟩:=e.parts he
 intro y J Jx μ hy0 h0
 have hy:=fun pre x suf μ h1 h2=>fn_bool (hy0 pre x suf μ h1 h2)
 refine zT Tryz.func169 O Tryz.ntmps169 Tryz.results169 O ?_
 intro z hz
 refine zK<|F O<|A O<|qO O zDe<|zP yX qA O<|zV O O (zAh O O (hy [] e.Lin _ _ O h0) ⟨G,O,T⟩) ?_
 rintro _ m0 ⟨y0,rfl,t0,f0⟩
 refine kQ O<|H<|zD O (fun c1=>?_) (fun c1=>?_)
 ·try simp only [I] at c1
  refine o<|fin0 ?_
  exact .inr ⟨[],e.Lin,_,O,f0 c1⟩
 ·try simp only [I] at c1
  refine zM<|F O<|qO O kX<|zJ wO qA O<|qC O d<|A O<|H<|zR<|zY ⟨[(15,.c _),(0,.c _),(13,.c _),(14,.c _)],_⟩ (Weak.regs ⟨G,G,G,G,T⟩)<|zDf 1 O (Nat×List E) (fun ⟨k,m⟩=>[(15,vI k)]) (fun ⟨k,m⟩=>m) (fun ⟨k,m⟩=>k<=e.Idx.length/\(J (e.Lin::(e.Idx.take k).flatMap ixF) m)) (fun ⟨k,m⟩=>e.Idx.length-k) ⟨⟨0,m0⟩,⟨by omega,t0 c1⟩,Weak.regs ⟨G,G,G,G,T⟩⟩ ?_
  rintro ⟨k,m⟩ ⟨hk,hJ⟩
  refine F O<|yD O<|H<|zK<|zD O (fun c2=>?_) (fun c2=>?_)
  ·try simp only [I] at c2
   obtain ⟨x,hx⟩:=qY e.Idx k (by omega)
   have hxw:=Ex.idx_wt (zZ hx)
   refine zM<|zK<|zR<|F O<|qD O d (by omega) (Q (by assumption))<|zP zIn qA O<|zV O O (qE [none,some 2,none,some 2] O zr72 O) ?_
   rintro _ _ ⟨b1,rfl,rfl⟩
   refine Y 0 sz72 O<|yI _ (yS 0 O 4 _ PLe.ptr)<|H<|zK<|F O<|A O<|qO O zEp<|zP yX qA O<|zV O O (zAh O O (hy _ x.Lin _ _ (forms_at hx) hJ) ⟨G,O,T⟩) ?_
   rintro _ m1 ⟨y1,rfl,t1,f1⟩
   refine kQ O<|H<|zD O (fun c3=>?_) (fun c3=>?_)
   ·try simp only [I] at c3
    refine o<|fin0 ?_
    exact .inr ⟨_,x.Lin,_,forms_at hx,f1 c3⟩
   ·try simp only [I] at c3
    refine zM<|F O<|qO O zAr<|zJ zDw qA O<|qC O el70<|A O<|H<|zR<|zY ⟨[(27,.c _),(0,.c _),(13,.c _),(14,.c _),(15,.c _),(25,.c _),(26,.c _)],_⟩ (Weak.regs ⟨G,G,G,G,G,G,G,T⟩)<|zDf 1 O (Nat×List E) (fun ⟨j,n⟩=>[(27,vI j)]) (fun ⟨j,n⟩=>n) (fun ⟨j,n⟩=>j<=x.At.length/\(J ((e.Lin::(e.Idx.take k).flatMap ixF)++[x.Lin]++x.At.take j) n)) (fun ⟨j,n⟩=>x.At.length-j) ⟨⟨0,m1⟩,⟨by omega,by simpa using t1 c3⟩,Weak.regs ⟨G,G,G,G,G,G,G,T⟩⟩ ?_
    rintro ⟨j,n⟩ ⟨hj,hJ2⟩
    refine F O<|yD O<|H<|zK<|zD O (fun c4=>?_) (fun c4=>?_)
    ·try simp only [I] at c4
     obtain ⟨l,hl⟩:=qY x.At j (by omega)
     refine zM<|zK<|zR<|F O<|qD O el70 (by omega) (Q (by assumption))<|zP yX qA O<|zV O O (qE [none,some 2] O v O) ?_
     rintro _ _ ⟨b2,rfl,rfl⟩
     refine Y 0 sz41 O<|yI _ (yS 0 O 6 _ PLe.ptr)<|H<|F O<|A O<|zP yX qA O<|zV O O (zAh O O (hy _ l _ _ (forms_at2 hx hl) hJ2) ⟨G,O,T⟩) ?_
     rintro _ m2 ⟨y2,rfl,t2,f2⟩
     refine kQ O<|H<|zD O (fun c5=>?_) (fun c5=>?_)
     ·try simp only [I] at c5
      refine o<|fin0 ?_
      exact .inr ⟨_,l,_,forms_at2 hx hl,f2 c5⟩
     ·try simp only [I] at c5
      refine zM<|zQ O<|qJ O ⟨by omega,by omega⟩<|A O<|H ?_
      refine ⟨⟨j+1,m2⟩,⟨by omega,by rw [yL hl];simpa [List.append_assoc] using t2 c5⟩,(by show x.At.length-(j+1)<x.At.length-j;omega),Weak.regs ⟨G,G,G,G,G,G,G,T⟩⟩
    ·try simp only [I] at c4
     refine qQ<|zQ O<|qJ O ⟨by omega,by omega⟩<|A O<|H ?_
     refine ⟨⟨k+1,n⟩,⟨by omega,by rw [forms_next hx];rw [yU (l:=x.At) (by omega)] at hJ2;exact hJ2⟩,(by show e.Idx.length-(k+1)<e.Idx.length-k;omega),Weak.regs ⟨G,G,G,G,T⟩⟩
  ·try simp only [I] at c2
   refine qQ ?_
   repeat (first|refine zJg ?_|refine zHk ?_)
   refine zVz<|fin0 ?_
   rw [yU (by omega)] at hJ;exact .inl hJ
theorem zOs (e:Ex):
    Pur cfg 123 [vE e] (.c (.fn (.func 158) [] [.iptr e.cs])):=by
 refine zT Tryz.func123 O Tryz.ntmps123 Tryz.results123 O ?_
 intro z hz
 refine F O<|zV O O (qN O O) ?_
 rintro _ _ ⟨b1,rfl,rfl⟩
 refine A O<|H<|F O<|zU O (zEe O O O O O)<|yI _ (yS 0 O 3 (.c (.fn _ _ [_])) (PLe.fn ⟨.inr ⟨O,O⟩,T⟩))<|A O<|H<|o<|X O ?_
 exact O
theorem walk_step (e:Ex) (he:e.wt<=6000000000000) (ih:∀a,a∈e.Args->a.wt<=6000000000000->(∀(y:C) (J Jx:List Ex->List E->Prop) (pre0:List Ex) (μ:List E),(∀pre x suf μ,dG a=pre++x::suf->J (pre0++pre) μ->FnCon cfg y [vE x] μ fun r μ'=>∃b,r=.c (.lit (.bool b))/\(b=true->J (pre0++pre++[x]) μ')/\(b=false->Jx (pre0++pre++[x]) μ'))->J pre0 μ->Con cfg 159 [vE a,.c y] μ fun r μ'=>∃b,r=.c (.lit (.bool b))/\(b=true->J (pre0++dG a) μ')/\(b=false->∃pre x suf,dG a=pre++x::suf/\Jx (pre0++pre++[x]) μ'))):
    ∀(y:C) (J Jx:List Ex->List E->Prop) (pre0:List Ex) (μ:List E),(∀pre x suf μ,dG e=pre++x::suf->J (pre0++pre) μ->FnCon cfg y [vE x] μ fun r μ'=>∃b,r=.c (.lit (.bool b))/\(b=true->J (pre0++pre++[x]) μ')/\(b=false->Jx (pre0++pre++[x]) μ'))->J pre0 μ->Con cfg 159 [vE e,.c y] μ fun r μ'=>∃b,r=.c (.lit (.bool b))/\(b=true->J (pre0++dG e) μ')/\(b=false->∃pre x suf,dG e=pre++x::suf/\Jx (pre0++pre++[x]) μ'):=by
 obtain ⟨hL,hI,hA⟩:=e.parts he
 intro y J Jx pre0 μ hy h0
 refine zT Tryz.func159 O Tryz.ntmps159 Tryz.results159 O ?_
 intro z hz
 refine F O<|zV O O (qN O O) ?_
 rintro _ _ ⟨b1,rfl,rfl⟩
 refine yI _ (yS 0 O 2 _ PLe.ptr)<|A O<|H<|zK<|F O<|A O<|zP kA qA O<|zV O O (zAh O O (hy [] e _ _ (wE e) (show J (pre0++[]) μ by simpa using h0)) ⟨G,O,T⟩) ?_
 rintro _ m0 ⟨y0,rfl,t0,f0⟩
 refine kQ O<|H<|zD O (fun c1=>?_) (fun c1=>?_)
 ·try simp only [I] at c1
  refine F O<|A O<|H<|o<|X O ?_
  exact ⟨false,O,fun h=>(by cases h),fun _=>⟨[],e,_,wE e,by simpa using f0 c1⟩⟩
 ·try simp only [I] at c1
  refine zM<|zK<|F O<|qO O wL<|zJ zBa qA O<|qC O g<|A O<|H<|zR<|zY ⟨[(14,.c _),(1,.c _),(12,.c _),(13,.c _)],_⟩ (Weak.regs ⟨G,G,G,G,T⟩)<|zDf 1 O (Nat×List E) (fun ⟨k,m⟩=>[(14,vI k)]) (fun ⟨k,m⟩=>m) (fun ⟨k,m⟩=>k<=e.Args.length/\(J (pre0++e::bO (e.Args.take k)) m)) (fun ⟨k,m⟩=>e.Args.length-k) ⟨⟨0,m0⟩,⟨by omega,by simpa [bO] using t0 c1⟩,Weak.regs ⟨G,G,G,G,T⟩⟩ ?_
  rintro ⟨k,m⟩ ⟨hk,hJ⟩
  refine F O<|yD O<|H<|zK<|zD O (fun c2=>?_) (fun c2=>?_)
  ·try simp only [I] at c2
   obtain ⟨a,ha⟩:=qY e.Args k (by omega)
   refine zM<|zK<|zR<|F O<|qD O g (by omega) (zEn (by assumption))<|zP kA qA O<|zV O O (qE [none,none,none,none,none,none,none,none,none,none,some 2,some 4,some 13] O zr44 O) ?_
   rintro _ _ ⟨b2,rfl,rfl⟩
   refine Y 0 sz44 O<|yI _ (yS 0 O 6 _ PLe.ptr)<|H<|F O<|zP kA qA O<|A O<|zV O O (zBe O ok159 (ih a (zZ ha) (by have:=Ex.arg_wt (zZ ha);omega) y J Jx (pre0++e::bO (e.Args.take k)) _ (fun pre x suf μ hx hj=>by have:=hy _ x _ μ (nodes_at ha hx) (by simpa using hj);simpa using this) hJ) ⟨G,O,G,O,T⟩) ?_
   rintro _ m1 ⟨y1,rfl,t1,f1⟩
   refine kQ O<|H<|zD O (fun c3=>?_) (fun c3=>?_)
   ·try simp only [I] at c3
    refine F O<|A O<|H<|o<|X O ?_
    obtain ⟨pre,x,suf,h1,h2⟩:=f1 c3
    exact ⟨false,O,fun h=>(by cases h),fun _=>⟨_,x,_,nodes_at ha h1,by simpa using h2⟩⟩
   ·try simp only [I] at c3
    refine zM<|zQ O<|qJ O ⟨by omega,by omega⟩<|A O<|H ?_
    refine ⟨⟨k+1,m1⟩,⟨by omega,by rw [zVc ha];simpa using t1 c3⟩,(by show e.Args.length-(k+1)<e.Args.length-k;omega),Weak.regs ⟨G,G,G,G,T⟩⟩
  ·try simp only [I] at c2
   refine qQ<|F O<|A O<|H<|o<|X O ?_
   rw [yU (by omega)] at hJ
   exact ⟨true,O,fun _=>(by rw [wE];exact hJ),fun h=>(by cases h)⟩
theorem walk_con (e:Ex) (he:e.wt<=6000000000000):∀(y:C) (J Jx:List Ex->List E->Prop) (pre0:List Ex) (μ:List E),(∀pre x suf μ,dG e=pre++x::suf->J (pre0++pre) μ->FnCon cfg y [vE x] μ fun r μ'=>∃b,r=.c (.lit (.bool b))/\(b=true->J (pre0++pre++[x]) μ')/\(b=false->Jx (pre0++pre++[x]) μ'))->J pre0 μ->Con cfg 159 [vE e,.c y] μ fun r μ'=>∃b,r=.c (.lit (.bool b))/\(b=true->J (pre0++dG e) μ')/\(b=false->∃pre x suf,dG e=pre++x::suf/\Jx (pre0++pre++[x]) μ'):=by
  induction e using Ex.ind with
  |_ e ih=>exact walk_step e he ih
theorem zNd (e:Ex) (he:e.wt<=6000000000000):
    xD cfg 158 [] [.iptr e.cs] (dG e) fun x=>[vE x]:=by
 intro y J Jx μ hy0 h0
 have hy:=fun pre x suf μ h1 h2=>fn_bool (hy0 pre x suf μ h1 h2)
 refine zT Tryz.func158 O Tryz.ntmps158 Tryz.results158 O ?_
 intro z hz
 refine zQ O<|zP kA qA O<|A O<|zV O O (zBe O ok159 (walk_con e he y J Jx [] _ (fun pre x suf μ h1 h2=>hy pre x suf μ h1 h2) h0) ⟨G,O,G,O,T⟩) ?_
 rintro _ m0 ⟨y0,rfl,t0,f0⟩
 refine H ?_
 repeat (first|refine zJg ?_|refine zHk ?_)
 refine zVz<|fin0 ?_
 cases y0
 · exact .inr (f0 rfl)
 · exact .inl (t0 rfl)
theorem expr_validNode (e:Ex) (he:e.wt<=6000000000000):
    Pur cfg 208 [vE e] (vI (dA e)):=by
 refine zT Tryz.func208 O Tryz.ntmps208 Tryz.results208 O ?_
 intro z hz
 obtain ⟨hL,hI,hA⟩:=e.parts he
 refine F O<|zV O O (qN O O) ?_
 rintro _ _ ⟨b1,rfl,rfl⟩
 refine zV O O (yT O zr51) ?_
 rintro _ _ ⟨b2,rfl,rfl⟩
 refine H<|zK<|zR<|F O<|zP kA (R 1 O) O<|qI O ok236 (expr_syntax e he) ⟨G,O,T⟩<|kQ O<|A O<|H<|zD O (fun c1=>?_) (fun c1=>?_)
 ·try simp only [I] at c1
  refine F O<|Y 0 sz51 O<|H<|o<|fin1 (wC zKc O (R 0 O) O) ?_
  rw [dA,c1];rfl
 ·try simp only [I] at c1
  refine F O<|zP kA (R 1 O) O<|qI O ok237 (expr_names e he) ⟨G,O,T⟩<|kQ O<|A O<|H<|zD O (fun c2=>?_) (fun c2=>?_)
  ·try simp only [I] at c2
   refine F O<|Y 0 sz51 O<|H<|o<|fin1 (wC zKc O (R 0 O) O) ?_
   rw [dA,c1,c2];rfl
  ·try simp only [I] at c2
   refine F O<|zP kA (R 1 O) O<|qI O ok238 (expr_rank e he) ⟨G,O,T⟩<|kQ O<|A O<|H<|zD O (fun c3=>?_) (fun c3=>?_)
   ·try simp only [I] at c3
    refine F O<|Y 0 sz51 O<|H<|o<|fin1 (wC zKc O (R 0 O) O) ?_
    rw [dA,c1,c2,c3];rfl
   ·try simp only [I] at c3
    refine F O<|zP kA (R 1 O) O<|qI O ok239 (expr_types e he) ⟨G,O,T⟩<|kQ O<|A O<|H<|zD O (fun c4=>?_) (fun c4=>?_)
    ·try simp only [I] at c4
     refine F O<|Y 0 sz51 O<|H<|o<|fin1 (wC zKc O (R 0 O) O) ?_
     rw [dA,c1,c2,c3,c4];rfl
    ·try simp only [I] at c4
     refine F O<|zG O wF<|zJ one3 (R 1 O) O<|yF O<|A O<|rL0 O (fun g9_3=>zE O zFt O) O<|B 25 O (fun g9_3=>qB O yN O (R 1 O) O) O<|rL0 O (fun g9_3=>zE O zKn O) O<|B 27 O (fun g9_3=>qB O agg36 O (R 1 O) O) O<|rLz [(26,_),(28,_)] O gv1 ⟨O,O,O,O,T⟩ (fun g9_3=>qM O ok240 (value_Valid e.Ty e.Val) ⟨G,O,G,O,T⟩) O<|B 29 O (fun g9_3=>kW O O) O<|yQ O (fun h=>h)<|A O<|H<|zD O (fun c5=>?_) (fun c5=>?_)
     ·have h5:=node5 c4 c5
      refine F O<|Y 0 sz51 O<|H<|o<|fin1 (wC zKc O (R 0 O) O) ?_
      rw [dA,c1,c2,c3,c4,jF,h5];rfl
     ·have h5:=node5 c4 c5
      refine zM<|zK<|F O<|zP kA (R 1 O) O<|qI O ok131 (expr_forms _) ⟨G,O,T⟩<|H<|zR<|zY _ (Weak.mem [true,false] O)<|zFw (ps:=[34]) hz 1 O O ok169 (forms_iter e he) (fun _ _=>O) O (fun pre=>pre.all bJ=true) (fun pre=>[E.row b2 51 [cI 0]]) (fun c pre=>(c=.ret/\pre.all bJ=false)) (fun c pre=>[E.row b2 51 [cI 1]]) ⟨O,O⟩ ?_ ?_ ?_ ?_
      ·intro pre x suf hxs hi z hz
       refine zQ O<|zV O O (qE [none,some 2] O v O) ?_
       rintro _ _ ⟨b3,rfl,rfl⟩
       refine Y 0 sz41 O<|H ?_
       intro z hz
       refine zR<|F O<|zP yX (R 0 O) O<|qI O ok102 (zDd x (forms_wt he (by rw [hxs];simp))) ⟨G,O,T⟩<|yM O<|H<|zD O (fun c6=>?_) (fun c6=>?_)
       ·try simp only [I] at c6
        refine F O<|Y 1 sz51 O<|H<|o ?_
        exact zCm (τ:=⟨[],_⟩) (Weak.mk [false,true] T O) ⟨⟨O,by simp only [List.all_append,List.all_cons,zKi c6,Bool.false_and,Bool.and_false]⟩,O⟩
       ·try simp only [I] at c6
        refine zM ?_
        exact zCm (τ:=⟨[],_⟩) (Weak.mk [false,true] T O) ⟨by simp only [List.all_append,hi,List.all_cons,List.all_nil,zKj c6,Bool.and_self],O⟩
      ·intro hd
       refine F O<|Y 0 sz51 O<|H<|o<|fin1 (wC zKc O (R 0 O) O) ?_
       rw [dA,c1,c2,c3,c4,jF,h5,hd];rfl
      ·rintro pre x suf hxs hx
       rcases hx with ⟨hc,hx⟩
       clear hc
       repeat (first|refine zNj ?_|refine zLt ?_)
       refine fin1 (wC zKc O (R 0 O) O) ?_
       rw [dA,c1,c2,c3,c4,jF,h5,hxs,all_app_no hx];rfl
      ·rintro i pre x suf hxs hx
       rcases hx with ⟨hc,hx⟩
       cases hc
theorem expr_Size (e:Ex) (he:e.wt<=6000000000000):
    Pur cfg 207 [vE e] (vI (szT e)):=by
 refine zT Tryz.func207 O Tryz.ntmps207 Tryz.results207 O ?_
 intro z hz
 refine F O<|zV O O (qN O O) ?_
 rintro _ _ ⟨b1,rfl,rfl⟩
 refine A O<|H<|F O<|zV O O (yT O zr3) ?_
 rintro _ _ ⟨b2,rfl,rfl⟩
 refine Y 0 sz3 O<|H<|zK<|F O<|zP kA (R 1 O) O<|qI O ok123 (zOs _) ⟨G,O,T⟩<|H<|zR<|zY _ (Weak.mem [true,false] O)<|zFw (ps:=[6]) hz 1 O O ok158 (zNd e he) (fun _ _=>O) O (fun pre=>pre.length<=2000) (fun pre=>[E.row b2 3 [cI (pre.length:Int)]]) (fun c pre=>(c=.exit 0/\pre.length=2001)) (fun c pre=>[E.row b2 3 [cI (pre.length:Int)]]) ⟨by simp,O⟩ ?_ ?_ ?_ ?_
 ·intro pre x suf hxs hi z hz
  refine zM ?_
  intro z hz
  refine zR<|F O<|zJ one3 (R 0 O) O<|qJ O ⟨by omega,by omega⟩<|Y 0 sz3 O<|H<|F O<|zJ one3 (R 0 O) O<|zU O (yG O O O)<|H<|zD O (fun c1=>?_) (fun c1=>?_)
  ·try simp only [I] at c1
   refine qQ ?_
   exact zCm (τ:=⟨[],_⟩) (Weak.mk [true] T O) ⟨⟨O,by simp;omega⟩,(by dsimp only;rw [show ((pre++[x]).length:Int)=pre.length+1 by simp];rfl)⟩
  ·try simp only [I] at c1
   refine zM ?_
   exact zCm (τ:=⟨[],_⟩) (Weak.mk [true] T O) ⟨(by simp;omega),(by dsimp only;rw [show ((pre++[x]).length:Int)=pre.length+1 by simp];rfl)⟩
 ·intro hd
  refine F O<|zJ one3 (R 0 O) O<|A O<|H<|o<|X O ?_
  exact congrArg vI (by rw [szT];omega)
 ·rintro pre x suf hxs hx
  rcases hx with ⟨hc,hx⟩
  cases hc
 ·rintro i pre x suf hxs hx
  rcases hx with ⟨hc,hx⟩
  injection hc with hc
  subst hc
  refine F O<|zJ one3 (R 0 O) O<|A O<|H<|o<|X O ?_
  exact congrArg vI (by rw [szT,hxs];simp at hx⊢;omega)
theorem expr_Validate (e:Ex) (he:e.wt<=6000000000000):
    Pur cfg 188 [vE e] (vI (fP e)):=by
 refine zT Tryz.func188 O Tryz.ntmps188 Tryz.results188 O ?_
 intro z hz
 refine F O<|zV O O (qN O O) ?_
 rintro _ _ ⟨b1,rfl,rfl⟩
 refine zV O O (yT O zr51) ?_
 rintro _ _ ⟨b2,rfl,rfl⟩
 refine H<|zK<|F O<|zP kA (R 1 O) O<|qI O ok206 (expr_Depth e he) ⟨G,O,T⟩<|zU O (yG O O O)<|H<|zD O (fun c1=>?_) (fun c1=>?_)
 ·try simp only [I] at c1
  refine F O<|Y 0 sz51 O<|H<|o<|fin1 (wC zKc O (R 0 O) O) ?_
  rw [fP,wR c1];rfl
 ·try simp only [I] at c1
  refine zM<|zK<|F O<|zP kA (R 1 O) O<|qI O ok207 (expr_Size e he) ⟨G,O,T⟩<|zU O (yG O O O)<|H<|zD O (fun c2=>?_) (fun c2=>?_)
  ·try simp only [I] at c2
   refine F O<|Y 0 sz51 O<|H<|o<|fin1 (wC zKc O (R 0 O) O) ?_
   rw [fP,yO (by omega),wR c2];rfl
  ·try simp only [I] at c2
   refine zM<|zK<|F O<|zP kA (R 1 O) O<|qI O ok123 (zOs _) ⟨G,O,T⟩<|H<|zR<|zY _ (Weak.mem [true,false] O)<|zFw (ps:=[13]) hz 1 O O ok158 (zNd e he) (fun _ _=>O) O (fun pre=>gX pre=0) (fun pre=>[E.row b2 51 [cI 0]]) (fun c pre=>(c=.ret/\¬gX pre=0)) (fun c pre=>[E.row b2 51 [cI (gX pre)]]) ⟨O,O⟩ ?_ ?_ ?_ ?_
   ·intro pre x suf hxs hi z hz
    have hxw:x.wt<=6000000000000:=by have:=zFp e x (by rw [hxs];simp);omega
    refine zQ O<|zV O O (qE [none,none,none,none,none,none,none,none,none,none,some 2,some 4,some 13] O zr44 O) ?_
    rintro _ _ ⟨b3,rfl,rfl⟩
    refine Y 0 sz44 O<|H ?_
    intro z hz
    refine zR<|F O<|zP kA (R 0 O) O<|qI O ok208 (expr_validNode x hxw) ⟨G,O,T⟩<|A O<|H<|F O<|A O<|yM O<|H<|zD O (fun c3=>?_) (fun c3=>?_)
    ·try simp only [I] at c3
     refine F O<|A O<|Y 1 sz51 O<|H<|o ?_
     exact zCm (τ:=⟨[],_⟩) (Weak.mk [false,true] T O) ⟨⟨O,by rw [errs_one hi c3];exact c3⟩,(by dsimp only;rw [errs_one hi c3];rfl)⟩
    ·try simp only [I] at c3
     refine zM ?_
     exact zCm (τ:=⟨[],_⟩) (Weak.mk [false,true] T O) ⟨(by dsimp only;rw [zGh,hi,gX,c3];rfl),O⟩
   ·intro hd
    refine F O<|Y 0 sz51 O<|H<|o<|fin1 (wC zKc O (R 0 O) O) ?_
    rw [fP,yO (by omega),yO (by omega),cond_false,cond_false,fZ,hd]
   ·rintro pre x suf hxs hx
    rcases hx with ⟨hc,hx⟩
    clear hc
    repeat (first|refine zNj ?_|refine zLt ?_)
    refine fin1 (wC zKc O (R 0 O) O) ?_
    rw [fP,yO (by omega),yO (by omega),cond_false,cond_false,fZ,hxs,errs_pre (suf:=suf) hx]
   ·rintro i pre x suf hxs hx
    rcases hx with ⟨hc,hx⟩
    cases hc
end Go.W
