/-
  Walks: what functions of the program compute. Printed by wip/gen/mk2.py.
  Walks: what functions of the program compute. Printed by wip/gen/mk2.py.
  Walks: what functions of the program compute. Printed by wip/gen/mk2.py.
  Walks: what functions of the program compute. Printed by wip/gen/mk2.py.
  Walks: what functions of the program compute. Printed by wip/gen/mk2.py.
  Conditions: none.
-/
import Derived.Test.YtmmiedgoamlhpaaGreatDoorGP
import Derived.Test.YtmmiedgoamlhpaaGreatDoorPlainF
set_option linter.unusedSimpArgs false
set_option linter.unusedVariables false
section
set_option maxRecDepth 10000
namespace Go.W
open Go Go.Eng Go.Proofs Go.L41 Go.Br
attribute [local irreducible] AWP RWP TD finQ
def WX (e:Ex):Prop:=∀(b:Nat) (p sv:Value) (t:ByteArray),NN sv->(p=.pointer none∨p=bldP b)->t.size+300*e.wt<=80000000000000->
  Con cfgI 152 [vBp b,vE e] (wblE b p sv t) (fun r μ'=>r=.tup []/\∃sv',NN sv'/\μ'=wblE b (bldP b) sv' (t++exS e))
theorem argLen' {e:Ex} (h:partE e=0):(e.Args.length:Int)=nArgs e.Op:=zRz (zBe h)
theorem par_yes {k o:Int} {t s:ByteArray} (h:k<=precI o):t++s=t++parS k o s:=by unfold parS;rw [if_pos h]
theorem par_no {k o:Int} {t s:ByteArray} (h:¬k<=precI o):t++bs [40]++s++bs [41]=t++parS k o s:=by unfold parS;rw [if_neg h];simp only [kM];first|done|rfl
theorem call_c {first:ByteArray} {k:Nat} (c:(decide (0<(k:Int))|| !decide (first=⟨#[]⟩))=true):0<(if first=bs [] then 0 else 1)+k:=by
  by_cases h:first=bs []
  · rw [if_pos h]
    rw [show decide (first=⟨#[]⟩)=true from decide_eq_true h] at c
    simp at c;omega
  · rw [if_neg h];omega
theorem call_d {first:ByteArray} {k:Nat} (c:(decide (0<(k:Int))|| !decide (first=⟨#[]⟩))=false):¬0<(if first=bs [] then 0 else 1)+k:=by
  rw [Bool.or_eq_false_iff,decide_eq_false_iff_not,Bool.not_eq_false',decide_eq_true_eq] at c
  rw [if_pos (show first=bs [] from c.2)];omega
theorem exc9 {e:Ex} (h:e.Op=9):exS e=callS (bs [109,105,110]) (bs []) (e.Args.map exS):=by rw [zEd,nodeS,h];rfl
theorem exc10 {e:Ex} (h:e.Op=10):exS e=callS (bs [109,97,120]) (bs []) (e.Args.map exS):=by rw [zEd,nodeS,h];rfl
theorem exc11 {e:Ex} (h:e.Op=11):exS e=callS (bs [105,102]) (bs []) (e.Args.map exS):=by rw [zEd,nodeS,h];rfl
theorem exc12 {e:Ex} (h:e.Op=12):exS e=callS (bs [99,97,115,116]) (tyS e.Ty) (e.Args.map exS):=by rw [zEd,nodeS,h];rfl
theorem exb {e a c:Ex} (h1:¬e.Op=1) (h2:¬e.Op=2) (h3:¬e.Op=3) (h4:¬e.Op=8) (h5:¬e.Op=18) (h6:¬e.Op=9) (h7:¬e.Op=10) (h8:¬e.Op=11) (h9:¬e.Op=12) (hab:e.Args=[a,c]):
    exS e=parS (precI e.Op) a.Op (exS a)++(bs [32]++symS e.Op++bs [32])++parS (precI e.Op+1) c.Op (exS c):=by
  rw [zEd,nodeS,if_neg h1,if_neg h2,if_neg h3,if_neg h4,if_neg h5,if_neg h6,if_neg h7,if_neg h8,if_neg h9,hab];rfl
theorem one_arg {e:Ex} (h:partE e=0) (ho:e.Op=8∨e.Op=18):∃a,e.Args=[a]/\a∈e.Args:=by
  have hl:=argLen' h
  have h4:nArgs e.Op=1:=by rcases ho with ho|ho<;>(rw [ho];decide)
  match he:e.Args,hl with
  |[a],_=>exact ⟨a,rfl,by simp⟩
  |[],hl=>rw [h4] at hl;simp at hl
  |_::_::_,hl=>rw [h4] at hl;simp at hl;omega
theorem exs_get {l:List Ex} {k:Nat} {x:Ex} (h:l[k]? =some x):(l.map exS)[k]? =some (exS x):=by rw [List.getElem?_map,h];rfl
theorem args_take {l:List Ex}:∀{k:Nat} {x:Ex},l[k]? =some x->argsWt (l.take k)+x.wt<=argsWt l:=by
  induction l with
  |nil=>intro k x h;simp at h
  |cons a r ih=>
    intro k x h
    cases k with
    |zero=>simp only [List.getElem?_cons_zero,Option.some.injEq] at h;subst h;simp [argsWt]
    |succ k=>
      have:=ih (k:=k) (x:=x) (by simpa using h)
      simp only [List.take_succ_cons,argsWt];omega
theorem comA_wt:∀(l:List Ex) (k:Nat),(∀a,a∈l->(exS a).size+100<=300*a.wt)->(comA k (l.map exS)).size<=300*argsWt l
  |[],k,_=>Nat.zero_le _
  |a::r,k,h=>by
    have h1:=comA_wt r (k+1) fun b hb=>h b (by simp [hb])
    have h2:=h a (by simp)
    rw [List.map_cons,comA,argsWt,U,U]
    have h3:(if 0<k then bs [44,32] else bs []).size<=2:=by split<;>decide
    omega
theorem el274:elemT Tryz.prog 274=some (104,4,72):=by kernel_rfl
theorem zDy:fieldT Tryz.prog 230 0=some (0,130):=by kernel_rfl
theorem ok97:callOk Tryz.prog 97=true:=by kernel_rfl
theorem ok152:callOk Tryz.prog 152=true:=by kernel_rfl
theorem ok210:callOk Tryz.prog 210=true:=by kernel_rfl
theorem ok211:callOk Tryz.prog 211=true:=by kernel_rfl
theorem ok215:callOk Tryz.prog 215=true:=by kernel_rfl
theorem ok216:callOk Tryz.prog 216=true:=by kernel_rfl
theorem ok217:callOk Tryz.prog 217=true:=by kernel_rfl
theorem ok280:callOk Tryz.prog 280=true:=by kernel_rfl
theorem zJa (e:Ex) (hx:WX e) (hz:(exS e).size+100<=300*e.wt) (b:Nat) (p sv:Value) (t:ByteArray) (k:Int) (hnn:NN sv) (hp:p=.pointer none∨p=bldP b) (hs:t.size+300*e.wt+10<=80000000000000):
    Con cfgI 215 [vBp b,vE e,vI k] (wblE b p sv t) fun r μ'=>r=.tup []/\∃sv',NN sv'/\μ'=wblE b (bldP b) sv' (t++parS k e.Op (exS e)):=by
 refine zS Tryz.func215 O Tryz.ntmps215 Tryz.results215 O ?_
 intro z hz
 refine A O<|zU O O (qN O O) ?_
 rintro _ _ ⟨b1,rfl,rfl⟩
 refine R<|zK<|A O<|zH O kA<|zM one3 (zD 0 O) O<|qK O ok210 (upI (zKh e.Op)) ⟨Y,O,T⟩<|G O<|zT O (wO O O O)<|R<|zC O (fun c1=>?_) (fun c1=>?_)
 ·try simp only [sx] at c1
  refine A O<|G O<|zO qX (zD 0 O) O<|zU O O (qH [1,1] O ok152 (hx b p sv (t) hnn hp (by (try simp only [U,W,List.size_toArray,List.length_cons,List.length_nil]);omega)) ⟨Y,O,Y,O,T⟩ O) ?_
  rintro _ _ ⟨_,⟨rfl,sw1,hw1,rfl⟩,rfl⟩
  refine R<|zX _ (Weak.mem [false,true,true] O)<|zF<|fin0 ?_
  exact ⟨O,_,hw1,congrArg (fun q=>wblE b (bldP b) sw1 q) (par_yes (t:=t) (s:=exS e) c1)⟩
 ·try simp only [sx] at c1
  refine zI<|A O<|G O<|zT O (qB O O)<|zH O zDy<|zU O O (qH [1,1] O ok49 (upI (kX b p sv (t) (bs [40]) hnn (by (try simp only [U,W,List.size_toArray,List.length_cons,List.length_nil]);omega) hp)) ⟨Y,O,Y,O,T⟩ O) ?_
  rintro _ _ ⟨_,⟨sw2,hw2,rfl,rfl⟩,rfl⟩
  refine R<|A O<|G O<|zO qX (zD 0 O) O<|zU O O (qH [1,1] O ok152 (hx b (bldP b) sw2 (t++bs [40]) hw2 (.inr O) (by (try simp only [U,W,List.size_toArray,List.length_cons,List.length_nil]);omega)) ⟨Y,O,Y,O,T⟩ O) ?_
  rintro _ _ ⟨_,⟨rfl,sw3,hw3,rfl⟩,rfl⟩
  refine R<|zX _ (Weak.mem [false,true,true] O)<|zN O<|G O<|zT O (qB O O)<|zH O zDy<|zU O O (qH [0,0] O ok49 (upI (kX b (bldP b) sw3 (t++bs [40]++exS e) (bs [41]) hw3 (by (try simp only [U,W,List.size_toArray,List.length_cons,List.length_nil]);omega) (.inr O))) ⟨Y,O,Y,O,T⟩ O) ?_
  rintro _ _ ⟨_,⟨sw4,hw4,rfl,rfl⟩,rfl⟩
  refine R ?_
  repeat (first|refine yS ?_|refine yM ?_)
  refine kZ<|fin0 ?_
  exact ⟨O,_,hw4,congrArg (fun q=>wblE b (bldP b) sw4 q) (par_no (k:=k) (o:=e.Op) (t:=t) (s:=exS e) (by omega))⟩
theorem wr_call (nm first:ByteArray) (l:List Ex) (ih:∀a,a∈l->WX a) (hzz:∀a,a∈l->(exS a).size+100<=300*a.wt) (b:Nat) (p sv:Value) (t:ByteArray)  (hnn:NN sv) (hp:p=.pointer none∨p=bldP b) (hs:t.size+nm.size+first.size+300*argsWt l+100<=80000000000000) (hl:l.length<=1000000000):
    Con cfgI 216 [vBp b,vS nm,vS first,vEs l] (wblE b p sv t) fun r μ'=>r=.tup []/\∃sv',NN sv'/\μ'=wblE b (bldP b) sv' (t++callS nm first (l.map exS)):=by
 refine zS Tryz.func216 O Tryz.ntmps216 Tryz.results216 O ?_
 intro z hz
 refine A O<|G O<|zT O (qB O O)<|zH O zDy<|G O<|kY O (by (try simp only [U,W,List.size_toArray,List.length_cons,List.length_nil]);omega)<|G O<|kY O (by (try simp only [U,W,List.size_toArray,List.length_cons,List.length_nil]);omega)<|zU O O (qH [0,0] O ok49 (upI (kX b p sv (t) (nm++bs [40]++first) hnn (by (try simp only [U,W,List.size_toArray,List.length_cons,List.length_nil]);omega) hp)) ⟨Y,O,Y,O,T⟩ O) ?_
 rintro _ _ ⟨_,⟨sw1,hw1,rfl,rfl⟩,rfl⟩
 refine R<|zK<|A O<|G O<|zZ O wE<|G O<|R<|zR<|zX ⟨[(20,.c _),(0,.c _),(2,.c _),(18,.c _),(19,.c _)],[_,_]⟩ (Weak.mk [true,true] ⟨Y,Y,Y,Y,Y,T⟩ O)<|qG 1 2 O O (Nat×Value) (fun ⟨k,sv2⟩=>[(20,vI k)]) (fun ⟨k,sv2⟩=>[E.row b 230 [.lit (bldP b),.lit sv2],E.vec sv2 5 1 (byR (t++(nm++bs [40]++first)++comA (if first=bs [] then 0 else 1) ((l.map exS).take k)))]) (fun ⟨k,sv2⟩=>k<=l.length/\(NN sv2)) (fun ⟨k,sv2⟩=>l.length-k) ⟨⟨0,sw1⟩,⟨by omega,hw1⟩,Weak.mk [true,true] ⟨Y,Y,Y,Y,Y,T⟩ (by show _=wblE b (bldP b) sw1 (t++(nm++bs [40]++first)++comA (if first=bs [] then 0 else 1) [])++_;rw [comA,zAj];rfl)⟩ ?_
 rintro ⟨k,sv2⟩ ⟨hk,hnn2⟩
 show AWP _ _ _ _ _ ⟨[(20,vI k)]++_,[E.row b 230 [.lit (bldP b),.lit sv2],E.vec sv2 5 1 (byR (t++(nm++bs [40]++first)++comA (if first=bs [] then 0 else 1) ((l.map exS).take k)))]++_⟩
 refine A O<|yJ O<|R<|zK<|zC O (fun c1=>?_) (fun c1=>?_)
 ·try simp only [sx] at c1
  obtain ⟨x,hx⟩:=qY l k (by omega)
  have hat:=args_take hx
  have hcw:=comA_wt (l.take k) (if first=bs [] then 0 else 1) (fun a ha=>hzz a (List.mem_of_mem_take ha))
  rw [List.map_take] at hcw
  have hxz:=hzz x (zY hx)
  refine zI<|zK<|zR<|A O<|G O<|qE O wE (by omega) (zBr hx)<|zO qX qA O<|zU O O (qT [none,none,none,none,none,none,none,none,none,none,some 2,some 4,some 13] O zDx O) ?_
  rintro _ _ ⟨b1,rfl,rfl⟩
  refine G O<|rStR 0 zNb O<|R<|zK<|A O<|G O<|zT O (yA O O O)<|G O<|rL0 O (fun g4_2=>zP O O) O<|rL1 28 O (fun g4_2=>zAz O O O) O<|r_or O (fun h=>(lzf h))<|R<|zC O (fun c2=>?_) (fun c2=>?_)
  ·have hnx:comA (if first=bs [] then 0 else 1) ((l.map exS).take (k+1))=comA (if first=bs [] then 0 else 1) ((l.map exS).take k)++(bs [44,32]++exS x):=by rw [zMk (exs_get hx),if_pos (call_c c2)];first|done|rfl
   refine zN O<|G O<|zT O (qB O O)<|zH O zDy<|zU O O (qH [1,1] O ok49 (upI (kX b (bldP b) sv2 ((t++(nm++bs [40]++first)++comA (if first=bs [] then 0 else 1) ((l.map exS).take k))) (bs [44,32]) hnn2 (by (try simp only [U,W,List.size_toArray,List.length_cons,List.length_nil]);omega) (.inr O))) ⟨Y,O,Y,O,T⟩ O) ?_
   rintro _ _ ⟨_,⟨sw3,hw3,rfl,rfl⟩,rfl⟩
   refine R<|zN O<|G O<|zO qX (zD 0 O) O<|zU O O (qH [1,1] O ok152 (ih x (zY hx) b (bldP b) sw3 ((t++(nm++bs [40]++first)++comA (if first=bs [] then 0 else 1) ((l.map exS).take k))++bs [44,32]) hw3 (.inr O) (by (try simp only [U,W,List.size_toArray,List.length_cons,List.length_nil]);omega)) ⟨Y,O,Y,O,T⟩ O) ?_
   rintro _ _ ⟨_,⟨rfl,sw4,hw4,rfl⟩,rfl⟩
   refine R<|zN O<|qI O ⟨by omega,by omega⟩<|G O<|R ?_
   refine ⟨⟨k+1,sw4⟩,⟨by omega,hw4⟩,(by show l.length-(k+1)<l.length-k;omega),Weak.mk [false,true,true] ⟨Y,Y,Y,Y,Y,T⟩ (by show _=wblE b (bldP b) sw4 (t++(nm++bs [40]++first)++comA (if first=bs [] then 0 else 1) ((l.map exS).take (k+1)))++_;rw [hnx];first|rfl|(rw [←kM,←kM];rfl)|(simp only [←kM];rfl))⟩
  ·have hnx:comA (if first=bs [] then 0 else 1) ((l.map exS).take (k+1))=comA (if first=bs [] then 0 else 1) ((l.map exS).take k)++exS x:=by rw [zMk (exs_get hx),if_neg (call_d c2),zEa]
   refine zI<|zN O<|G O<|zO qX (zD 0 O) O<|zU O O (qH [1,1] O ok152 (ih x (zY hx) b (bldP b) sv2 ((t++(nm++bs [40]++first)++comA (if first=bs [] then 0 else 1) ((l.map exS).take k))) hnn2 (.inr O) (by (try simp only [U,W,List.size_toArray,List.length_cons,List.length_nil]);omega)) ⟨Y,O,Y,O,T⟩ O) ?_
   rintro _ _ ⟨_,⟨rfl,sw4,hw4,rfl⟩,rfl⟩
   refine R<|zN O<|qI O ⟨by omega,by omega⟩<|G O<|R ?_
   refine ⟨⟨k+1,sw4⟩,⟨by omega,hw4⟩,(by show l.length-(k+1)<l.length-k;omega),Weak.mk [false,true,true] ⟨Y,Y,Y,Y,Y,T⟩ (by show _=wblE b (bldP b) sw4 (t++(nm++bs [40]++first)++comA (if first=bs [] then 0 else 1) ((l.map exS).take (k+1)))++_;rw [hnx];first|rfl|(rw [←kM,←kM];rfl)|(simp only [←kM];rfl))⟩
 ·try simp only [sx] at c1
  rw [yE (l:=l.map exS) (k:=k) (by rw [List.length_map];omega)]
  have hcw:=comA_wt l (if first=bs [] then 0 else 1) hzz
  refine qP<|zN O<|G O<|zT O (qB O O)<|zH O zDy<|zU O O (qH [0,0] O ok49 (upI (kX b (bldP b) sv2 (t++(nm++bs [40]++first)++comA (if first=bs [] then 0 else 1) (l.map exS)) (bs [41]) hnn2 (by (try simp only [U,W,List.size_toArray,List.length_cons,List.length_nil]);omega) (.inr O))) ⟨Y,O,Y,O,T⟩ O) ?_
  rintro _ _ ⟨_,⟨sw5,hw5,rfl,rfl⟩,rfl⟩
  refine R ?_
  repeat (first|refine yS ?_|refine yM ?_)
  refine kZ<|fin0 ?_
  exact ⟨O,_,hw5,by show wblE b (bldP b) sw5 (t++(nm++bs [40]++first)++comA (if first=bs [] then 0 else 1) (l.map exS)++bs [41])=_;unfold callS;simp only [kM];first|done|rfl⟩
theorem prn_ixitem (l:List Ix) (k:Nat) (x:Ix) (hx:l[k]? =some x) (hr:x.Lin.rng) (ha:∀y,y∈x.At->y.rng) (hw:x.wt<=1000000000):
    Pur cfgI 214 [vIndices l,vI k] (vS (ixS x)):=by
 refine zS Tryz.func214 O Tryz.ntmps214 Tryz.results214 O ?_
 intro z hz
 refine A O<|G O<|R<|A O<|G O<|G O<|qE O el274 (by omega) (getm hx)<|zO zDf qA O<|qK O ok280 (prn_Index x hr ha hw) ⟨Y,O,T⟩<|G O<|R<|zF<|zQ O ?_
 exact O
theorem ixs_of {l:List Ix} {k:Nat} {s:ByteArray} (h:(l.map ixS)[k]? =some s):∃y,l[k]? =some y/\s=ixS y:=by
  rw [List.getElem?_map,Option.map_eq_some_iff] at h
  obtain ⟨y,hy,rfl⟩:=h
  exact ⟨y,hy,O⟩
theorem ixs_list (l:List Ix) (hr:∀x,x∈l->x.Lin.rng/\∀y,y∈x.At->y.rng) (hl:l.length<=1000000) (hw:idxWt l<=1000000):Pur cfgI 213 [vI l.length,.c (.fn (.func 214) [.sl 4 (l.map Ix.cells)] [])] (vS (comS (l.map ixS))):=by
  have hz:=zQs hr
  have h_:=prn_list (l.map ixS) (.fn (.func 214) [.sl 4 (l.map Ix.cells)] []) (by rw [List.length_map];omega) (by omega) (fun k s hs=>(FnPur.of_pur (first:=[.sl 4 (l.map Ix.cells)]) (cap:=[]) (args:=[vI k]) (by kernel_rfl) (by obtain ⟨y,hy,rfl⟩:=ixs_of hs;exact prn_ixitem l k y hy (hr y (zY hy)).1 (hr y (zY hy)).2 (by have:=zCz (zY hy);omega))))
  rw [List.length_map] at h_
  exact h_
theorem wr_step0 (e:Ex) (ih:∀a,a∈e.Args->WX a) (hp0:partE e=0) (hr:e.allF Lf.rng) (hw:e.wt<=1000000) (b:Nat) (p sv:Value) (t:ByteArray)  (hnn:NN sv) (hp:p=.pointer none∨p=bldP b) (hs:t.size+300*e.wt<=80000000000000):
    Con cfgI 152 [vBp b,vE e] (wblE b p sv t) fun r μ'=>r=.tup []/\∃sv',NN sv'/\∃ν1 ν2,μ'=ν1++(wblE b (bldP b) sv' (t++exS e)++ν2):=by
 refine zS Tryz.func152 O Tryz.ntmps152 Tryz.results152 O ?_
 intro z hz
 have hwt:=Ex.wt_eq e
 have hzz:∀a,a∈e.Args->(exS a).size+100<=300*a.wt:=fun a ha=>exS_size a (zJi (zBc hp0 ha)) (Ex.allF_arg hr ha)
 have hawt:=zOa e.Args
 have hty:=zJc e.Ty
 have hvs:=zQo e.Ty e.Val
 have hlr:=Ex.allF_lin hr
 have hls:=zIl hlr
 have hix:∀x,x∈e.Idx->x.Lin.rng/\∀y,y∈x.At->y.rng:=fun x hx=>⟨Ex.allF_ix hr hx,fun y hy=>Ex.allF_at hr hx hy⟩
 have hsx:=zQs hix
 have hcx:=zCj (e.Idx.map ixS)
 rw [List.length_map] at hcx
 have hpr:0<=precI e.Op/\precI e.Op<=8:=by unfold precI;repeat (first|split|omega)
 refine A O<|zU O O (qN O O) ?_
 rintro _ _ ⟨b1,rfl,rfl⟩
 refine R<|A O<|zH O kA<|zM one3 (zD 0 O) O<|qK O ok210 (upI (zKh e.Op)) ⟨Y,O,T⟩<|G O<|R<|A O<|zH O kA<|zM one3 (zD 0 O) O<|R<|zR<|A O<|L O<|G O<|R<|zC O (fun c1=>?_) (fun c1=>?_)
 ·try simp only [sx] at c1
  refine qU 14 mixed (by kernel_rfl) O O<|J O O (zP O O)<|J O O (qB O O)<|J O O (zE O zDy O)<|J O O (zE O zAo O)<|J O O (zV O yI O (zD 0 O) O)<|J O O (qC O ok97 (prn_Type e.Ty) ⟨Y,O,T⟩)<|J O O (qM O O O (by (try simp only [U,W,List.size_toArray,List.length_cons,List.length_nil]);omega))<|J O O (zE O zAo O)<|J O O (zV O yI O (zD 0 O) O)<|J O O (zE O zDm O)<|J O O (zV O zAw O (zD 0 O) O)<|J O O (qC O ok211 (value_Format e.Ty e.Val) ⟨Y,O,Y,O,T⟩)<|J O O (qM O O O (by (try simp only [U,W,List.size_toArray,List.length_cons,List.length_nil]);omega))<|J O O (qM O O O (by (try simp only [U,W,List.size_toArray,List.length_cons,List.length_nil]);omega))<|yO<|zU O O (qH [1,1] O ok49 (upI (kX b p sv (t) (tyS e.Ty++bs [40]++valS e.Ty e.Val++bs [41]) hnn (by (try simp only [U,W,List.size_toArray,List.length_cons,List.length_nil]);omega) hp)) ⟨Y,O,Y,O,T⟩ O) ?_
  rintro _ _ ⟨_,⟨sw1,hw1,rfl,rfl⟩,rfl⟩
  refine R ?_
  repeat (first|refine yS ?_|refine yM ?_)
  refine kZ<|fin0 ?_
  have htx:t++(tyS e.Ty++bs [40]++valS e.Ty e.Val++bs [41])=t++exS e:=by rw [exS_val c1];first|done|rfl
  refine ⟨O,_,hw1,[E.row b1 108 e.cs],[],?_⟩
  rw [←htx]
  rfl
 ·try simp only [sx] at c1
  refine A O<|L O<|G O<|R<|zC O (fun c2=>?_) (fun c2=>?_)
  ·try simp only [sx] at c2
   refine qU 8 mixed (by kernel_rfl) O O<|J O O (zP O O)<|J O O (qB O O)<|J O O (zE O zDy O)<|J O O (zE O zCs O)<|J O O (zV O kL O (zD 0 O) O)<|J O O (qC O ok212 (zNl e.Lin hlr (by omega)) ⟨Y,O,T⟩)<|J O O (qM O O O (by (try simp only [U,W,List.size_toArray,List.length_cons,List.length_nil]);omega))<|J O O (qM O O O (by (try simp only [U,W,List.size_toArray,List.length_cons,List.length_nil]);omega))<|yO<|zU O O (qH [1,1] O ok49 (upI (kX b p sv (t) (bs [91]++linS e.Lin++bs [93]) hnn (by (try simp only [U,W,List.size_toArray,List.length_cons,List.length_nil]);omega) hp)) ⟨Y,O,Y,O,T⟩ O) ?_
   rintro _ _ ⟨_,⟨sw1,hw1,rfl,rfl⟩,rfl⟩
   refine R ?_
   repeat (first|refine yS ?_|refine yM ?_)
   refine kZ<|fin0 ?_
   have htx:t++(bs [91]++linS e.Lin++bs [93])=t++exS e:=by rw [exS_idx c2];first|done|rfl
   refine ⟨O,_,hw1,[E.row b1 108 e.cs],[],?_⟩
   rw [←htx]
   rfl
  ·try simp only [sx] at c2
   refine A O<|L O<|G O<|R<|zC O (fun c3=>?_) (fun c3=>?_)
   ·try simp only [sx] at c3
    have hnm:=zJi hp0 e (by rw [wJ];simp) c3
    refine A O<|zH O yV<|zM kF (zD 0 O) O<|G O<|R<|qU 13 mixed (by kernel_rfl) O O<|J O O (zP O O)<|J O O (qB O O)<|J O O (zE O zDy O)<|J O O (zE O zBs O)<|J O O (zJ O one9 O (zD 0 O) O)<|J O O (qM O O O (by (try simp only [U,W,List.size_toArray,List.length_cons,List.length_nil]);omega))<|J O O (zP O O)<|J O O (yG O el274 O)<|J O O (zP O O)<|J O O (zCn O O O O O)<|J O O (qC O ok213 (ixs_list e.Idx hix (by omega) (by omega)) ⟨Y,O,Y,O,T⟩)<|J O O (qM O O O (by (try simp only [U,W,List.size_toArray,List.length_cons,List.length_nil]);omega))<|J O O (qM O O O (by (try simp only [U,W,List.size_toArray,List.length_cons,List.length_nil]);omega))<|yO<|zU O O (qH [1,1] O ok49 (upI (kX b p sv (t) (e.Name++bs [91]++comS (e.Idx.map ixS)++bs [93]) hnn (by (try simp only [U,W,List.size_toArray,List.length_cons,List.length_nil]);omega) hp)) ⟨Y,O,Y,O,T⟩ O) ?_
    rintro _ _ ⟨_,⟨sw1,hw1,rfl,rfl⟩,rfl⟩
    refine R ?_
    repeat (first|refine yS ?_|refine yM ?_)
    refine kZ<|fin0 ?_
    have htx:t++(e.Name++bs [91]++comS (e.Idx.map ixS)++bs [93])=t++exS e:=by rw [exS_read c3];first|done|rfl
    refine ⟨O,_,hw1,[E.row b1 108 e.cs],[],?_⟩
    rw [←htx]
    rfl
   ·try simp only [sx] at c3
    refine A O<|L O<|G O<|R<|zC O (fun c4=>?_) (fun c4=>?_)
    ·try simp only [sx] at c4
     obtain ⟨a,hab,ham⟩:=one_arg hp0 (by omega)
     have hza:=hzz a ham
     have haw:=wH ham
     refine A O<|G O<|zT O (qB O O)<|zH O zDy<|zU O O (qH [1,1] O ok49 (upI (kX b p sv (t) (bs [45]) hnn (by (try simp only [U,W,List.size_toArray,List.length_cons,List.length_nil]);omega) hp)) ⟨Y,O,Y,O,T⟩ O) ?_
     rintro _ _ ⟨_,⟨sw1,hw1,rfl,rfl⟩,rfl⟩
     refine R<|zN O<|G O<|zH O yY<|zM kU (zD 0 O) O<|qE O wE (by omega) (zBr (show e.Args[(0:Int).toNat]? =some a by rw [hab];rfl))<|zO qX qA O<|G O<|zU O O (qH [1,1] O ok215 (zJa a (ih a ham) (hzz a ham) b (bldP b) sw1 (t++bs [45]) (precI e.Op) hw1 (.inr O) (by (try simp only [U,W,List.size_toArray,List.length_cons,List.length_nil]);omega)) ⟨Y,O,Y,O,Y,O,T⟩ O) ?_
     rintro _ _ ⟨_,⟨rfl,sw2,hw2,rfl⟩,rfl⟩
     refine R ?_
     repeat (first|refine yS ?_|refine yM ?_)
     refine kZ<|fin0 ?_
     have htx:t++bs [45]++parS (precI e.Op) a.Op (exS a)=t++exS e:=by rw [exS_neg c4 hab,show precI e.Op=7 by rw [c4];rfl,kM]
     refine ⟨O,_,hw2,[E.row b1 108 e.cs],[],?_⟩
     rw [←htx]
     rfl
    ·try simp only [sx] at c4
     refine A O<|L O<|G O<|R<|zC O (fun c5=>?_) (fun c5=>?_)
     ·try simp only [sx] at c5
      obtain ⟨a,hab,ham⟩:=one_arg hp0 (by omega)
      have hza:=hzz a ham
      have haw:=wH ham
      refine A O<|G O<|zT O (qB O O)<|zH O zDy<|zU O O (qH [1,1] O ok49 (upI (kX b p sv (t) (bs [33]) hnn (by (try simp only [U,W,List.size_toArray,List.length_cons,List.length_nil]);omega) hp)) ⟨Y,O,Y,O,T⟩ O) ?_
      rintro _ _ ⟨_,⟨sw1,hw1,rfl,rfl⟩,rfl⟩
      refine R<|zN O<|G O<|zH O yY<|zM kU (zD 0 O) O<|qE O wE (by omega) (zBr (show e.Args[(0:Int).toNat]? =some a by rw [hab];rfl))<|zO qX qA O<|G O<|zU O O (qH [1,1] O ok215 (zJa a (ih a ham) (hzz a ham) b (bldP b) sw1 (t++bs [33]) (precI e.Op) hw1 (.inr O) (by (try simp only [U,W,List.size_toArray,List.length_cons,List.length_nil]);omega)) ⟨Y,O,Y,O,Y,O,T⟩ O) ?_
      rintro _ _ ⟨_,⟨rfl,sw2,hw2,rfl⟩,rfl⟩
      refine R ?_
      repeat (first|refine yS ?_|refine yM ?_)
      refine kZ<|fin0 ?_
      have htx:t++bs [33]++parS (precI e.Op) a.Op (exS a)=t++exS e:=by rw [exS_not c5 hab,show precI e.Op=3 by rw [c5];rfl,kM]
      refine ⟨O,_,hw2,[E.row b1 108 e.cs],[],?_⟩
      rw [←htx]
      rfl
     ·try simp only [sx] at c5
      refine A O<|L O<|G O<|R<|zC O (fun c6=>?_) (fun c6=>?_)
      ·try simp only [sx] at c6
       refine zN O<|G O<|zH O yY<|zM kU (zD 0 O) O<|zU O O (qH [1,1] O ok216 (wr_call (bs [109,105,110]) (bs []) e.Args ih hzz b p sv t hnn hp (by (try simp only [W,yT,List.size_toArray,List.length_cons,List.length_nil]);omega) (by omega)) ⟨Y,O,Y,O,Y,O,Y,O,T⟩ O) ?_
       rintro _ _ ⟨_,⟨rfl,sw1,hw1,rfl⟩,rfl⟩
       refine R ?_
       repeat (first|refine yS ?_|refine yM ?_)
       refine kZ<|fin0 ?_
       have htx:t++callS (bs [109,105,110]) (bs []) (e.Args.map exS)=t++exS e:=by rw [exc9 c6]
       refine ⟨O,_,hw1,[E.row b1 108 e.cs],[],?_⟩
       rw [←htx]
       rfl
      ·try simp only [sx] at c6
       refine A O<|L O<|G O<|R<|zC O (fun c7=>?_) (fun c7=>?_)
       ·try simp only [sx] at c7
        refine zN O<|G O<|zH O yY<|zM kU (zD 0 O) O<|zU O O (qH [1,1] O ok216 (wr_call (bs [109,97,120]) (bs []) e.Args ih hzz b p sv t hnn hp (by (try simp only [W,yT,List.size_toArray,List.length_cons,List.length_nil]);omega) (by omega)) ⟨Y,O,Y,O,Y,O,Y,O,T⟩ O) ?_
        rintro _ _ ⟨_,⟨rfl,sw1,hw1,rfl⟩,rfl⟩
        refine R ?_
        repeat (first|refine yS ?_|refine yM ?_)
        refine kZ<|fin0 ?_
        have htx:t++callS (bs [109,97,120]) (bs []) (e.Args.map exS)=t++exS e:=by rw [exc10 c7]
        refine ⟨O,_,hw1,[E.row b1 108 e.cs],[],?_⟩
        rw [←htx]
        rfl
       ·try simp only [sx] at c7
        refine A O<|L O<|G O<|R<|zC O (fun c8=>?_) (fun c8=>?_)
        ·try simp only [sx] at c8
         refine zN O<|G O<|zH O yY<|zM kU (zD 0 O) O<|zU O O (qH [1,1] O ok216 (wr_call (bs [105,102]) (bs []) e.Args ih hzz b p sv t hnn hp (by (try simp only [W,yT,List.size_toArray,List.length_cons,List.length_nil]);omega) (by omega)) ⟨Y,O,Y,O,Y,O,Y,O,T⟩ O) ?_
         rintro _ _ ⟨_,⟨rfl,sw1,hw1,rfl⟩,rfl⟩
         refine R ?_
         repeat (first|refine yS ?_|refine yM ?_)
         refine kZ<|fin0 ?_
         have htx:t++callS (bs [105,102]) (bs []) (e.Args.map exS)=t++exS e:=by rw [exc11 c8]
         refine ⟨O,_,hw1,[E.row b1 108 e.cs],[],?_⟩
         rw [←htx]
         rfl
        ·try simp only [sx] at c8
         refine A O<|L O<|G O<|R<|zC O (fun c9=>?_) (fun c9=>?_)
         ·try simp only [sx] at c9
          refine qU 6 mixed (by kernel_rfl) O O<|J O O (zP O O)<|J O O (zE O zAo O)<|J O O (zV O yI O (zD 0 O) O)<|J O O (qC O ok97 (prn_Type e.Ty) ⟨Y,O,T⟩)<|J O O (zE O yY O)<|J O O (zJ O kU O (zD 0 O) O)<|yO<|zU O O (qH [1,1] O ok216 (wr_call (bs [99,97,115,116]) (tyS e.Ty) e.Args ih hzz b p sv t hnn hp (by (try simp only [W,yT,List.size_toArray,List.length_cons,List.length_nil]);omega) (by omega)) ⟨Y,O,Y,O,Y,O,Y,O,T⟩ O) ?_
          rintro _ _ ⟨_,⟨rfl,sw1,hw1,rfl⟩,rfl⟩
          refine R ?_
          repeat (first|refine yS ?_|refine yM ?_)
          refine kZ<|fin0 ?_
          have htx:t++callS (bs [99,97,115,116]) (tyS e.Ty) (e.Args.map exS)=t++exS e:=by rw [exc12 c9]
          refine ⟨O,_,hw1,[E.row b1 108 e.cs],[],?_⟩
          rw [←htx]
          rfl
         ·try simp only [sx] at c9
          obtain ⟨a,c,hab,hpa,hpc⟩:=zPc hp0 (by unfold nArgs;rw [if_neg (by omega),if_neg (by omega),if_neg (by omega)])
          have ham:a∈e.Args:=by rw [hab];simp
          have hcm:c∈e.Args:=by rw [hab];simp
          have hza:=hzz a ham
          have hzc:=hzz c hcm
          have hsum:argsWt e.Args=a.wt+(c.wt+0):=by rw [hab];rfl
          have hpz:=zCx (precI e.Op) a.Op (exS a)
          have hsy:=symS_size e.Op
          refine A O<|G O<|zH O yY<|zM kU (zD 0 O) O<|qE O wE (by omega) (zBr (show e.Args[(0:Int).toNat]? =some a by rw [hab];rfl))<|zO qX qA O<|G O<|zU O O (qH [1,1] O ok215 (zJa a (ih a ham) (hzz a ham) b p sv (t) (precI e.Op) hnn hp (by (try simp only [U,W,List.size_toArray,List.length_cons,List.length_nil]);omega)) ⟨Y,O,Y,O,Y,O,T⟩ O) ?_
          rintro _ _ ⟨_,⟨rfl,sw1,hw1,rfl⟩,rfl⟩
          refine R<|zK<|qU 8 mixed (by kernel_rfl) O O<|J O O (zP O O)<|J O O (qB O O)<|J O O (zE O zDy O)<|J O O (zE O kA O)<|J O O (zJ O one3 O (zD 0 O) O)<|J O O (qC O ok217 (upI (prn_symbol e.Op)) ⟨Y,O,T⟩)<|J O O (qM O O O (by (try simp only [U,W,List.size_toArray,List.length_cons,List.length_nil]);omega))<|J O O (qM O O O (by (try simp only [U,W,List.size_toArray,List.length_cons,List.length_nil]);omega))<|yO<|zU O O (qH [1,1] O ok49 (upI (kX b (bldP b) sw1 (t++parS (precI e.Op) a.Op (exS a)) (bs [32]++symS e.Op++bs [32]) hw1 (by (try simp only [U,W,List.size_toArray,List.length_cons,List.length_nil]);omega) (.inr O))) ⟨Y,O,Y,O,T⟩ O) ?_
          rintro _ _ ⟨_,⟨sw2,hw2,rfl,rfl⟩,rfl⟩
          refine R<|zN O<|G O<|zH O yY<|zM kU (zD 0 O) O<|qE O wE (by omega) (zBr (show e.Args[(1:Int).toNat]? =some c by rw [hab];rfl))<|zO qX qA O<|G O<|qI O ⟨by omega,by omega⟩<|zU O O (qH [1,1] O ok215 (zJa c (ih c hcm) (hzz c hcm) b (bldP b) sw2 (t++parS (precI e.Op) a.Op (exS a)++(bs [32]++symS e.Op++bs [32])) (precI e.Op+1) hw2 (.inr O) (by (try simp only [U,W,List.size_toArray,List.length_cons,List.length_nil]);omega)) ⟨Y,O,Y,O,Y,O,T⟩ O) ?_
          rintro _ _ ⟨_,⟨rfl,sw3,hw3,rfl⟩,rfl⟩
          refine R ?_
          repeat (first|refine yS ?_|refine yM ?_)
          refine kZ<|fin0 ?_
          have htx:t++parS (precI e.Op) a.Op (exS a)++(bs [32]++symS e.Op++bs [32])++parS (precI e.Op+1) c.Op (exS c)=t++exS e:=by rw [exb c1 c2 c3 c4 c5 c6 c7 c8 c9 hab];simp only [kM]
          refine ⟨O,_,hw3,[E.row b1 108 e.cs],[],?_⟩
          rw [←htx]
          rfl
theorem wr_step (e:Ex) (ih:∀a,a∈e.Args->WX a) (hp0:partE e=0) (hr:e.allF Lf.rng) (hw:e.wt<=1000000):WX e:=fun b p sv t hnn hp hs=>
  Con.dropG ((wr_step0 e ih hp0 hr hw b p sv t hnn hp hs).mono fun r μ' ⟨h1,sv',h2,ν1,ν2,h3⟩=>⟨wblE b (bldP b) sv' (t++exS e),⟨ν1,ν2,h3⟩,h1,sv',h2,rfl⟩)
theorem wr_expr (e:Ex):partE e=0->e.allF Lf.rng->e.wt<=1000000->WX e:=by
  induction e using Ex.ind with
  |_ e ih=>
    intro hp hr hw
    refine wr_step e (fun a ha=>ih a ha (zBc hp ha) (Ex.allF_arg hr ha) ?_) hp hr hw
    have h1:=Ex.wt_eq e
    have h2:=wH ha
    omega
end Go.W
end
section
set_option maxRecDepth 10000
namespace Go.W
open Go Go.Eng Go.Proofs Go.L41 Go.Br
attribute [local irreducible] AWP RWP TD finQ
theorem exT_no {e:Ex} (h:¬validE e=0):exT e=bs []:=if_pos h
theorem exT_yes {e:Ex} (h:validE e=0):exT e=exS e:=if_neg (fun c=>c h)
theorem cast_ty {e:Ex} (h:partE e=0) (ho:e.Op=12):tyOk e.Ty=true:=by
  have h1:=(zGo (zBe h)).2.2.2.1
  unfold typesE at h1
  rw [show decide (e.Op=12)=true from decide_eq_true ho] at h1
  cases ht:tyOk e.Ty with
  |true=>rfl
  |false=>rw [ht] at h1;simp at h1
theorem cast_one {e:Ex} (h:partE e=0) (ho:e.Op=12):∃a,e.Args=[a]/\a∈e.Args:=by
  have hl:=argLen' h
  have h4:nArgs e.Op=1:=by rw [ho];decide
  match he:e.Args,hl with
  |[a],_=>exact ⟨a,rfl,by simp⟩
  |[],hl=>rw [h4] at hl;simp at hl
  |_::_::_,hl=>rw [h4] at hl;simp at hl;omega
theorem known12 {e:Ex} (h:partE e=0) (h1:¬e.Op=1) (h2:¬e.Op=2) (h3:¬e.Op=3) (h4:¬e.Op=8) (h5:¬e.Op=18) (h6:¬e.Op=9) (h7:¬e.Op=10) (h8:¬e.Op=11) (hb:¬(e.Op=4∨e.Op=5∨e.Op=6∨e.Op=7∨e.Op=13∨e.Op=14∨e.Op=15∨e.Op=16∨e.Op=17)):e.Op=12:=by
  have k:=(zGo (zBe h)).1
  unfold synOk at k
  simp only [Bool.and_eq_true] at k
  have k1:=k.1.1.1.1.1
  simp only [Bool.not_eq_true',Bool.or_eq_false_iff,decide_eq_false_iff_not] at k1
  omega
theorem zKz {l:List Ix} {k:Nat} {x:Ix} (h:l[k]? =some x):(l.map ixS)[k]? =some (ixS x):=by rw [List.getElem?_map,h];rfl
theorem pr_yes {k o:Int} {s:ByteArray} (h:¬precI o<k):s=parS k o s:=by unfold parS;rw [if_pos (by omega)]
theorem pr_no {k o:Int} {s:ByteArray} (h:precI o<k):bs [40]++s++bs [41]=parS k o s:=by unfold parS;rw [if_neg (by omega)];first|done|rfl
theorem ok53:callOk Tryz.prog 53=true:=by kernel_rfl
theorem zRu:callOk Tryz.prog 156=true:=by kernel_rfl
theorem ok221:callOk Tryz.prog 221=true:=by kernel_rfl
theorem ok222:callOk Tryz.prog 222=true:=by kernel_rfl
theorem ok223:callOk Tryz.prog 223=true:=by kernel_rfl
theorem ok224:callOk Tryz.prog 224=true:=by kernel_rfl
theorem ok226:callOk Tryz.prog 226=true:=by kernel_rfl
theorem pl230:placesT Tryz.prog 230=some [(0,2)]:=by kernel_rfl
theorem zr230:zeroT Tryz.prog 230=some [(Value.pointer none),(Value.slice none 0 0)]:=by kernel_rfl
theorem zLo (e:Ex) (hr:e.allF Lf.rng) (hw:e.wt<=1000000):
    Pur cfgI 99 [vE e] (vS (exT e)):=by
 refine zS Tryz.func99 O Tryz.ntmps99 Tryz.results99 O ?_
 intro z hz
 refine A O<|zU O O (qN O O) ?_
 rintro _ _ ⟨b1,rfl,rfl⟩
 refine G O<|R<|zK<|A O<|zO qX (zD 0 O) O<|qK O ok151 (upI (zMh e (by omega))) ⟨Y,O,T⟩<|kP O<|R<|zC O (fun c1=>?_) (fun c1=>?_)
 ·try simp only [sx] at c1
  refine A O<|G O<|R<|zF<|zQ O ?_
  rw [exT_no c1];first|done|rfl
 ·try simp only [sx] at c1
  refine zI<|A O<|yU O zr230 pl230<|zU O O (qN O O) ?_
  rintro _ _ ⟨b2,rfl,rfl⟩
  refine yX _ (wI 5 1)<|G O<|R<|A O<|G O<|zO qX (zD 2 O) O<|zU O O (qH [1,0] O ok152 (wr_expr e (zDi c1) hr hw b2 (.pointer none) (.slice none 0 0) (bs []) NN_nil (.inl O) (by show 0+_<=_;omega)) ⟨Y,O,Y,O,T⟩ O) ?_
  rintro _ _ ⟨_,⟨rfl,sw1,hw1,rfl⟩,rfl⟩
  refine R<|A O<|G O<|zT O (qB O O)<|zH O zDy<|zU O O (qH [1,0] O ok52 (upI (wbl_String b2 (bldP b2) sw1 (bs []++exS e) hw1)) ⟨Y,O,T⟩ O) ?_
  rintro _ _ ⟨_,⟨rfl,e_,rfl⟩,rfl⟩
  refine G O<|R<|zF<|zQ O ?_
  rw [exT_yes c1,zEa]
theorem zGj (e:Ex) (k:Int) (hx:Pur cfg 156 [vE e] (vS (exS e))) (hz:(exS e).size<=1000000000000):
    Pur cfg 222 [vE e,vI k] (vS (parS k e.Op (exS e))):=by
 refine zS Tryz.func222 O Tryz.ntmps222 Tryz.results222 O ?_
 intro z hz
 refine A O<|zU O O (qN O O) ?_
 rintro _ _ ⟨b1,rfl,rfl⟩
 refine G O<|R<|zK<|A O<|zH O kA<|zM one3 (zD 0 O) O<|qK O ok223 (zRm e.Op) ⟨Y,O,T⟩<|G O<|yJ O<|R<|zC O (fun c1=>?_) (fun c1=>?_)
 ·try simp only [sx] at c1
  refine A O<|zO qX (zD 0 O) O<|qK O zRu hx ⟨Y,O,T⟩<|kY O (by (try simp only [U,W,List.size_toArray,List.length_cons,List.length_nil]);omega)<|kY O (by (try simp only [U,W,List.size_toArray,List.length_cons,List.length_nil]);omega)<|G O<|R<|zF<|zQ O ?_
  rw [←pr_no c1];first|done|rfl
 ·try simp only [sx] at c1
  refine zI<|A O<|zO qX (zD 0 O) O<|qK O zRu hx ⟨Y,O,T⟩<|G O<|R<|zF<|zQ O ?_
  rw [←pr_yes (by omega)]
theorem r15_text_step (e:Ex) (ih:∀a,a∈e.Args->Pur cfg 156 [vE a] (vS (exS a))) (hp0:partE e=0) (hr:e.allF Lf.rng) (hw:e.wt<=1000000):
    Pur cfg 156 [vE e] (vS (exS e)):=by
 refine zS Tryz.func156 O Tryz.ntmps156 Tryz.results156 O ?_
 intro z hz
 have hwt:=Ex.wt_eq e
 have hzz:∀a,a∈e.Args->(exS a).size+100<=300*a.wt:=fun a ha=>exS_size a (zJi (zBc hp0 ha)) (Ex.allF_arg hr ha)
 have hawt:=zOa e.Args
 have hty:=zJc e.Ty
 have hvs:=zQo e.Ty e.Val
 have hlr:=Ex.allF_lin hr
 have hls:=zIl hlr
 have hix:∀x,x∈e.Idx->x.Lin.rng/\∀y,y∈x.At->y.rng:=fun x hx=>⟨Ex.allF_ix hr hx,fun y hy=>Ex.allF_at hr hx hy⟩
 have hsx:=zQs hix
 have hcx:=zCj (e.Idx.map ixS)
 rw [List.length_map] at hcx
 have hpr:0<=precI e.Op/\precI e.Op<=8:=by unfold precI;repeat (first|split|omega)
 refine A O<|zU O O (qN O O) ?_
 rintro _ _ ⟨b1,rfl,rfl⟩
 refine G O<|R<|zK<|A O<|zH O kA<|zM one3 (zD 0 O) O<|qK O ok221 (r15_sign e.Op) ⟨Y,O,T⟩<|G O<|R<|A O<|G O<|zT O (zAz O O O)<|R<|zC O (fun c1=>?_) (fun c1=>?_)
 ·try simp only [sx] at c1
  have hb:isBin e.Op:=Classical.byContradiction fun h=>c1 (inf_no.2 h)
  have hbo:e.Op=4∨e.Op=5∨e.Op=6∨e.Op=7∨e.Op=13∨e.Op=14∨e.Op=15∨e.Op=16∨e.Op=17:=hb
  obtain ⟨a,c,hab,hpa,hpc⟩:=zPc hp0 (by unfold nArgs;rw [if_neg (by omega),if_neg (by omega),if_neg (by omega)])
  have ham:a∈e.Args:=by rw [hab];simp
  have hcm:c∈e.Args:=by rw [hab];simp
  have hza:=hzz a ham
  have hzc:=hzz c hcm
  have hwa:=wH ham
  have hwc:=wH hcm
  have hpza:=zCx (precI e.Op) a.Op (exS a)
  have hpzc:=zCx (precI e.Op+1) c.Op (exS c)
  have hin:(infS e.Op).size<=4:=by unfold infS;repeat (first|split|decide)
  refine zK<|qU 21 mixed (by kernel_rfl) O O<|J O O (zE O yY O)<|J O O (zJ O kU O (zD 0 O) O)<|J O O (qO O wE O O (by omega) (zBr (show e.Args[(0:Int).toNat]? =some a by rw [hab];rfl)))<|J O O (zV O qX O qA O)<|J O O (zE O kA O)<|J O O (zJ O one3 O (zD 0 O) O)<|J O O (qC O ok223 (zRm e.Op) ⟨Y,O,T⟩)<|J O O (qC O ok222 (zGj a (precI e.Op) (ih a ham) (by omega)) ⟨Y,O,Y,O,T⟩)<|J O O (zP O O)<|J O O (qM O O O (by (try simp only [U,W,List.size_toArray,List.length_cons,List.length_nil]);omega))<|J O O (zE O yY O)<|J O O (zJ O kU O (zD 0 O) O)<|J O O (qO O wE O O (by omega) (zBr (show e.Args[(1:Int).toNat]? =some c by rw [hab];rfl)))<|J O O (zV O qX O qA O)<|J O O (zE O kA O)<|J O O (zJ O one3 O (zD 0 O) O)<|J O O (qC O ok223 (zRm e.Op) ⟨Y,O,T⟩)<|J O O (zCv O O O ⟨by omega,by omega⟩)<|J O O (qC O ok222 (zGj c (precI e.Op+1) (ih c hcm) (by omega)) ⟨Y,O,Y,O,T⟩)<|J O O (qM O O O (by (try simp only [U,W,List.size_toArray,List.length_cons,List.length_nil]);omega))<|J O O (qV O O)<|yO<|R<|zF<|zQ O ?_
  rw [exS_bin hb hab]
 ·try simp only [sx] at c1
  have hnb:¬isBin e.Op:=inf_no.1 (by simpa using c1)
  have hnb2:¬(e.Op=4∨e.Op=5∨e.Op=6∨e.Op=7∨e.Op=13∨e.Op=14∨e.Op=15∨e.Op=16∨e.Op=17):=hnb
  refine zI<|zK<|A O<|zH O kA<|zM one3 (zD 0 O) O<|R<|zR<|A O<|L O<|G O<|R<|zC O (fun c2=>?_) (fun c2=>?_)
  ·try simp only [sx] at c2
   refine zK<|qU 12 mixed (by kernel_rfl) O O<|J O O (zE O zAo O)<|J O O (zV O yI O (zD 0 O) O)<|J O O (qC O ok53 (r15_Type e.Ty) ⟨Y,O,T⟩)<|J O O (qM O O O (by (try simp only [U,W,List.size_toArray,List.length_cons,List.length_nil]);omega))<|J O O (zE O zAo O)<|J O O (zV O yI O (zD 0 O) O)<|J O O (zE O zDm O)<|J O O (zV O zAw O (zD 0 O) O)<|J O O (qC O ok224 (ref04_Format e.Ty e.Val) ⟨Y,O,Y,O,T⟩)<|J O O (qM O O O (by (try simp only [U,W,List.size_toArray,List.length_cons,List.length_nil]);omega))<|J O O (qM O O O (by (try simp only [U,W,List.size_toArray,List.length_cons,List.length_nil]);omega))<|J O O (qV O O)<|yO<|R<|zF<|zQ O ?_
   rw [exS_val c2];first|done|rfl
  ·try simp only [sx] at c2
   refine A O<|L O<|G O<|R<|zC O (fun c3=>?_) (fun c3=>?_)
   ·try simp only [sx] at c3
    refine A O<|zH O zCs<|zO kL (zD 0 O) O<|qK O ok225 (zEw e.Lin hlr (by omega)) ⟨Y,O,T⟩<|kY O (by (try simp only [U,W,List.size_toArray,List.length_cons,List.length_nil]);omega)<|kY O (by (try simp only [U,W,List.size_toArray,List.length_cons,List.length_nil]);omega)<|G O<|R<|zF<|zQ O ?_
    rw [exS_idx c3];first|done|rfl
   ·try simp only [sx] at c3
    refine A O<|L O<|G O<|R<|zC O (fun c4=>?_) (fun c4=>?_)
    ·try simp only [sx] at c4
     have hnm:=zJi hp0 e (by rw [wJ];simp) c4
     refine A O<|zH O zBs<|zM one9 (zD 0 O) O<|kY O (by (try simp only [U,W,List.size_toArray,List.length_cons,List.length_nil]);omega)<|G O<|R<|zK<|A O<|G O<|R<|zR<|zX ⟨[(5,.c _),(4,.c _),(1,.c _)],[_]⟩ (Weak.mk [true] ⟨Y,Y,Y,T⟩ O) ?_
     refine qG 2 0 O O (Nat) (fun k=>[(5,vI k),(4,vS (e.Name++bs [91]++comS ((e.Idx.map ixS).take k)))]) (fun k=>[]) (fun k=>k<=e.Idx.length) (fun k=>e.Idx.length-k) ⟨0,(by omega),Weak.mk [true] ⟨Y,VLe.of_eq (congrArg vS (by show _=e.Name++bs [91]++bs [];rw [zAj];first|done|rfl)),Y,T⟩ O⟩ ?_
     rintro k hk
     refine zK<|A O<|G O<|zH O yV<|zM kF (zD 0 O) O<|zZ O kO<|yJ O<|R<|zC O (fun c5=>?_) (fun c5=>?_)
     ·try simp only [sx] at c5
      obtain ⟨x,hx⟩:=qY e.Idx k (by omega)
      have hT:=zIw (e.Idx.map ixS) k
      rw [List.length_map] at hT
      have hxz:=zKo (zY (zKz hx))
      refine zI<|zK<|zR<|zK<|A O<|G O<|zT O (yA O O O)<|R<|zC O (fun c6=>?_) (fun c6=>?_)
      ·try simp only [sx] at c6
       refine zN O<|G O<|kY O (by (try simp only [U,W,List.size_toArray,List.length_cons,List.length_nil]);omega)<|G O<|R<|zN O<|G O<|zH O yV<|zM kF (zD 0 O) O<|G O<|qE O kO (by omega) (getm hx)<|zO zDf qA O<|qK O ok226 (r15_Index x (hix x (zY hx)).1 (hix x (zY hx)).2 (by have:=zCz (zY hx);omega)) ⟨Y,O,T⟩<|kY O (by (try simp only [U,W,List.size_toArray,List.length_cons,List.length_nil]);omega)<|G O<|R<|zN O<|G O<|qI O ⟨by omega,by omega⟩<|G O<|R ?_
       refine ⟨k+1,(by omega),(by omega),Weak.mk [true] ⟨Y,VLe.of_eq (congrArg vS (by first|(rw [zCo (zKz hx) (by omega)];simp only [←kM];done)|(rw [zCo (zKz hx) (by omega)];simp only [←kM];rfl)|(rw [zLc (zKz hx) (by omega)];simp only [←kM]))),Y,T⟩ O⟩
      ·try simp only [sx] at c6
       refine zI<|zN O<|G O<|zH O yV<|zM kF (zD 0 O) O<|G O<|qE O kO (by omega) (getm hx)<|zO zDf qA O<|qK O ok226 (r15_Index x (hix x (zY hx)).1 (hix x (zY hx)).2 (by have:=zCz (zY hx);omega)) ⟨Y,O,T⟩<|kY O (by (try simp only [U,W,List.size_toArray,List.length_cons,List.length_nil]);omega)<|G O<|R<|zN O<|G O<|qI O ⟨by omega,by omega⟩<|G O<|R ?_
       refine ⟨k+1,(by omega),(by omega),Weak.mk [true] ⟨Y,VLe.of_eq (congrArg vS (by first|(rw [zCo (zKz hx) (by omega)];simp only [←kM];done)|(rw [zCo (zKz hx) (by omega)];simp only [←kM];rfl)|(rw [zLc (zKz hx) (by omega)];simp only [←kM]))),Y,T⟩ O⟩
     ·try simp only [sx] at c5
      rw [yE (l:=e.Idx.map ixS) (k:=k) (by rw [List.length_map];omega)]
      refine qP<|A O<|G O<|kY O (by (try simp only [U,W,List.size_toArray,List.length_cons,List.length_nil]);omega)<|G O<|R<|zF<|zQ O ?_
      rw [exS_read c4];first|done|rfl
    ·try simp only [sx] at c4
     refine A O<|L O<|G O<|R<|zC O (fun c7=>?_) (fun c7=>?_)
     ·try simp only [sx] at c7
      obtain ⟨a,hab,ham⟩:=one_arg hp0 (by omega)
      have hza:=hzz a ham
      have hwa:=wH ham
      have hpz:=zCx 7 a.Op (exS a)
      refine A O<|zH O yY<|zM kU (zD 0 O) O<|qE O wE (by omega) (zBr (show e.Args[(0:Int).toNat]? =some a by rw [hab];rfl))<|zO qX qA O<|qK O ok222 (zGj a (7) (ih a ham) (by omega)) ⟨Y,O,Y,O,T⟩<|kY O (by (try simp only [U,W,List.size_toArray,List.length_cons,List.length_nil]);omega)<|G O<|R<|zF<|zQ O ?_
      rw [exS_neg c7 hab];first|done|rfl
     ·try simp only [sx] at c7
      refine A O<|L O<|G O<|R<|zC O (fun c8=>?_) (fun c8=>?_)
      ·try simp only [sx] at c8
       obtain ⟨a,hab,ham⟩:=one_arg hp0 (by omega)
       have hza:=hzz a ham
       have hwa:=wH ham
       have hpz:=zCx 3 a.Op (exS a)
       refine A O<|zH O yY<|zM kU (zD 0 O) O<|qE O wE (by omega) (zBr (show e.Args[(0:Int).toNat]? =some a by rw [hab];rfl))<|zO qX qA O<|qK O ok222 (zGj a (3) (ih a ham) (by omega)) ⟨Y,O,Y,O,T⟩<|kY O (by (try simp only [U,W,List.size_toArray,List.length_cons,List.length_nil]);omega)<|G O<|R<|zF<|zQ O ?_
       rw [exS_not c8 hab];first|done|rfl
      ·try simp only [sx] at c8
       refine A O<|L O<|G O<|R<|zC O (fun c9=>?_) (fun c9=>?_)
       ·try simp only [sx] at c9
        obtain ⟨a,c,hab,hpa,hpc⟩:=zPc hp0 (by unfold nArgs;rw [if_neg (by omega),if_neg (by omega),if_neg (by omega)])
        have ham:a∈e.Args:=by rw [hab];simp
        have hcm:c∈e.Args:=by rw [hab];simp
        have hza:=hzz a ham
        have hzc:=hzz c hcm
        have hwa:=wH ham
        have hwc:=wH hcm
        refine zK<|qU 15 mixed (by kernel_rfl) O O<|J O O (zE O yY O)<|J O O (zJ O kU O (zD 0 O) O)<|J O O (qO O wE O O (by omega) (zBr (show e.Args[(0:Int).toNat]? =some a by rw [hab];rfl)))<|J O O (zV O qX O qA O)<|J O O (qC O zRu (ih a ham) ⟨Y,O,T⟩)<|J O O (qM O O O (by (try simp only [U,W,List.size_toArray,List.length_cons,List.length_nil]);omega))<|J O O (qM O O O (by (try simp only [U,W,List.size_toArray,List.length_cons,List.length_nil]);omega))<|J O O (zE O yY O)<|J O O (zJ O kU O (zD 0 O) O)<|J O O (qO O wE O O (by omega) (zBr (show e.Args[(1:Int).toNat]? =some c by rw [hab];rfl)))<|J O O (zV O qX O qA O)<|J O O (qC O zRu (ih c hcm) ⟨Y,O,T⟩)<|J O O (qM O O O (by (try simp only [U,W,List.size_toArray,List.length_cons,List.length_nil]);omega))<|J O O (qM O O O (by (try simp only [U,W,List.size_toArray,List.length_cons,List.length_nil]);omega))<|J O O (qV O O)<|yO<|R<|zF<|zQ O ?_
        rw [exS_min c9 hab];first|done|rfl
       ·try simp only [sx] at c9
        refine A O<|L O<|G O<|R<|zC O (fun c10=>?_) (fun c10=>?_)
        ·try simp only [sx] at c10
         obtain ⟨a,c,hab,hpa,hpc⟩:=zPc hp0 (by unfold nArgs;rw [if_neg (by omega),if_neg (by omega),if_neg (by omega)])
         have ham:a∈e.Args:=by rw [hab];simp
         have hcm:c∈e.Args:=by rw [hab];simp
         have hza:=hzz a ham
         have hzc:=hzz c hcm
         have hwa:=wH ham
         have hwc:=wH hcm
         refine zK<|qU 15 mixed (by kernel_rfl) O O<|J O O (zE O yY O)<|J O O (zJ O kU O (zD 0 O) O)<|J O O (qO O wE O O (by omega) (zBr (show e.Args[(0:Int).toNat]? =some a by rw [hab];rfl)))<|J O O (zV O qX O qA O)<|J O O (qC O zRu (ih a ham) ⟨Y,O,T⟩)<|J O O (qM O O O (by (try simp only [U,W,List.size_toArray,List.length_cons,List.length_nil]);omega))<|J O O (qM O O O (by (try simp only [U,W,List.size_toArray,List.length_cons,List.length_nil]);omega))<|J O O (zE O yY O)<|J O O (zJ O kU O (zD 0 O) O)<|J O O (qO O wE O O (by omega) (zBr (show e.Args[(1:Int).toNat]? =some c by rw [hab];rfl)))<|J O O (zV O qX O qA O)<|J O O (qC O zRu (ih c hcm) ⟨Y,O,T⟩)<|J O O (qM O O O (by (try simp only [U,W,List.size_toArray,List.length_cons,List.length_nil]);omega))<|J O O (qM O O O (by (try simp only [U,W,List.size_toArray,List.length_cons,List.length_nil]);omega))<|J O O (qV O O)<|yO<|R<|zF<|zQ O ?_
         rw [exS_max c10 hab];first|done|rfl
        ·try simp only [sx] at c10
         refine A O<|L O<|G O<|R<|zC O (fun c11=>?_) (fun c11=>?_)
         ·try simp only [sx] at c11
          obtain ⟨a,c,d,hab,hpa,hpc,hpd⟩:=three_args hp0 (by rw [c11];decide)
          have ham:a∈e.Args:=by rw [hab];simp
          have hcm:c∈e.Args:=by rw [hab];simp
          have hdm:d∈e.Args:=by rw [hab];simp
          have hza:=hzz a ham
          have hzc:=hzz c hcm
          have hzd:=hzz d hdm
          have hwa:=wH ham
          have hwc:=wH hcm
          have hwd:=wH hdm
          refine zK<|qU 22 mixed (by kernel_rfl) O O<|J O O (zE O yY O)<|J O O (zJ O kU O (zD 0 O) O)<|J O O (qO O wE O O (by omega) (zBr (show e.Args[(0:Int).toNat]? =some a by rw [hab];rfl)))<|J O O (zV O qX O qA O)<|J O O (qC O zRu (ih a ham) ⟨Y,O,T⟩)<|J O O (qM O O O (by (try simp only [U,W,List.size_toArray,List.length_cons,List.length_nil]);omega))<|J O O (qM O O O (by (try simp only [U,W,List.size_toArray,List.length_cons,List.length_nil]);omega))<|J O O (zE O yY O)<|J O O (zJ O kU O (zD 0 O) O)<|J O O (qO O wE O O (by omega) (zBr (show e.Args[(1:Int).toNat]? =some c by rw [hab];rfl)))<|J O O (zV O qX O qA O)<|J O O (qC O zRu (ih c hcm) ⟨Y,O,T⟩)<|J O O (qM O O O (by (try simp only [U,W,List.size_toArray,List.length_cons,List.length_nil]);omega))<|J O O (qM O O O (by (try simp only [U,W,List.size_toArray,List.length_cons,List.length_nil]);omega))<|J O O (zE O yY O)<|J O O (zJ O kU O (zD 0 O) O)<|J O O (qO O wE O O (by omega) (zBr (show e.Args[(2:Int).toNat]? =some d by rw [hab];rfl)))<|J O O (zV O qX O qA O)<|J O O (qC O zRu (ih d hdm) ⟨Y,O,T⟩)<|J O O (qM O O O (by (try simp only [U,W,List.size_toArray,List.length_cons,List.length_nil]);omega))<|J O O (qM O O O (by (try simp only [U,W,List.size_toArray,List.length_cons,List.length_nil]);omega))<|J O O (qV O O)<|yO<|R<|zF<|zQ O ?_
          rw [exS_if c11 hab];first|done|rfl
         ·try simp only [sx] at c11
          have h12:e.Op=12:=known12 hp0 c2 c3 c4 c7 c8 c9 c10 c11 hnb2
          obtain ⟨a,hab,ham⟩:=cast_one hp0 h12
          have hza:=hzz a ham
          have hwa:=wH ham
          refine zI<|zK<|qU 13 mixed (by kernel_rfl) O O<|J O O (zE O zAo O)<|J O O (zV O yI O (zD 0 O) O)<|J O O (qC O ok53 (r15_Type e.Ty) ⟨Y,O,T⟩)<|J O O (qM O O O (by (try simp only [U,W,List.size_toArray,List.length_cons,List.length_nil]);omega))<|J O O (qM O O O (by (try simp only [U,W,List.size_toArray,List.length_cons,List.length_nil]);omega))<|J O O (zE O yY O)<|J O O (zJ O kU O (zD 0 O) O)<|J O O (qO O wE O O (by omega) (zBr (show e.Args[(0:Int).toNat]? =some a by rw [hab];rfl)))<|J O O (zV O qX O qA O)<|J O O (qC O zRu (ih a ham) ⟨Y,O,T⟩)<|J O O (qM O O O (by (try simp only [U,W,List.size_toArray,List.length_cons,List.length_nil]);omega))<|J O O (qM O O O (by (try simp only [U,W,List.size_toArray,List.length_cons,List.length_nil]);omega))<|J O O (qV O O)<|yO<|R<|zF<|zQ O ?_
          rw [exS_cast h12 (cast_ty hp0 h12) hab];first|done|rfl
theorem r15_text (e:Ex):partE e=0->e.allF Lf.rng->e.wt<=1000000->Pur cfg 156 [vE e] (vS (exS e)):=by
  induction e using Ex.ind with
  |_ e ih=>
    intro hp hr hw
    refine r15_text_step e (fun a ha=>ih a ha (zBc hp ha) (Ex.allF_arg hr ha) ?_) hp hr hw
    have h1:=Ex.wt_eq e
    have h2:=wH ha
    omega
theorem r15_Expr (e:Ex) (hr:e.allF Lf.rng) (hw:e.wt<=1000000):
    Pur cfg 104 [vE e] (vS (exT e)):=by
 refine zS Tryz.func104 O Tryz.ntmps104 Tryz.results104 O ?_
 intro z hz
 refine A O<|zU O O (qN O O) ?_
 rintro _ _ ⟨b1,rfl,rfl⟩
 refine G O<|R<|zK<|A O<|zO qX (zD 0 O) O<|qK O ok155 (zKf e (by omega)) ⟨Y,O,T⟩<|kP O<|R<|zC O (fun c1=>?_) (fun c1=>?_)
 ·try simp only [sx] at c1
  refine A O<|G O<|R<|zF<|zQ O ?_
  rw [exT_no c1];first|done|rfl
 ·try simp only [sx] at c1
  refine zI<|A O<|zO qX (zD 0 O) O<|qK O zRu (r15_text e (zDi c1) hr hw) ⟨Y,O,T⟩<|G O<|R<|zF<|zQ O ?_
  rw [exT_yes c1]
end Go.W
end
section
set_option maxRecDepth 10000
namespace Go.W
open Go Go.Eng Go.Proofs Go.L41 Go.Br
attribute [local irreducible] AWP RWP TD finQ
theorem arr4_at {a b c d:C} {i:Int} {x:C} (h:i=0/\x=a∨i=1/\x=b∨i=2/\x=c∨i=3/\x=d):[a,b,c,d][i.toNat]? =some x:=by
  rcases h with ⟨rfl,rfl⟩|⟨rfl,rfl⟩|⟨rfl,rfl⟩|⟨rfl,rfl⟩<;>rfl
theorem fold_arr {o f:Int} (c:¬o=2) (h:1<=f/\f<=4):f-1=0/\cS (foldS o f)=cS ⟨#[32,115,117,109,61,32]⟩∨f-1=1/\cS (foldS o f)=cS ⟨#[32,112,114,111,100,61,32]⟩∨f-1=2/\cS (foldS o f)=cS ⟨#[32,109,105,110,61,32]⟩∨f-1=3/\cS (foldS o f)=cS ⟨#[32,109,97,120,61,32]⟩:=by
  unfold foldS
  rw [if_neg c]
  rcases (show f=1∨f=2∨f=3∨f=4 by omega) with rfl|rfl|rfl|rfl
  · exact .inl ⟨rfl,rfl⟩
  · exact .inr (.inl ⟨rfl,rfl⟩)
  · exact .inr (.inr (.inl ⟨rfl,rfl⟩))
  · exact .inr (.inr (.inr ⟨rfl,rfl⟩))
theorem ar181:arrT Tryz.prog 181=some (4,9,1):=by kernel_rfl
theorem ok54:callOk Tryz.prog 54=true:=by kernel_rfl
theorem ok56:callOk Tryz.prog 56=true:=by kernel_rfl
theorem ok103:callOk Tryz.prog 103=true:=by kernel_rfl
theorem ok104:callOk Tryz.prog 104=true:=by kernel_rfl
theorem ok105:callOk Tryz.prog 105=true:=by kernel_rfl
theorem pla181:placesA Tryz.prog 181=some (4,1):=by kernel_rfl
theorem zr181:zeroT Tryz.prog 181=some [(Value.string (ByteArray.mk #[])),(Value.string (ByteArray.mk #[])),(Value.string (ByteArray.mk #[])),(Value.string (ByteArray.mk #[]))]:=by kernel_rfl
theorem zLx (s:St) (h3:¬s.Op=2->1<=s.Fold/\s.Fold<=4):
    Pur cfg 100 [vSt s] (vS (foldS s.Op s.Fold)):=by
 refine zS Tryz.func100 O Tryz.ntmps100 Tryz.results100 O ?_
 intro z hz
 refine A O<|zU O O (qN O O) ?_
 rintro _ _ ⟨b1,rfl,rfl⟩
 refine G O<|R<|zK<|A O<|zH O zAf<|zM one3 (zD 0 O) O<|L O<|R<|zC O (fun c1=>?_) (fun c1=>?_)
 ·try simp only [sx] at c1
  refine A O<|G O<|R<|zF<|zQ O ?_
  rw [show foldS s.Op s.Fold=bs [32,61,32] by unfold foldS;rw [if_pos c1]];first|done|rfl
 ·try simp only [sx] at c1
  refine zI<|A O<|zT O (zHb O zr181 pla181 O)<|zH O zIr<|zM one3 (zD 0 O) O<|zT O (yD O O O ⟨by have:=h3 c1;omega,by have:=h3 c1;omega⟩)<|zT O (zGz O ar181 one9 O O (by have:=h3 c1;omega) (by have:=h3 c1;omega) (arr4_at (x:=cS (foldS s.Op s.Fold)) (fold_arr c1 (h3 c1))))<|G O<|R<|zF<|zQ O ?_
  exact O
theorem r30_dig (n:Int) (h1:1<=n) (h2:n<1000000000000000000):Pur cfg 54 [vI n] (vS (intS n)):=by
  have h:=ref30_digits n.toNat (by omega) (by omega)
  rw [show ((n.toNat:Nat):Int)=n by omega] at h
  rw [intS_nat (by omega)];exact h
theorem zKg (l:List St) (ind:ByteArray) (h1:lnOks l) (h2:fmSs l) (hw:ind.size+2*stsWt l<=2000) (ih:∀s,s∈l->Pur cfg 56 [vSts s.Body,vS (ind++bs [32,32])] (vS (stsS (ind++bs [32,32]) s.Body))):
    Pur cfg 56 [vSts l,vS ind] (vS (stsS ind l)):=by
 refine zS Tryz.func56 O Tryz.ntmps56 Tryz.results56 O ?_
 intro z hz
 have hzt:=zFq l ind h1 hw
 have hll:=zAe l
 refine A O<|G O<|R<|A O<|G O<|R<|zK<|A O<|G O<|R<|zR<|zX ⟨[(6,.c _),(5,.c _),(0,.c _),(1,.c _)],[]⟩ (Weak.mk [] ⟨Y,Y,Y,Y,T⟩ O)<|qG 2 0 O O (Nat) (fun k=>[(6,vI k),(5,vS (stsS ind (l.take k)))]) (fun k=>[]) (fun k=>k<=l.length) (fun k=>l.length-k) ⟨0,(by omega),Weak.mk [] ⟨Y,VLe.of_eq (O),Y,Y,T⟩ O⟩ ?_
 rintro k hk
 refine zK<|A O<|G O<|G O<|zZ O el51<|yJ O<|R<|zC O (fun c1=>?_) (fun c1=>?_)
 ·try simp only [sx] at c1
  obtain ⟨s,hs⟩:=qY l k (by omega)
  have hsl:=zEs h1 (zY hs)
  rw [zNk] at hsl
  obtain ⟨hl1,hl2,hl3,hl4,hl5⟩:=hsl
  have hsf:=zGu h2 (zY hs)
  rw [fmS_eq] at hsf
  obtain ⟨hf1,hf3,hfo,hfb⟩:=hsf
  have hsw:=kK (zY hs)
  have hxw:=idx_wt_st s
  have hnx:=stsS_nx (ind:=ind) hs
  have hrw:=readX_wt s.Name s.Idx
  have hes:=zJo hl3
  have hrs:=zJo (zFr (n:=s.Name) hl4)
  have hms:=wT hl2
  have hks:=zNj s.Mark
  have hfs:=zNq s.Op s.Fold
  have hbz:=zFq s.Body (ind++bs [32,32]) hl5 (by rw [U];show _+2+_<=_;omega)
  refine zI<|zK<|zR<|A O<|G O<|G O<|qE O el51 (by omega) (zDc hs)<|zO zDe qA O<|zU O O (qT [none,none,none,none,none,some 4,none,none,none,none,none,none,none,none,none,none,some 2,some 4,some 13,some 20] O zQb O) ?_
  rintro _ _ ⟨b1,rfl,rfl⟩
  refine rStR 0 sz110 O<|R<|A O<|zH O zAf<|zM one3 (zD 0 O) O<|R<|zR<|A O<|L O<|G O<|R<|zC O (fun c2=>?_) (fun c2=>?_)
  ·try simp only [sx] at c2
   have hf1:=hf1 c2
   refine qU 27 mixed (by kernel_rfl) O O<|J O O (zP O O)<|J O O (zP O O)<|J O O (qM O O O (by (try simp only [U,W,yT,List.size_toArray,List.length_cons,List.length_nil] at *);omega))<|J O O (qM O O O (by (try simp only [U,W,yT,List.size_toArray,List.length_cons,List.length_nil] at *);omega))<|J O O (zE O wZ O)<|J O O (zJ O one9 O (zD 0 O) O)<|J O O (qM O O O (by (try simp only [U,W,yT,List.size_toArray,List.length_cons,List.length_nil] at *);omega))<|J O O (qM O O O (by (try simp only [U,W,yT,List.size_toArray,List.length_cons,List.length_nil] at *);omega))<|J O O (zE O zFo O)<|J O O (zJ O one3 O (zD 0 O) O)<|J O O (qC O ok54 (r30_dig s.Many hf1.1.1 hf1.1.2) ⟨Y,O,T⟩)<|J O O (qM O O O (by (try simp only [U,W,yT,List.size_toArray,List.length_cons,List.length_nil] at *);omega))<|J O O (zE O zIs O)<|J O O (zJ O one3 O (zD 0 O) O)<|J O O (qC O ok103 (r30_mark s.Mark) ⟨Y,O,T⟩)<|J O O (qM O O O (by (try simp only [U,W,yT,List.size_toArray,List.length_cons,List.length_nil] at *);omega))<|J O O (qM O O O (by (try simp only [U,W,yT,List.size_toArray,List.length_cons,List.length_nil] at *);omega))<|J O O (zE O zAu O)<|J O O (zJ O zCg O (zD 0 O) O)<|J O O (zP O O)<|J O O (qM O O O (by (try simp only [U,W,yT,List.size_toArray,List.length_cons,List.length_nil] at *);omega))<|J O O (qC O ok56 (ih s (zY hs)) ⟨Y,O,Y,O,T⟩)<|J O O (qM O O O (by (try simp only [U,W,yT,List.size_toArray,List.length_cons,List.length_nil] at *);omega))<|J O O (zP O O)<|J O O (qM O O O (by (try simp only [U,W,yT,List.size_toArray,List.length_cons,List.length_nil] at *);omega))<|J O O (qM O O O (by (try simp only [U,W,yT,List.size_toArray,List.length_cons,List.length_nil] at *);omega))<|J O O (qV O O)<|yO<|R<|zN O<|G O<|qI O ⟨by omega,by omega⟩<|G O<|R ?_
   refine ⟨k+1,(by omega),(by omega),Weak.mk [false] ⟨Y,VLe.of_eq (congrArg vS (by rw [zDt hs];first|(rw [zHs c2];simp only [←kM];first|done|rfl)|(rw [zOc c2 (by omega)];simp only [←kM];first|done|rfl)|(rw [zKq (by omega)];simp only [←kM];first|done|rfl))),Y,Y,T⟩ O⟩
  ·try simp only [sx] at c2
   refine A O<|L O<|G O<|R<|zC O (fun c3=>?_) (fun c3=>?_)
   ·try simp only [sx] at c3
    refine qU 19 mixed (by kernel_rfl) O O<|J O O (zP O O)<|J O O (zP O O)<|J O O (qM O O O (by (try simp only [U,W,yT,List.size_toArray,List.length_cons,List.length_nil] at *);omega))<|J O O (qM O O O (by (try simp only [U,W,yT,List.size_toArray,List.length_cons,List.length_nil] at *);omega))<|J O O (zE O zAv O)<|J O O (zV O qX O (zD 0 O) O)<|J O O (qC O ok104 (r15_Expr s.E hl3 (by omega)) ⟨Y,O,T⟩)<|J O O (qM O O O (by (try simp only [U,W,yT,List.size_toArray,List.length_cons,List.length_nil] at *);omega))<|J O O (qM O O O (by (try simp only [U,W,yT,List.size_toArray,List.length_cons,List.length_nil] at *);omega))<|J O O (zE O zAu O)<|J O O (zJ O zCg O (zD 0 O) O)<|J O O (zP O O)<|J O O (qM O O O (by (try simp only [U,W,yT,List.size_toArray,List.length_cons,List.length_nil] at *);omega))<|J O O (qC O ok56 (ih s (zY hs)) ⟨Y,O,Y,O,T⟩)<|J O O (qM O O O (by (try simp only [U,W,yT,List.size_toArray,List.length_cons,List.length_nil] at *);omega))<|J O O (zP O O)<|J O O (qM O O O (by (try simp only [U,W,yT,List.size_toArray,List.length_cons,List.length_nil] at *);omega))<|J O O (qM O O O (by (try simp only [U,W,yT,List.size_toArray,List.length_cons,List.length_nil] at *);omega))<|J O O (qV O O)<|yO<|R<|zN O<|G O<|qI O ⟨by omega,by omega⟩<|G O<|R ?_
    refine ⟨k+1,(by omega),(by omega),Weak.mk [false] ⟨Y,VLe.of_eq (congrArg vS (by rw [zDt hs];first|(rw [zHs c2];simp only [←kM];first|done|rfl)|(rw [zOc c2 (by omega)];simp only [←kM];first|done|rfl)|(rw [zKq (by omega)];simp only [←kM];first|done|rfl))),Y,Y,T⟩ O⟩
   ·try simp only [sx] at c3
    refine qU 19 mixed (by kernel_rfl) O O<|J O O (zP O O)<|J O O (zP O O)<|J O O (qM O O O (by (try simp only [U,W,yT,List.size_toArray,List.length_cons,List.length_nil] at *);omega))<|J O O (zE O wZ O)<|J O O (zJ O one9 O (zD 0 O) O)<|J O O (zE O zDl O)<|J O O (zJ O kF O (zD 0 O) O)<|J O O (wG [none,none,none,none,none,none,none,none,none,none,some 2,none,some 13] O zDx zRn O O)<|J O O (qC O ok104 (r15_Expr (readX s.Name s.Idx) (zFr hl4) (by omega)) ⟨Y,O,T⟩)<|J O O (qM O O O (by (try simp only [U,W,yT,List.size_toArray,List.length_cons,List.length_nil] at *);omega))<|J O O (zV O zDe O (zD 0 O) O)<|J O O (qC O ok105 (r30_fold s) ⟨Y,O,T⟩)<|J O O (qM O O O (by (try simp only [U,W,yT,List.size_toArray,List.length_cons,List.length_nil] at *);omega))<|J O O (zE O zAv O)<|J O O (zV O qX O (zD 0 O) O)<|J O O (qC O ok104 (r15_Expr s.E hl3 (by omega)) ⟨Y,O,T⟩)<|J O O (qM O O O (by (try simp only [U,W,yT,List.size_toArray,List.length_cons,List.length_nil] at *);omega))<|J O O (qM O O O (by (try simp only [U,W,yT,List.size_toArray,List.length_cons,List.length_nil] at *);omega))<|J O O (qV O O)<|yO<|R<|zN O<|G O<|qI O ⟨by omega,by omega⟩<|G O<|R ?_
    refine ⟨k+1,(by omega),(by omega),Weak.mk [false] ⟨Y,VLe.of_eq (congrArg vS (by rw [zDt hs];first|(rw [zHs c2];simp only [←kM];first|done|rfl)|(rw [zOc c2 (by omega)];simp only [←kM];first|done|rfl)|(rw [zKq (by omega)];simp only [←kM];first|done|rfl))),Y,Y,T⟩ O⟩
 ·try simp only [sx] at c1
  rw [yE (l:=l) (k:=k) (by omega)]
  refine qP<|A O<|G O<|G O<|R<|zF<|zQ O ?_
  exact O
end Go.W
end
section
set_option maxRecDepth 10000
namespace Go.W
open Go Go.Eng Go.Proofs Go.L41 Go.Br
attribute [local irreducible] AWP RWP TD finQ
def bfF (b:Bf):Prop:=b.Name.size<=16/\b.Dims.length<=1000/\(∀d,d∈b.Dims->1<=d/\d<1000000000000000000)/\1<=b.Use/\b.Use<=3
theorem bf_size {b:Bf} (h:bfF b):(bufS b).size<=30000:=by
  have h1:=bufS_size (b:=b) fun n hn=>by have:=h.2.2.1 n hn;omega
  have:=h.1;have:=h.2.1
  omega
theorem zIz:∀{l:List Bf},(∀b,b∈l->bfF b)->(bufsS l).size<=30000*l.length
  |[],_=>Nat.zero_le _
  |b::r,h=>by
    have h1:=bf_size (h b (by simp))
    have h2:=zIz (l:=r) fun c hc=>h c (by simp [hc])
    rw [bufsS,U,List.length_cons];omega
theorem zMb {l:List Int} {k:Nat} {x:Int} (h:l[k]? =some x):(l.map intS)[k]? =some (intS x):=by rw [List.getElem?_map,h];rfl
abbrev bfH (b:Bf):ByteArray:=b.Name++bs [58,32]++tyS b.T++bs [91]
theorem bufS_eq (b:Bf):bufS b=bfH b++comS (b.Dims.map intS)++bs [93,32]++useS b.Use++bs [10]:=rfl
theorem r30_lines_b (s:St):∀(ind:ByteArray),lnOks s.Body->fmSs s.Body->ind.size+2*stsWt s.Body<=2000->Pur cfg 56 [vSts s.Body,vS ind] (vS (stsS ind s.Body)):=by
  induction s using St.ind with
  |_ s ih=>
    intro ind h1 h2 hw
    refine zKg s.Body ind h1 h2 hw fun a ha=>ih a ha (ind++bs [32,32]) ?_ ?_ ?_
    · have h:=zEs h1 ha;rw [zNk] at h;exact h.2.2.2.2
    · have h:=zGu h2 ha;rw [fmS_eq] at h;exact h.2.2.2
    · have h3:=kK ha;have h4:=St.body_wt a;rw [U];show _+2+_<=_;omega
theorem r30_lines (l:List St) (ind:ByteArray) (h1:lnOks l) (h2:fmSs l) (hw:ind.size+2*stsWt l<=2000):Pur cfg 56 [vSts l,vS ind] (vS (stsS ind l)):=
  zKg l ind h1 h2 hw fun a ha=>r30_lines_b a (ind++bs [32,32]) (by have h:=zEs h1 ha;rw [zNk] at h;exact h.2.2.2.2) (by have h:=zGu h2 ha;rw [fmS_eq] at h;exact h.2.2.2) (by have h3:=kK ha;have h4:=St.body_wt a;rw [U];show _+2+_<=_;omega)
theorem ok55:callOk Tryz.prog 55=true:=by kernel_rfl
theorem r30_Format (n:Ns) (h1:lnOks n.Body) (h2:fmSs n.Body) (hw:2*stsWt n.Body<=2000) (hbf:∀b,b∈n.Bufs->bfF b) (hbl:n.Bufs.length<=1000):
    Pur cfg 18 [vNs n] (vS (nestS n)):=by
 refine zS Tryz.func18 O Tryz.ntmps18 Tryz.results18 O ?_
 intro z hz
 have hzt:=zFq n.Body (bs []) h1 (by show 0+_<=_;omega)
 have hbz:=zIz hbf
 refine A O<|zU O O (qN O O) ?_
 rintro _ _ ⟨b1,rfl,rfl⟩
 refine G O<|R<|A O<|G O<|R<|zK<|A O<|G O<|R<|zR<|zX ⟨[(4,.c _),(3,.c _),(1,.c _)],[_]⟩ (Weak.mk [true] ⟨Y,Y,Y,T⟩ O)<|qG 2 0 O O (Nat) (fun k=>[(4,vI k),(3,vS (bufsS (n.Bufs.take k)))]) (fun k=>[]) (fun k=>k<=n.Bufs.length) (fun k=>n.Bufs.length-k) ⟨0,(by omega),Weak.mk [true] ⟨Y,VLe.of_eq (O),Y,T⟩ O⟩ ?_
 rintro k hk
 refine zK<|A O<|G O<|zH O zAt<|zM zDv (zD 0 O) O<|zZ O el50<|yJ O<|R<|zC O (fun c1=>?_) (fun c1=>?_)
 ·try simp only [sx] at c1
  obtain ⟨b,hb⟩:=qY n.Bufs k (by omega)
  have hbb:=hbf b (zY hb)
  have hb1:=hbb.1
  have hb2:=hbb.2.1
  have hkz:=zIz (l:=n.Bufs.take k) (fun c hc=>hbf c (List.mem_of_mem_take hc))
  have hkl:(n.Bufs.take k).length<=1000:=by rw [List.length_take];omega
  have hty:=zJc b.T
  have hus:=zQp b.Use
  have hcz:=zCj (b.Dims.map intS)
  have hiz:=zPd (l:=b.Dims) (fun d hd=>by have:=hbb.2.2.1 d hd;omega)
  rw [List.length_map] at hcz
  refine zI<|zK<|zR<|A O<|zH O zAt<|zM zDv (zD 0 O) O<|G O<|qE O el50 (by omega) (getm hb)<|zO zLe qA O<|zU O O (qT [none,none,none,none,none,none,some 1,none] O zr95 O) ?_
  rintro _ _ ⟨b2,rfl,rfl⟩
  refine rStR 0 sz95 O<|R<|zK<|qU 11 mixed (by kernel_rfl) O O<|J O O (zP O O)<|J O O (zE O zHm O)<|J O O (zJ O one9 O (zD 0 O) O)<|J O O (qM O O O (by (try simp only [U,W,yT,List.size_toArray,List.length_cons,List.length_nil] at *);omega))<|J O O (qM O O O (by (try simp only [U,W,yT,List.size_toArray,List.length_cons,List.length_nil] at *);omega))<|J O O (zE O zIn O)<|J O O (zV O yI O (zD 0 O) O)<|J O O (qC O ok53 (r15_Type b.T) ⟨Y,O,T⟩)<|J O O (qM O O O (by (try simp only [U,W,yT,List.size_toArray,List.length_cons,List.length_nil] at *);omega))<|J O O (qM O O O (by (try simp only [U,W,yT,List.size_toArray,List.length_cons,List.length_nil] at *);omega))<|J O O (qV O O)<|yO<|R<|zK<|A O<|G O<|R<|zR<|zX ⟨[(6,.c _),(3,.c _),(1,.c _),(4,.c _),(5,.c _)],[_,_]⟩ (Weak.mk [true,true] ⟨Y,Y,Y,Y,Y,T⟩ O) ?_
  refine qG 2 0 O O (Nat) (fun j=>[(6,vI j),(3,vS (bufsS (n.Bufs.take k)++bfH b++comS ((b.Dims.map intS).take j)))]) (fun j=>[]) (fun j=>j<=b.Dims.length) (fun j=>b.Dims.length-j) ⟨0,(by omega),Weak.mk [true,true] ⟨Y,VLe.of_eq (congrArg vS (by show _=bufsS (n.Bufs.take k)++bfH b++bs [];rw [zAj];simp only [bfH,←kM];first|done|rfl)),Y,Y,Y,T⟩ O⟩ ?_
  rintro j hj
  refine zK<|A O<|G O<|zH O zEt<|zM zEh (zD 0 O) O<|zZ O el55<|yJ O<|R<|zC O (fun c2=>?_) (fun c2=>?_)
  ·try simp only [sx] at c2
   obtain ⟨d,hd⟩:=qY b.Dims j (by omega)
   have hjz:=zIw (b.Dims.map intS) j
   rw [List.length_map] at hjz
   have hdz:=wT (n:=d) (by have:=hbb.2.2.1 d (zY hd);omega)
   refine zI<|zK<|zR<|zK<|A O<|G O<|zT O (yA O O O)<|R<|zC O (fun c3=>?_) (fun c3=>?_)
   ·try simp only [sx] at c3
    refine zN O<|G O<|kY O (by (try simp only [U,W,yT,List.size_toArray,List.length_cons,List.length_nil] at *);omega)<|G O<|R<|zN O<|G O<|zH O zEt<|zM zEh (zD 0 O) O<|G O<|qE O el55 (by omega) (getm hd)<|zM one3 qA O<|qK O ok54 (r30_dig d (hbb.2.2.1 d (zY hd)).1 (hbb.2.2.1 d (zY hd)).2) ⟨Y,O,T⟩<|kY O (by (try simp only [U,W,yT,List.size_toArray,List.length_cons,List.length_nil] at *);omega)<|G O<|R<|zN O<|G O<|qI O ⟨by omega,by omega⟩<|G O<|R ?_
    refine ⟨j+1,(by omega),(by omega),Weak.mk [true,true] ⟨Y,VLe.of_eq (congrArg vS (by first|(rw [zCo (zMb hd) (by omega)];simp only [←kM];first|done|rfl)|(rw [zLc (zMb hd) (by omega)];simp only [←kM]))),Y,Y,Y,T⟩ O⟩
   ·try simp only [sx] at c3
    refine zI<|zN O<|G O<|zH O zEt<|zM zEh (zD 0 O) O<|G O<|qE O el55 (by omega) (getm hd)<|zM one3 qA O<|qK O ok54 (r30_dig d (hbb.2.2.1 d (zY hd)).1 (hbb.2.2.1 d (zY hd)).2) ⟨Y,O,T⟩<|kY O (by (try simp only [U,W,yT,List.size_toArray,List.length_cons,List.length_nil] at *);omega)<|G O<|R<|zN O<|G O<|qI O ⟨by omega,by omega⟩<|G O<|R ?_
    refine ⟨j+1,(by omega),(by omega),Weak.mk [true,true] ⟨Y,VLe.of_eq (congrArg vS (by first|(rw [zCo (zMb hd) (by omega)];simp only [←kM];first|done|rfl)|(rw [zLc (zMb hd) (by omega)];simp only [←kM]))),Y,Y,Y,T⟩ O⟩
  ·try simp only [sx] at c2
   rw [yE (l:=b.Dims.map intS) (k:=j) (by rw [List.length_map];omega)]
   refine qP<|zN O<|G O<|kY O (by (try simp only [U,W,yT,List.size_toArray,List.length_cons,List.length_nil] at *);omega)<|zH O zMe<|zM one3 (zD 0 O) O<|qK O ok55 (r30_use b.Use) ⟨Y,O,T⟩<|kY O (by (try simp only [U,W,yT,List.size_toArray,List.length_cons,List.length_nil] at *);omega)<|kY O (by (try simp only [U,W,yT,List.size_toArray,List.length_cons,List.length_nil] at *);omega)<|G O<|R<|zN O<|G O<|qI O ⟨by omega,by omega⟩<|G O<|R ?_
   refine ⟨k+1,(by omega),(by omega),Weak.mk [false,true] ⟨Y,VLe.of_eq (congrArg vS (by rw [bufsS_next hb,bufS_eq];simp only [←kM])),Y,T⟩ O⟩
 ·try simp only [sx] at c1
  rw [yE (l:=n.Bufs) (k:=k) (by omega)]
  refine qP<|A O<|G O<|zH O zFf<|zM zCg (zD 0 O) O<|qK O ok56 (r30_lines n.Body (bs []) h1 h2 (by show 0+_<=_;omega)) ⟨Y,O,Y,O,T⟩<|kY O (by (try simp only [U,W,yT,List.size_toArray,List.length_cons,List.length_nil] at *);omega)<|G O<|R<|zF<|zQ O ?_
  exact O
end Go.W
end
section
set_option maxRecDepth 10000
namespace Go.W
open Go Go.Eng Go.Proofs Go.L41 Go.Br
attribute [local irreducible] AWP RWP TD finQ
def WS (l:List St) (ind:ByteArray):Prop:=∀(b:Nat) (p sv:Value) (t:ByteArray),NN sv->(p=.pointer none∨p=bldP b)->t.size+(stsS ind l).size<=1000000000000->
  Con cfgI 51 [vBp b,vSts l,vS ind] (bldE b p sv t) (fun r μ'=>r=.tup []/\∃p' sv',NN sv'/\(p'=.pointer none∨p'=bldP b)/\μ'=bldE b p' sv' (t++stsS ind l))
theorem mark_arr {k:Int} (h:0<=k/\k<=3):k=0/\cS (markS k)=cS ⟨#[]⟩∨k=1/\cS (markS k)=cS ⟨#[32,112,97,114,97,108,108,101,108]⟩∨k=2/\cS (markS k)=cS ⟨#[32,118,101,99,116,111,114]⟩∨k=3/\cS (markS k)=cS ⟨#[32,117,110,114,111,108,108]⟩:=by
  rcases (show k=0∨k=1∨k=2∨k=3 by omega) with rfl|rfl|rfl|rfl
  · exact .inl ⟨rfl,rfl⟩
  · exact .inr (.inl ⟨rfl,rfl⟩)
  · exact .inr (.inr (.inl ⟨rfl,rfl⟩))
  · exact .inr (.inr (.inr ⟨rfl,rfl⟩))
theorem ok51:callOk Tryz.prog 51=true:=by kernel_rfl
theorem ok99:callOk Tryz.prog 99=true:=by kernel_rfl
theorem ok100:callOk Tryz.prog 100=true:=by kernel_rfl
theorem ws_step0 (l:List St) (ind:ByteArray) (h1:lnOks l) (h2:fmSs l) (hw:ind.size+2*stsWt l<=2000) (ih:∀s,s∈l->WS s.Body (ind++bs [32,32])) (b:Nat) (p sv:Value) (t:ByteArray) (hnn:NN sv) (hp:p=.pointer none∨p=bldP b) (hs0:t.size+(stsS ind l).size<=1000000000000):
    Con cfgI 51 [vBp b,vSts l,vS ind] (bldE b p sv t) fun r μ'=>r=.tup []/\∃p' sv',NN sv'/\(p'=.pointer none∨p'=bldP b)/\μ'=bldE b p' sv' (t++stsS ind l):=by
 refine zS Tryz.func51 O Tryz.ntmps51 Tryz.results51 O ?_
 intro z hz
 have hll:=zAe l
 refine A O<|G O<|zZ O el51<|G O<|R<|zR<|zX ⟨[(12,.c _),(0,.c _),(1,.c _),(2,.c _),(11,.c _)],[_,_]⟩ (Weak.mk [true,true] ⟨Y,Y,Y,Y,Y,T⟩ O)<|qG 1 2 O O (Nat×Value×Value) (fun ⟨k,pv,sv1⟩=>[(12,vI k)]) (fun ⟨k,pv,sv1⟩=>[E.row b 130 [.lit pv,.lit sv1],E.vec sv1 5 1 (byR (t++stsS ind (l.take k)))]) (fun ⟨k,pv,sv1⟩=>k<=l.length/\(NN sv1)/\(pv=.pointer none∨pv=bldP b)) (fun ⟨k,pv,sv1⟩=>l.length-k) ⟨⟨0,p,sv⟩,⟨by omega,hnn,hp⟩,Weak.mk [true,true] ⟨Y,Y,Y,Y,Y,T⟩ (by show _=bldE b p sv (t++bs [])++_;rw [zAj];rfl)⟩ ?_
 rintro ⟨k,pv,sv1⟩ ⟨hk,hnv,hpv⟩
 show AWP _ _ _ _ _ ⟨[(12,vI k)]++_,[E.row b 130 [.lit pv,.lit sv1],E.vec sv1 5 1 (byR (t++stsS ind (l.take k)))]++_⟩
 refine A O<|yJ O<|R<|zK<|zC O (fun c1=>?_) (fun c1=>?_)
 ·try simp only [sx] at c1
  obtain ⟨s,hs⟩:=qY l k (by omega)
  have hsl:=zEs h1 (zY hs)
  rw [zNk] at hsl
  obtain ⟨hl1,hl2,hl3,hl4,hl5⟩:=hsl
  have hsf:=zGu h2 (zY hs)
  rw [fmS_eq] at hsf
  obtain ⟨hf1,hf3,hfo,hfb⟩:=hsf
  have hsw:=kK (zY hs)
  have hxw:=idx_wt_st s
  have hnx:=stsS_nx (ind:=ind) hs
  have hrw:=readX_wt s.Name s.Idx
  have hes:=zJo hl3
  have hrs:=zJo (zFr (n:=s.Name) hl4)
  have hms:=wT hl2
  have hks:=zNj s.Mark
  have hfs:=zNq s.Op s.Fold
  refine zI<|zK<|zR<|A O<|G O<|G O<|R<|A O<|G O<|G O<|qE O el51 (by omega) (zDc hs)<|zO zDe qA O<|zU O O (qT [none,none,none,none,none,some 4,none,none,none,none,none,none,none,none,none,none,some 2,some 4,some 13,some 20] O zQb O) ?_
  rintro _ _ ⟨b1,rfl,rfl⟩
  refine rStR 0 sz110 O<|R<|A O<|zH O zAv<|zO qX (zD 0 O) O<|qK O ok99 (zLo s.E hl3 (by omega)) ⟨Y,O,T⟩<|kY O (by (try simp only [U,W,yT,List.size_toArray,List.length_cons,List.length_nil] at *);omega)<|G O<|R<|zK<|A O<|zH O zAf<|zM one3 (zD 0 O) O<|R<|zR<|A O<|L O<|G O<|R<|zC O (fun c2=>?_) (fun c2=>?_)
  ·try simp only [sx] at c2
   have hf1:=hf1 c2
   have hst:=congrArg ByteArray.size (zHs (ind:=ind) c2)
   refine qU 14 mixed (by kernel_rfl) O O<|J O O (zE O wZ O)<|J O O (zJ O one9 O (zD 0 O) O)<|J O O (qM O O O (by (try simp only [U,W,yT,List.size_toArray,List.length_cons,List.length_nil] at *);omega))<|J O O (qM O O O (by (try simp only [U,W,yT,List.size_toArray,List.length_cons,List.length_nil] at *);omega))<|J O O (zE O zFo O)<|J O O (zJ O one3 O (zD 0 O) O)<|J O O (qC O ok91 (itoaI s.Many (by have:=hf1.1.1;omega) (by have:=hf1.1.2;omega)) ⟨Y,O,T⟩)<|J O O (qM O O O (by (try simp only [U,W,yT,List.size_toArray,List.length_cons,List.length_nil] at *);omega))<|J O O (zHb O zr181 pla181 O)<|J O O (zE O zIs O)<|J O O (zJ O one3 O (zD 0 O) O)<|J O O (zGz O ar181 one9 O O (by omega) (by omega) (arr4_at (x:=cS (markS s.Mark)) (mark_arr hf1.2)))<|J O O (qM O O O (by (try simp only [U,W,yT,List.size_toArray,List.length_cons,List.length_nil] at *);omega))<|J O O (qV O O)<|yO<|R<|A O<|G O<|G O<|G O<|kY O (by (try simp only [U,W,yT,List.size_toArray,List.length_cons,List.length_nil] at *);omega)<|kY O (by (try simp only [U,W,yT,List.size_toArray,List.length_cons,List.length_nil] at *);omega)<|zU O O (qH [1,1] O ok49 (upI (qS b pv sv1 (t++stsS ind (l.take k)) (ind++(bs [102,111,114,32]++s.Name++bs [32,60,32]++intS s.Many++markS s.Mark)++bs [32,123,10]) hnv (by (try simp only [U,W,yT,List.size_toArray,List.length_cons,List.length_nil] at *);omega) hpv)) ⟨Y,O,Y,O,T⟩ O) ?_
   rintro _ _ ⟨_,⟨sw2,hw2,rfl,rfl⟩,rfl⟩
   refine R<|A O<|G O<|zH O zAu<|zM zCg (zD 0 O) O<|G O<|kY O (by (try simp only [U,W,yT,List.size_toArray,List.length_cons,List.length_nil] at *);omega)<|zU O O (qH [1,1] O ok51 (ih s (zY hs) b (bldP b) sw2 (t++stsS ind (l.take k)++(ind++(bs [102,111,114,32]++s.Name++bs [32,60,32]++intS s.Many++markS s.Mark)++bs [32,123,10])) hw2 (.inr O) (by (try simp only [U,W,yT,List.size_toArray,List.length_cons,List.length_nil] at *);omega)) ⟨Y,O,Y,O,Y,O,T⟩ O) ?_
   rintro _ _ ⟨_,⟨rfl,pv3,sw3,hw3,hp3,rfl⟩,rfl⟩
   refine R<|zN O<|G O<|G O<|kY O (by (try simp only [U,W,yT,List.size_toArray,List.length_cons,List.length_nil] at *);omega)<|zU O O (qH [1,1] O ok49 (upI (qS b pv3 sw3 (t++stsS ind (l.take k)++(ind++(bs [102,111,114,32]++s.Name++bs [32,60,32]++intS s.Many++markS s.Mark)++bs [32,123,10])++stsS (ind++bs [32,32]) s.Body) (ind++bs [125,10]) hw3 (by (try simp only [U,W,yT,List.size_toArray,List.length_cons,List.length_nil] at *);omega) hp3)) ⟨Y,O,Y,O,T⟩ O) ?_
   rintro _ _ ⟨_,⟨sw9,hw9,rfl,rfl⟩,rfl⟩
   refine R<|zN O<|qI O ⟨by omega,by omega⟩<|G O<|R ?_
   refine ⟨⟨k+1,(bldP b),sw9⟩,⟨by omega,hw9,.inr O⟩,(by show l.length-(k+1)<l.length-k;omega),Weak.mk [false,true,true] ⟨Y,Y,Y,Y,Y,T⟩ (by have htx:stsS ind (l.take (k+1))=stsS ind (l.take k)++stS ind s:=zDt hs;show _=bldE b (bldP b) sw9 (t++stsS ind (l.take (k+1)))++_;rw [htx];first|(rw [zHs c2];simp only [←kM];rfl)|(rw [zOc c2 (by omega)];simp only [←kM];rfl)|(rw [zKq (by omega)];simp only [←kM];rfl))⟩
  ·try simp only [sx] at c2
   refine zK<|A O<|L O<|G O<|R<|zC O (fun c3=>?_) (fun c3=>?_)
   ·try simp only [sx] at c3
    refine zI<|zC O (fun c4=>?_) (fun c4=>?_)
    ·try simp only [sx] at c4
     refine A O<|zH O wZ<|zM one9 (zD 0 O) O<|zH O zDl<|zM kF (zD 0 O) O<|zT O (wG [none,none,none,none,none,none,none,none,none,none,some 2,none,some 13] O zDx zRn O O)<|qK O ok99 (zLo (readX s.Name s.Idx) (zFr hl4) (by omega)) ⟨Y,O,T⟩<|G O<|R<|zK<|qU 12 mixed (by kernel_rfl) O O<|J O O (zP O O)<|J O O (zP O O)<|J O O (zP O O)<|J O O (qM O O O (by (try simp only [U,W,yT,List.size_toArray,List.length_cons,List.length_nil] at *);omega))<|J O O (zV O zDe O (zD 0 O) O)<|J O O (qC O ok100 (upI (zLx s (fun h=>hf3 (by omega)))) ⟨Y,O,T⟩)<|J O O (qM O O O (by (try simp only [U,W,yT,List.size_toArray,List.length_cons,List.length_nil] at *);omega))<|J O O (zE O zAv O)<|J O O (zV O qX O (zD 0 O) O)<|J O O (qC O ok99 (zLo s.E hl3 (by omega)) ⟨Y,O,T⟩)<|J O O (qM O O O (by (try simp only [U,W,yT,List.size_toArray,List.length_cons,List.length_nil] at *);omega))<|J O O (qM O O O (by (try simp only [U,W,yT,List.size_toArray,List.length_cons,List.length_nil] at *);omega))<|yO<|zU O O (qH [1,1] O ok49 (upI (qS b pv sv1 (t++stsS ind (l.take k)) (ind++exT (readX s.Name s.Idx)++foldS s.Op s.Fold++exT s.E++bs [10]) hnv (by (try simp only [U,W,yT,List.size_toArray,List.length_cons,List.length_nil] at *);omega) hpv)) ⟨Y,O,Y,O,T⟩ O) ?_
     rintro _ _ ⟨_,⟨sw9,hw9,rfl,rfl⟩,rfl⟩
     refine R<|qP<|zN O<|qI O ⟨by omega,by omega⟩<|G O<|R ?_
     refine ⟨⟨k+1,(bldP b),sw9⟩,⟨by omega,hw9,.inr O⟩,(by show l.length-(k+1)<l.length-k;omega),Weak.mk [false,true,true] ⟨Y,Y,Y,Y,Y,T⟩ (by have htx:stsS ind (l.take (k+1))=stsS ind (l.take k)++stS ind s:=zDt hs;show _=bldE b (bldP b) sw9 (t++stsS ind (l.take (k+1)))++_;rw [htx];first|(rw [zHs c2];simp only [←kM];rfl)|(rw [zOc c2 (by omega)];simp only [←kM];rfl)|(rw [zKq (by omega)];simp only [←kM];rfl))⟩
    ·try simp only [sx] at c4
     exact absurd c3 c4
   ·try simp only [sx] at c3
    refine zN O<|L O<|G O<|R<|zC O (fun c4=>?_) (fun c4=>?_)
    ·try simp only [sx] at c4
     refine A O<|zH O wZ<|zM one9 (zD 0 O) O<|zH O zDl<|zM kF (zD 0 O) O<|zT O (wG [none,none,none,none,none,none,none,none,none,none,some 2,none,some 13] O zDx zRn O O)<|qK O ok99 (zLo (readX s.Name s.Idx) (zFr hl4) (by omega)) ⟨Y,O,T⟩<|G O<|R<|zK<|qU 12 mixed (by kernel_rfl) O O<|J O O (zP O O)<|J O O (zP O O)<|J O O (zP O O)<|J O O (qM O O O (by (try simp only [U,W,yT,List.size_toArray,List.length_cons,List.length_nil] at *);omega))<|J O O (zV O zDe O (zD 0 O) O)<|J O O (qC O ok100 (upI (zLx s (fun h=>hf3 (by omega)))) ⟨Y,O,T⟩)<|J O O (qM O O O (by (try simp only [U,W,yT,List.size_toArray,List.length_cons,List.length_nil] at *);omega))<|J O O (zE O zAv O)<|J O O (zV O qX O (zD 0 O) O)<|J O O (qC O ok99 (zLo s.E hl3 (by omega)) ⟨Y,O,T⟩)<|J O O (qM O O O (by (try simp only [U,W,yT,List.size_toArray,List.length_cons,List.length_nil] at *);omega))<|J O O (qM O O O (by (try simp only [U,W,yT,List.size_toArray,List.length_cons,List.length_nil] at *);omega))<|yO<|zU O O (qH [1,1] O ok49 (upI (qS b pv sv1 (t++stsS ind (l.take k)) (ind++exT (readX s.Name s.Idx)++foldS s.Op s.Fold++exT s.E++bs [10]) hnv (by (try simp only [U,W,yT,List.size_toArray,List.length_cons,List.length_nil] at *);omega) hpv)) ⟨Y,O,Y,O,T⟩ O) ?_
     rintro _ _ ⟨_,⟨sw9,hw9,rfl,rfl⟩,rfl⟩
     refine R<|qP<|zN O<|qI O ⟨by omega,by omega⟩<|G O<|R ?_
     refine ⟨⟨k+1,(bldP b),sw9⟩,⟨by omega,hw9,.inr O⟩,(by show l.length-(k+1)<l.length-k;omega),Weak.mk [false,true,true] ⟨Y,Y,Y,Y,Y,T⟩ (by have htx:stsS ind (l.take (k+1))=stsS ind (l.take k)++stS ind s:=zDt hs;show _=bldE b (bldP b) sw9 (t++stsS ind (l.take (k+1)))++_;rw [htx];first|(rw [zHs c2];simp only [←kM];rfl)|(rw [zOc c2 (by omega)];simp only [←kM];rfl)|(rw [zKq (by omega)];simp only [←kM];rfl))⟩
    ·try simp only [sx] at c4
     have hst:=congrArg ByteArray.size (zOc (ind:=ind) (s:=s) c2 (by omega))
     refine zI<|A O<|G O<|G O<|G O<|kY O (by (try simp only [U,W,yT,List.size_toArray,List.length_cons,List.length_nil] at *);omega)<|kY O (by (try simp only [U,W,yT,List.size_toArray,List.length_cons,List.length_nil] at *);omega)<|zU O O (qH [1,1] O ok49 (upI (qS b pv sv1 (t++stsS ind (l.take k)) (ind++(bs [105,102,32]++exT s.E)++bs [32,123,10]) hnv (by (try simp only [U,W,yT,List.size_toArray,List.length_cons,List.length_nil] at *);omega) hpv)) ⟨Y,O,Y,O,T⟩ O) ?_
     rintro _ _ ⟨_,⟨sw2,hw2,rfl,rfl⟩,rfl⟩
     refine R<|A O<|G O<|zH O zAu<|zM zCg (zD 0 O) O<|G O<|kY O (by (try simp only [U,W,yT,List.size_toArray,List.length_cons,List.length_nil] at *);omega)<|zU O O (qH [1,1] O ok51 (ih s (zY hs) b (bldP b) sw2 (t++stsS ind (l.take k)++(ind++(bs [105,102,32]++exT s.E)++bs [32,123,10])) hw2 (.inr O) (by (try simp only [U,W,yT,List.size_toArray,List.length_cons,List.length_nil] at *);omega)) ⟨Y,O,Y,O,Y,O,T⟩ O) ?_
     rintro _ _ ⟨_,⟨rfl,pv3,sw3,hw3,hp3,rfl⟩,rfl⟩
     refine R<|zN O<|G O<|G O<|kY O (by (try simp only [U,W,yT,List.size_toArray,List.length_cons,List.length_nil] at *);omega)<|zU O O (qH [1,1] O ok49 (upI (qS b pv3 sw3 (t++stsS ind (l.take k)++(ind++(bs [105,102,32]++exT s.E)++bs [32,123,10])++stsS (ind++bs [32,32]) s.Body) (ind++bs [125,10]) hw3 (by (try simp only [U,W,yT,List.size_toArray,List.length_cons,List.length_nil] at *);omega) hp3)) ⟨Y,O,Y,O,T⟩ O) ?_
     rintro _ _ ⟨_,⟨sw9,hw9,rfl,rfl⟩,rfl⟩
     refine R<|zN O<|qI O ⟨by omega,by omega⟩<|G O<|R ?_
     refine ⟨⟨k+1,(bldP b),sw9⟩,⟨by omega,hw9,.inr O⟩,(by show l.length-(k+1)<l.length-k;omega),Weak.mk [false,true,true] ⟨Y,Y,Y,Y,Y,T⟩ (by have htx:stsS ind (l.take (k+1))=stsS ind (l.take k)++stS ind s:=zDt hs;show _=bldE b (bldP b) sw9 (t++stsS ind (l.take (k+1)))++_;rw [htx];first|(rw [zHs c2];simp only [←kM];rfl)|(rw [zOc c2 (by omega)];simp only [←kM];rfl)|(rw [zKq (by omega)];simp only [←kM];rfl))⟩
 ·try simp only [sx] at c1
  rw [yE (l:=l) (k:=k) (by omega)]
  refine qP ?_
  repeat (first|refine yS ?_|refine yM ?_)
  refine kZ<|fin0 ?_
  exact ⟨O,_,_,hnv,hpv,O⟩
theorem ws_body (s:St):∀(ind:ByteArray),lnOks s.Body->fmSs s.Body->ind.size+2*stsWt s.Body<=2000->WS s.Body ind:=by
  induction s using St.ind with
  |_ s ih=>
    intro ind h1 h2 hw
    refine ws_step0 s.Body ind h1 h2 hw fun a ha=>ih a ha (ind++bs [32,32]) ?_ ?_ ?_
    · have h:=zEs h1 ha;rw [zNk] at h;exact h.2.2.2.2
    · have h:=zGu h2 ha;rw [fmS_eq] at h;exact h.2.2.2
    · have h3:=kK ha;have h4:=St.body_wt a;rw [U];show _+2+_<=_;omega
theorem ln_writeStmts (l:List St) (ind:ByteArray) (h1:lnOks l) (h2:fmSs l) (hw:ind.size+2*stsWt l<=2000):WS l ind:=
  ws_step0 l ind h1 h2 hw fun a ha=>ws_body a (ind++bs [32,32]) (by have h:=zEs h1 ha;rw [zNk] at h;exact h.2.2.2.2) (by have h:=zGu h2 ha;rw [fmS_eq] at h;exact h.2.2.2) (by have h3:=kK ha;have h4:=St.body_wt a;rw [U];show _+2+_<=_;omega)
end Go.W
end
