/-
  What functions compute.
  Conditions: none.
-/
import Derived.Test.YtdldhbfgfkebjaaGreatDoorNB
import Derived.Test.YtdldhbfgfkebjaaGreatDoorPlain2
import Derived.Test.YtdldhbfgfkebjaaGreatDoorEngZ
set_option linter.unusedSimpArgs false
set_option linter.unusedVariables false
set_option maxRecDepth 10000
namespace Go.W
open Go Go.Eng Go.Proofs Go.L41 Go.Br
attribute [local irreducible] AWP RWP TD fY
abbrev sL (l:List Bd):V:=.c (.sl 2 (l.map Bd.cells))
abbrev ckC (x:Ck):V:=.agg [.sl 1 (x.U.map fun s=>[cS s]),.sl 1 (x.W.map fun i=>[cI i]),cI x.E]
theorem bd_get {l:List Bd} {k:Nat} {x:Bd} (h:l[k]? =some x):(l.map Bd.cells)[k]? =some [cS x.Name,cI x.Val]:=by rw [B h];rfl
theorem agg128:lI Tryz.prog 128=some 3:=by kernel_rfl
theorem el171:fA Tryz.prog 171=some (174,2,24):=by kernel_rfl
theorem fd128_0:bD Tryz.prog 128 0=some (0,78):=by kernel_rfl
theorem fd128_1:bD Tryz.prog 128 1=some (1,67):=by kernel_rfl
theorem fd128_2:bD Tryz.prog 128 2=some (2,36):=by kernel_rfl
theorem fd174_0:bD Tryz.prog 174 0=some (0,9):=by kernel_rfl
theorem ok70:bA Tryz.prog 70=true:=by kernel_rfl
theorem ok71:bA Tryz.prog 71=true:=by kernel_rfl
theorem ok83:bA Tryz.prog 83=true:=by kernel_rfl
theorem ok122:bA Tryz.prog 122=true:=by kernel_rfl
theorem ok157:bA Tryz.prog 157=true:=by kernel_rfl
theorem ok158:bA Tryz.prog 158=true:=by kernel_rfl
theorem ok160:bA Tryz.prog 160=true:=by kernel_rfl
theorem ok184:bA Tryz.prog 184=true:=by kernel_rfl
theorem ok185:bA Tryz.prog 185=true:=by kernel_rfl
theorem ok186:bA Tryz.prog 186=true:=by kernel_rfl
theorem ok206:bA Tryz.prog 206=true:=by kernel_rfl
theorem ok207:bA Tryz.prog 207=true:=by kernel_rfl
theorem pl128:fL Tryz.prog 128=some [(0,1),(1,1),(2,1)]:=by kernel_rfl
theorem pl174:fL Tryz.prog 174=some [(0,1),(1,1)]:=by kernel_rfl
theorem sz128:(Tryz.prog.info? 128).map (·.size)=some 3:=by kernel_rfl
theorem zr128:dS Tryz.prog 128=some [(Value.slice none 0 0),(Value.slice none 0 0),(Value.int IntKind.i64 0)]:=by kernel_rfl
theorem zr174:dS Tryz.prog 174=some [(Value.string (ByteArray.mk #[])),(Value.int IntKind.i64 0)]:=by kernel_rfl
theorem zRq (l:List Lf) (bd:List Bd) (hl:l.length<=4294967296) (hx:∀x,x∈l->x.L.length<=4294967296) (hb:bd.length<=4294967296):
    Pur cfg 206 [pB l,sL bd] (vB (l.all (jS (bd.map Bd.Name)))):=by
 refine zU Tryz.func206 O Tryz.ntmps206 Tryz.results206 O ?_
 intro z hz
 have hl0:=hx
 clear hx
 refine R O<|G O<|zA<|zI<|R O<|G O<|zA<|zP<|zT ⟨[(5,.c _),(0,.c _),(1,.c _)],[]⟩ (Weak.mk [] ⟨zB,zB,zB,T⟩ O)<|qG 1 0 O O (Nat) (fun k=>[(5,vI k)]) (fun k=>[]) (fun k=>k<=l.length/\((l.take k).all (jS (bd.map Bd.Name))=true)) (fun k=>l.length-k) ⟨0,⟨by omega,O⟩,Weak.mk [] ⟨zB,zB,zB,T⟩ O⟩ ?_
 rintro k ⟨hk,hp⟩
 refine zI<|R O<|G O<|G O<|zZ O zAv<|yB O<|zA<|zC O (fun c1=>?_) (fun c1=>?_)
 ·try simp only [sx] at c1
  obtain ⟨x,hx⟩:=qU l k (by omega)
  have hxl:=hl0 x (qA hx)
  refine zJ<|zI<|zP<|R O<|G O<|zA<|zP<|zT ⟨[(6,.c _),(0,.c _),(1,.c _),(5,.c _)],[]⟩ (Weak.mk [] ⟨zB,zB,zB,zB,T⟩ O)<|qG 1 0 O O (Nat) (fun j=>[(6,vI j)]) (fun j=>[]) (fun j=>j<=x.L.length/\(x.L.take j).all (fun m=>bS (bd.map Bd.Name) m.Name)=true) (fun j=>x.L.length-j) ⟨0,⟨by omega,O⟩,Weak.mk [] ⟨zB,zB,zB,zB,T⟩ O⟩ ?_
  rintro j ⟨hj,hq⟩
  refine zI<|R O<|G O<|G O<|G O<|qD O zAv (by omega) (B hx)<|zX O zAy<|zH zDz zQ O<|zZ O el52<|yB O<|zA<|zC O (fun c2=>?_) (fun c2=>?_)
  ·try simp only [sx] at c2
   obtain ⟨m,hm⟩:=qU x.L j (by omega)
   refine zJ<|zI<|zP<|R O<|G O<|zA<|zI<|R O<|G O<|zA<|zP<|zT ⟨[(8,.c _),(7,.c _),(0,.c _),(1,.c _),(5,.c _),(6,.c _)],[]⟩ (Weak.mk [] ⟨zB,zB,zB,zB,zB,zB,T⟩ O)<|qG 2 0 O O (Nat) (fun i=>[(8,vI i),(7,vB ((bd.take i).any fun d=>decide (d.Name=m.Name)))]) (fun i=>[]) (fun i=>i<=bd.length) (fun i=>bd.length-i) ⟨0,(by omega),Weak.mk [] ⟨zB,VLe.of_eq (O),zB,zB,zB,zB,T⟩ O⟩ ?_
   rintro i hi
   refine zI<|R O<|G O<|G O<|zZ O el171<|yB O<|zA<|zC O (fun c3=>?_) (fun c3=>?_)
   ·try simp only [sx] at c3
    obtain ⟨d,hd⟩:=qU bd i (by omega)
    refine zJ<|zI<|zP<|qW 19 mixed (by kernel_rfl) O O<|zL O O (zN O O)<|zL O O (zN O O)<|qJ [] O O O O J T (fun g11_1=>zN O O) O<|qJ [] O O O O J T (fun g11_1=>zN O O) O<|qJ [(33,_),(34,_)] O O O O J ⟨O,O,O,O,T⟩ (fun g11_1=>qL O el171 O O (by omega) (bd_get hd)) O<|qJ [(35,_)] O O O O J ⟨O,O,T⟩ (fun g11_1=>qF O fd174_0 O) O<|qJ [(36,_)] O O O O J ⟨O,O,T⟩ (fun g11_1=>zF O one9 O zQ O) O<|qJ [] O O O O J T (fun g11_1=>zN O O) O<|qJ [] O O O O J T (fun g11_1=>zN O O) O<|qJ [(38,_),(39,_)] O O O O J ⟨O,O,O,O,T⟩ (fun g11_1=>qL O zAv O O (by omega) (B hx)) O<|qJ [(40,_)] O O O O J ⟨O,O,T⟩ (fun g11_1=>qF O zAy O) O<|qJ [(41,_)] O O O O J ⟨O,O,T⟩ (fun g11_1=>zF O zDz O zQ O) O<|qJ [] O O O O J T (fun g11_1=>zN O O) O<|qJ [(42,_),(43,_)] O O O O J ⟨O,O,O,O,T⟩ (fun g11_1=>qL O el52 O O (by omega) (B hm)) O<|qJ [(44,_)] O O O O J ⟨O,O,T⟩ (fun g11_1=>qF O zDl O) O<|qJ [(45,_)] O O O O J ⟨O,O,T⟩ (fun g11_1=>zF O one9 O zQ O) O<|qJ [(37,_),(46,_)] O O O O J ⟨O,O,O,O,T⟩ (fun g11_1=>kE O O O) O<|zL O O (zAz O O O O (fun h=>(lzf h)))<|zL O O (yU O O)<|yJ<|zA<|zM O<|G O<|qB O ⟨by omega,by omega⟩<|G O<|zA ?_
    refine ⟨i+1,(by omega),(by omega),Weak.mk [] ⟨zB,VLe.of_eq (congrArg vB (any_step hd)),zB,zB,zB,zB,T⟩ O⟩
   ·try simp only [sx] at c3
    rw [yA (l:=bd) (k:=i) (by omega),any_hasB]
    refine qH<|R O<|G O<|kP O<|zA<|zC O (fun c4=>?_) (fun c4=>?_)
    ·try simp only [sx] at c4
     have hno:=bound_no hx hm c4
     refine R O<|G O<|zA<|zK<|zR O ?_
     rw [hno]
    ·try simp only [sx] at c4
     refine zJ<|zM O<|G O<|qB O ⟨by omega,by omega⟩<|G O<|zA ?_
     refine ⟨j+1,⟨by omega,zIz hm hq c4⟩,(by omega),Weak.mk [] ⟨zB,zB,zB,zB,T⟩ O⟩
  ·try simp only [sx] at c2
   rw [yA (l:=x.L) (k:=j) (by omega)] at hq
   refine qH<|zM O<|G O<|qB O ⟨by omega,by omega⟩<|G O<|zA ?_
   refine ⟨k+1,⟨by omega,zIz hx hp (show jS _ x=true from hq)⟩,(by omega),Weak.mk [] ⟨zB,zB,zB,T⟩ O⟩
 ·try simp only [sx] at c1
  refine qH<|R O<|G O<|zA<|zK<|zR O ?_
  rw [yA (by omega)] at hp;rw [hp]
theorem ref30_lins (l:List Ix) (hl:l.length<=4294967296) (hw:gF l<=4294967296):
    OwnR cfg 207 [mJ l] 54 2 ((l.flatMap ixF).map Lf.cells):=by
 refine zU Tryz.func207 O Tryz.ntmps207 Tryz.results207 O ?_
 intro z hz
 refine R O<|G O<|zA<|R O<|G O<|qX _ (wV 54 2)<|zA<|zI<|R O<|G O<|zA<|zP<|zT ⟨[(4,.c _),(3,.c _),(0,.c _)],[_]⟩ (Weak.mk [true] ⟨zB,zB,zB,T⟩ O)<|qG 2 1 O O (Nat×Value) (fun ⟨k,sv⟩=>[(4,vI k),(3,.c (.lit sv))]) (fun ⟨k,sv⟩=>[E.vec sv 54 2 (((l.take k).flatMap ixF).map Lf.cells)]) (fun ⟨k,sv⟩=>k<=l.length) (fun ⟨k,sv⟩=>l.length-k) ⟨⟨0,(.slice none 0 0)⟩,(by omega),Weak.mk [true] ⟨zB,zB,zB,T⟩ O⟩ ?_
 rintro ⟨k,sv⟩ hk
 show AWP _ _ _ _ _ ⟨[(4,vI k),(3,.c (.lit sv))]++_,[E.vec sv 54 2 (((l.take k).flatMap ixF).map Lf.cells)]++_⟩
 refine zI<|R O<|G O<|G O<|zZ O el51<|yB O<|zA<|zC O (fun c1=>?_) (fun c1=>?_)
 ·try simp only [sx] at c1
  obtain ⟨x,hx⟩:=qU l k (by omega)
  have hfl:=ixs_len l k
  have hxw:=zCv (qA hx)
  unfold Ix.wt at hxw
  refine zJ<|zI<|zP<|R O<|G O<|G O<|G O<|qD O el51 (by omega) (B (by assumption))<|zX O zCy<|zO zBa zQ O<|zW O (yM O zAv zr54 O O O O)<|zV O O (yQ 0 O zAv O O O (by simp only [List.length_map,List.length_append,List.length_cons,List.length_nil];omega) (by simp only [List.length_map,List.length_append,List.length_cons,List.length_nil];omega)) ?_
  rintro _ _ ⟨sv2,rfl,rfl⟩
  refine G O<|zA<|zM O<|G O<|G O<|G O<|qD O el51 (by omega) (B (by assumption))<|zX O zAr<|zH zCl zQ O<|zV O O (yQ 0 O zAv O O O (by simp only [List.length_map,List.length_append,List.length_cons,List.length_nil];omega) (by simp only [List.length_map,List.length_append,List.length_cons,List.length_nil];omega)) ?_
  rintro _ _ ⟨sv3,rfl,rfl⟩
  refine G O<|zA<|zM O<|G O<|qB O ⟨by omega,by omega⟩<|G O<|zA ?_
  refine ⟨⟨k+1,sv3⟩,(by omega),(by show l.length-(k+1)<l.length-k;omega),Weak.mk [true] ⟨zB,zB,zB,T⟩ (by exact kC (by rw [yC hx,List.flatMap_append,List.map_append];simp [ixF];rfl))⟩
 ·try simp only [sx] at c1
  refine qH<|R O<|G O<|G O<|zA<|zK<|zR O ?_
  exact ⟨_,O,by rw [yA (by omega)];rfl⟩
theorem ref30_node (n:Ns) (bd:List Bd) (e:Ex) (hn:n.Ok) (hb:bd.length<=1000000) (he:e.wt<=1073741824):
    Pur cfg 185 [vNs n,sL bd,vE e] (vI (gL n.Bufs (bd.map Bd.Name) e)):=by
 refine zU Tryz.func185 O Tryz.ntmps185 Tryz.results185 O ?_
 intro z hz
 obtain ⟨hL,hI,hA⟩:=e.parts he
 have hwt:=Ex.wt_eq e
 refine R O<|zV O O (qO O O) ?_
 rintro _ _ ⟨b1,rfl,rfl⟩
 refine zV O O (qO O O) ?_
 rintro _ _ ⟨b2,rfl,rfl⟩
 refine G O<|zA<|zI<|R O<|zG O zFc<|zO zBa (Y 0 O) O<|zW O (yM O zAv zr54 O O O O)<|G O<|qN O ok206 (zRq [e.Lin] bd (by simp) (by simp;omega) (by omega)) ⟨zB,O,zB,O,T⟩<|kP O<|G O<|rL0 O (fun g1_6=>zD O kR O) O<|A 19 O (fun g1_6=>zF O wJ O (Y 0 O) O) O<|A 20 O (fun g1_6=>qS O ok207 (OwnR.pur (ref30_lins e.Idx (by omega) (by omega))) ⟨zB,O,T⟩) O<|rL0 O (fun g1_6=>zN O O) O<|rLz [(21,_),(22,_)] O J ⟨O,O,O,O,T⟩ (fun g1_6=>qS O ok206 (zRq (e.Idx.flatMap ixF) bd (by have:=ixs_len e.Idx e.Idx.length;rw [List.take_length] at this;omega) (fun x hx=>by have:=forms_wt he (show x∈jC e by unfold jC;exact List.mem_cons_of_mem _ hx);omega) (by omega)) ⟨zB,O,zB,O,T⟩) O<|A 23 O (fun g1_6=>wA O O) O<|r_or O (fun h=>(lzf h))<|zA<|zC O (fun c1=>?_) (fun c1=>?_)
 ·have h9:=node_sc_f c1
  refine R O<|G O<|zA<|zK<|zR O ?_
  rw [nodeN_9 h9]
 ·have h9:=node_sc_t c1
  refine zJ<|zI<|R O<|zG O kS<|zH one3 (Y 0 O) O<|kU O<|zA<|zC O (fun c2=>?_) (fun c2=>?_)
  ·try simp only [sx] at c2
   refine R O<|G O<|zA<|zK<|zR O ?_
   rw [nodeN_o h9 c2]
  ·try simp only [sx] at c2
   refine zJ<|R O<|zO zBi (Y 1 O) O<|zG O zDg<|zH one9 (Y 0 O) O<|qN O ok83 (zCk n e.Name hn) ⟨zB,O,zB,O,T⟩<|zW O (yD O O)<|zW O (kD O O O)<|zW O (yR O O O)<|zV O O (qR [none,none,none,none,none,none,some 1,none] O zr69 O) ?_
   rintro _ _ ⟨b3,rfl,rfl⟩
   refine D 0 sz69 O<|G O<|zA<|zI<|R O<|G O<|kP O<|zA<|zC O (fun c3=>?_) (fun c3=>?_)
   ·try simp only [sx] at c3
    refine R O<|G O<|zA<|zK<|zR O ?_
    rw [nodeN_n h9 (by omega) c3]
   ·try simp only [sx] at c3
    refine zJ<|zI<|R O<|zG O zDe<|zH zCt (Y 0 O) O<|zZ O el67<|zG O kR<|zH wJ (Y 1 O) O<|zZ O el51<|kU O<|zA<|zC O (fun c4=>?_) (fun c4=>?_)
    ·try simp only [sx] at c4
     refine R O<|G O<|zA<|zK<|zR O ?_
     rw [nodeN_r h9 (by omega) c3 (by omega)]
    ·try simp only [sx] at c4
     refine zJ<|zI<|R O<|G O<|zA<|zP<|zT ⟨[(9,.c _),(3,.c _),(5,.c _)],[_,_]⟩ (Weak.mk [false,true,true] ⟨zB,zB,zB,T⟩ O)<|qG 1 0 O O (Nat) (fun j=>[(9,vI j)]) (fun j=>[]) (fun j=>j<=e.Idx.length/\(mB n.Bufs e.Idx=mB n.Bufs (e.Idx.drop j))) (fun j=>e.Idx.length-j) ⟨0,⟨by omega,O⟩,Weak.mk [true,true] ⟨zB,zB,zB,T⟩ O⟩ ?_
     rintro j ⟨hk,hq⟩
     refine zI<|R O<|G O<|zG O kR<|zH wJ (Y 0 O) O<|zZ O el51<|yB O<|zA<|zC O (fun c5=>?_) (fun c5=>?_)
     ·try simp only [sx] at c5
      obtain ⟨y,hy⟩:=qU e.Idx j (by omega)
      refine zJ<|zI<|zP<|zI<|R O<|zG O kR<|zH wJ (Y 0 O) O<|G O<|qD O el51 (by omega) (B (by assumption))<|zX O wG<|zH one9 zQ O<|zW O (kE O O O)<|zA<|zC O (fun c6=>?_) (fun c6=>?_)
      ·try simp only [sx] at c6
       refine qH<|zM O<|G O<|qB O ⟨by omega,by omega⟩<|G O<|zA ?_
       refine ⟨j+1,⟨by omega,hq.trans (zJh hy (by first|exact gathE_0 c6|exact zQd c6 c7 (by omega) (by omega)))⟩,(by omega),Weak.mk [true,true] ⟨zB,zB,zB,T⟩ O⟩
      ·try simp only [sx] at c6
       refine zJ<|zI<|yS 13 1 [⟨0,.q [2]⟩,⟨1,.q []⟩,⟨2,.q [1]⟩,⟨3,.q []⟩,⟨4,.q []⟩,⟨5,.q []⟩,⟨6,.q []⟩,⟨7,.q []⟩,⟨8,.q []⟩,⟨9,.q []⟩,⟨10,.q []⟩,⟨11,.e 0 []⟩,⟨12,.e 0 []⟩] mixed (by kernel_rfl) (by kernel_rfl) O O O<|v O<|v O<|v O<|v O<|v O<|v O<|v O<|v O<|v O<|v O<|v O<|v O<|v O<|zAg<|zY O (by decide) O O (qC O zBi O (Y 0 O) O)<|zY O (by decide) O O (zD O kR O)<|zY O (by decide) O O (zF O wJ O (Y 0 O) O)<|zY O (by decide) O O (zN O O)<|zY O (by decide) O O (qL O el51 O O (by omega) (B (by assumption)))<|zY O (by decide) O O (qF O wG O)<|zY O (by decide) O O (zF O one9 O zQ O)<|zY O (by decide) O O (qS O ok83 (zCk n y.From hn) ⟨zB,O,zB,O,T⟩)<|zY O (by decide) O O (yD O O)<|zY O (by decide) O O (kD O O O)<|zY O (by decide) O O (yR O O O)<|zHk O O (by decide) O O (qR [none,none,none,none,none,none,some 1,none] O zr69 O) ?_
       rintro _ _ ⟨b4,rfl,rfl⟩
       refine ⟨_,O,?_⟩
       refine zEs O O (by decide) O O (kX O sz69 O O O (zHt 0 O O)) ?_
       rintro _ _ ⟨rfl,rfl⟩
       refine ⟨_,O,?_⟩
       refine zAe O<|G O<|zA<|zP<|R O<|G O<|kP O<|G O<|zA<|zC O (fun c7=>?_) (fun c7=>?_)
       ·try simp only [sx] at c7
        refine R O<|G O<|zA<|zK<|zR O ?_
        rw [zGq h9 (by omega) c3 (by omega),hq,zJg hy (by rw [zSp c6 c7];decide),zSp c6 c7]
       ·try simp only [sx] at c7
        refine R O<|zG O zHg<|zG O zGa<|zH one3 (Y 0 O) O<|kU O<|G O<|zA<|zC O (fun c8=>?_) (fun c8=>?_)
        ·try simp only [sx] at c8
         refine R O<|G O<|zA<|zK<|zR O ?_
         rw [zGq h9 (by omega) c3 (by omega),hq,zJg hy (by rw [zMh c6 c7 c8];decide),zMh c6 c7 c8]
        ·try simp only [sx] at c8
         refine zI<|qW 12 mixed (by kernel_rfl) O O<|zL O O (zD O zDe O)<|zL O O (zF O zCt O (Y 0 O) O)<|zL O O (yW O el67 O)<|zL O O (zD O kR O)<|zL O O (zF O wJ O (Y 1 O) O)<|zL O O (zN O O)<|zL O O (qL O el51 O O (by omega) (B (by assumption)))<|zL O O (qF O zAr O)<|zL O O (zF O zCl O zQ O)<|zL O O (yW O zAv O)<|zL O O (zAn O O O)<|zL O O (yU O O)<|yJ<|zA<|zC O (fun c9=>?_) (fun c9=>?_)
         ·try simp only [sx] at c9
          refine R O<|G O<|zA<|zK<|zR O ?_
          rw [zGq h9 (by omega) c3 (by omega),hq,zJg hy (by rw [zMg c6 c7 c8 (by omega)];decide),zMg c6 c7 c8 (by omega)]
         ·try simp only [sx] at c9
          refine zJ<|zM O<|G O<|qB O ⟨by omega,by omega⟩<|G O<|zA ?_
          refine ⟨j+1,⟨by omega,hq.trans (zJh hy (by first|exact gathE_0 c6|exact zQd c6 c7 (by omega) (by omega)))⟩,(by omega),Weak.mk [false,true,true] ⟨zB,zB,zB,T⟩ O⟩
     ·try simp only [sx] at c5
      refine qH<|R O<|G O<|zA<|zK<|zR O ?_
      rw [zGq h9 (by omega) c3 (by omega),hq,kV (by omega)];rfl
theorem zRs (n:Ns) (hn:n.Ok) (e:Ex) (ih:∀a,a∈e.Args->fN a=0->a.wt<=1073741824->Pur cfg 186 [vNs n,vE a] (.tup [vTy (dP (kiN n.Bufs) a).1,vI (dP (kiN n.Bufs) a).2])) (hpart:fN e=0) (he:e.wt<=1073741824):
    Pur cfg 186 [vNs n,vE e] (.tup [vTy (dP (kiN n.Bufs) e).1,vI (dP (kiN n.Bufs) e).2]):=by
 refine zU Tryz.func186 O Tryz.ntmps186 Tryz.results186 O ?_
 intro z hz
 obtain ⟨hLl,hIl,hAl⟩:=e.parts he
 have hwt:=Ex.wt_eq e
 refine R O<|zV O O (qO O O) ?_
 rintro _ _ ⟨b1,rfl,rfl⟩
 refine zV O O (qO O O) ?_
 rintro _ _ ⟨b2,rfl,rfl⟩
 refine zV O O (yN O zr31) ?_
 rintro _ _ ⟨b3,rfl,rfl⟩
 refine G O<|zA<|R O<|G O<|qX _ (wV 31 5)<|zA<|zI<|R O<|G O<|zA<|zP<|zT ⟨[(7,.c _),(6,.c _),(2,.c _),(3,.c _),(4,.c _)],[_,_,_,_]⟩ (Weak.mk [true,true,true,true] ⟨zB,zB,zB,zB,zB,T⟩ O)<|qG 2 1 O O (Nat×Value) (fun ⟨k,sv⟩=>[(7,vI k),(6,.c (.lit sv))]) (fun ⟨k,sv⟩=>[E.vec sv 31 5 ((gJ (e.Args.take k) (bM (kiN n.Bufs) (e.Args.take k)).1).map tyC)]) (fun ⟨k,sv⟩=>k<=e.Args.length/\((bM (kiN n.Bufs) (e.Args.take k)).2=0)) (fun ⟨k,sv⟩=>e.Args.length-k) ⟨⟨0,(.slice none 0 0)⟩,⟨by omega,O⟩,Weak.mk [true,true,true,true] ⟨zB,zB,zB,zB,zB,T⟩ O⟩ ?_
 rintro ⟨k,sv⟩ ⟨hk,hp⟩
 show AWP _ _ _ _ _ ⟨[(7,vI k),(6,.c (.lit sv))]++_,[E.vec sv 31 5 ((gJ (e.Args.take k) (bM (kiN n.Bufs) (e.Args.take k)).1).map tyC)]++_⟩
 refine zI<|R O<|G O<|zG O kO<|zH wZ (Y 2 O) O<|zZ O el55<|yB O<|zA<|zC O (fun c1=>?_) (fun c1=>?_)
 ·try simp only [sx] at c1
  obtain ⟨x,hx⟩:=qU e.Args k (by omega)
  have hll:=zFv _ _ hp
  have hcl:=nonC_len (e.Args.take k) (bM (kiN n.Bufs) (e.Args.take k)).1
  have htk:=List.length_take_le' k e.Args
  refine zJ<|zI<|zP<|zI<|yS 12 1 [⟨0,.q [4]⟩,⟨1,.q []⟩,⟨2,.q [3]⟩,⟨3,.q []⟩,⟨4,.q []⟩,⟨5,.q []⟩,⟨6,.q []⟩,⟨7,.q []⟩,⟨8,.q []⟩,⟨9,.q []⟩,⟨10,.e 0 []⟩,⟨11,.e 0 []⟩] mixed (by kernel_rfl) (by kernel_rfl) O O O<|v O<|v O<|v O<|v O<|v O<|v O<|v O<|v O<|v O<|v O<|v O<|v O<|zAg<|zY O (by decide) O O (qC O zBi O (Y 0 O) O)<|zY O (by decide) O O (zD O kO O)<|zY O (by decide) O O (zF O wZ O (Y 0 O) O)<|zY O (by decide) O O (zN O O)<|zY O (by decide) O O (qL O el55 O O (by omega) (zAa (by assumption)))<|zY O (by decide) O O (qC O yP O zQ O)<|zY O (by decide) O O (qS O ok186 (ih x (qA hx) (zLs hpart (qA hx)) (by have:=Ex.arg_wt (qA hx);omega)) ⟨zB,O,zB,O,T⟩)<|zY O (by decide) O O (yD O O)<|zY O (by decide) O O (kD O O O)<|zY O (by decide) O O (yR O O O)<|zHk O O (by decide) O O (yN O zr31) ?_
  rintro _ _ ⟨b5,rfl,rfl⟩
  refine ⟨_,O,?_⟩
  refine zEs O O (by decide) O O (kX O sz31 O O O (zHt 0 O O)) ?_
  rintro _ _ ⟨rfl,rfl⟩
  refine ⟨_,O,?_⟩
  refine zAe O<|G O<|zA<|zI<|R O<|G O<|kU O<|zA<|zC O (fun c2=>?_) (fun c2=>?_)
  ·try simp only [sx] at c2
   refine R O<|yZ O zr31 pl31<|G O<|D 2 sz31 O<|G O<|zA<|zK<|fin2 (qM yH O (Y 2 O) O) (L O) ?_
   rw [nodeT_no hx hp c2];rfl
  ·try simp only [sx] at c2
   refine zJ<|R O<|zG O kO<|zH wZ (Y 3 O) O<|G O<|qD O el55 (by omega) (zAa (by assumption))<|zO yP zQ O<|qN O ok159 (kT x) ⟨zB,O,T⟩<|kP O<|zA<|zC O (fun c3=>?_) (fun c3=>?_)
   ·try simp only [sx] at c3
    refine zM O<|G O<|zO yH (Y 0 O) O<|zW O (yM O el28 zr31 O O O O)<|zV O O (yQ 1 O el28 O O O (by simp only [List.length_map,List.length_append,List.length_cons,List.length_nil,hll,List.length_take];omega) (by simp only [List.length_map,List.length_append,List.length_cons,List.length_nil,hll,List.length_take];omega)) ?_
    rintro _ _ ⟨sv6,rfl,rfl⟩
    refine G O<|zA<|zM O<|G O<|qB O ⟨by omega,by omega⟩<|G O<|zA ?_
    exact v10
   ·try simp only [sx] at c3
    refine zJ<|zM O<|G O<|qB O ⟨by omega,by omega⟩<|G O<|zA ?_
    exact v10
 ·try simp only [sx] at c1
  have hll:=zFv _ _ hp
  have hta:e.Args.take k=e.Args:=yA (by omega)
  have hT:dP (kiN n.Bufs) e=kiF n.Bufs e (gJ (e.Args.take k) (bM (kiN n.Bufs) (e.Args.take k)).1):=by have h:=nodeT_ok (N:=kiN n.Bufs) hta hp;rw [h];show kiF n.Bufs e (gJ e.Args _)=_;rw [hta]
  refine qH<|zI<|zI<|qW 12 mixed (by kernel_rfl) O O<|zL O O (zN O O)<|zL O O (yL 0 O el28 O O)<|zL O O (yO O O O)<|zL O O (zN O O)<|qJ [] O O O O J T (fun g10_3=>zN O O) O<|qJ [(48,_)] O O O O J ⟨O,O,T⟩ (fun g10_3=>qP 0 O el28 O O O (by omega) (by simp only [Lz,cond_true,decide_eq_true_eq,List.length_map] at g10_3⊢;omega)) O<|qJ [(49,_)] O O O O J ⟨O,O,T⟩ (fun g10_3=>qC O yH O (kI 0 O (zJb (by simp only [Lz,cond_true,decide_eq_true_eq,List.length_map] at g10_3⊢;omega))) O) O<|qJ [] O O O O J T (fun g10_3=>zN O O) O<|qJ [(51,_)] O O O O J ⟨O,O,T⟩ (fun g10_3=>qP 0 O el28 O O O (by omega) (by simp only [Lz,cond_true,decide_eq_true_eq,List.length_map] at g10_3⊢;omega)) O<|qJ [(52,_)] O O O O J ⟨O,O,T⟩ (fun g10_3=>qC O yH O (kI 0 O (zJb (by simp only [Lz,cond_true,decide_eq_true_eq,List.length_map] at g10_3⊢;omega))) O) O<|qJ [(50,_),(53,_)] O O O O J ⟨O,O,O,O,T⟩ (fun g10_3=>zBk O fl31 O O O) O<|zL O O (wU O O O (fun h=>h) O)<|yJ<|zA<|zC O (fun c4=>?_) (fun c4=>?_)
  ·obtain ⟨q1,q2⟩:=ki10_t c4
   exact v17
  ·have hq:=ki10_f c4
   refine zJ<|zI<|R O<|zG O kS<|zH one3 (Y 2 O) O<|zA<|zP<|zI<|R O<|qZ O<|G O<|zA<|zC O (fun c5=>?_) (fun c5=>?_)
   ·try simp only [sx] at c5
    refine zJ<|zC O (fun c6=>?_) (fun c6=>?_)
    ·try simp only [sx] at c6
     refine R O<|zG O zCx<|zO yH (Y 2 O) O<|D 1 sz31 O<|G O<|zA<|zK<|fin2 (qM yH O (Y 1 O) O) (L O) ?_
     exact t8
    ·try simp only [sx] at c6
     refine R O<|qZ O<|G O<|zA<|zC O (fun c7=>?_) (fun c7=>?_)
     ·try simp only [sx] at c7
      exact v17
     ·try simp only [sx] at c7
      refine R O<|qZ O<|G O<|zA<|zC O (fun c8=>?_) (fun c8=>?_)
      ·try simp only [sx] at c8
       refine R O<|zO zBi (Y 3 O) O<|zG O zDg<|zH one9 (Y 2 O) O<|qN O ok83 (zCk n e.Name hn) ⟨zB,O,zB,O,T⟩<|zW O (yD O O)<|zW O (kD O O O)<|zW O (yR O O O)<|zV O O (qR [none,none,none,none,none,none,some 1,none] O zr69 O) ?_
       rintro _ _ ⟨b7,rfl,rfl⟩
       refine D 0 sz69 O<|G O<|zA<|R O<|zG O zHg<|zO yH (Y 0 O) O<|D 2 sz31 O<|G O<|zA<|zK<|fin2 (qM yH O (Y 2 O) O) (L O) ?_
       exact t8
      ·exact o5
   ·try simp only [sx] at c5
    refine zM O<|qZ O<|G O<|zA<|zC O (fun c6=>?_) (fun c6=>?_)
    ·try simp only [sx] at c6
     refine R O<|zG O zCx<|zO yH (Y 2 O) O<|D 1 sz31 O<|G O<|zA<|zK<|fin2 (qM yH O (Y 1 O) O) (L O) ?_
     exact t8
    ·try simp only [sx] at c6
     refine R O<|qZ O<|G O<|zA<|zC O (fun c7=>?_) (fun c7=>?_)
     ·try simp only [sx] at c7
      exact v17
     ·try simp only [sx] at c7
      refine R O<|qZ O<|G O<|zA<|zC O (fun c8=>?_) (fun c8=>?_)
      ·try simp only [sx] at c8
       refine R O<|zO zBi (Y 3 O) O<|zG O zDg<|zH one9 (Y 2 O) O<|qN O ok83 (zCk n e.Name hn) ⟨zB,O,zB,O,T⟩<|zW O (yD O O)<|zW O (kD O O O)<|zW O (yR O O O)<|zV O O (qR [none,none,none,none,none,none,some 1,none] O zr69 O) ?_
       rintro _ _ ⟨b8,rfl,rfl⟩
       refine D 0 sz69 O<|G O<|zA<|R O<|zG O zHg<|zO yH (Y 0 O) O<|D 2 sz31 O<|G O<|zA<|zK<|fin2 (qM yH O (Y 2 O) O) (L O) ?_
       exact t8
      ·exact o5
theorem ref30_Kind (n:Ns) (e:Ex) (hn:n.Ok) (hpart:fN e=0) (he:e.wt<=1073741824):Pur cfg 186 [vNs n,vE e] (.tup [vTy (dP (kiN n.Bufs) e).1,vI (dP (kiN n.Bufs) e).2]):=by
  induction e using Ex.ind with
  |_ e ih=>exact zRs n hn e (fun a ha h1 h2=>ih a ha h1 h2) hpart he
theorem zGn (n:Ns) (bd:List Bd) (e:Ex) (hn:n.Ok) (hb:bd.length<=1000000) (he:e.wt<=1000000):
    Pur cfg 158 [vNs n,sL bd,vE e] (.tup [vTy (bW n.Bufs (bd.map Bd.Name) e).1,vI (bW n.Bufs (bd.map Bd.Name) e).2]):=by
 refine zU Tryz.func158 O Tryz.ntmps158 Tryz.results158 O ?_
 intro z hz
 have hnl:=nodes_wt e
 refine R O<|zV O O (qO O O) ?_
 rintro _ _ ⟨b1,rfl,rfl⟩
 refine zV O O (qO O O) ?_
 rintro _ _ ⟨b2,rfl,rfl⟩
 refine zV O O (yN O zr31) ?_
 rintro _ _ ⟨b3,rfl,rfl⟩
 refine G O<|zA<|zI<|R O<|zO yP (Y 1 O) O<|qN O ok184 (ref14_Validate e (by omega)) ⟨zB,O,T⟩<|G O<|zA<|R O<|G O<|kU O<|zA<|zC O (fun c1=>?_) (fun c1=>?_)
 ·try simp only [sx] at c1
  refine R O<|yZ O zr31 pl31<|G O<|D 0 sz31 O<|G O<|zA<|zK<|fin2 (qM yH O (Y 0 O) O) (L O) ?_
  rw [exprT_1 c1];rfl
 ·try simp only [sx] at c1
  refine zJ<|R O<|zO yP (Y 1 O) O<|qN O ok135 (OwnR.pur (ref14_All e (by omega))) ⟨zB,O,T⟩<|G O<|zA<|zI<|R O<|G O<|zA<|zP<|zT ⟨[(10,.c _),(1,.c _),(3,.c _),(5,.c _),(6,.c _),(9,.c _)],[_,_,_]⟩ (Weak.mk [true,true,true] ⟨zB,zB,zB,zB,zB,zB,T⟩ O)<|qG 1 0 O O (Nat) (fun k=>[(10,vI k)]) (fun k=>[]) (fun k=>k<=(bF e).length/\(dD n.Bufs (bd.map Bd.Name) (bF e)=dD n.Bufs (bd.map Bd.Name) ((bF e).drop k))) (fun k=>(bF e).length-k) ⟨0,⟨by omega,O⟩,Weak.mk [true,true,true] ⟨zB,zB,zB,zB,zB,zB,T⟩ O⟩ ?_
  rintro k ⟨hk,hp⟩
  refine zI<|R O<|G O<|G O<|zZ O el55<|yB O<|zA<|zC O (fun c2=>?_) (fun c2=>?_)
  ·try simp only [sx] at c2
   obtain ⟨x,hx⟩:=qU (bF e) k (by omega)
   refine zJ<|zI<|zP<|zI<|qW 8 mixed (by kernel_rfl) O O<|zL O O (qC O zBi O (Y 2 O) O)<|zL O O (zN O O)<|zL O O (zN O O)<|zL O O (zN O O)<|zL O O (qL O el55 O O (by omega) (zAa (by assumption)))<|zL O O (qC O yP O zQ O)<|zL O O (qS O ok185 (ref30_node n bd x hn hb (by have:=zEj e x (qA hx);omega)) ⟨zB,O,zB,O,zB,O,T⟩)<|zL O O (yU O O)<|yJ<|zA<|R O<|G O<|kU O<|zA<|zC O (fun c3=>?_) (fun c3=>?_)
   ·try simp only [sx] at c3
    refine R O<|yZ O zr31 pl31<|G O<|D 0 sz31 O<|G O<|zA<|zK<|fin2 (qM yH O (Y 0 O) O) (L O) ?_
    rw [exprT_2 c1 (by rw [hp,nodesN_no hx c3];exact c3),hp,nodesN_no hx c3];rfl
   ·try simp only [sx] at c3
    refine zJ<|zM O<|G O<|qB O ⟨by omega,by omega⟩<|G O<|zA ?_
    refine ⟨k+1,⟨by omega,hp.trans (nodesN_at hx c3)⟩,(by omega),Weak.mk [true,true,true] ⟨zB,zB,zB,zB,zB,zB,T⟩ O⟩
  ·try simp only [sx] at c2
   refine qH<|R O<|zO zBi (Y 2 O) O<|zO yP (Y 1 O) O<|qN O ok186 (ref30_Kind n e hn (zFq c1) (by omega)) ⟨zB,O,zB,O,T⟩<|zW O (kD O O O)<|zW O (yR O O O)<|D 0 sz31 O<|G O<|zA<|zK<|fin2 (qM yH O (Y 0 O) O) (L O) ?_
   rw [exprT_k c1 (by rw [hp,kV (by omega)];rfl)];rfl
theorem ref30_plain (s:St) (hs:s.wt<=900000000):
    Pur cfg 157 [vSt s] (vB (fE s)):=by
 refine zU Tryz.func157 O Tryz.ntmps157 Tryz.results157 O ?_
 intro z hz
 obtain ⟨hE,hI,hIw,hB,hBw⟩:=St.parts hs
 refine R O<|zV O O (qO O O) ?_
 rintro _ _ ⟨b1,rfl,rfl⟩
 refine G O<|zA<|zI<|qW 8 mixed (by kernel_rfl) O O<|zL O O (zD O zBu O)<|zL O O (zF O one3 O (Y 0 O) O)<|zL O O (yO O O O)<|zL O O (zD O zBu O)<|zL O O (zF O one3 O (Y 0 O) O)<|zL O O (yO O O O)<|zL O O (yU O O)<|zL O O (yU O O)<|yJ<|zA<|R O<|zG O zBu<|zH one3 (Y 0 O) O<|qZ O<|G O<|rL0 O (fun g2_3=>zD O zBu O) O<|A 16 O (fun g2_3=>zF O one3 O (Y 0 O) O) O<|A 17 O (fun g2_3=>yO O O O) O<|r_or O (fun h=>(lzf h))<|G O<|zA<|zI<|R O<|G O<|kP O<|G O<|rL0 O (fun g3_2=>zN O O) O<|A 23 O (fun g3_2=>wA O O) O<|yK O (fun h=>h)<|G O<|rL0 O (fun g3_6=>zN O O) O<|A 27 O (fun g3_6=>wA O O) O<|yK O (fun h=>h)<|zA<|zC O (fun c1=>?_) (fun c1=>?_)
 ·refine R O<|G O<|zA<|zK<|zR O ?_
  exact congrArg vB (pln_1 c1)
 ·refine zJ<|zI<|R O<|G O<|kP O<|G O<|rL0 O (fun g5_2=>zD O zMi O) O<|A 33 O (fun g5_2=>zF O one3 O (Y 0 O) O) O<|A 34 O (fun g5_2=>zAn O O O) O<|A 35 O (fun g5_2=>zN O O) O<|rLz [] O N T (fun g5_6=>zD O zSv O) O<|rLz [(37,_)] O N ⟨O,O,T⟩ (fun g5_6=>zF O one3 O (Y 0 O) O) O<|rLz [(38,_)] O N ⟨O,O,T⟩ (fun g5_6=>zAn O O O) O<|A 36 O (fun g5_2=>zAz O O O O (fun h=>kH (by assumption) (lzf h))) O<|yK O (fun h=>h)<|G O<|rL0 O (fun g5_12=>zD O zBu O) O<|A 43 O (fun g5_12=>zF O one3 O (Y 0 O) O) O<|A 44 O (fun g5_12=>zAn O O O) O<|A 45 O (fun g5_12=>zN O O) O<|rLz [] O N T (fun g5_16=>zD O zSu O) O<|rLz [(47,_)] O N ⟨O,O,T⟩ (fun g5_16=>zF O one3 O (Y 0 O) O) O<|rLz [(48,_)] O N ⟨O,O,T⟩ (fun g5_16=>zAn O O O) O<|A 46 O (fun g5_12=>wU O O O (fun h=>kH (by assumption) h) O) O<|r_or O (fun h=>(lzf h))<|G O<|rL0 O (fun g5_22=>zN O O) O<|A 53 O (fun g5_22=>zN O O) O<|rLz [] O N T (fun g5_24=>zD O zCp O) O<|rLz [(55,_)] O N ⟨O,O,T⟩ (fun g5_24=>zF O one9 O (Y 0 O) O) O<|rLz [(56,_)] O N ⟨O,O,T⟩ (fun g5_24=>zAl O O O) O<|A 54 O (fun g5_22=>wU O O O (fun h=>kH (by assumption) h) O) O<|r_or O (fun h=>(lzf h))<|zA<|zC O (fun c2=>?_) (fun c2=>?_)
  ·refine R O<|G O<|zA<|zK<|zR O ?_
   exact congrArg vB (pln_2 c2)
  ·refine zJ<|zI<|R O<|G O<|kP O<|G O<|rL0 O (fun g7_2=>zD O zKa O) O<|A 63 O (fun g7_2=>zF O wJ O (Y 0 O) O) O<|A 64 O (fun g7_2=>yW O el51 O) O<|A 65 O (fun g7_2=>yG O O O) O<|yK O (fun h=>h)<|G O<|rL0 O (fun g7_8=>zN O O) O<|A 69 O (fun g7_8=>zN O O) O<|rLz [] O N T (fun g7_10=>zD O zCo O) O<|rLz [(71,_)] O N ⟨O,O,T⟩ (fun g7_10=>zF O zBm O (Y 0 O) O) O<|rLz [(72,_)] O N ⟨O,O,T⟩ (fun g7_10=>yW O el23 O) O<|rLz [(73,_)] O N ⟨O,O,T⟩ (fun g7_10=>yG O O O) O<|A 70 O (fun g7_8=>wU O O O (fun h=>kH (by assumption) h) O) O<|r_or O (fun h=>(lzf h))<|zA<|zC O (fun c3=>?_) (fun c3=>?_)
   ·refine R O<|G O<|zA<|zK<|zR O ?_
    exact congrArg vB (pln_3 c3)
   ·refine zJ<|R O<|G O<|kP O<|G O<|rL0 O (fun g9_2=>zD O zDf O) O<|A 80 O (fun g9_2=>qC O yP O (Y 0 O) O) O<|rL0 O (fun g9_2=>kY [none,none,none,none,none,none,none,none,none,none,some 2,some 4,some 13] O zr57 pl57 O O) O<|rLz [(81,_),(82,_)] O J ⟨O,O,O,O,T⟩ (fun g9_2=>qS O ok183 (base_Expr s.E zEx (by omega)) ⟨zB,O,zB,O,T⟩) O<|r_or O (fun h=>(lzf h))<|G O<|zA<|zK<|zR O ?_
    exact congrArg vB (pln_4 c1 c2 c3)
theorem ref30_store (n:Ns) (bd:List Bd) (s:St) (hn:n.Ok) (hb:bd.length<=1000000) (hs:s.wt<=900000):
    Pur cfg 160 [vNs n,sL bd,vSt s] (vI (gO n.Bufs (bd.map Bd.Name) s)):=by
 refine zU Tryz.func160 O Tryz.ntmps160 Tryz.results160 O ?_
 intro z hz
 obtain ⟨hE,hI,hIw,hB,hBw⟩:=St.parts hs
 have hrd:=rdE_wt s
 refine R O<|zV O O (qO O O) ?_
 rintro _ _ ⟨b1,rfl,rfl⟩
 refine zV O O (qO O O) ?_
 rintro _ _ ⟨b2,rfl,rfl⟩
 refine G O<|zA<|zI<|R O<|zO zBi (Y 1 O) O<|G O<|zG O zCp<|zH one9 (Y 0 O) O<|zG O zKa<|zH wJ (Y 0 O) O<|zW O (kY [none,none,none,none,none,none,none,none,none,none,some 2,none,some 13] O zr57 pl57 O O)<|qN O ok158 (zGn n bd (rdE s) hn hb (by omega)) ⟨zB,O,zB,O,zB,O,T⟩<|zW O (yD O O)<|zW O (kD O O O)<|zW O (yR O O O)<|zV O O (yN O zr31) ?_
 rintro _ _ ⟨b3,rfl,rfl⟩
 refine D 0 sz31 O<|G O<|zA<|R O<|G O<|kU O<|zA<|zC O (fun c1=>?_) (fun c1=>?_)
 ·try simp only [sx] at c1
  refine R O<|G O<|G O<|zA<|zK<|zR O ?_
  rw [storeE_1 c1]
 ·try simp only [sx] at c1
  refine zJ<|R O<|zO zBi (Y 2 O) O<|zG O zCp<|zH one9 (Y 1 O) O<|qN O ok83 (zCk n s.Name hn) ⟨zB,O,zB,O,T⟩<|zW O (yD O O)<|zW O (kD O O O)<|zW O (yR O O O)<|zV O O (qR [none,none,none,none,none,none,some 1,none] O zr69 O) ?_
  rintro _ _ ⟨b4,rfl,rfl⟩
  refine D 0 sz69 O<|G O<|zA<|zI<|R O<|zG O zIo<|zH one3 (Y 0 O) O<|qZ O<|G O<|rL0 O (fun g5_3=>zD O zBu O) O<|A 38 O (fun g5_3=>zF O one3 O (Y 2 O) O) O<|A 39 O (fun g5_3=>yO O O O) O<|A 40 O (fun g5_3=>zN O O) O<|rLz [] O N T (fun g5_7=>zD O zSu O) O<|rLz [(42,_)] O N ⟨O,O,T⟩ (fun g5_7=>zF O one3 O (Y 2 O) O) O<|rLz [(43,_)] O N ⟨O,O,T⟩ (fun g5_7=>kM O O O) O<|rLz [(44,_)] O N ⟨O,O,T⟩ (fun g5_7=>zN O O) O<|rLz [] O N T (fun g5_11=>zD O zSu O) O<|rLz [(46,_)] O N ⟨O,O,T⟩ (fun g5_11=>zF O one3 O (Y 2 O) O) O<|rLz [(47,_)] O N ⟨O,O,T⟩ (fun g5_11=>yG O O O) O<|rLz [(45,_)] O N ⟨O,O,T⟩ (fun g5_7=>zAz O O O O (fun h=>kH (by assumption) (lzf h))) O<|A 41 O (fun g5_3=>wU O O O (fun h=>kH (by assumption) h) O) O<|r_or O (fun h=>(lzf h))<|zA<|zC O (fun c2=>?_) (fun c2=>?_)
  ·try simp only [sx] at c2
   refine R O<|G O<|zA<|zK<|zR O ?_
   rw [storeE_u c1 c2]
  ·try simp only [sx] at c2
   refine zJ<|R O<|zO zBi (Y 3 O) O<|G O<|zG O zDf<|zO yP (Y 2 O) O<|qN O ok158 (zGn n bd s.E hn hb (by omega)) ⟨zB,O,zB,O,zB,O,T⟩<|zW O (yD O O)<|zW O (kD O O O)<|zW O (yR O O O)<|zV O O (yN O zr31) ?_
   rintro _ _ ⟨b5,rfl,rfl⟩
   refine D 0 sz31 O<|G O<|zA<|zI<|R O<|G O<|qZ O<|G O<|rL0 O (fun g8_2=>zD O zDf O) O<|A 63 O (fun g8_2=>qC O yP O (Y 3 O) O) O<|A 64 O (fun g8_2=>qS O ok159 (kT _) ⟨zB,O,T⟩) O<|A 65 O (fun g8_2=>zN O O) O<|rLz [] O N T (fun g8_6=>qC O yH O (Y 0 O) O) O<|rLz [] O N T (fun g8_6=>zD O zHg O) O<|rLz [(68,_)] O N ⟨O,O,T⟩ (fun g8_6=>qC O yH O (Y 1 O) O) O<|rLz [(67,_),(69,_)] O N ⟨O,O,O,O,T⟩ (fun g8_6=>zBk O fl31 O O O) O<|A 66 O (fun g8_2=>zAz O O O O (fun h=>kH (by assumption) (lzf h))) O<|yK O (fun h=>h)<|zA<|zC O (fun c3=>?_) (fun c3=>?_)
   ·obtain ⟨h0,h10⟩:=st3_t c3
    refine R O<|G O<|zA<|zK<|zR O ?_
    rw [storeE_10 c1 (by omega) h0 h10]
   ·have h3:=st3_f c3
    refine zJ<|R O<|G O<|G O<|zA<|zK<|zR O ?_
    rw [st_fin c1 (by omega) h3]
theorem ref30_one (n:Ns) (bd:List Bd) (U:List ByteArray) (s:St) (hn:n.Ok) (hb:bd.length<=1000000) (hs:s.wt<=900000) (hU:U.length<=1000000):
    Pur cfg 122 [vNs n,sL bd,vSs U,vSt s] (vI (stE n.Bufs U (bd.map Bd.Name) s)):=by
 refine zU Tryz.func122 O Tryz.ntmps122 Tryz.results122 O ?_
 intro z hz
 obtain ⟨hE,hI,hIw,hB,hBw⟩:=St.parts hs
 refine R O<|zV O O (qO O O) ?_
 rintro _ _ ⟨b1,rfl,rfl⟩
 refine zV O O (qO O O) ?_
 rintro _ _ ⟨b2,rfl,rfl⟩
 refine G O<|zA<|zI<|R O<|zO zFo (Y 0 O) O<|qN O ok157 (ref30_plain s (by omega)) ⟨zB,O,T⟩<|kP O<|zA<|zC O (fun c1=>?_) (fun c1=>?_)
 ·try simp only [sx] at c1
  refine R O<|G O<|zA<|zK<|zR O ?_
  rw [stE_5 c1]
 ·try simp only [sx] at c1
  refine zJ<|zI<|R O<|zG O zBu<|zH one3 (Y 0 O) O<|zA<|zP<|R O<|qZ O<|G O<|zA<|zC O (fun c2=>?_) (fun c2=>?_)
  ·try simp only [sx] at c2
   refine R O<|zO zBi (Y 1 O) O<|zG O zCp<|zH one9 (Y 0 O) O<|qN O ok83 (zCk n s.Name hn) ⟨zB,O,zB,O,T⟩<|zW O (yD O O)<|zW O (kD O O O)<|zW O (yR O O O)<|zV O O (qR [none,none,none,none,none,none,some 1,none] O zr69 O) ?_
   rintro _ _ ⟨b3,rfl,rfl⟩
   refine D 0 sz69 O<|G O<|zA<|zI<|zP<|R O<|zG O zCp<|zH one9 (Y 1 O) O<|qN O ok120 (zIy s.Name) ⟨zB,O,T⟩<|kP O<|G O<|zA<|zC O (fun c3=>?_) (fun c3=>?_)
   ·try simp only [sx] at c3
    refine R O<|G O<|zA<|zK<|zR O ?_
    rw [stE_l c1 c2,loopE_7 c3]
   ·try simp only [sx] at c3
    refine R O<|G O<|G O<|rL0 O (fun g8_1=>zN O O) O<|rL0 O (fun g8_1=>zD O zCp O) O<|A 36 O (fun g8_1=>zF O one9 O (Y 1 O) O) O<|rLz [(35,_),(37,_)] O J ⟨O,O,O,O,T⟩ (fun g8_1=>qS O ok94 (zQo U s.Name (by omega)) ⟨zB,O,zB,O,T⟩) O<|r_or O (fun h=>(lzf h))<|G O<|zA<|zC O (fun c4=>?_) (fun c4=>?_)
    ·try simp only [sx] at c4
     refine R O<|G O<|zA<|zK<|zR O ?_
     rw [stE_l c1 c2,loopE_8 c3 c4]
    ·try simp only [sx] at c4
     have h8:¬(bP n.Bufs s.Name=true∨bS U s.Name=true):=by rw [c4.1,c4.2];simp
     refine R O<|zG O zMi<|zH one3 (Y 1 O) O<|yB O<|G O<|rL0 O (fun g10_3=>zD O zMi O) O<|A 45 O (fun g10_3=>zF O one3 O (Y 1 O) O) O<|A 46 O (fun g10_3=>yG O O O) O<|r_or O (fun h=>(lzf h))<|G O<|rL0 O (fun g10_8=>zD O zSv O) O<|A 50 O (fun g10_8=>zF O one3 O (Y 1 O) O) O<|A 51 O (fun g10_8=>kM O O O) O<|r_or O (fun h=>(lzf h))<|G O<|rL0 O (fun g10_13=>zD O zSv O) O<|A 55 O (fun g10_13=>zF O one3 O (Y 1 O) O) O<|A 56 O (fun g10_13=>yG O O O) O<|r_or O (fun h=>(lzf h))<|G O<|zA<|zC O (fun c5=>?_) (fun c5=>?_)
     ·try simp only [sx] at c5
      refine R O<|G O<|zA<|zK<|zR O ?_
      rw [stE_l c1 c2,loopE_1 c3 h8 (by omega)]
     ·try simp only [sx] at c5
      refine zJ<|R O<|G O<|zA<|zK<|zR O ?_
      rw [stE_l c1 c2,loopE_0 c3 h8 (by omega)]
  ·try simp only [sx] at c2
   refine R O<|qZ O<|G O<|zA<|zC O (fun c6=>?_) (fun c6=>?_)
   ·try simp only [sx] at c6
    refine R O<|zO zBi (Y 1 O) O<|G O<|zG O zDf<|zO yP (Y 0 O) O<|qN O ok158 (zGn n bd s.E hn hb (by omega)) ⟨zB,O,zB,O,zB,O,T⟩<|zW O (yD O O)<|zW O (kD O O O)<|zW O (yR O O O)<|zV O O (yN O zr31) ?_
    rintro _ _ ⟨b4,rfl,rfl⟩
    refine D 0 sz31 O<|G O<|zA<|zI<|R O<|G O<|qZ O<|G O<|rL0 O (fun g15_2=>zD O zDf O) O<|A 72 O (fun g15_2=>qC O yP O (Y 1 O) O) O<|A 73 O (fun g15_2=>qS O ok159 (kT _) ⟨zB,O,T⟩) O<|A 74 O (fun g15_2=>wA O O) O<|yK O (fun h=>h)<|zA<|zC O (fun c7=>?_) (fun c7=>?_)
    ·refine R O<|G O<|zA<|zK<|zR O ?_
     rw [stE_i c1 c6,if_t c7]
    ·refine zJ<|R O<|G O<|G O<|zA<|zK<|zR O ?_
     rw [stE_i c1 c6,if_fin c7]
   ·try simp only [sx] at c6
    refine zJ<|R O<|zO zBi (Y 1 O) O<|G O<|zO zFo (Y 0 O) O<|qN O ok160 (ref30_store n bd s hn hb hs) ⟨zB,O,zB,O,zB,O,T⟩<|G O<|zA<|zK<|zR O ?_
    rw [stE_s c1 c2 c6]
set_option maxHeartbeats 2000000 in
theorem zIg (n:Ns) (bd:List Bd) (U:List ByteArray) (l:List St) (W:List Int) (hn:n.Ok) (hU:U.length+dK l<=1000000) (hb:bd.length+dK l<=1000000) (hW:W.length+dK l<=1000000) (hl:bL l<=900000) (ih:∀s,s∈l->∀(bd:List Bd) (U:List ByteArray) (W:List Int),U.length+dK s.Body<=1000000->bd.length+dK s.Body<=1000000->W.length+dK s.Body<=1000000->Pur cfg 71 [vNs n,sL bd,vSs U,fV s.Body,vIs W] (ckC (dR n.Bufs U (bd.map Bd.Name) W 0 s.Body))):
    Pur cfg 71 [vNs n,sL bd,vSs U,fV l,vIs W] (ckC (dR n.Bufs U (bd.map Bd.Name) W 0 l)):=by
 refine zU Tryz.func71 O Tryz.ntmps71 Tryz.results71 O ?_
 intro z hz
 have hll:=wL l
 have hlN:=zEc l
 refine R O<|zV O O (qO O O) ?_
 rintro _ _ ⟨b1,rfl,rfl⟩
 refine zV O O (qR [some 1,some 1,none] O zr128 O) ?_
 rintro _ _ ⟨b2,rfl,rfl⟩
 refine zA<|zI<|R O<|G O<|zA<|zP<|zT ⟨[(11,.c _),(2,.c _),(1,.c _),(3,.c _),(4,.c _),(5,.c _),(10,.c _)],[_,_]⟩ (Weak.mk [true,true] ⟨zB,zB,zB,zB,zB,zB,zB,T⟩ O)<|qG 2 0 O O (Nat×List ByteArray) (fun ⟨k,u⟩=>[(11,vI k),(2,vSs u)]) (fun ⟨k,u⟩=>[]) (fun ⟨k,u⟩=>k<=l.length/\(u.length+dK (l.drop k)<=1000000)/\((dR n.Bufs U (bd.map Bd.Name) W 0 l)=dR n.Bufs u (bd.map Bd.Name) W k (l.drop k))) (fun ⟨k,u⟩=>l.length-k) ⟨⟨0,U⟩,⟨by omega,by simpa using hU,O⟩,Weak.mk [true,true] ⟨zB,VLe.of_eq (O),zB,zB,zB,zB,zB,T⟩ O⟩ ?_
 rintro ⟨k,u⟩ ⟨hk,hub,hp⟩
 show AWP _ _ _ _ _ ⟨[(11,vI k),(2,vSs u)]++_,[]++_⟩
 refine zI<|R O<|G O<|G O<|zZ O el23<|yB O<|zA<|zC O (fun c1=>?_) (fun c1=>?_)
 ·try simp only [sx] at c1
  obtain ⟨s,hs⟩:=qU l k (by omega)
  have hsw:=kL (qA hs)
  have hsb:=St.body_wt s
  have hsn:=stsN_drop hs
  have hse:=zOn s
  have hsm:=zPn (qA hs)
  have hcl:=chkS_len n.Bufs s u (bd.map Bd.Name) (W++[(k:Int)])
  refine zJ<|zI<|zP<|R O<|zW O (zKz O el67 zr3)<|G O<|zV O O (zKq O el67 O O (by simp only [List.length_map,List.length_append,List.length_cons,List.length_nil];omega) (by simp only [List.length_map,List.length_append,List.length_cons,List.length_nil];omega)) ?_
  rintro _ _ ⟨sv3,rfl,rfl⟩
  refine G O<|zW O (yM O el67 zr3 O O O O)<|zV O O (yQ 0 O el67 O O O (by simp only [List.length_map,List.length_append,List.length_cons,List.length_nil];omega) (by simp only [List.length_map,List.length_append,List.length_cons,List.length_nil];omega)) ?_
  rintro _ _ ⟨sv4,rfl,rfl⟩
  refine G O<|zA<|zI<|zI<|zT _ (Weak.vecEq 0 O (rows':=(W++[(k:Int)]).map fun i=>[cI i]) (by first|rfl|simp|rw [List.take_of_length_le (by simp)]))<|zT _ (wD 0 O (regs':=[(27,_),(12,_)]) (μ':=[_,_]) ⟨FLe.sl,FLe.sl,T⟩ ⟨EFle.refl _,EFle.refl _,T⟩)<|qW 9 mixed (by kernel_rfl) O O<|zL O O (qC O zBi O (Y 1 O) O)<|zL O O (zN O O)<|zL O O (zN O O)<|zL O O (zN O O)<|zL O O (zN O O)<|zL O O (qL O el23 O O (by omega) (zEl (by assumption)))<|zL O O (qC O zFo O zQ O)<|zL O O (qS O ok122 (ref30_one n bd u s hn (by omega) (by have:=kL (qA hs);omega) (by omega)) ⟨zB,O,zB,O,zB,O,zB,O,T⟩)<|zL O O (yU O O)<|yJ<|zA<|R O<|G O<|kU O<|zA<|zC O (fun c2=>?_) (fun c2=>?_)
  ·try simp only [sx] at c2
   have hx0:=chkS_no (here:=W++[(k:Int)]) (B:=n.Bufs) (U:=u) (sc:=(bd.map Bd.Name)) (s:=s) c2
   refine R O<|G O<|G O<|zW O (kY [some 1,none,none] O zr128 pl128 O O)<|D 0 sz128 O<|zA<|zK<|fin1 (qM agg128 O (Y 0 O) O) ?_
   rw [zEa hs hp (by rw [hx0];exact c2),hx0];rfl
  ·try simp only [sx] at c2
   have hin:=chkS_in (here:=W++[(k:Int)]) (B:=n.Bufs) (U:=u) (sc:=(bd.map Bd.Name)) (s:=s) c2
   refine zJ<|R O<|G O<|G O<|zA<|zI<|R O<|G O<|G O<|qD O el23 (by omega) (zEl (by assumption))<|zX O zBu<|zH one3 zQ O<|qZ O<|zA<|zC O (fun c3=>?_) (fun c3=>?_)
   ·try simp only [sx] at c3
    rw [zIk c3,zIk c3,←map_bd] at hin
    refine zI<|yS 9 1 [⟨0,.q []⟩,⟨1,.q []⟩,⟨3,.q []⟩,⟨4,.q []⟩,⟨5,.q []⟩,⟨6,.q []⟩,⟨7,.q []⟩,⟨8,.q []⟩,⟨2,.e 0 []⟩] mixed (by kernel_rfl) (by kernel_rfl) O O O<|v O<|v O<|v O<|v O<|v O<|v O<|v O<|v O<|v O<|zAg<|zY O (by decide) O O (zKz O el78 zr9)<|zY O (by decide) O O (zN O O)<|zY O (by decide) O O (zN O O)<|zY O (by decide) O O (zN O O)<|zY O (by decide) O O (qL O el23 O O (by omega) (zEl (by assumption)))<|zY O (by decide) O O (qF O zCp O)<|zY O (by decide) O O (zF O one9 O zQ O)<|zY O (by decide) O O (yM O el78 zr9 O O O O)<|zHk O O (by decide) O O (zKq O el78 O O (by simp only [List.length_map,List.length_append,List.length_cons,List.length_nil];omega) (by simp only [List.length_map,List.length_append,List.length_cons,List.length_nil];omega)) ?_
    rintro _ _ ⟨sv5,rfl,rfl⟩
    refine ⟨_,O,?_⟩
    refine zAe O<|zV O O (yQ 0 O el78 O O O (by simp only [List.length_map,List.length_append,List.length_cons,List.length_nil];omega) (by simp only [List.length_map,List.length_append,List.length_cons,List.length_nil];omega)) ?_
    rintro _ _ ⟨sv6,rfl,rfl⟩
    refine G O<|zA<|yS 15 1 [⟨0,.q []⟩,⟨1,.q []⟩,⟨3,.q []⟩,⟨4,.q []⟩,⟨5,.q []⟩,⟨6,.q []⟩,⟨7,.q []⟩,⟨8,.q []⟩,⟨9,.q []⟩,⟨10,.q []⟩,⟨11,.q []⟩,⟨12,.q []⟩,⟨13,.q []⟩,⟨14,.q []⟩,⟨2,.e 0 []⟩] mixed (by kernel_rfl) (by kernel_rfl) O O O<|v O<|v O<|v O<|v O<|v O<|v O<|v O<|v O<|v O<|v O<|v O<|v O<|v O<|v O<|v O<|zAg<|zY O (by decide) O O (zKz O el171 zr174)<|zY O (by decide) O O (zN O O)<|zY O (by decide) O O (zN O O)<|zY O (by decide) O O (zN O O)<|zY O (by decide) O O (qL O el23 O O (by omega) (zEl (by assumption)))<|zY O (by decide) O O (qF O zCp O)<|zY O (by decide) O O (zF O one9 O zQ O)<|zY O (by decide) O O (zN O O)<|zY O (by decide) O O (zN O O)<|zY O (by decide) O O (qL O el23 O O (by omega) (zEl (by assumption)))<|zY O (by decide) O O (qF O zMi O)<|zY O (by decide) O O (zF O one3 O zQ O)<|zY O (by decide) O O (zAb O zr174 pl174 O)<|zY O (by decide) O O (yM O el171 zr174 O O O O)<|zHk O O (by decide) O O (zKq O el171 O O (by simp only [List.length_map,List.length_append,List.length_cons,List.length_nil];omega) (by simp only [List.length_map,List.length_append,List.length_cons,List.length_nil];omega)) ?_
    rintro _ _ ⟨sv7,rfl,rfl⟩
    refine ⟨_,O,?_⟩
    refine zAe O<|zV O O (yQ 0 O el171 O O O (by simp only [List.length_map,List.length_append,List.length_cons,List.length_nil];omega) (by simp only [List.length_map,List.length_append,List.length_cons,List.length_nil];omega)) ?_
    rintro _ _ ⟨sv8,rfl,rfl⟩
    refine G O<|zA<|zI<|zT _ (Weak.vecEq 1 O (rows':=(u++[s.Name]).map fun s=>[cS s]) (by first|rfl|simp|rw [List.take_of_length_le (by simp)]))<|zT _ (wD 1 O (regs':=[(2,_),(57,_)]) (μ':=[_,_,_]) ⟨FLe.sl,FLe.sl,T⟩ ⟨EFle.refl _,EFle.refl _,EFle.refl _,T⟩)<|zT _ (Weak.vecEq 0 O (rows':=(bd++[(⟨s.Name,s.Many⟩:Bd)]).map Bd.cells) (by rw [List.map_append];rfl))<|zT _ (wD 0 O (regs':=[(14,_),(73,_)]) (μ':=[_,_]) ⟨FLe.sl,FLe.sl,T⟩ ⟨EFle.refl _,EFle.refl _,T⟩)<|yS 11 1 [⟨0,.q [2]⟩,⟨1,.q []⟩,⟨2,.q []⟩,⟨3,.q []⟩,⟨4,.q []⟩,⟨5,.q []⟩,⟨6,.q []⟩,⟨7,.q []⟩,⟨8,.q []⟩,⟨9,.q []⟩,⟨10,.f 0⟩] mixed (by kernel_rfl) (by kernel_rfl) O O O<|v O<|v O<|v O<|v O<|v O<|v O<|v O<|v O<|v O<|v O<|zQe O O (zFb (qR [some 1,some 1,none] O zr128 O)) ⟨_,_,0,O,O⟩<|zAg<|zY O (by decide) O O (qC O zBi O (Y 0 O) O)<|zY O (by decide) O O (zN O O)<|zY O (by decide) O O (zN O O)<|zY O (by decide) O O (zN O O)<|zY O (by decide) O O (zN O O)<|zY O (by decide) O O (qL O el23 O O (by omega) (zEl (by assumption)))<|zY O (by decide) O O (qF O zCo O)<|zY O (by decide) O O (zF O zBm O zQ O)<|zY O (by decide) O O (zN O O)<|zY O (by decide) O O (qS O ok71 (ih s (qA hs) (bd++[(⟨s.Name,s.Many⟩:Bd)]) (u++[s.Name]) (W++[(k:Int)]) (by first|omega|(simp;omega)) (by first|omega|(simp;omega)) (by simp;omega)) ⟨zB,O,zB,O,zB,O,zB,O,zB,O,T⟩)<|zPq O O ?_
    rintro _ _ ⟨b9,rfl,rfl⟩
    exact o7
   ·try simp only [sx] at c3
    rw [zLv c3,zLv c3] at hin
    refine zJ<|zI<|yS 11 1 [⟨0,.q [2]⟩,⟨1,.q []⟩,⟨2,.q []⟩,⟨3,.q []⟩,⟨4,.q []⟩,⟨5,.q []⟩,⟨6,.q []⟩,⟨7,.q []⟩,⟨8,.q []⟩,⟨9,.q []⟩,⟨10,.f 0⟩] mixed (by kernel_rfl) (by kernel_rfl) O O O<|v O<|v O<|v O<|v O<|v O<|v O<|v O<|v O<|v O<|v O<|zQe O O (zFb (qR [some 1,some 1,none] O zr128 O)) ⟨_,_,0,O,O⟩<|zAg<|zY O (by decide) O O (qC O zBi O (Y 0 O) O)<|zY O (by decide) O O (zN O O)<|zY O (by decide) O O (zN O O)<|zY O (by decide) O O (zN O O)<|zY O (by decide) O O (zN O O)<|zY O (by decide) O O (qL O el23 O O (by omega) (zEl (by assumption)))<|zY O (by decide) O O (qF O zCo O)<|zY O (by decide) O O (zF O zBm O zQ O)<|zY O (by decide) O O (zN O O)<|zY O (by decide) O O (qS O ok71 (ih s (qA hs) bd u (W++[(k:Int)]) (by first|omega|(simp;omega)) (by first|omega|(simp;omega)) (by simp;omega)) ⟨zB,O,zB,O,zB,O,zB,O,zB,O,T⟩)<|zPq O O ?_
    rintro _ _ ⟨b10,rfl,rfl⟩
    exact o7
 ·try simp only [sx] at c1
  refine qH<|R O<|G O<|zW O (kY [none,some 1,none] O zr128 pl128 O O)<|D 0 sz128 O<|zA<|zK<|fin1 (qM agg128 O (Y 0 O) O) ?_
  rw [zQl hp (by omega)];rfl
theorem zRr (n:Ns) (hn:n.Ok) (s:St) (hl:bL s.Body<=900000):∀(bd:List Bd) (U:List ByteArray) (W:List Int),U.length+dK s.Body<=1000000->bd.length+dK s.Body<=1000000->W.length+dK s.Body<=1000000->Pur cfg 71 [vNs n,sL bd,vSs U,fV s.Body,vIs W] (ckC (dR n.Bufs U (bd.map Bd.Name) W 0 s.Body)):=by
  induction s using St.ind with
  |_ s ih=>
    intro bd U W hU hb hW
    refine zIg n bd U s.Body W hn hU hb hW hl fun a ha=>ih a ha ?_
    have:=kL ha;have:=St.body_wt a;omega
theorem ref30_body (n:Ns) (bd:List Bd) (U:List ByteArray) (l:List St) (W:List Int)  (hn:n.Ok) (hU:U.length+dK l<=1000000) (hb:bd.length+dK l<=1000000) (hW:W.length+dK l<=1000000) (hl:bL l<=900000):Pur cfg 71 [vNs n,sL bd,vSs U,fV l,vIs W] (ckC (dR n.Bufs U (bd.map Bd.Name) W 0 l)):=
  zIg n bd U l W hn hU hb hW hl fun s hs=>zRr n hn s (by have:=kL hs;have:=St.body_wt s;omega)
theorem ref30_Validate (n:Ns) (hn:n.Ok) (hw:bL n.Body<=900000):
    Pur cfg 31 [vNs n] (.tup [vIs (bZ n).1,vI (bZ n).2]):=by
 refine zU Tryz.func31 O Tryz.ntmps31 Tryz.results31 O ?_
 intro z hz
 refine R O<|zV O O (qO O O) ?_
 rintro _ _ ⟨b1,rfl,rfl⟩
 refine zW O (yX 1 O O)<|G O<|zA<|zI<|R O<|zG O zEn<|zH zBm (Y 0 O) O<|qN O ok68 (ref30_depth 41 n.Body 41 (by omega) (by omega) O) ⟨zB,O,zB,O,T⟩<|zW O (yG O O O)<|zA<|zC O (fun c1=>?_) (fun c1=>?_)
 ·try simp only [sx] at c1
  have hwi:=within_f c1
  refine R O<|zW O (yX 1 O O)<|G O<|zA<|zK<|fin2 (L O) (L O) ?_
  rw [zQz hwi];rfl
 ·try simp only [sx] at c1
  have hwi:=within_t c1
  refine zJ<|zI<|R O<|zG O zEn<|zH zBm (Y 0 O) O<|qN O ok69 (ref30_size n.Body 2000 2000 (by omega) (by omega) O) ⟨zB,O,zB,O,T⟩<|zW O (yG O O O)<|G O<|rL0 O (fun g3_4=>zD O zDh O) O<|A 15 O (fun g3_4=>zF O zHq O (Y 0 O) O) O<|A 16 O (fun g3_4=>yW O el22 O) O<|A 17 O (fun g3_4=>yG O O O) O<|r_or O (fun h=>(lzf h))<|zA<|zC O (fun c2=>?_) (fun c2=>?_)
  ·try simp only [sx] at c2
   refine R O<|zW O (yX 1 O O)<|G O<|zA<|zK<|fin2 (L O) (L O) ?_
   rw [validN_2 hwi (by omega)];rfl
  ·try simp only [sx] at c2
   have hnum:=numB_ok (l:=n.Body) (m:=2000) (by omega)
   refine zJ<|zI<|R O<|zO zBi (Y 0 O) O<|qN O ok70 (ref30_bufs n hn) ⟨zB,O,T⟩<|G O<|zA<|R O<|G O<|kU O<|zA<|zC O (fun c3=>?_) (fun c3=>?_)
   ·try simp only [sx] at c3
    refine R O<|G O<|zW O (yX 1 O O)<|G O<|zA<|zK<|fin2 (L O) (L O) ?_
    rw [validN_b hwi (by omega) c3];rfl
   ·try simp only [sx] at c3
    refine zJ<|R O<|zO zBi (Y 0 O) O<|zG O zEn<|zH zBm (Y 0 O) O<|qN O ok71 (ref30_body n [] [] n.Body [] hn (by simp;omega) (by simp;omega) (by simp;omega) hw) ⟨zB,O,VLe.nil,O,VLe.nil,O,zB,O,VLe.nil,O,T⟩<|zV O O (qR [some 1,some 1,none] O zr128 O) ?_
    rintro _ _ ⟨b2,rfl,rfl⟩
    refine D 0 sz128 O<|zA<|zI<|qW 6 mixed (by kernel_rfl) O O<|zL O O (zD O fd128_1 O)<|zL O O (zF O zCt O (Y 0 O) O)<|zL O O (zD O fd128_2 O)<|zL O O (zF O zIi O (Y 0 O) O)<|zL O O (yU O O)<|zL O O (yU O O)<|yJ<|zA<|zK<|fin2 (L O) (L O) ?_
    rw [zPj hwi (by omega) c3];rfl
end Go.W
