/-
  What functions compute.
  Conditions: none.
-/
import Derived.Test.YtdldhbfgfkebjaaGreatDoorNB
import Derived.Test.YtdldhbfgfkebjaaGreatDoorPlain2
import Derived.Test.YtdldhbfgfkebjaaGreatDoorEngZ
set_option linter.unusedSimpArgs false
set_option linter.unusedVariables false
set_option maxRecDepth 10000
namespace Go.W
open Go Go.Eng Go.Proofs Go.L41 Go.Br
attribute [local irreducible] AWP RWP TD fT
abbrev rV (l:List Bd):V:=.c (.sl 2 (l.map Bd.cells))
abbrev ckC (x:Ck):V:=.agg [.sl 1 (x.U.map fun s=>[cS s]),.sl 1 (x.W.map fun i=>[cI i]),cI x.E]
theorem bd_get {l:List Bd} {k:Nat} {x:Bd} (h:l[k]? =some x):(l.map Bd.cells)[k]? =some [cS x.Name,cI x.Val]:=by rw [N h];rfl
theorem agg128:lK Tryz.prog 128=some 3:=by kernel_rfl
theorem el171:dW Tryz.prog 171=some (174,2,24):=by kernel_rfl
theorem fd128_0:bD Tryz.prog 128 0=some (0,78):=by kernel_rfl
theorem fd128_1:bD Tryz.prog 128 1=some (1,67):=by kernel_rfl
theorem fd128_2:bD Tryz.prog 128 2=some (2,36):=by kernel_rfl
theorem fd174_0:bD Tryz.prog 174 0=some (0,9):=by kernel_rfl
theorem ok70:bA Tryz.prog 70=true:=by kernel_rfl
theorem ok71:bA Tryz.prog 71=true:=by kernel_rfl
theorem ok83:bA Tryz.prog 83=true:=by kernel_rfl
theorem ok122:bA Tryz.prog 122=true:=by kernel_rfl
theorem ok157:bA Tryz.prog 157=true:=by kernel_rfl
theorem ok158:bA Tryz.prog 158=true:=by kernel_rfl
theorem ok160:bA Tryz.prog 160=true:=by kernel_rfl
theorem ok184:bA Tryz.prog 184=true:=by kernel_rfl
theorem ok185:bA Tryz.prog 185=true:=by kernel_rfl
theorem ok186:bA Tryz.prog 186=true:=by kernel_rfl
theorem ok206:bA Tryz.prog 206=true:=by kernel_rfl
theorem ok207:bA Tryz.prog 207=true:=by kernel_rfl
theorem pl128:fB Tryz.prog 128=some [(0,1),(1,1),(2,1)]:=by kernel_rfl
theorem pl174:fB Tryz.prog 174=some [(0,1),(1,1)]:=by kernel_rfl
theorem sz128:(Tryz.prog.info? 128).map (·.size)=some 3:=by kernel_rfl
theorem zr128:dK Tryz.prog 128=some [(Value.slice none 0 0),(Value.slice none 0 0),(Value.int IntKind.i64 0)]:=by kernel_rfl
theorem zr174:dK Tryz.prog 174=some [(Value.string (ByteArray.mk #[])),(Value.int IntKind.i64 0)]:=by kernel_rfl
theorem zSg (l:List Lf) (bd:List Bd) (hl:l.length<=4294967296) (hx:∀x,x∈l->x.L.length<=4294967296) (hb:bd.length<=4294967296):
    Pur cfg 206 [nQ l,rV bd] (vB (l.all (jK (bd.map Bd.Name)))):=by
 refine zW Tryz.func206 O Tryz.ntmps206 Tryz.results206 O ?_
 intro z hz
 have hl0:=hx
 clear hx
 refine R O<|G O<|zA<|zE<|R O<|G O<|zA<|zP<|zU ⟨[(5,.c _),(0,.c _),(1,.c _)],[]⟩ (Weak.mk [] ⟨zB,zB,zB,T⟩ O)<|qF 1 0 O O (Nat) (fun k=>[(5,vI k)]) (fun k=>[]) (fun k=>k<=l.length/\((l.take k).all (jK (bd.map Bd.Name))=true)) (fun k=>l.length-k) ⟨0,⟨by omega,O⟩,Weak.mk [] ⟨zB,zB,zB,T⟩ O⟩ ?_
 rintro k ⟨hk,hp⟩
 refine zE<|R O<|G O<|G O<|qC O zAq<|yC O<|zA<|zC O (fun c1=>?_) (fun c1=>?_)
 ·try simp only [sx] at c1
  obtain ⟨x,hx⟩:=qU l k (by omega)
  have hxl:=hl0 x (qE hx)
  refine zI<|zE<|zP<|R O<|G O<|zA<|zP<|zU ⟨[(6,.c _),(0,.c _),(1,.c _),(5,.c _)],[]⟩ (Weak.mk [] ⟨zB,zB,zB,zB,T⟩ O)<|qF 1 0 O O (Nat) (fun j=>[(6,vI j)]) (fun j=>[]) (fun j=>j<=x.L.length/\(x.L.take j).all (fun m=>bR (bd.map Bd.Name) m.Name)=true) (fun j=>x.L.length-j) ⟨0,⟨by omega,O⟩,Weak.mk [] ⟨zB,zB,zB,zB,T⟩ O⟩ ?_
  rintro j ⟨hj,hq⟩
  refine zE<|R O<|G O<|G O<|G O<|zX O zAq (by omega) (N hx)<|zS O zAh<|zF zCs Y O<|qC O el52<|yC O<|zA<|zC O (fun c2=>?_) (fun c2=>?_)
  ·try simp only [sx] at c2
   obtain ⟨m,hm⟩:=qU x.L j (by omega)
   refine zI<|zE<|zP<|R O<|G O<|zA<|zE<|R O<|G O<|zA<|zP<|zU ⟨[(8,.c _),(7,.c _),(0,.c _),(1,.c _),(5,.c _),(6,.c _)],[]⟩ (Weak.mk [] ⟨zB,zB,zB,zB,zB,zB,T⟩ O)<|qF 2 0 O O (Nat) (fun i=>[(8,vI i),(7,vB ((bd.take i).any fun d=>decide (d.Name=m.Name)))]) (fun i=>[]) (fun i=>i<=bd.length) (fun i=>bd.length-i) ⟨0,(by omega),Weak.mk [] ⟨zB,VLe.of_eq (O),zB,zB,zB,zB,T⟩ O⟩ ?_
   rintro i hi
   refine zE<|R O<|G O<|G O<|qC O el171<|yC O<|zA<|zC O (fun c3=>?_) (fun c3=>?_)
   ·try simp only [sx] at c3
    obtain ⟨d,hd⟩:=qU bd i (by omega)
    refine zI<|zE<|zP<|qV 19 mixed (by kernel_rfl) O O<|zL O O (zK O O)<|zL O O (zK O O)<|qJ [] O O O O gv1 T (fun g11_1=>zK O O) O<|qJ [] O O O O gv1 T (fun g11_1=>zK O O) O<|qJ [(33,_),(34,_)] O O O O gv1 ⟨O,O,O,O,T⟩ (fun g11_1=>qI O el171 O O (by omega) (bd_get hd)) O<|qJ [(35,_)] O O O O gv1 ⟨O,O,T⟩ (fun g11_1=>qA O fd174_0 O) O<|qJ [(36,_)] O O O O gv1 ⟨O,O,T⟩ (fun g11_1=>zD O one9 O Y O) O<|qJ [] O O O O gv1 T (fun g11_1=>zK O O) O<|qJ [] O O O O gv1 T (fun g11_1=>zK O O) O<|qJ [(38,_),(39,_)] O O O O gv1 ⟨O,O,O,O,T⟩ (fun g11_1=>qI O zAq O O (by omega) (N hx)) O<|qJ [(40,_)] O O O O gv1 ⟨O,O,T⟩ (fun g11_1=>qA O zAh O) O<|qJ [(41,_)] O O O O gv1 ⟨O,O,T⟩ (fun g11_1=>zD O zCs O Y O) O<|qJ [] O O O O gv1 T (fun g11_1=>zK O O) O<|qJ [(42,_),(43,_)] O O O O gv1 ⟨O,O,O,O,T⟩ (fun g11_1=>qI O el52 O O (by omega) (N hm)) O<|qJ [(44,_)] O O O O gv1 ⟨O,O,T⟩ (fun g11_1=>qA O zDi O) O<|qJ [(45,_)] O O O O gv1 ⟨O,O,T⟩ (fun g11_1=>zD O one9 O Y O) O<|qJ [(37,_),(46,_)] O O O O gv1 ⟨O,O,O,O,T⟩ (fun g11_1=>kB O O O) O<|zL O O (zAl O O O O (fun h=>(lzf h)))<|zL O O (yR O O)<|yJ<|zA<|zJ O<|G O<|qB O ⟨by omega,by omega⟩<|G O<|zA ?_
    refine ⟨i+1,(by omega),(by omega),Weak.mk [] ⟨zB,VLe.of_eq (congrArg vB (any_step hd)),zB,zB,zB,zB,T⟩ O⟩
   ·try simp only [sx] at c3
    rw [qZ (l:=bd) (k:=i) (by omega),any_hasB]
    refine qK<|R O<|G O<|wD O<|zA<|zC O (fun c4=>?_) (fun c4=>?_)
    ·try simp only [sx] at c4
     have hno:=bound_no hx hm c4
     refine R O<|G O<|zA<|zN<|zV O ?_
     rw [hno]
    ·try simp only [sx] at c4
     refine zI<|zJ O<|G O<|qB O ⟨by omega,by omega⟩<|G O<|zA ?_
     refine ⟨j+1,⟨by omega,zJi hm hq c4⟩,(by omega),Weak.mk [] ⟨zB,zB,zB,zB,T⟩ O⟩
  ·try simp only [sx] at c2
   rw [qZ (l:=x.L) (k:=j) (by omega)] at hq
   refine qK<|zJ O<|G O<|qB O ⟨by omega,by omega⟩<|G O<|zA ?_
   refine ⟨k+1,⟨by omega,zJi hx hp (show jK _ x=true from hq)⟩,(by omega),Weak.mk [] ⟨zB,zB,zB,T⟩ O⟩
 ·try simp only [sx] at c1
  refine qK<|R O<|G O<|zA<|zN<|zV O ?_
  rw [qZ (by omega)] at hp;rw [hp]
theorem ref30_lins (l:List Ix) (hl:l.length<=4294967296) (hw:fR l<=4294967296):
    OwnR cfg 207 [jP l] 54 2 ((l.flatMap ixF).map Lf.cells):=by
 refine zW Tryz.func207 O Tryz.ntmps207 Tryz.results207 O ?_
 intro z hz
 refine R O<|G O<|zA<|R O<|G O<|qW _ (wO 54 2)<|zA<|zE<|R O<|G O<|zA<|zP<|zU ⟨[(4,.c _),(3,.c _),(0,.c _)],[_]⟩ (Weak.mk [true] ⟨zB,zB,zB,T⟩ O)<|qF 2 1 O O (Nat×Value) (fun ⟨k,sv⟩=>[(4,vI k),(3,.c (.lit sv))]) (fun ⟨k,sv⟩=>[E.vec sv 54 2 (((l.take k).flatMap ixF).map Lf.cells)]) (fun ⟨k,sv⟩=>k<=l.length) (fun ⟨k,sv⟩=>l.length-k) ⟨⟨0,(.slice none 0 0)⟩,(by omega),Weak.mk [true] ⟨zB,zB,zB,T⟩ O⟩ ?_
 rintro ⟨k,sv⟩ hk
 show AWP _ _ _ _ _ ⟨[(4,vI k),(3,.c (.lit sv))]++_,[E.vec sv 54 2 (((l.take k).flatMap ixF).map Lf.cells)]++_⟩
 refine zE<|R O<|G O<|G O<|qC O el51<|yC O<|zA<|zC O (fun c1=>?_) (fun c1=>?_)
 ·try simp only [sx] at c1
  obtain ⟨x,hx⟩:=qU l k (by omega)
  have hfl:=ixs_len l k
  have hxw:=zAx (qE hx)
  unfold Ix.wt at hxw
  refine zI<|zE<|zP<|R O<|G O<|G O<|G O<|zX O el51 (by omega) (N (by assumption))<|zS O zCg<|zQ zAn Y O<|zZ O (yO O zAq zr54 O O O O)<|zT O O (yQ 0 O zAq O O O (by simp only [List.length_map,List.length_append,List.length_cons,List.length_nil];omega) (by simp only [List.length_map,List.length_append,List.length_cons,List.length_nil];omega)) ?_
  rintro _ _ ⟨sv2,rfl,rfl⟩
  refine G O<|zA<|zJ O<|G O<|G O<|G O<|zX O el51 (by omega) (N (by assumption))<|zS O zAf<|zF zBn Y O<|zT O O (yQ 0 O zAq O O O (by simp only [List.length_map,List.length_append,List.length_cons,List.length_nil];omega) (by simp only [List.length_map,List.length_append,List.length_cons,List.length_nil];omega)) ?_
  rintro _ _ ⟨sv3,rfl,rfl⟩
  refine G O<|zA<|zJ O<|G O<|qB O ⟨by omega,by omega⟩<|G O<|zA ?_
  refine ⟨⟨k+1,sv3⟩,(by omega),(by show l.length-(k+1)<l.length-k;omega),Weak.mk [true] ⟨zB,zB,zB,T⟩ (by exact yP (by rw [yE hx,List.flatMap_append,List.map_append];simp [ixF];rfl))⟩
 ·try simp only [sx] at c1
  refine qK<|R O<|G O<|G O<|zA<|zN<|zV O ?_
  exact ⟨_,O,by rw [qZ (by omega)];rfl⟩
theorem ref30_node (n:Ns) (bd:List Bd) (e:Ex) (hn:n.Ok) (hb:bd.length<=1000000) (he:e.wt<=1073741824):
    Pur cfg 185 [vNs n,rV bd,vE e] (vI (gC n.Bufs (bd.map Bd.Name) e)):=by
 refine zW Tryz.func185 O Tryz.ntmps185 Tryz.results185 O ?_
 intro z hz
 obtain ⟨hL,hI,hA⟩:=e.parts he
 have hwt:=Ex.wt_eq e
 refine R O<|zT O O (qP O O) ?_
 rintro _ _ ⟨b1,rfl,rfl⟩
 refine zT O O (qP O O) ?_
 rintro _ _ ⟨b2,rfl,rfl⟩
 refine G O<|zA<|zE<|R O<|zM O zEg<|zQ zAn (A 0 O) O<|zZ O (yO O zAq zr54 O O O O)<|G O<|qS O ok206 (zSg [e.Lin] bd (by simp) (by simp;omega) (by omega)) ⟨zB,O,zB,O,T⟩<|wD O<|G O<|rL0 O (fun g1_6=>zG O kX O) O<|B 19 O (fun g1_6=>zD O wM O (A 0 O) O) O<|B 20 O (fun g1_6=>qR O ok207 (OwnR.pur (ref30_lins e.Idx (by omega) (by omega))) ⟨zB,O,T⟩) O<|rL0 O (fun g1_6=>zK O O) O<|rLz [(21,_),(22,_)] O gv1 ⟨O,O,O,O,T⟩ (fun g1_6=>qR O ok206 (zSg (e.Idx.flatMap ixF) bd (by have:=ixs_len e.Idx e.Idx.length;rw [List.take_length] at this;omega) (fun x hx=>by have:=forms_wt he (show x∈gW e by unfold gW;exact List.mem_cons_of_mem _ hx);omega) (by omega)) ⟨zB,O,zB,O,T⟩) O<|B 23 O (fun g1_6=>wG O O) O<|r_or O (fun h=>(lzf h))<|zA<|zC O (fun c1=>?_) (fun c1=>?_)
 ·have h9:=node_sc_f c1
  refine R O<|G O<|zA<|zN<|zV O ?_
  rw [nodeN_9 h9]
 ·have h9:=node_sc_t c1
  refine zI<|zE<|R O<|zM O kQ<|zF one3 (A 0 O) O<|kZ O<|zA<|zC O (fun c2=>?_) (fun c2=>?_)
  ·try simp only [sx] at c2
   refine R O<|G O<|zA<|zN<|zV O ?_
   rw [nodeN_o h9 c2]
  ·try simp only [sx] at c2
   refine zI<|R O<|zQ zAr (A 1 O) O<|zM O zCu<|zF one9 (A 0 O) O<|qS O ok83 (zAy n e.Name hn) ⟨zB,O,zB,O,T⟩<|zZ O (yA O O)<|zZ O (kA O O O)<|kP O<|zT O O (qQ [none,none,none,none,none,none,some 1,none] O zr69 O) ?_
   rintro _ _ ⟨b3,rfl,rfl⟩
   refine D 0 sz69 O<|G O<|zA<|zE<|R O<|G O<|wD O<|zA<|zC O (fun c3=>?_) (fun c3=>?_)
   ·try simp only [sx] at c3
    refine R O<|G O<|zA<|zN<|zV O ?_
    rw [nodeN_n h9 (by omega) c3]
   ·try simp only [sx] at c3
    refine zI<|zE<|R O<|zM O zDg<|zF zCx (A 0 O) O<|qC O el67<|zM O kX<|zF wM (A 1 O) O<|qC O el51<|kZ O<|zA<|zC O (fun c4=>?_) (fun c4=>?_)
    ·try simp only [sx] at c4
     refine R O<|G O<|zA<|zN<|zV O ?_
     rw [nodeN_r h9 (by omega) c3 (by omega)]
    ·try simp only [sx] at c4
     refine zI<|zE<|R O<|G O<|zA<|zP<|zU ⟨[(9,.c _),(3,.c _),(5,.c _)],[_,_]⟩ (Weak.mk [false,true,true] ⟨zB,zB,zB,T⟩ O)<|qF 1 0 O O (Nat) (fun j=>[(9,vI j)]) (fun j=>[]) (fun j=>j<=e.Idx.length/\(lT n.Bufs e.Idx=lT n.Bufs (e.Idx.drop j))) (fun j=>e.Idx.length-j) ⟨0,⟨by omega,O⟩,Weak.mk [true,true] ⟨zB,zB,zB,T⟩ O⟩ ?_
     rintro j ⟨hk,hq⟩
     refine zE<|R O<|G O<|zM O kX<|zF wM (A 0 O) O<|qC O el51<|yC O<|zA<|zC O (fun c5=>?_) (fun c5=>?_)
     ·try simp only [sx] at c5
      obtain ⟨y,hy⟩:=qU e.Idx j (by omega)
      refine zI<|zE<|zP<|zE<|R O<|zM O kX<|zF wM (A 0 O) O<|G O<|zX O el51 (by omega) (N (by assumption))<|zS O wN<|zF one9 Y O<|zZ O (kB O O O)<|zA<|zC O (fun c6=>?_) (fun c6=>?_)
      ·try simp only [sx] at c6
       refine qK<|zJ O<|G O<|qB O ⟨by omega,by omega⟩<|G O<|zA ?_
       refine ⟨j+1,⟨by omega,hq.trans (zJt hy (by first|exact gathE_0 c6|exact zQw c6 c7 (by omega) (by omega)))⟩,(by omega),Weak.mk [true,true] ⟨zB,zB,zB,T⟩ O⟩
      ·try simp only [sx] at c6
       refine zI<|zE<|yK 13 1 [⟨0,.q [2]⟩,⟨1,.q []⟩,⟨2,.q [1]⟩,⟨3,.q []⟩,⟨4,.q []⟩,⟨5,.q []⟩,⟨6,.q []⟩,⟨7,.q []⟩,⟨8,.q []⟩,⟨9,.q []⟩,⟨10,.q []⟩,⟨11,.e 0 []⟩,⟨12,.e 0 []⟩] mixed (by kernel_rfl) (by kernel_rfl) O O O<|J O<|J O<|J O<|J O<|J O<|J O<|J O<|J O<|J O<|J O<|J O<|J O<|J O<|wQ<|v O (by decide) O O (qD O zAr O (A 0 O) O)<|v O (by decide) O O (zG O kX O)<|v O (by decide) O O (zD O wM O (A 0 O) O)<|v O (by decide) O O (zK O O)<|v O (by decide) O O (qI O el51 O O (by omega) (N (by assumption)))<|v O (by decide) O O (qA O wN O)<|v O (by decide) O O (zD O one9 O Y O)<|v O (by decide) O O (qR O ok83 (zAy n y.From hn) ⟨zB,O,zB,O,T⟩)<|v O (by decide) O O (yA O O)<|v O (by decide) O O (kA O O O)<|v O (by decide) O O (zBq O O O)<|zEp O O (by decide) O O (qQ [none,none,none,none,none,none,some 1,none] O zr69 O) ?_
       rintro _ _ ⟨b4,rfl,rfl⟩
       refine ⟨_,O,?_⟩
       refine zEf O O (by decide) O O (kO O sz69 O O O (zFz 0 O O)) ?_
       rintro _ _ ⟨rfl,rfl⟩
       refine ⟨_,O,?_⟩
       refine wP O<|G O<|zA<|zP<|R O<|G O<|wD O<|G O<|zA<|zC O (fun c7=>?_) (fun c7=>?_)
       ·try simp only [sx] at c7
        refine R O<|G O<|zA<|zN<|zV O ?_
        rw [zHg h9 (by omega) c3 (by omega),hq,zJs hy (by rw [zTh c6 c7];decide),zTh c6 c7]
       ·try simp only [sx] at c7
        refine R O<|zM O zEt<|zM O zGn<|zF one3 (A 0 O) O<|kZ O<|G O<|zA<|zC O (fun c8=>?_) (fun c8=>?_)
        ·try simp only [sx] at c8
         refine R O<|G O<|zA<|zN<|zV O ?_
         rw [zHg h9 (by omega) c3 (by omega),hq,zJs hy (by rw [zMx c6 c7 c8];decide),zMx c6 c7 c8]
        ·try simp only [sx] at c8
         refine zE<|qV 12 mixed (by kernel_rfl) O O<|zL O O (zG O zDg O)<|zL O O (zD O zCx O (A 0 O) O)<|zL O O (yS O el67 O)<|zL O O (zG O kX O)<|zL O O (zD O wM O (A 1 O) O)<|zL O O (zK O O)<|zL O O (qI O el51 O O (by omega) (N (by assumption)))<|zL O O (qA O zAf O)<|zL O O (zD O zBn O Y O)<|zL O O (yS O zAq O)<|zL O O (zAg O O O)<|zL O O (yR O O)<|yJ<|zA<|zC O (fun c9=>?_) (fun c9=>?_)
         ·try simp only [sx] at c9
          refine R O<|G O<|zA<|zN<|zV O ?_
          rw [zHg h9 (by omega) c3 (by omega),hq,zJs hy (by rw [zMw c6 c7 c8 (by omega)];decide),zMw c6 c7 c8 (by omega)]
         ·try simp only [sx] at c9
          refine zI<|zJ O<|G O<|qB O ⟨by omega,by omega⟩<|G O<|zA ?_
          refine ⟨j+1,⟨by omega,hq.trans (zJt hy (by first|exact gathE_0 c6|exact zQw c6 c7 (by omega) (by omega)))⟩,(by omega),Weak.mk [false,true,true] ⟨zB,zB,zB,T⟩ O⟩
     ·try simp only [sx] at c5
      refine qK<|R O<|G O<|zA<|zN<|zV O ?_
      rw [zHg h9 (by omega) c3 (by omega),hq,wE (by omega)];rfl
theorem zSi (n:Ns) (hn:n.Ok) (e:Ex) (ih:∀a,a∈e.Args->fM a=0->a.wt<=1073741824->Pur cfg 186 [vNs n,vE a] (.tup [vTy (dL (kiN n.Bufs) a).1,vI (dL (kiN n.Bufs) a).2])) (hpart:fM e=0) (he:e.wt<=1073741824):
    Pur cfg 186 [vNs n,vE e] (.tup [vTy (dL (kiN n.Bufs) e).1,vI (dL (kiN n.Bufs) e).2]):=by
 refine zW Tryz.func186 O Tryz.ntmps186 Tryz.results186 O ?_
 intro z hz
 obtain ⟨hLl,hIl,hAl⟩:=e.parts he
 have hwt:=Ex.wt_eq e
 refine R O<|zT O O (qP O O) ?_
 rintro _ _ ⟨b1,rfl,rfl⟩
 refine zT O O (qP O O) ?_
 rintro _ _ ⟨b2,rfl,rfl⟩
 refine zT O O (yZ O zr31) ?_
 rintro _ _ ⟨b3,rfl,rfl⟩
 refine G O<|zA<|R O<|G O<|qW _ (wO 31 5)<|zA<|zE<|R O<|G O<|zA<|zP<|zU ⟨[(7,.c _),(6,.c _),(2,.c _),(3,.c _),(4,.c _)],[_,_,_,_]⟩ (Weak.mk [true,true,true,true] ⟨zB,zB,zB,zB,zB,T⟩ O)<|qF 2 1 O O (Nat×Value) (fun ⟨k,sv⟩=>[(7,vI k),(6,.c (.lit sv))]) (fun ⟨k,sv⟩=>[E.vec sv 31 5 ((gB (e.Args.take k) (bK (kiN n.Bufs) (e.Args.take k)).1).map tyC)]) (fun ⟨k,sv⟩=>k<=e.Args.length/\((bK (kiN n.Bufs) (e.Args.take k)).2=0)) (fun ⟨k,sv⟩=>e.Args.length-k) ⟨⟨0,(.slice none 0 0)⟩,⟨by omega,O⟩,Weak.mk [true,true,true,true] ⟨zB,zB,zB,zB,zB,T⟩ O⟩ ?_
 rintro ⟨k,sv⟩ ⟨hk,hp⟩
 show AWP _ _ _ _ _ ⟨[(7,vI k),(6,.c (.lit sv))]++_,[E.vec sv 31 5 ((gB (e.Args.take k) (bK (kiN n.Bufs) (e.Args.take k)).1).map tyC)]++_⟩
 refine zE<|R O<|G O<|zM O yW<|zF kW (A 2 O) O<|qC O el55<|yC O<|zA<|zC O (fun c1=>?_) (fun c1=>?_)
 ·try simp only [sx] at c1
  obtain ⟨x,hx⟩:=qU e.Args k (by omega)
  have hll:=zGe _ _ hp
  have hcl:=nonC_len (e.Args.take k) (bK (kiN n.Bufs) (e.Args.take k)).1
  have htk:=List.length_take_le' k e.Args
  refine zI<|zE<|zP<|zE<|yK 12 1 [⟨0,.q [4]⟩,⟨1,.q []⟩,⟨2,.q [3]⟩,⟨3,.q []⟩,⟨4,.q []⟩,⟨5,.q []⟩,⟨6,.q []⟩,⟨7,.q []⟩,⟨8,.q []⟩,⟨9,.q []⟩,⟨10,.e 0 []⟩,⟨11,.e 0 []⟩] mixed (by kernel_rfl) (by kernel_rfl) O O O<|J O<|J O<|J O<|J O<|J O<|J O<|J O<|J O<|J O<|J O<|J O<|J O<|wQ<|v O (by decide) O O (qD O zAr O (A 0 O) O)<|v O (by decide) O O (zG O yW O)<|v O (by decide) O O (zD O kW O (A 0 O) O)<|v O (by decide) O O (zK O O)<|v O (by decide) O O (qI O el55 O O (by omega) (wF (by assumption)))<|v O (by decide) O O (qD O yM O Y O)<|v O (by decide) O O (qR O ok186 (ih x (qE hx) (zMj hpart (qE hx)) (by have:=Ex.arg_wt (qE hx);omega)) ⟨zB,O,zB,O,T⟩)<|v O (by decide) O O (yA O O)<|v O (by decide) O O (kA O O O)<|v O (by decide) O O (zBq O O O)<|zEp O O (by decide) O O (yZ O zr31) ?_
  rintro _ _ ⟨b5,rfl,rfl⟩
  refine ⟨_,O,?_⟩
  refine zEf O O (by decide) O O (kO O sz31 O O O (zFz 0 O O)) ?_
  rintro _ _ ⟨rfl,rfl⟩
  refine ⟨_,O,?_⟩
  refine wP O<|G O<|zA<|zE<|R O<|G O<|kZ O<|zA<|zC O (fun c2=>?_) (fun c2=>?_)
  ·try simp only [sx] at c2
   refine R O<|yT O zr31 pl31<|G O<|D 2 sz31 O<|G O<|zA<|zN<|fin2 (qN yG O (A 2 O) O) (rs_c O) ?_
   rw [nodeT_no hx hp c2];rfl
  ·try simp only [sx] at c2
   refine zI<|R O<|zM O yW<|zF kW (A 3 O) O<|G O<|zX O el55 (by omega) (wF (by assumption))<|zQ yM Y O<|qS O ok159 (wC x) ⟨zB,O,T⟩<|wD O<|zA<|zC O (fun c3=>?_) (fun c3=>?_)
   ·try simp only [sx] at c3
    refine zJ O<|G O<|zQ yG (A 0 O) O<|zZ O (yO O el28 zr31 O O O O)<|zT O O (yQ 1 O el28 O O O (by simp only [List.length_map,List.length_append,List.length_cons,List.length_nil,hll,List.length_take];omega) (by simp only [List.length_map,List.length_append,List.length_cons,List.length_nil,hll,List.length_take];omega)) ?_
    rintro _ _ ⟨sv6,rfl,rfl⟩
    refine G O<|zA<|zJ O<|G O<|qB O ⟨by omega,by omega⟩<|G O<|zA ?_
    exact j8
   ·try simp only [sx] at c3
    refine zI<|zJ O<|G O<|qB O ⟨by omega,by omega⟩<|G O<|zA ?_
    exact j8
 ·try simp only [sx] at c1
  have hll:=zGe _ _ hp
  have hta:e.Args.take k=e.Args:=qZ (by omega)
  have hT:dL (kiN n.Bufs) e=kiF n.Bufs e (gB (e.Args.take k) (bK (kiN n.Bufs) (e.Args.take k)).1):=by have h:=nodeT_ok (N:=kiN n.Bufs) hta hp;rw [h];show kiF n.Bufs e (gB e.Args _)=_;rw [hta]
  refine qK<|zE<|zE<|qV 12 mixed (by kernel_rfl) O O<|zL O O (zK O O)<|zL O O (yI 0 O el28 O O)<|zL O O (kD O O O)<|zL O O (zK O O)<|qJ [] O O O O gv1 T (fun g10_3=>zK O O) O<|qJ [(48,_)] O O O O gv1 ⟨O,O,T⟩ (fun g10_3=>qO 0 O el28 O O O (by omega) (by simp only [Lz,cond_true,decide_eq_true_eq,List.length_map] at g10_3⊢;omega)) O<|qJ [(49,_)] O O O O gv1 ⟨O,O,T⟩ (fun g10_3=>qD O yG O (kH 0 O (zJm (by simp only [Lz,cond_true,decide_eq_true_eq,List.length_map] at g10_3⊢;omega))) O) O<|qJ [] O O O O gv1 T (fun g10_3=>zK O O) O<|qJ [(51,_)] O O O O gv1 ⟨O,O,T⟩ (fun g10_3=>qO 0 O el28 O O O (by omega) (by simp only [Lz,cond_true,decide_eq_true_eq,List.length_map] at g10_3⊢;omega)) O<|qJ [(52,_)] O O O O gv1 ⟨O,O,T⟩ (fun g10_3=>qD O yG O (kH 0 O (zJm (by simp only [Lz,cond_true,decide_eq_true_eq,List.length_map] at g10_3⊢;omega))) O) O<|qJ [(50,_),(53,_)] O O O O gv1 ⟨O,O,O,O,T⟩ (fun g10_3=>zAv O fl31 O O O) O<|zL O O (wU O O O (fun h=>h) O)<|yJ<|zA<|zC O (fun c4=>?_) (fun c4=>?_)
  ·obtain ⟨q1,q2⟩:=ki10_t c4
   exact v14
  ·have hq:=ki10_f c4
   refine zI<|zE<|R O<|zM O kQ<|zF one3 (A 2 O) O<|zA<|zP<|zE<|R O<|yD O<|G O<|zA<|zC O (fun c5=>?_) (fun c5=>?_)
   ·try simp only [sx] at c5
    refine zI<|zC O (fun c6=>?_) (fun c6=>?_)
    ·try simp only [sx] at c6
     refine R O<|zM O zBp<|zQ yG (A 2 O) O<|D 1 sz31 O<|G O<|zA<|zN<|fin2 (qN yG O (A 1 O) O) (rs_c O) ?_
     exact t6
    ·try simp only [sx] at c6
     refine R O<|yD O<|G O<|zA<|zC O (fun c7=>?_) (fun c7=>?_)
     ·try simp only [sx] at c7
      exact v14
     ·try simp only [sx] at c7
      refine R O<|yD O<|G O<|zA<|zC O (fun c8=>?_) (fun c8=>?_)
      ·try simp only [sx] at c8
       refine R O<|zQ zAr (A 3 O) O<|zM O zCu<|zF one9 (A 2 O) O<|qS O ok83 (zAy n e.Name hn) ⟨zB,O,zB,O,T⟩<|zZ O (yA O O)<|zZ O (kA O O O)<|kP O<|zT O O (qQ [none,none,none,none,none,none,some 1,none] O zr69 O) ?_
       rintro _ _ ⟨b7,rfl,rfl⟩
       refine D 0 sz69 O<|G O<|zA<|R O<|zM O zEt<|zQ yG (A 0 O) O<|D 2 sz31 O<|G O<|zA<|zN<|fin2 (qN yG O (A 2 O) O) (rs_c O) ?_
       exact t6
      ·exact p9
   ·try simp only [sx] at c5
    refine zJ O<|yD O<|G O<|zA<|zC O (fun c6=>?_) (fun c6=>?_)
    ·try simp only [sx] at c6
     refine R O<|zM O zBp<|zQ yG (A 2 O) O<|D 1 sz31 O<|G O<|zA<|zN<|fin2 (qN yG O (A 1 O) O) (rs_c O) ?_
     exact t6
    ·try simp only [sx] at c6
     refine R O<|yD O<|G O<|zA<|zC O (fun c7=>?_) (fun c7=>?_)
     ·try simp only [sx] at c7
      exact v14
     ·try simp only [sx] at c7
      refine R O<|yD O<|G O<|zA<|zC O (fun c8=>?_) (fun c8=>?_)
      ·try simp only [sx] at c8
       refine R O<|zQ zAr (A 3 O) O<|zM O zCu<|zF one9 (A 2 O) O<|qS O ok83 (zAy n e.Name hn) ⟨zB,O,zB,O,T⟩<|zZ O (yA O O)<|zZ O (kA O O O)<|kP O<|zT O O (qQ [none,none,none,none,none,none,some 1,none] O zr69 O) ?_
       rintro _ _ ⟨b8,rfl,rfl⟩
       refine D 0 sz69 O<|G O<|zA<|R O<|zM O zEt<|zQ yG (A 0 O) O<|D 2 sz31 O<|G O<|zA<|zN<|fin2 (qN yG O (A 2 O) O) (rs_c O) ?_
       exact t6
      ·exact p9
theorem ref30_Kind (n:Ns) (e:Ex) (hn:n.Ok) (hpart:fM e=0) (he:e.wt<=1073741824):Pur cfg 186 [vNs n,vE e] (.tup [vTy (dL (kiN n.Bufs) e).1,vI (dL (kiN n.Bufs) e).2]):=by
  induction e using Ex.ind with
  |_ e ih=>exact zSi n hn e (fun a ha h1 h2=>ih a ha h1 h2) hpart he
theorem zHd (n:Ns) (bd:List Bd) (e:Ex) (hn:n.Ok) (hb:bd.length<=1000000) (he:e.wt<=1000000):
    Pur cfg 158 [vNs n,rV bd,vE e] (.tup [vTy (dA n.Bufs (bd.map Bd.Name) e).1,vI (dA n.Bufs (bd.map Bd.Name) e).2]):=by
 refine zW Tryz.func158 O Tryz.ntmps158 Tryz.results158 O ?_
 intro z hz
 have hnl:=nodes_wt e
 refine R O<|zT O O (qP O O) ?_
 rintro _ _ ⟨b1,rfl,rfl⟩
 refine zT O O (qP O O) ?_
 rintro _ _ ⟨b2,rfl,rfl⟩
 refine zT O O (yZ O zr31) ?_
 rintro _ _ ⟨b3,rfl,rfl⟩
 refine G O<|zA<|zE<|R O<|zQ yM (A 1 O) O<|qS O ok184 (ref14_Validate e (by omega)) ⟨zB,O,T⟩<|G O<|zA<|R O<|G O<|kZ O<|zA<|zC O (fun c1=>?_) (fun c1=>?_)
 ·try simp only [sx] at c1
  refine R O<|yT O zr31 pl31<|G O<|D 0 sz31 O<|G O<|zA<|zN<|fin2 (qN yG O (A 0 O) O) (rs_c O) ?_
  rw [exprT_1 c1];rfl
 ·try simp only [sx] at c1
  refine zI<|R O<|zQ yM (A 1 O) O<|qS O ok135 (OwnR.pur (ref14_All e (by omega))) ⟨zB,O,T⟩<|G O<|zA<|zE<|R O<|G O<|zA<|zP<|zU ⟨[(10,.c _),(1,.c _),(3,.c _),(5,.c _),(6,.c _),(9,.c _)],[_,_,_]⟩ (Weak.mk [true,true,true] ⟨zB,zB,zB,zB,zB,zB,T⟩ O)<|qF 1 0 O O (Nat) (fun k=>[(10,vI k)]) (fun k=>[]) (fun k=>k<=(bG e).length/\(bZ n.Bufs (bd.map Bd.Name) (bG e)=bZ n.Bufs (bd.map Bd.Name) ((bG e).drop k))) (fun k=>(bG e).length-k) ⟨0,⟨by omega,O⟩,Weak.mk [true,true,true] ⟨zB,zB,zB,zB,zB,zB,T⟩ O⟩ ?_
  rintro k ⟨hk,hp⟩
  refine zE<|R O<|G O<|G O<|qC O el55<|yC O<|zA<|zC O (fun c2=>?_) (fun c2=>?_)
  ·try simp only [sx] at c2
   obtain ⟨x,hx⟩:=qU (bG e) k (by omega)
   refine zI<|zE<|zP<|zE<|qV 8 mixed (by kernel_rfl) O O<|zL O O (qD O zAr O (A 2 O) O)<|zL O O (zK O O)<|zL O O (zK O O)<|zL O O (zK O O)<|zL O O (qI O el55 O O (by omega) (wF (by assumption)))<|zL O O (qD O yM O Y O)<|zL O O (qR O ok185 (ref30_node n bd x hn hb (by have:=zEr e x (qE hx);omega)) ⟨zB,O,zB,O,zB,O,T⟩)<|zL O O (yR O O)<|yJ<|zA<|R O<|G O<|kZ O<|zA<|zC O (fun c3=>?_) (fun c3=>?_)
   ·try simp only [sx] at c3
    refine R O<|yT O zr31 pl31<|G O<|D 0 sz31 O<|G O<|zA<|zN<|fin2 (qN yG O (A 0 O) O) (rs_c O) ?_
    rw [exprT_2 c1 (by rw [hp,nodesN_no hx c3];exact c3),hp,nodesN_no hx c3];rfl
   ·try simp only [sx] at c3
    refine zI<|zJ O<|G O<|qB O ⟨by omega,by omega⟩<|G O<|zA ?_
    refine ⟨k+1,⟨by omega,hp.trans (nodesN_at hx c3)⟩,(by omega),Weak.mk [true,true,true] ⟨zB,zB,zB,zB,zB,zB,T⟩ O⟩
  ·try simp only [sx] at c2
   refine qK<|R O<|zQ zAr (A 2 O) O<|zQ yM (A 1 O) O<|qS O ok186 (ref30_Kind n e hn (zJj c1) (by omega)) ⟨zB,O,zB,O,T⟩<|zZ O (kA O O O)<|kP O<|D 0 sz31 O<|G O<|zA<|zN<|fin2 (qN yG O (A 0 O) O) (rs_c O) ?_
   rw [exprT_k c1 (by rw [hp,wE (by omega)];rfl)];rfl
theorem ref30_plain (s:St) (hs:s.wt<=900000000):
    Pur cfg 157 [vSt s] (vB (fL s)):=by
 refine zW Tryz.func157 O Tryz.ntmps157 Tryz.results157 O ?_
 intro z hz
 obtain ⟨hE,hI,hIw,hB,hBw⟩:=St.parts hs
 refine R O<|zT O O (qP O O) ?_
 rintro _ _ ⟨b1,rfl,rfl⟩
 refine G O<|zA<|zE<|qV 8 mixed (by kernel_rfl) O O<|zL O O (zG O zBv O)<|zL O O (zD O one3 O (A 0 O) O)<|zL O O (kD O O O)<|zL O O (zG O zBv O)<|zL O O (zD O one3 O (A 0 O) O)<|zL O O (kD O O O)<|zL O O (yR O O)<|zL O O (yR O O)<|yJ<|zA<|R O<|zM O zBv<|zF one3 (A 0 O) O<|yD O<|G O<|rL0 O (fun g2_3=>zG O zBv O) O<|B 16 O (fun g2_3=>zD O one3 O (A 0 O) O) O<|B 17 O (fun g2_3=>kD O O O) O<|r_or O (fun h=>(lzf h))<|G O<|zA<|zE<|R O<|G O<|wD O<|G O<|rL0 O (fun g3_2=>zK O O) O<|B 23 O (fun g3_2=>wG O O) O<|yU O (fun h=>h)<|G O<|rL0 O (fun g3_6=>zK O O) O<|B 27 O (fun g3_6=>wG O O) O<|yU O (fun h=>h)<|zA<|zC O (fun c1=>?_) (fun c1=>?_)
 ·refine R O<|G O<|zA<|zN<|zV O ?_
  exact congrArg vB (pln_1 c1)
 ·refine zI<|zE<|R O<|G O<|wD O<|G O<|rL0 O (fun g5_2=>zG O zJa O) O<|B 33 O (fun g5_2=>zD O one3 O (A 0 O) O) O<|B 34 O (fun g5_2=>zAg O O O) O<|B 35 O (fun g5_2=>zK O O) O<|rLz [] O gv2 T (fun g5_6=>zG O zPm O) O<|rLz [(37,_)] O gv2 ⟨O,O,T⟩ (fun g5_6=>zD O one3 O (A 0 O) O) O<|rLz [(38,_)] O gv2 ⟨O,O,T⟩ (fun g5_6=>zAg O O O) O<|B 36 O (fun g5_2=>zAl O O O O (fun h=>kM (by assumption) (lzf h))) O<|yU O (fun h=>h)<|G O<|rL0 O (fun g5_12=>zG O zBv O) O<|B 43 O (fun g5_12=>zD O one3 O (A 0 O) O) O<|B 44 O (fun g5_12=>zAg O O O) O<|B 45 O (fun g5_12=>zK O O) O<|rLz [] O gv2 T (fun g5_16=>zG O zPl O) O<|rLz [(47,_)] O gv2 ⟨O,O,T⟩ (fun g5_16=>zD O one3 O (A 0 O) O) O<|rLz [(48,_)] O gv2 ⟨O,O,T⟩ (fun g5_16=>zAg O O O) O<|B 46 O (fun g5_12=>wU O O O (fun h=>kM (by assumption) h) O) O<|r_or O (fun h=>(lzf h))<|G O<|rL0 O (fun g5_22=>zK O O) O<|B 53 O (fun g5_22=>zK O O) O<|rLz [] O gv2 T (fun g5_24=>zG O zBo O) O<|rLz [(55,_)] O gv2 ⟨O,O,T⟩ (fun g5_24=>zD O one9 O (A 0 O) O) O<|rLz [(56,_)] O gv2 ⟨O,O,T⟩ (fun g5_24=>zAu O O O) O<|B 54 O (fun g5_22=>wU O O O (fun h=>kM (by assumption) h) O) O<|r_or O (fun h=>(lzf h))<|zA<|zC O (fun c2=>?_) (fun c2=>?_)
  ·refine R O<|G O<|zA<|zN<|zV O ?_
   exact congrArg vB (pln_2 c2)
  ·refine zI<|zE<|R O<|G O<|wD O<|G O<|rL0 O (fun g7_2=>zG O zGk O) O<|B 63 O (fun g7_2=>zD O wM O (A 0 O) O) O<|B 64 O (fun g7_2=>yS O el51 O) O<|B 65 O (fun g7_2=>yH O O O) O<|yU O (fun h=>h)<|G O<|rL0 O (fun g7_8=>zK O O) O<|B 69 O (fun g7_8=>zK O O) O<|rLz [] O gv2 T (fun g7_10=>zG O zBe O) O<|rLz [(71,_)] O gv2 ⟨O,O,T⟩ (fun g7_10=>zD O zAj O (A 0 O) O) O<|rLz [(72,_)] O gv2 ⟨O,O,T⟩ (fun g7_10=>yS O el23 O) O<|rLz [(73,_)] O gv2 ⟨O,O,T⟩ (fun g7_10=>yH O O O) O<|B 70 O (fun g7_8=>wU O O O (fun h=>kM (by assumption) h) O) O<|r_or O (fun h=>(lzf h))<|zA<|zC O (fun c3=>?_) (fun c3=>?_)
   ·refine R O<|G O<|zA<|zN<|zV O ?_
    exact congrArg vB (pln_3 c3)
   ·refine zI<|R O<|G O<|wD O<|G O<|rL0 O (fun g9_2=>zG O zBu O) O<|B 80 O (fun g9_2=>qD O yM O (A 0 O) O) O<|rL0 O (fun g9_2=>kS [none,none,none,none,none,none,none,none,none,none,some 2,some 4,some 13] O zr57 pl57 O O) O<|rLz [(81,_),(82,_)] O gv1 ⟨O,O,O,O,T⟩ (fun g9_2=>qR O ok183 (base_Expr s.E zEx (by omega)) ⟨zB,O,zB,O,T⟩) O<|r_or O (fun h=>(lzf h))<|G O<|zA<|zN<|zV O ?_
    exact congrArg vB (pln_4 c1 c2 c3)
theorem ref30_store (n:Ns) (bd:List Bd) (s:St) (hn:n.Ok) (hb:bd.length<=1000000) (hs:s.wt<=900000):
    Pur cfg 160 [vNs n,rV bd,vSt s] (vI (gL n.Bufs (bd.map Bd.Name) s)):=by
 refine zW Tryz.func160 O Tryz.ntmps160 Tryz.results160 O ?_
 intro z hz
 obtain ⟨hE,hI,hIw,hB,hBw⟩:=St.parts hs
 have hrd:=rdE_wt s
 refine R O<|zT O O (qP O O) ?_
 rintro _ _ ⟨b1,rfl,rfl⟩
 refine zT O O (qP O O) ?_
 rintro _ _ ⟨b2,rfl,rfl⟩
 refine G O<|zA<|zE<|R O<|zQ zAr (A 1 O) O<|G O<|zM O zBo<|zF one9 (A 0 O) O<|zM O zGk<|zF wM (A 0 O) O<|zZ O (kS [none,none,none,none,none,none,none,none,none,none,some 2,none,some 13] O zr57 pl57 O O)<|qS O ok158 (zHd n bd (rdE s) hn hb (by omega)) ⟨zB,O,zB,O,zB,O,T⟩<|zZ O (yA O O)<|zZ O (kA O O O)<|kP O<|zT O O (yZ O zr31) ?_
 rintro _ _ ⟨b3,rfl,rfl⟩
 refine D 0 sz31 O<|G O<|zA<|R O<|G O<|kZ O<|zA<|zC O (fun c1=>?_) (fun c1=>?_)
 ·try simp only [sx] at c1
  refine R O<|G O<|G O<|zA<|zN<|zV O ?_
  rw [storeE_1 c1]
 ·try simp only [sx] at c1
  refine zI<|R O<|zQ zAr (A 2 O) O<|zM O zBo<|zF one9 (A 1 O) O<|qS O ok83 (zAy n s.Name hn) ⟨zB,O,zB,O,T⟩<|zZ O (yA O O)<|zZ O (kA O O O)<|kP O<|zT O O (qQ [none,none,none,none,none,none,some 1,none] O zr69 O) ?_
  rintro _ _ ⟨b4,rfl,rfl⟩
  refine D 0 sz69 O<|G O<|zA<|zE<|R O<|zM O zHv<|zF one3 (A 0 O) O<|yD O<|G O<|rL0 O (fun g5_3=>zG O zBv O) O<|B 38 O (fun g5_3=>zD O one3 O (A 2 O) O) O<|B 39 O (fun g5_3=>kD O O O) O<|B 40 O (fun g5_3=>zK O O) O<|rLz [] O gv2 T (fun g5_7=>zG O zPl O) O<|rLz [(42,_)] O gv2 ⟨O,O,T⟩ (fun g5_7=>zD O one3 O (A 2 O) O) O<|rLz [(43,_)] O gv2 ⟨O,O,T⟩ (fun g5_7=>kL O O O) O<|rLz [(44,_)] O gv2 ⟨O,O,T⟩ (fun g5_7=>zK O O) O<|rLz [] O gv2 T (fun g5_11=>zG O zPl O) O<|rLz [(46,_)] O gv2 ⟨O,O,T⟩ (fun g5_11=>zD O one3 O (A 2 O) O) O<|rLz [(47,_)] O gv2 ⟨O,O,T⟩ (fun g5_11=>yH O O O) O<|rLz [(45,_)] O gv2 ⟨O,O,T⟩ (fun g5_7=>zAl O O O O (fun h=>kM (by assumption) (lzf h))) O<|B 41 O (fun g5_3=>wU O O O (fun h=>kM (by assumption) h) O) O<|r_or O (fun h=>(lzf h))<|zA<|zC O (fun c2=>?_) (fun c2=>?_)
  ·try simp only [sx] at c2
   refine R O<|G O<|zA<|zN<|zV O ?_
   rw [storeE_u c1 c2]
  ·try simp only [sx] at c2
   refine zI<|R O<|zQ zAr (A 3 O) O<|G O<|zM O zBu<|zQ yM (A 2 O) O<|qS O ok158 (zHd n bd s.E hn hb (by omega)) ⟨zB,O,zB,O,zB,O,T⟩<|zZ O (yA O O)<|zZ O (kA O O O)<|kP O<|zT O O (yZ O zr31) ?_
   rintro _ _ ⟨b5,rfl,rfl⟩
   refine D 0 sz31 O<|G O<|zA<|zE<|R O<|G O<|yD O<|G O<|rL0 O (fun g8_2=>zG O zBu O) O<|B 63 O (fun g8_2=>qD O yM O (A 3 O) O) O<|B 64 O (fun g8_2=>qR O ok159 (wC _) ⟨zB,O,T⟩) O<|B 65 O (fun g8_2=>zK O O) O<|rLz [] O gv2 T (fun g8_6=>qD O yG O (A 0 O) O) O<|rLz [] O gv2 T (fun g8_6=>zG O zEt O) O<|rLz [(68,_)] O gv2 ⟨O,O,T⟩ (fun g8_6=>qD O yG O (A 1 O) O) O<|rLz [(67,_),(69,_)] O gv2 ⟨O,O,O,O,T⟩ (fun g8_6=>zAv O fl31 O O O) O<|B 66 O (fun g8_2=>zAl O O O O (fun h=>kM (by assumption) (lzf h))) O<|yU O (fun h=>h)<|zA<|zC O (fun c3=>?_) (fun c3=>?_)
   ·obtain ⟨h0,h10⟩:=st3_t c3
    refine R O<|G O<|zA<|zN<|zV O ?_
    rw [storeE_10 c1 (by omega) h0 h10]
   ·have h3:=st3_f c3
    refine zI<|R O<|G O<|G O<|zA<|zN<|zV O ?_
    rw [st_fin c1 (by omega) h3]
theorem ref30_one (n:Ns) (bd:List Bd) (U:List ByteArray) (s:St) (hn:n.Ok) (hb:bd.length<=1000000) (hs:s.wt<=900000) (hU:U.length<=1000000):
    Pur cfg 122 [vNs n,rV bd,vSs U,vSt s] (vI (stE n.Bufs U (bd.map Bd.Name) s)):=by
 refine zW Tryz.func122 O Tryz.ntmps122 Tryz.results122 O ?_
 intro z hz
 obtain ⟨hE,hI,hIw,hB,hBw⟩:=St.parts hs
 refine R O<|zT O O (qP O O) ?_
 rintro _ _ ⟨b1,rfl,rfl⟩
 refine zT O O (qP O O) ?_
 rintro _ _ ⟨b2,rfl,rfl⟩
 refine G O<|zA<|zE<|R O<|zQ zEz (A 0 O) O<|qS O ok157 (ref30_plain s (by omega)) ⟨zB,O,T⟩<|wD O<|zA<|zC O (fun c1=>?_) (fun c1=>?_)
 ·try simp only [sx] at c1
  refine R O<|G O<|zA<|zN<|zV O ?_
  rw [stE_5 c1]
 ·try simp only [sx] at c1
  refine zI<|zE<|R O<|zM O zBv<|zF one3 (A 0 O) O<|zA<|zP<|R O<|yD O<|G O<|zA<|zC O (fun c2=>?_) (fun c2=>?_)
  ·try simp only [sx] at c2
   refine R O<|zQ zAr (A 1 O) O<|zM O zBo<|zF one9 (A 0 O) O<|qS O ok83 (zAy n s.Name hn) ⟨zB,O,zB,O,T⟩<|zZ O (yA O O)<|zZ O (kA O O O)<|kP O<|zT O O (qQ [none,none,none,none,none,none,some 1,none] O zr69 O) ?_
   rintro _ _ ⟨b3,rfl,rfl⟩
   refine D 0 sz69 O<|G O<|zA<|zE<|zP<|R O<|zM O zBo<|zF one9 (A 1 O) O<|qS O ok120 (zGr s.Name) ⟨zB,O,T⟩<|wD O<|G O<|zA<|zC O (fun c3=>?_) (fun c3=>?_)
   ·try simp only [sx] at c3
    refine R O<|G O<|zA<|zN<|zV O ?_
    rw [stE_l c1 c2,loopE_7 c3]
   ·try simp only [sx] at c3
    refine R O<|G O<|G O<|rL0 O (fun g8_1=>zK O O) O<|rL0 O (fun g8_1=>zG O zBo O) O<|B 36 O (fun g8_1=>zD O one9 O (A 1 O) O) O<|rLz [(35,_),(37,_)] O gv1 ⟨O,O,O,O,T⟩ (fun g8_1=>qR O ok94 (zRg U s.Name (by omega)) ⟨zB,O,zB,O,T⟩) O<|r_or O (fun h=>(lzf h))<|G O<|zA<|zC O (fun c4=>?_) (fun c4=>?_)
    ·try simp only [sx] at c4
     refine R O<|G O<|zA<|zN<|zV O ?_
     rw [stE_l c1 c2,loopE_8 c3 c4]
    ·try simp only [sx] at c4
     have h8:¬(bO n.Bufs s.Name=true∨bR U s.Name=true):=by rw [c4.1,c4.2];simp
     refine R O<|zM O zJa<|zF one3 (A 1 O) O<|yC O<|G O<|rL0 O (fun g10_3=>zG O zJa O) O<|B 45 O (fun g10_3=>zD O one3 O (A 1 O) O) O<|B 46 O (fun g10_3=>yH O O O) O<|r_or O (fun h=>(lzf h))<|G O<|rL0 O (fun g10_8=>zG O zPm O) O<|B 50 O (fun g10_8=>zD O one3 O (A 1 O) O) O<|B 51 O (fun g10_8=>kL O O O) O<|r_or O (fun h=>(lzf h))<|G O<|rL0 O (fun g10_13=>zG O zPm O) O<|B 55 O (fun g10_13=>zD O one3 O (A 1 O) O) O<|B 56 O (fun g10_13=>yH O O O) O<|r_or O (fun h=>(lzf h))<|G O<|zA<|zC O (fun c5=>?_) (fun c5=>?_)
     ·try simp only [sx] at c5
      refine R O<|G O<|zA<|zN<|zV O ?_
      rw [stE_l c1 c2,loopE_1 c3 h8 (by omega)]
     ·try simp only [sx] at c5
      refine zI<|R O<|G O<|zA<|zN<|zV O ?_
      rw [stE_l c1 c2,loopE_0 c3 h8 (by omega)]
  ·try simp only [sx] at c2
   refine R O<|yD O<|G O<|zA<|zC O (fun c6=>?_) (fun c6=>?_)
   ·try simp only [sx] at c6
    refine R O<|zQ zAr (A 1 O) O<|G O<|zM O zBu<|zQ yM (A 0 O) O<|qS O ok158 (zHd n bd s.E hn hb (by omega)) ⟨zB,O,zB,O,zB,O,T⟩<|zZ O (yA O O)<|zZ O (kA O O O)<|kP O<|zT O O (yZ O zr31) ?_
    rintro _ _ ⟨b4,rfl,rfl⟩
    refine D 0 sz31 O<|G O<|zA<|zE<|R O<|G O<|yD O<|G O<|rL0 O (fun g15_2=>zG O zBu O) O<|B 72 O (fun g15_2=>qD O yM O (A 1 O) O) O<|B 73 O (fun g15_2=>qR O ok159 (wC _) ⟨zB,O,T⟩) O<|B 74 O (fun g15_2=>wG O O) O<|yU O (fun h=>h)<|zA<|zC O (fun c7=>?_) (fun c7=>?_)
    ·refine R O<|G O<|zA<|zN<|zV O ?_
     rw [stE_i c1 c6,if_t c7]
    ·refine zI<|R O<|G O<|G O<|zA<|zN<|zV O ?_
     rw [stE_i c1 c6,if_fin c7]
   ·try simp only [sx] at c6
    refine zI<|R O<|zQ zAr (A 1 O) O<|G O<|zQ zEz (A 0 O) O<|qS O ok160 (ref30_store n bd s hn hb hs) ⟨zB,O,zB,O,zB,O,T⟩<|G O<|zA<|zN<|zV O ?_
    rw [stE_s c1 c2 c6]
set_option maxHeartbeats 2000000 in
theorem zIs (n:Ns) (bd:List Bd) (U:List ByteArray) (l:List St) (W:List Int) (hn:n.Ok) (hU:U.length+dJ l<=1000000) (hb:bd.length+dJ l<=1000000) (hW:W.length+dJ l<=1000000) (hl:bH l<=900000) (ih:∀s,s∈l->∀(bd:List Bd) (U:List ByteArray) (W:List Int),U.length+dJ s.Body<=1000000->bd.length+dJ s.Body<=1000000->W.length+dJ s.Body<=1000000->Pur cfg 71 [vNs n,rV bd,vSs U,dS s.Body,vIs W] (ckC (dU n.Bufs U (bd.map Bd.Name) W 0 s.Body))):
    Pur cfg 71 [vNs n,rV bd,vSs U,dS l,vIs W] (ckC (dU n.Bufs U (bd.map Bd.Name) W 0 l)):=by
 refine zW Tryz.func71 O Tryz.ntmps71 Tryz.results71 O ?_
 intro z hz
 have hll:=wI l
 have hlN:=zEi l
 refine R O<|zT O O (qP O O) ?_
 rintro _ _ ⟨b1,rfl,rfl⟩
 refine zT O O (qQ [some 1,some 1,none] O zr128 O) ?_
 rintro _ _ ⟨b2,rfl,rfl⟩
 refine zA<|zE<|R O<|G O<|zA<|zP<|zU ⟨[(11,.c _),(2,.c _),(1,.c _),(3,.c _),(4,.c _),(5,.c _),(10,.c _)],[_,_]⟩ (Weak.mk [true,true] ⟨zB,zB,zB,zB,zB,zB,zB,T⟩ O)<|qF 2 0 O O (Nat×List ByteArray) (fun ⟨k,u⟩=>[(11,vI k),(2,vSs u)]) (fun ⟨k,u⟩=>[]) (fun ⟨k,u⟩=>k<=l.length/\(u.length+dJ (l.drop k)<=1000000)/\((dU n.Bufs U (bd.map Bd.Name) W 0 l)=dU n.Bufs u (bd.map Bd.Name) W k (l.drop k))) (fun ⟨k,u⟩=>l.length-k) ⟨⟨0,U⟩,⟨by omega,by simpa using hU,O⟩,Weak.mk [true,true] ⟨zB,VLe.of_eq (O),zB,zB,zB,zB,zB,T⟩ O⟩ ?_
 rintro ⟨k,u⟩ ⟨hk,hub,hp⟩
 show AWP _ _ _ _ _ ⟨[(11,vI k),(2,vSs u)]++_,[]++_⟩
 refine zE<|R O<|G O<|G O<|qC O el23<|yC O<|zA<|zC O (fun c1=>?_) (fun c1=>?_)
 ·try simp only [sx] at c1
  obtain ⟨s,hs⟩:=qU l k (by omega)
  have hsw:=kG (qE hs)
  have hsb:=St.body_wt s
  have hsn:=stsN_drop hs
  have hse:=zPb s
  have hsm:=zQi (qE hs)
  have hcl:=chkS_len n.Bufs s u (bd.map Bd.Name) (W++[(k:Int)])
  refine zI<|zE<|zP<|R O<|zZ O (zLk O el67 zr3)<|G O<|zT O O (zLa O el67 O O (by simp only [List.length_map,List.length_append,List.length_cons,List.length_nil];omega) (by simp only [List.length_map,List.length_append,List.length_cons,List.length_nil];omega)) ?_
  rintro _ _ ⟨sv3,rfl,rfl⟩
  refine G O<|zZ O (yO O el67 zr3 O O O O)<|zT O O (yQ 0 O el67 O O O (by simp only [List.length_map,List.length_append,List.length_cons,List.length_nil];omega) (by simp only [List.length_map,List.length_append,List.length_cons,List.length_nil];omega)) ?_
  rintro _ _ ⟨sv4,rfl,rfl⟩
  refine G O<|zA<|zE<|zE<|zU _ (Weak.vecEq 0 O (rows':=(W++[(k:Int)]).map fun i=>[cI i]) (by first|rfl|simp|rw [List.take_of_length_le (by simp)]))<|zU _ (kN 0 O (regs':=[(27,_),(12,_)]) (μ':=[_,_]) ⟨FLe.sl,FLe.sl,T⟩ ⟨EFle.refl _,EFle.refl _,T⟩)<|qV 9 mixed (by kernel_rfl) O O<|zL O O (qD O zAr O (A 1 O) O)<|zL O O (zK O O)<|zL O O (zK O O)<|zL O O (zK O O)<|zL O O (zK O O)<|zL O O (qI O el23 O O (by omega) (zCy (by assumption)))<|zL O O (qD O zEz O Y O)<|zL O O (qR O ok122 (ref30_one n bd u s hn (by omega) (by have:=kG (qE hs);omega) (by omega)) ⟨zB,O,zB,O,zB,O,zB,O,T⟩)<|zL O O (yR O O)<|yJ<|zA<|R O<|G O<|kZ O<|zA<|zC O (fun c2=>?_) (fun c2=>?_)
  ·try simp only [sx] at c2
   have hx0:=chkS_no (here:=W++[(k:Int)]) (B:=n.Bufs) (U:=u) (sc:=(bd.map Bd.Name)) (s:=s) c2
   refine R O<|G O<|G O<|zZ O (kS [some 1,none,none] O zr128 pl128 O O)<|D 0 sz128 O<|zA<|zN<|fin1 (qN agg128 O (A 0 O) O) ?_
   rw [zEd hs hp (by rw [hx0];exact c2),hx0];rfl
  ·try simp only [sx] at c2
   have hin:=chkS_in (here:=W++[(k:Int)]) (B:=n.Bufs) (U:=u) (sc:=(bd.map Bd.Name)) (s:=s) c2
   refine zI<|R O<|G O<|G O<|zA<|zE<|R O<|G O<|G O<|zX O el23 (by omega) (zCy (by assumption))<|zS O zBv<|zF one3 Y O<|yD O<|zA<|zC O (fun c3=>?_) (fun c3=>?_)
   ·try simp only [sx] at c3
    rw [zIv c3,zIv c3,←map_bd] at hin
    refine zE<|yK 9 1 [⟨0,.q []⟩,⟨1,.q []⟩,⟨3,.q []⟩,⟨4,.q []⟩,⟨5,.q []⟩,⟨6,.q []⟩,⟨7,.q []⟩,⟨8,.q []⟩,⟨2,.e 0 []⟩] mixed (by kernel_rfl) (by kernel_rfl) O O O<|J O<|J O<|J O<|J O<|J O<|J O<|J O<|J O<|J O<|wQ<|v O (by decide) O O (zLk O el78 zr9)<|v O (by decide) O O (zK O O)<|v O (by decide) O O (zK O O)<|v O (by decide) O O (zK O O)<|v O (by decide) O O (qI O el23 O O (by omega) (zCy (by assumption)))<|v O (by decide) O O (qA O zBo O)<|v O (by decide) O O (zD O one9 O Y O)<|v O (by decide) O O (yO O el78 zr9 O O O O)<|zEp O O (by decide) O O (zLa O el78 O O (by simp only [List.length_map,List.length_append,List.length_cons,List.length_nil];omega) (by simp only [List.length_map,List.length_append,List.length_cons,List.length_nil];omega)) ?_
    rintro _ _ ⟨sv5,rfl,rfl⟩
    refine ⟨_,O,?_⟩
    refine wP O<|zT O O (yQ 0 O el78 O O O (by simp only [List.length_map,List.length_append,List.length_cons,List.length_nil];omega) (by simp only [List.length_map,List.length_append,List.length_cons,List.length_nil];omega)) ?_
    rintro _ _ ⟨sv6,rfl,rfl⟩
    refine G O<|zA<|yK 15 1 [⟨0,.q []⟩,⟨1,.q []⟩,⟨3,.q []⟩,⟨4,.q []⟩,⟨5,.q []⟩,⟨6,.q []⟩,⟨7,.q []⟩,⟨8,.q []⟩,⟨9,.q []⟩,⟨10,.q []⟩,⟨11,.q []⟩,⟨12,.q []⟩,⟨13,.q []⟩,⟨14,.q []⟩,⟨2,.e 0 []⟩] mixed (by kernel_rfl) (by kernel_rfl) O O O<|J O<|J O<|J O<|J O<|J O<|J O<|J O<|J O<|J O<|J O<|J O<|J O<|J O<|J O<|J O<|wQ<|v O (by decide) O O (zLk O el171 zr174)<|v O (by decide) O O (zK O O)<|v O (by decide) O O (zK O O)<|v O (by decide) O O (zK O O)<|v O (by decide) O O (qI O el23 O O (by omega) (zCy (by assumption)))<|v O (by decide) O O (qA O zBo O)<|v O (by decide) O O (zD O one9 O Y O)<|v O (by decide) O O (zK O O)<|v O (by decide) O O (zK O O)<|v O (by decide) O O (qI O el23 O O (by omega) (zCy (by assumption)))<|v O (by decide) O O (qA O zJa O)<|v O (by decide) O O (zD O one3 O Y O)<|v O (by decide) O O (kY O zr174 pl174 O)<|v O (by decide) O O (yO O el171 zr174 O O O O)<|zEp O O (by decide) O O (zLa O el171 O O (by simp only [List.length_map,List.length_append,List.length_cons,List.length_nil];omega) (by simp only [List.length_map,List.length_append,List.length_cons,List.length_nil];omega)) ?_
    rintro _ _ ⟨sv7,rfl,rfl⟩
    refine ⟨_,O,?_⟩
    refine wP O<|zT O O (yQ 0 O el171 O O O (by simp only [List.length_map,List.length_append,List.length_cons,List.length_nil];omega) (by simp only [List.length_map,List.length_append,List.length_cons,List.length_nil];omega)) ?_
    rintro _ _ ⟨sv8,rfl,rfl⟩
    refine G O<|zA<|zE<|zU _ (Weak.vecEq 1 O (rows':=(u++[s.Name]).map fun s=>[cS s]) (by first|rfl|simp|rw [List.take_of_length_le (by simp)]))<|zU _ (kN 1 O (regs':=[(2,_),(57,_)]) (μ':=[_,_,_]) ⟨FLe.sl,FLe.sl,T⟩ ⟨EFle.refl _,EFle.refl _,EFle.refl _,T⟩)<|zU _ (Weak.vecEq 0 O (rows':=(bd++[(⟨s.Name,s.Many⟩:Bd)]).map Bd.cells) (by rw [List.map_append];rfl))<|zU _ (kN 0 O (regs':=[(14,_),(73,_)]) (μ':=[_,_]) ⟨FLe.sl,FLe.sl,T⟩ ⟨EFle.refl _,EFle.refl _,T⟩)<|yK 11 1 [⟨0,.q [2]⟩,⟨1,.q []⟩,⟨2,.q []⟩,⟨3,.q []⟩,⟨4,.q []⟩,⟨5,.q []⟩,⟨6,.q []⟩,⟨7,.q []⟩,⟨8,.q []⟩,⟨9,.q []⟩,⟨10,.f 0⟩] mixed (by kernel_rfl) (by kernel_rfl) O O O<|J O<|J O<|J O<|J O<|J O<|J O<|J O<|J O<|J O<|J O<|zQx O O (zFl (qQ [some 1,some 1,none] O zr128 O)) ⟨_,_,0,O,O⟩<|wQ<|v O (by decide) O O (qD O zAr O (A 0 O) O)<|v O (by decide) O O (zK O O)<|v O (by decide) O O (zK O O)<|v O (by decide) O O (zK O O)<|v O (by decide) O O (zK O O)<|v O (by decide) O O (qI O el23 O O (by omega) (zCy (by assumption)))<|v O (by decide) O O (qA O zBe O)<|v O (by decide) O O (zD O zAj O Y O)<|v O (by decide) O O (zK O O)<|v O (by decide) O O (qR O ok71 (ih s (qE hs) (bd++[(⟨s.Name,s.Many⟩:Bd)]) (u++[s.Name]) (W++[(k:Int)]) (by first|omega|(simp;omega)) (by first|omega|(simp;omega)) (by simp;omega)) ⟨zB,O,zB,O,zB,O,zB,O,zB,O,T⟩)<|zQj O O ?_
    rintro _ _ ⟨b9,rfl,rfl⟩
    exact o5
   ·try simp only [sx] at c3
    rw [zMm c3,zMm c3] at hin
    refine zI<|zE<|yK 11 1 [⟨0,.q [2]⟩,⟨1,.q []⟩,⟨2,.q []⟩,⟨3,.q []⟩,⟨4,.q []⟩,⟨5,.q []⟩,⟨6,.q []⟩,⟨7,.q []⟩,⟨8,.q []⟩,⟨9,.q []⟩,⟨10,.f 0⟩] mixed (by kernel_rfl) (by kernel_rfl) O O O<|J O<|J O<|J O<|J O<|J O<|J O<|J O<|J O<|J O<|J O<|zQx O O (zFl (qQ [some 1,some 1,none] O zr128 O)) ⟨_,_,0,O,O⟩<|wQ<|v O (by decide) O O (qD O zAr O (A 0 O) O)<|v O (by decide) O O (zK O O)<|v O (by decide) O O (zK O O)<|v O (by decide) O O (zK O O)<|v O (by decide) O O (zK O O)<|v O (by decide) O O (qI O el23 O O (by omega) (zCy (by assumption)))<|v O (by decide) O O (qA O zBe O)<|v O (by decide) O O (zD O zAj O Y O)<|v O (by decide) O O (zK O O)<|v O (by decide) O O (qR O ok71 (ih s (qE hs) bd u (W++[(k:Int)]) (by first|omega|(simp;omega)) (by first|omega|(simp;omega)) (by simp;omega)) ⟨zB,O,zB,O,zB,O,zB,O,zB,O,T⟩)<|zQj O O ?_
    rintro _ _ ⟨b10,rfl,rfl⟩
    exact o5
 ·try simp only [sx] at c1
  refine qK<|R O<|G O<|zZ O (kS [none,some 1,none] O zr128 pl128 O O)<|D 0 sz128 O<|zA<|zN<|fin1 (qN agg128 O (A 0 O) O) ?_
  rw [zRe hp (by omega)];rfl
theorem zSh (n:Ns) (hn:n.Ok) (s:St) (hl:bH s.Body<=900000):∀(bd:List Bd) (U:List ByteArray) (W:List Int),U.length+dJ s.Body<=1000000->bd.length+dJ s.Body<=1000000->W.length+dJ s.Body<=1000000->Pur cfg 71 [vNs n,rV bd,vSs U,dS s.Body,vIs W] (ckC (dU n.Bufs U (bd.map Bd.Name) W 0 s.Body)):=by
  induction s using St.ind with
  |_ s ih=>
    intro bd U W hU hb hW
    refine zIs n bd U s.Body W hn hU hb hW hl fun a ha=>ih a ha ?_
    have:=kG ha;have:=St.body_wt a;omega
theorem ref30_body (n:Ns) (bd:List Bd) (U:List ByteArray) (l:List St) (W:List Int)  (hn:n.Ok) (hU:U.length+dJ l<=1000000) (hb:bd.length+dJ l<=1000000) (hW:W.length+dJ l<=1000000) (hl:bH l<=900000):Pur cfg 71 [vNs n,rV bd,vSs U,dS l,vIs W] (ckC (dU n.Bufs U (bd.map Bd.Name) W 0 l)):=
  zIs n bd U l W hn hU hb hW hl fun s hs=>zSh n hn s (by have:=kG hs;have:=St.body_wt s;omega)
theorem zKk (n:Ns) (hn:n.Ok) (hw:bH n.Body<=900000):
    Pur cfg 31 [vNs n] (.tup [vIs (bY n).1,vI (bY n).2]):=by
 refine zW Tryz.func31 O Tryz.ntmps31 Tryz.results31 O ?_
 intro z hz
 refine R O<|zT O O (qP O O) ?_
 rintro _ _ ⟨b1,rfl,rfl⟩
 refine zZ O (yN 1 O O)<|G O<|zA<|zE<|R O<|zM O zDh<|zF zAj (A 0 O) O<|qS O ok68 (ref30_depth 41 n.Body 41 (by omega) (by omega) O) ⟨zB,O,zB,O,T⟩<|zZ O (yH O O O)<|zA<|zC O (fun c1=>?_) (fun c1=>?_)
 ·try simp only [sx] at c1
  have hwi:=within_f c1
  refine R O<|zZ O (yN 1 O O)<|G O<|zA<|zN<|fin2 (rs_c O) (rs_c O) ?_
  rw [zRr hwi];rfl
 ·try simp only [sx] at c1
  have hwi:=within_t c1
  refine zI<|zE<|R O<|zM O zDh<|zF zAj (A 0 O) O<|qS O ok69 (ref30_size n.Body 2000 2000 (by omega) (by omega) O) ⟨zB,O,zB,O,T⟩<|zZ O (yH O O O)<|G O<|rL0 O (fun g3_4=>zG O zAz O) O<|B 15 O (fun g3_4=>zD O zDx O (A 0 O) O) O<|B 16 O (fun g3_4=>yS O el22 O) O<|B 17 O (fun g3_4=>yH O O O) O<|r_or O (fun h=>(lzf h))<|zA<|zC O (fun c2=>?_) (fun c2=>?_)
  ·try simp only [sx] at c2
   refine R O<|zZ O (yN 1 O O)<|G O<|zA<|zN<|fin2 (rs_c O) (rs_c O) ?_
   rw [validN_2 hwi (by omega)];rfl
  ·try simp only [sx] at c2
   have hnum:=numB_ok (l:=n.Body) (m:=2000) (by omega)
   refine zI<|zE<|R O<|zQ zAr (A 0 O) O<|qS O ok70 (ref30_bufs n hn) ⟨zB,O,T⟩<|G O<|zA<|R O<|G O<|kZ O<|zA<|zC O (fun c3=>?_) (fun c3=>?_)
   ·try simp only [sx] at c3
    refine R O<|G O<|zZ O (yN 1 O O)<|G O<|zA<|zN<|fin2 (rs_c O) (rs_c O) ?_
    rw [validN_b hwi (by omega) c3];rfl
   ·try simp only [sx] at c3
    refine zI<|R O<|zQ zAr (A 0 O) O<|zM O zDh<|zF zAj (A 0 O) O<|qS O ok71 (ref30_body n [] [] n.Body [] hn (by simp;omega) (by simp;omega) (by simp;omega) hw) ⟨zB,O,VLe.nil,O,VLe.nil,O,zB,O,VLe.nil,O,T⟩<|zT O O (qQ [some 1,some 1,none] O zr128 O) ?_
    rintro _ _ ⟨b2,rfl,rfl⟩
    refine D 0 sz128 O<|zA<|zE<|qV 6 mixed (by kernel_rfl) O O<|zL O O (zG O fd128_1 O)<|zL O O (zD O zCx O (A 0 O) O)<|zL O O (zG O fd128_2 O)<|zL O O (zD O zIt O (A 0 O) O)<|zL O O (yR O O)<|zL O O (yR O O)<|yJ<|zA<|zN<|fin2 (rs_c O) (rs_c O) ?_
    rw [zQf hwi (by omega) c3];rfl
end Go.W
