/-
  What functions compute.
  Conditions: none.
-/
import Derived.Test.YtdldhbfgfkebjaaGreatDoorNB
import Derived.Test.YtdldhbfgfkebjaaGreatDoorPlain2
import Derived.Test.YtdldhbfgfkebjaaGreatDoorEngZ
set_option linter.unusedSimpArgs false
set_option linter.unusedVariables false
set_option maxRecDepth 10000
namespace Go.W
open Go Go.Eng Go.Proofs Go.L41 Go.Br
attribute [local irreducible] AWP RWP TD fP
abbrev rX (l:List Bd):V:=.c (.sl 2 (l.map Bd.cells))
abbrev ckC (x:Ck):V:=.agg [.sl 1 (x.U.map fun s=>[cS s]),.sl 1 (x.W.map fun i=>[cI i]),cI x.E]
theorem bd_get {l:List Bd} {k:Nat} {x:Bd} (h:l[k]? =some x):(l.map Bd.cells)[k]? =some [cS x.Name,cI x.Val]:=by rw [v h];rfl
theorem agg128:lK Tryz.prog 128=some 3:=by kernel_rfl
theorem el171:dZ Tryz.prog 171=some (174,2,24):=by kernel_rfl
theorem fd128_0:bD Tryz.prog 128 0=some (0,78):=by kernel_rfl
theorem fd128_1:bD Tryz.prog 128 1=some (1,67):=by kernel_rfl
theorem fd128_2:bD Tryz.prog 128 2=some (2,36):=by kernel_rfl
theorem fd174_0:bD Tryz.prog 174 0=some (0,9):=by kernel_rfl
theorem ok70:bA Tryz.prog 70=true:=by kernel_rfl
theorem ok71:bA Tryz.prog 71=true:=by kernel_rfl
theorem ok83:bA Tryz.prog 83=true:=by kernel_rfl
theorem ok122:bA Tryz.prog 122=true:=by kernel_rfl
theorem ok157:bA Tryz.prog 157=true:=by kernel_rfl
theorem ok158:bA Tryz.prog 158=true:=by kernel_rfl
theorem ok160:bA Tryz.prog 160=true:=by kernel_rfl
theorem ok184:bA Tryz.prog 184=true:=by kernel_rfl
theorem ok185:bA Tryz.prog 185=true:=by kernel_rfl
theorem ok186:bA Tryz.prog 186=true:=by kernel_rfl
theorem ok206:bA Tryz.prog 206=true:=by kernel_rfl
theorem ok207:bA Tryz.prog 207=true:=by kernel_rfl
theorem pl128:dN Tryz.prog 128=some [(0,1),(1,1),(2,1)]:=by kernel_rfl
theorem pl174:dN Tryz.prog 174=some [(0,1),(1,1)]:=by kernel_rfl
theorem sz128:(Tryz.prog.info? 128).map (·.size)=some 3:=by kernel_rfl
theorem zr128:dL Tryz.prog 128=some [(Value.slice none 0 0),(Value.slice none 0 0),(Value.int IntKind.i64 0)]:=by kernel_rfl
theorem zr174:dL Tryz.prog 174=some [(Value.string (ByteArray.mk #[])),(Value.int IntKind.i64 0)]:=by kernel_rfl
theorem zSj (l:List Lf) (bd:List Bd) (hl:l.length<=4294967296) (hx:∀x,x∈l->x.L.length<=4294967296) (hb:bd.length<=4294967296):
    Pur cfg 206 [nQ l,rX bd] (vB (l.all (jL (bd.map Bd.Name)))):=by
 refine zW Tryz.func206 O Tryz.ntmps206 Tryz.results206 O ?_
 intro z hz
 have hl0:=hx
 clear hx
 refine R O<|G O<|zA<|zF<|R O<|G O<|zA<|zP<|zU ⟨[(5,.c _),(0,.c _),(1,.c _)],[]⟩ (Weak.mk [] ⟨zB,zB,zB,T⟩ O)<|qF 1 0 O O (Nat) (fun k=>[(5,vI k)]) (fun k=>[]) (fun k=>k<=l.length/\((l.take k).all (jL (bd.map Bd.Name))=true)) (fun k=>l.length-k) ⟨0,⟨by omega,O⟩,Weak.mk [] ⟨zB,zB,zB,T⟩ O⟩ ?_
 rintro k ⟨hk,hp⟩
 refine zF<|R O<|G O<|G O<|qD O zAk<|yC O<|zA<|zD O (fun c1=>?_) (fun c1=>?_)
 ·try simp only [sx] at c1
  obtain ⟨x,hx⟩:=qU l k (by omega)
  have hxl:=hl0 x (qE hx)
  refine zI<|zF<|zP<|R O<|G O<|zA<|zP<|zU ⟨[(6,.c _),(0,.c _),(1,.c _),(5,.c _)],[]⟩ (Weak.mk [] ⟨zB,zB,zB,zB,T⟩ O)<|qF 1 0 O O (Nat) (fun j=>[(6,vI j)]) (fun j=>[]) (fun j=>j<=x.L.length/\(x.L.take j).all (fun m=>bR (bd.map Bd.Name) m.Name)=true) (fun j=>x.L.length-j) ⟨0,⟨by omega,O⟩,Weak.mk [] ⟨zB,zB,zB,zB,T⟩ O⟩ ?_
  rintro j ⟨hj,hq⟩
  refine zF<|R O<|G O<|G O<|G O<|zY O zAk (by omega) (v hx)<|zT O zAg<|zE zCj zO O<|qD O el52<|yC O<|zA<|zD O (fun c2=>?_) (fun c2=>?_)
  ·try simp only [sx] at c2
   obtain ⟨m,hm⟩:=qU x.L j (by omega)
   refine zI<|zF<|zP<|R O<|G O<|zA<|zF<|R O<|G O<|zA<|zP<|zU ⟨[(8,.c _),(7,.c _),(0,.c _),(1,.c _),(5,.c _),(6,.c _)],[]⟩ (Weak.mk [] ⟨zB,zB,zB,zB,zB,zB,T⟩ O)<|qF 2 0 O O (Nat) (fun i=>[(8,vI i),(7,vB ((bd.take i).any fun d=>decide (d.Name=m.Name)))]) (fun i=>[]) (fun i=>i<=bd.length) (fun i=>bd.length-i) ⟨0,(by omega),Weak.mk [] ⟨zB,VLe.of_eq (O),zB,zB,zB,zB,T⟩ O⟩ ?_
   rintro i hi
   refine zF<|R O<|G O<|G O<|qD O el171<|yC O<|zA<|zD O (fun c3=>?_) (fun c3=>?_)
   ·try simp only [sx] at c3
    obtain ⟨d,hd⟩:=qU bd i (by omega)
    refine zI<|zF<|zP<|qW 19 mixed (by kernel_rfl) O O<|zL O O (zM O O)<|zL O O (zM O O)<|qJ [] O O O O gv1 T (fun g11_1=>zM O O) O<|qJ [] O O O O gv1 T (fun g11_1=>zM O O) O<|qJ [(33,_),(34,_)] O O O O gv1 ⟨O,O,O,O,T⟩ (fun g11_1=>qH O el171 O O (by omega) (bd_get hd)) O<|qJ [(35,_)] O O O O gv1 ⟨O,O,T⟩ (fun g11_1=>qB O fd174_0 O) O<|qJ [(36,_)] O O O O gv1 ⟨O,O,T⟩ (fun g11_1=>zC O one9 O zO O) O<|qJ [] O O O O gv1 T (fun g11_1=>zM O O) O<|qJ [] O O O O gv1 T (fun g11_1=>zM O O) O<|qJ [(38,_),(39,_)] O O O O gv1 ⟨O,O,O,O,T⟩ (fun g11_1=>qH O zAk O O (by omega) (v hx)) O<|qJ [(40,_)] O O O O gv1 ⟨O,O,T⟩ (fun g11_1=>qB O zAg O) O<|qJ [(41,_)] O O O O gv1 ⟨O,O,T⟩ (fun g11_1=>zC O zCj O zO O) O<|qJ [] O O O O gv1 T (fun g11_1=>zM O O) O<|qJ [(42,_),(43,_)] O O O O gv1 ⟨O,O,O,O,T⟩ (fun g11_1=>qH O el52 O O (by omega) (v hm)) O<|qJ [(44,_)] O O O O gv1 ⟨O,O,T⟩ (fun g11_1=>qB O zDk O) O<|qJ [(45,_)] O O O O gv1 ⟨O,O,T⟩ (fun g11_1=>zC O one9 O zO O) O<|qJ [(37,_),(46,_)] O O O O gv1 ⟨O,O,O,O,T⟩ (fun g11_1=>kE O O O) O<|zL O O (zAq O O O O (fun h=>(lzf h)))<|zL O O (yR O O)<|yM<|zA<|zK O<|G O<|qA O ⟨by omega,by omega⟩<|G O<|zA ?_
    refine ⟨i+1,(by omega),(by omega),Weak.mk [] ⟨zB,VLe.of_eq (congrArg vB (any_step hd)),zB,zB,zB,zB,T⟩ O⟩
   ·try simp only [sx] at c3
    rw [qX (l:=bd) (k:=i) (by omega),any_hasB]
    refine qK<|R O<|G O<|wE O<|zA<|zD O (fun c4=>?_) (fun c4=>?_)
    ·try simp only [sx] at c4
     have hno:=bound_no hx hm c4
     refine R O<|G O<|zA<|zN<|zV O ?_
     rw [hno]
    ·try simp only [sx] at c4
     refine zI<|zK O<|G O<|qA O ⟨by omega,by omega⟩<|G O<|zA ?_
     refine ⟨j+1,⟨by omega,zJo hm hq c4⟩,(by omega),Weak.mk [] ⟨zB,zB,zB,zB,T⟩ O⟩
  ·try simp only [sx] at c2
   rw [qX (l:=x.L) (k:=j) (by omega)] at hq
   refine qK<|zK O<|G O<|qA O ⟨by omega,by omega⟩<|G O<|zA ?_
   refine ⟨k+1,⟨by omega,zJo hx hp (show jL _ x=true from hq)⟩,(by omega),Weak.mk [] ⟨zB,zB,zB,T⟩ O⟩
 ·try simp only [sx] at c1
  refine qK<|R O<|G O<|zA<|zN<|zV O ?_
  rw [qX (by omega)] at hp;rw [hp]
theorem ref30_lins (l:List Ix) (hl:l.length<=4294967296) (hw:fQ l<=4294967296):
    OwnR cfg 207 [jQ l] 54 2 ((l.flatMap ixF).map Lf.cells):=by
 refine zW Tryz.func207 O Tryz.ntmps207 Tryz.results207 O ?_
 intro z hz
 refine R O<|G O<|zA<|R O<|G O<|qT _ (kZ 54 2)<|zA<|zF<|R O<|G O<|zA<|zP<|zU ⟨[(4,.c _),(3,.c _),(0,.c _)],[_]⟩ (Weak.mk [true] ⟨zB,zB,zB,T⟩ O)<|qF 2 1 O O (Nat×Value) (fun ⟨k,sv⟩=>[(4,vI k),(3,.c (.lit sv))]) (fun ⟨k,sv⟩=>[E.vec sv 54 2 (((l.take k).flatMap ixF).map Lf.cells)]) (fun ⟨k,sv⟩=>k<=l.length) (fun ⟨k,sv⟩=>l.length-k) ⟨⟨0,(.slice none 0 0)⟩,(by omega),Weak.mk [true] ⟨zB,zB,zB,T⟩ O⟩ ?_
 rintro ⟨k,sv⟩ hk
 show AWP _ _ _ _ _ ⟨[(4,vI k),(3,.c (.lit sv))]++_,[E.vec sv 54 2 (((l.take k).flatMap ixF).map Lf.cells)]++_⟩
 refine zF<|R O<|G O<|G O<|qD O el51<|yC O<|zA<|zD O (fun c1=>?_) (fun c1=>?_)
 ·try simp only [sx] at c1
  obtain ⟨x,hx⟩:=qU l k (by omega)
  have hfl:=ixs_len l k
  have hxw:=zBa (qE hx)
  unfold Ix.wt at hxw
  refine zI<|zF<|zP<|R O<|G O<|G O<|G O<|zY O el51 (by omega) (v (by assumption))<|zT O zBx<|zQ zAj zO O<|zZ O (yJ O zAk zr54 O O O O)<|zS O O (yI 0 O zAk O O O (by simp only [List.length_map,List.length_append,List.length_cons,List.length_nil];omega) (by simp only [List.length_map,List.length_append,List.length_cons,List.length_nil];omega)) ?_
  rintro _ _ ⟨sv2,rfl,rfl⟩
  refine G O<|zA<|zK O<|G O<|G O<|G O<|zY O el51 (by omega) (v (by assumption))<|zT O wU<|zE zAx zO O<|zS O O (yI 0 O zAk O O O (by simp only [List.length_map,List.length_append,List.length_cons,List.length_nil];omega) (by simp only [List.length_map,List.length_append,List.length_cons,List.length_nil];omega)) ?_
  rintro _ _ ⟨sv3,rfl,rfl⟩
  refine G O<|zA<|zK O<|G O<|qA O ⟨by omega,by omega⟩<|G O<|zA ?_
  refine ⟨⟨k+1,sv3⟩,(by omega),(by show l.length-(k+1)<l.length-k;omega),Weak.mk [true] ⟨zB,zB,zB,T⟩ (by exact yQ (by rw [yD hx,List.flatMap_append,List.map_append];simp [ixF];rfl))⟩
 ·try simp only [sx] at c1
  refine qK<|R O<|G O<|G O<|zA<|zN<|zV O ?_
  exact ⟨_,O,by rw [qX (by omega)];rfl⟩
theorem ref30_node (n:Ns) (bd:List Bd) (e:Ex) (hn:n.Ok) (hb:bd.length<=1000000) (he:e.wt<=1073741824):
    Pur cfg 185 [vNs n,rX bd,vE e] (vI (gC n.Bufs (bd.map Bd.Name) e)):=by
 refine zW Tryz.func185 O Tryz.ntmps185 Tryz.results185 O ?_
 intro z hz
 obtain ⟨hL,hI,hA⟩:=e.parts he
 have hwt:=Ex.wt_eq e
 refine R O<|zS O O (qP O O) ?_
 rintro _ _ ⟨b1,rfl,rfl⟩
 refine zS O O (qP O O) ?_
 rintro _ _ ⟨b2,rfl,rfl⟩
 refine G O<|zA<|zF<|R O<|zJ O zEd<|zQ zAj (A 0 O) O<|zZ O (yJ O zAk zr54 O O O O)<|G O<|qS O ok206 (zSj [e.Lin] bd (by simp) (by simp;omega) (by omega)) ⟨zB,O,zB,O,T⟩<|wE O<|G O<|rL0 O (fun g1_6=>zH O kQ O) O<|B 19 O (fun g1_6=>zC O wI O (A 0 O) O) O<|B 20 O (fun g1_6=>qR O ok207 (OwnR.pur (ref30_lins e.Idx (by omega) (by omega))) ⟨zB,O,T⟩) O<|rL0 O (fun g1_6=>zM O O) O<|rLz [(21,_),(22,_)] O gv1 ⟨O,O,O,O,T⟩ (fun g1_6=>qR O ok206 (zSj (e.Idx.flatMap ixF) bd (by have:=ixs_len e.Idx e.Idx.length;rw [List.take_length] at this;omega) (fun x hx=>by have:=forms_wt he (show x∈gW e by unfold gW;exact List.mem_cons_of_mem _ hx);omega) (by omega)) ⟨zB,O,zB,O,T⟩) O<|B 23 O (fun g1_6=>wJ O O) O<|r_or O (fun h=>(lzf h))<|zA<|zD O (fun c1=>?_) (fun c1=>?_)
 ·have h9:=node_sc_f c1
  refine R O<|G O<|zA<|zN<|zV O ?_
  rw [nodeN_9 h9]
 ·have h9:=node_sc_t c1
  refine zI<|zF<|R O<|zJ O kR<|zE one3 (A 0 O) O<|wA O<|zA<|zD O (fun c2=>?_) (fun c2=>?_)
  ·try simp only [sx] at c2
   refine R O<|G O<|zA<|zN<|zV O ?_
   rw [nodeN_o h9 c2]
  ·try simp only [sx] at c2
   refine zI<|R O<|zQ zAm (A 1 O) O<|zJ O zCo<|zE one9 (A 0 O) O<|qS O ok83 (zBc n e.Name hn) ⟨zB,O,zB,O,T⟩<|zZ O (yA O O)<|zZ O (kB O O O)<|kP O<|zS O O (qQ [none,none,none,none,none,none,some 1,none] O zr69 O) ?_
   rintro _ _ ⟨b3,rfl,rfl⟩
   refine Y 0 sz69 O<|G O<|zA<|zF<|R O<|G O<|wE O<|zA<|zD O (fun c3=>?_) (fun c3=>?_)
   ·try simp only [sx] at c3
    refine R O<|G O<|zA<|zN<|zV O ?_
    rw [nodeN_n h9 (by omega) c3]
   ·try simp only [sx] at c3
    refine zI<|zF<|R O<|zJ O zCn<|zE zCy (A 0 O) O<|qD O el67<|zJ O kQ<|zE wI (A 1 O) O<|qD O el51<|wA O<|zA<|zD O (fun c4=>?_) (fun c4=>?_)
    ·try simp only [sx] at c4
     refine R O<|G O<|zA<|zN<|zV O ?_
     rw [nodeN_r h9 (by omega) c3 (by omega)]
    ·try simp only [sx] at c4
     refine zI<|zF<|R O<|G O<|zA<|zP<|zU ⟨[(9,.c _),(3,.c _),(5,.c _)],[_,_]⟩ (Weak.mk [false,true,true] ⟨zB,zB,zB,T⟩ O)<|qF 1 0 O O (Nat) (fun j=>[(9,vI j)]) (fun j=>[]) (fun j=>j<=e.Idx.length/\(lT n.Bufs e.Idx=lT n.Bufs (e.Idx.drop j))) (fun j=>e.Idx.length-j) ⟨0,⟨by omega,O⟩,Weak.mk [true,true] ⟨zB,zB,zB,T⟩ O⟩ ?_
     rintro j ⟨hk,hq⟩
     refine zF<|R O<|G O<|zJ O kQ<|zE wI (A 0 O) O<|qD O el51<|yC O<|zA<|zD O (fun c5=>?_) (fun c5=>?_)
     ·try simp only [sx] at c5
      obtain ⟨y,hy⟩:=qU e.Idx j (by omega)
      refine zI<|zF<|zP<|zF<|R O<|zJ O kQ<|zE wI (A 0 O) O<|G O<|zY O el51 (by omega) (v (by assumption))<|zT O wN<|zE one9 zO O<|zZ O (kE O O O)<|zA<|zD O (fun c6=>?_) (fun c6=>?_)
      ·try simp only [sx] at c6
       refine qK<|zK O<|G O<|qA O ⟨by omega,by omega⟩<|G O<|zA ?_
       refine ⟨j+1,⟨by omega,hq.trans (zKa hy (by first|exact gathE_0 c6|exact zRa c6 c7 (by omega) (by omega)))⟩,(by omega),Weak.mk [true,true] ⟨zB,zB,zB,T⟩ O⟩
      ·try simp only [sx] at c6
       refine zI<|zF<|yL 13 1 [⟨0,.q [2]⟩,⟨1,.q []⟩,⟨2,.q [1]⟩,⟨3,.q []⟩,⟨4,.q []⟩,⟨5,.q []⟩,⟨6,.q []⟩,⟨7,.q []⟩,⟨8,.q []⟩,⟨9,.q []⟩,⟨10,.q []⟩,⟨11,.e 0 []⟩,⟨12,.e 0 []⟩] mixed (by kernel_rfl) (by kernel_rfl) O O O<|J O<|J O<|J O<|J O<|J O<|J O<|J O<|J O<|J O<|J O<|J O<|J O<|J O<|wQ<|zX O (by decide) O O (qC O zAm O (A 0 O) O)<|zX O (by decide) O O (zH O kQ O)<|zX O (by decide) O O (zC O wI O (A 0 O) O)<|zX O (by decide) O O (zM O O)<|zX O (by decide) O O (qH O el51 O O (by omega) (v (by assumption)))<|zX O (by decide) O O (qB O wN O)<|zX O (by decide) O O (zC O one9 O zO O)<|zX O (by decide) O O (qR O ok83 (zBc n y.From hn) ⟨zB,O,zB,O,T⟩)<|zX O (by decide) O O (yA O O)<|zX O (by decide) O O (kB O O O)<|zX O (by decide) O O (zBt O O O)<|zEs O O (by decide) O O (qQ [none,none,none,none,none,none,some 1,none] O zr69 O) ?_
       rintro _ _ ⟨b4,rfl,rfl⟩
       refine ⟨_,O,?_⟩
       refine zEj O O (by decide) O O (kN O sz69 O O O (zGd 0 O O)) ?_
       rintro _ _ ⟨rfl,rfl⟩
       refine ⟨_,O,?_⟩
       refine wP O<|G O<|zA<|zP<|R O<|G O<|wE O<|G O<|zA<|zD O (fun c7=>?_) (fun c7=>?_)
       ·try simp only [sx] at c7
        refine R O<|G O<|zA<|zN<|zV O ?_
        rw [zHl h9 (by omega) c3 (by omega),hq,zJz hy (by rw [zTl c6 c7];decide),zTl c6 c7]
       ·try simp only [sx] at c7
        refine R O<|zJ O zEy<|zJ O zGr<|zE one3 (A 0 O) O<|wA O<|G O<|zA<|zD O (fun c8=>?_) (fun c8=>?_)
        ·try simp only [sx] at c8
         refine R O<|G O<|zA<|zN<|zV O ?_
         rw [zHl h9 (by omega) c3 (by omega),hq,zJz hy (by rw [zNd c6 c7 c8];decide),zNd c6 c7 c8]
        ·try simp only [sx] at c8
         refine zF<|qW 12 mixed (by kernel_rfl) O O<|zL O O (zH O zCn O)<|zL O O (zC O zCy O (A 0 O) O)<|zL O O (yV O el67 O)<|zL O O (zH O kQ O)<|zL O O (zC O wI O (A 1 O) O)<|zL O O (zM O O)<|zL O O (qH O el51 O O (by omega) (v (by assumption)))<|zL O O (qB O wU O)<|zL O O (zC O zAx O zO O)<|zL O O (yV O zAk O)<|zL O O (zAi O O O)<|zL O O (yR O O)<|yM<|zA<|zD O (fun c9=>?_) (fun c9=>?_)
         ·try simp only [sx] at c9
          refine R O<|G O<|zA<|zN<|zV O ?_
          rw [zHl h9 (by omega) c3 (by omega),hq,zJz hy (by rw [zNc c6 c7 c8 (by omega)];decide),zNc c6 c7 c8 (by omega)]
         ·try simp only [sx] at c9
          refine zI<|zK O<|G O<|qA O ⟨by omega,by omega⟩<|G O<|zA ?_
          refine ⟨j+1,⟨by omega,hq.trans (zKa hy (by first|exact gathE_0 c6|exact zRa c6 c7 (by omega) (by omega)))⟩,(by omega),Weak.mk [false,true,true] ⟨zB,zB,zB,T⟩ O⟩
     ·try simp only [sx] at c5
      refine qK<|R O<|G O<|zA<|zN<|zV O ?_
      rw [zHl h9 (by omega) c3 (by omega),hq,wG (by omega)];rfl
theorem zSm (n:Ns) (hn:n.Ok) (e:Ex) (ih:∀a,a∈e.Args->fM a=0->a.wt<=1073741824->Pur cfg 186 [vNs n,vE a] (.tup [vTy (dO (kiN n.Bufs) a).1,vI (dO (kiN n.Bufs) a).2])) (hpart:fM e=0) (he:e.wt<=1073741824):
    Pur cfg 186 [vNs n,vE e] (.tup [vTy (dO (kiN n.Bufs) e).1,vI (dO (kiN n.Bufs) e).2]):=by
 refine zW Tryz.func186 O Tryz.ntmps186 Tryz.results186 O ?_
 intro z hz
 obtain ⟨hLl,hIl,hAl⟩:=e.parts he
 have hwt:=Ex.wt_eq e
 refine R O<|zS O O (qP O O) ?_
 rintro _ _ ⟨b1,rfl,rfl⟩
 refine zS O O (qP O O) ?_
 rintro _ _ ⟨b2,rfl,rfl⟩
 refine zS O O (yZ O zr31) ?_
 rintro _ _ ⟨b3,rfl,rfl⟩
 refine G O<|zA<|R O<|G O<|qT _ (kZ 31 5)<|zA<|zF<|R O<|G O<|zA<|zP<|zU ⟨[(7,.c _),(6,.c _),(2,.c _),(3,.c _),(4,.c _)],[_,_,_,_]⟩ (Weak.mk [true,true,true,true] ⟨zB,zB,zB,zB,zB,T⟩ O)<|qF 2 1 O O (Nat×Value) (fun ⟨k,sv⟩=>[(7,vI k),(6,.c (.lit sv))]) (fun ⟨k,sv⟩=>[E.vec sv 31 5 ((gB (e.Args.take k) (bK (kiN n.Bufs) (e.Args.take k)).1).map tyC)]) (fun ⟨k,sv⟩=>k<=e.Args.length/\((bK (kiN n.Bufs) (e.Args.take k)).2=0)) (fun ⟨k,sv⟩=>e.Args.length-k) ⟨⟨0,(.slice none 0 0)⟩,⟨by omega,O⟩,Weak.mk [true,true,true,true] ⟨zB,zB,zB,zB,zB,T⟩ O⟩ ?_
 rintro ⟨k,sv⟩ ⟨hk,hp⟩
 show AWP _ _ _ _ _ ⟨[(7,vI k),(6,.c (.lit sv))]++_,[E.vec sv 31 5 ((gB (e.Args.take k) (bK (kiN n.Bufs) (e.Args.take k)).1).map tyC)]++_⟩
 refine zF<|R O<|G O<|zJ O yU<|zE kW (A 2 O) O<|qD O el55<|yC O<|zA<|zD O (fun c1=>?_) (fun c1=>?_)
 ·try simp only [sx] at c1
  obtain ⟨x,hx⟩:=qU e.Args k (by omega)
  have hll:=zGj _ _ hp
  have hcl:=nonC_len (e.Args.take k) (bK (kiN n.Bufs) (e.Args.take k)).1
  have htk:=List.length_take_le' k e.Args
  refine zI<|zF<|zP<|zF<|yL 12 1 [⟨0,.q [4]⟩,⟨1,.q []⟩,⟨2,.q [3]⟩,⟨3,.q []⟩,⟨4,.q []⟩,⟨5,.q []⟩,⟨6,.q []⟩,⟨7,.q []⟩,⟨8,.q []⟩,⟨9,.q []⟩,⟨10,.e 0 []⟩,⟨11,.e 0 []⟩] mixed (by kernel_rfl) (by kernel_rfl) O O O<|J O<|J O<|J O<|J O<|J O<|J O<|J O<|J O<|J O<|J O<|J O<|J O<|wQ<|zX O (by decide) O O (qC O zAm O (A 0 O) O)<|zX O (by decide) O O (zH O yU O)<|zX O (by decide) O O (zC O kW O (A 0 O) O)<|zX O (by decide) O O (zM O O)<|zX O (by decide) O O (qH O el55 O O (by omega) (wF (by assumption)))<|zX O (by decide) O O (qC O yN O zO O)<|zX O (by decide) O O (qR O ok186 (ih x (qE hx) (zMp hpart (qE hx)) (by have:=Ex.arg_wt (qE hx);omega)) ⟨zB,O,zB,O,T⟩)<|zX O (by decide) O O (yA O O)<|zX O (by decide) O O (kB O O O)<|zX O (by decide) O O (zBt O O O)<|zEs O O (by decide) O O (yZ O zr31) ?_
  rintro _ _ ⟨b5,rfl,rfl⟩
  refine ⟨_,O,?_⟩
  refine zEj O O (by decide) O O (kN O sz31 O O O (zGd 0 O O)) ?_
  rintro _ _ ⟨rfl,rfl⟩
  refine ⟨_,O,?_⟩
  refine wP O<|G O<|zA<|zF<|R O<|G O<|wA O<|zA<|zD O (fun c2=>?_) (fun c2=>?_)
  ·try simp only [sx] at c2
   refine R O<|yS O zr31 pl31<|G O<|Y 2 sz31 O<|G O<|zA<|zN<|fin2 (qN yG O (A 2 O) O) (D O) ?_
   rw [nodeT_no hx hp c2];rfl
  ·try simp only [sx] at c2
   refine zI<|R O<|zJ O yU<|zE kW (A 3 O) O<|G O<|zY O el55 (by omega) (wF (by assumption))<|zQ yN zO O<|qS O ok159 (wD x) ⟨zB,O,T⟩<|wE O<|zA<|zD O (fun c3=>?_) (fun c3=>?_)
   ·try simp only [sx] at c3
    refine zK O<|G O<|zQ yG (A 0 O) O<|zZ O (yJ O el28 zr31 O O O O)<|zS O O (yI 1 O el28 O O O (by simp only [List.length_map,List.length_append,List.length_cons,List.length_nil,hll,List.length_take];omega) (by simp only [List.length_map,List.length_append,List.length_cons,List.length_nil,hll,List.length_take];omega)) ?_
    rintro _ _ ⟨sv6,rfl,rfl⟩
    refine G O<|zA<|zK O<|G O<|qA O ⟨by omega,by omega⟩<|G O<|zA ?_
    exact j8
   ·try simp only [sx] at c3
    refine zI<|zK O<|G O<|qA O ⟨by omega,by omega⟩<|G O<|zA ?_
    exact j8
 ·try simp only [sx] at c1
  have hll:=zGj _ _ hp
  have hta:e.Args.take k=e.Args:=qX (by omega)
  have hT:dO (kiN n.Bufs) e=kiF n.Bufs e (gB (e.Args.take k) (bK (kiN n.Bufs) (e.Args.take k)).1):=by have h:=nodeT_ok (N:=kiN n.Bufs) hta hp;rw [h];show kiF n.Bufs e (gB e.Args _)=_;rw [hta]
  refine qK<|zF<|zF<|qW 12 mixed (by kernel_rfl) O O<|zL O O (zM O O)<|zL O O (yK 0 O el28 O O)<|zL O O (kH O O O)<|zL O O (zM O O)<|qJ [] O O O O gv1 T (fun g10_3=>zM O O) O<|qJ [(48,_)] O O O O gv1 ⟨O,O,T⟩ (fun g10_3=>qO 0 O el28 O O O (by omega) (by simp only [Lz,cond_true,decide_eq_true_eq,List.length_map] at g10_3⊢;omega)) O<|qJ [(49,_)] O O O O gv1 ⟨O,O,T⟩ (fun g10_3=>qC O yG O (kG 0 O (zJs (by simp only [Lz,cond_true,decide_eq_true_eq,List.length_map] at g10_3⊢;omega))) O) O<|qJ [] O O O O gv1 T (fun g10_3=>zM O O) O<|qJ [(51,_)] O O O O gv1 ⟨O,O,T⟩ (fun g10_3=>qO 0 O el28 O O O (by omega) (by simp only [Lz,cond_true,decide_eq_true_eq,List.length_map] at g10_3⊢;omega)) O<|qJ [(52,_)] O O O O gv1 ⟨O,O,T⟩ (fun g10_3=>qC O yG O (kG 0 O (zJs (by simp only [Lz,cond_true,decide_eq_true_eq,List.length_map] at g10_3⊢;omega))) O) O<|qJ [(50,_),(53,_)] O O O O gv1 ⟨O,O,O,O,T⟩ (fun g10_3=>zAw O fl31 O O O) O<|zL O O (wV O O O (fun h=>h) O)<|yM<|zA<|zD O (fun c4=>?_) (fun c4=>?_)
  ·obtain ⟨q1,q2⟩:=ki10_t c4
   exact v15
  ·have hq:=ki10_f c4
   refine zI<|zF<|R O<|zJ O kR<|zE one3 (A 2 O) O<|zA<|zP<|zF<|R O<|yE O<|G O<|zA<|zD O (fun c5=>?_) (fun c5=>?_)
   ·try simp only [sx] at c5
    refine zI<|zD O (fun c6=>?_) (fun c6=>?_)
    ·try simp only [sx] at c6
     refine R O<|zJ O zBj<|zQ yG (A 2 O) O<|Y 1 sz31 O<|G O<|zA<|zN<|fin2 (qN yG O (A 1 O) O) (D O) ?_
     exact t6
    ·try simp only [sx] at c6
     refine R O<|yE O<|G O<|zA<|zD O (fun c7=>?_) (fun c7=>?_)
     ·try simp only [sx] at c7
      exact v15
     ·try simp only [sx] at c7
      refine R O<|yE O<|G O<|zA<|zD O (fun c8=>?_) (fun c8=>?_)
      ·try simp only [sx] at c8
       refine R O<|zQ zAm (A 3 O) O<|zJ O zCo<|zE one9 (A 2 O) O<|qS O ok83 (zBc n e.Name hn) ⟨zB,O,zB,O,T⟩<|zZ O (yA O O)<|zZ O (kB O O O)<|kP O<|zS O O (qQ [none,none,none,none,none,none,some 1,none] O zr69 O) ?_
       rintro _ _ ⟨b7,rfl,rfl⟩
       refine Y 0 sz69 O<|G O<|zA<|R O<|zJ O zEy<|zQ yG (A 0 O) O<|Y 2 sz31 O<|G O<|zA<|zN<|fin2 (qN yG O (A 2 O) O) (D O) ?_
       exact t6
      ·exact p9
   ·try simp only [sx] at c5
    refine zK O<|yE O<|G O<|zA<|zD O (fun c6=>?_) (fun c6=>?_)
    ·try simp only [sx] at c6
     refine R O<|zJ O zBj<|zQ yG (A 2 O) O<|Y 1 sz31 O<|G O<|zA<|zN<|fin2 (qN yG O (A 1 O) O) (D O) ?_
     exact t6
    ·try simp only [sx] at c6
     refine R O<|yE O<|G O<|zA<|zD O (fun c7=>?_) (fun c7=>?_)
     ·try simp only [sx] at c7
      exact v15
     ·try simp only [sx] at c7
      refine R O<|yE O<|G O<|zA<|zD O (fun c8=>?_) (fun c8=>?_)
      ·try simp only [sx] at c8
       refine R O<|zQ zAm (A 3 O) O<|zJ O zCo<|zE one9 (A 2 O) O<|qS O ok83 (zBc n e.Name hn) ⟨zB,O,zB,O,T⟩<|zZ O (yA O O)<|zZ O (kB O O O)<|kP O<|zS O O (qQ [none,none,none,none,none,none,some 1,none] O zr69 O) ?_
       rintro _ _ ⟨b8,rfl,rfl⟩
       refine Y 0 sz69 O<|G O<|zA<|R O<|zJ O zEy<|zQ yG (A 0 O) O<|Y 2 sz31 O<|G O<|zA<|zN<|fin2 (qN yG O (A 2 O) O) (D O) ?_
       exact t6
      ·exact p9
theorem ref30_Kind (n:Ns) (e:Ex) (hn:n.Ok) (hpart:fM e=0) (he:e.wt<=1073741824):Pur cfg 186 [vNs n,vE e] (.tup [vTy (dO (kiN n.Bufs) e).1,vI (dO (kiN n.Bufs) e).2]):=by
  induction e using Ex.ind with
  |_ e ih=>exact zSm n hn e (fun a ha h1 h2=>ih a ha h1 h2) hpart he
theorem zHh (n:Ns) (bd:List Bd) (e:Ex) (hn:n.Ok) (hb:bd.length<=1000000) (he:e.wt<=1000000):
    Pur cfg 158 [vNs n,rX bd,vE e] (.tup [vTy (dA n.Bufs (bd.map Bd.Name) e).1,vI (dA n.Bufs (bd.map Bd.Name) e).2]):=by
 refine zW Tryz.func158 O Tryz.ntmps158 Tryz.results158 O ?_
 intro z hz
 have hnl:=nodes_wt e
 refine R O<|zS O O (qP O O) ?_
 rintro _ _ ⟨b1,rfl,rfl⟩
 refine zS O O (qP O O) ?_
 rintro _ _ ⟨b2,rfl,rfl⟩
 refine zS O O (yZ O zr31) ?_
 rintro _ _ ⟨b3,rfl,rfl⟩
 refine G O<|zA<|zF<|R O<|zQ yN (A 1 O) O<|qS O ok184 (ref14_Validate e (by omega)) ⟨zB,O,T⟩<|G O<|zA<|R O<|G O<|wA O<|zA<|zD O (fun c1=>?_) (fun c1=>?_)
 ·try simp only [sx] at c1
  refine R O<|yS O zr31 pl31<|G O<|Y 0 sz31 O<|G O<|zA<|zN<|fin2 (qN yG O (A 0 O) O) (D O) ?_
  rw [exprT_1 c1];rfl
 ·try simp only [sx] at c1
  refine zI<|R O<|zQ yN (A 1 O) O<|qS O ok135 (OwnR.pur (ref14_All e (by omega))) ⟨zB,O,T⟩<|G O<|zA<|zF<|R O<|G O<|zA<|zP<|zU ⟨[(10,.c _),(1,.c _),(3,.c _),(5,.c _),(6,.c _),(9,.c _)],[_,_,_]⟩ (Weak.mk [true,true,true] ⟨zB,zB,zB,zB,zB,zB,T⟩ O)<|qF 1 0 O O (Nat) (fun k=>[(10,vI k)]) (fun k=>[]) (fun k=>k<=(bH e).length/\(bZ n.Bufs (bd.map Bd.Name) (bH e)=bZ n.Bufs (bd.map Bd.Name) ((bH e).drop k))) (fun k=>(bH e).length-k) ⟨0,⟨by omega,O⟩,Weak.mk [true,true,true] ⟨zB,zB,zB,zB,zB,zB,T⟩ O⟩ ?_
  rintro k ⟨hk,hp⟩
  refine zF<|R O<|G O<|G O<|qD O el55<|yC O<|zA<|zD O (fun c2=>?_) (fun c2=>?_)
  ·try simp only [sx] at c2
   obtain ⟨x,hx⟩:=qU (bH e) k (by omega)
   refine zI<|zF<|zP<|zF<|qW 8 mixed (by kernel_rfl) O O<|zL O O (qC O zAm O (A 2 O) O)<|zL O O (zM O O)<|zL O O (zM O O)<|zL O O (zM O O)<|zL O O (qH O el55 O O (by omega) (wF (by assumption)))<|zL O O (qC O yN O zO O)<|zL O O (qR O ok185 (ref30_node n bd x hn hb (by have:=zEv e x (qE hx);omega)) ⟨zB,O,zB,O,zB,O,T⟩)<|zL O O (yR O O)<|yM<|zA<|R O<|G O<|wA O<|zA<|zD O (fun c3=>?_) (fun c3=>?_)
   ·try simp only [sx] at c3
    refine R O<|yS O zr31 pl31<|G O<|Y 0 sz31 O<|G O<|zA<|zN<|fin2 (qN yG O (A 0 O) O) (D O) ?_
    rw [exprT_2 c1 (by rw [hp,nodesN_no hx c3];exact c3),hp,nodesN_no hx c3];rfl
   ·try simp only [sx] at c3
    refine zI<|zK O<|G O<|qA O ⟨by omega,by omega⟩<|G O<|zA ?_
    refine ⟨k+1,⟨by omega,hp.trans (nodesN_at hx c3)⟩,(by omega),Weak.mk [true,true,true] ⟨zB,zB,zB,zB,zB,zB,T⟩ O⟩
  ·try simp only [sx] at c2
   refine qK<|R O<|zQ zAm (A 2 O) O<|zQ yN (A 1 O) O<|qS O ok186 (ref30_Kind n e hn (zJp c1) (by omega)) ⟨zB,O,zB,O,T⟩<|zZ O (kB O O O)<|kP O<|Y 0 sz31 O<|G O<|zA<|zN<|fin2 (qN yG O (A 0 O) O) (D O) ?_
   rw [exprT_k c1 (by rw [hp,wG (by omega)];rfl)];rfl
theorem ref30_plain (s:St) (hs:s.wt<=900000000):
    Pur cfg 157 [vSt s] (vB (fL s)):=by
 refine zW Tryz.func157 O Tryz.ntmps157 Tryz.results157 O ?_
 intro z hz
 obtain ⟨hE,hI,hIw,hB,hBw⟩:=St.parts hs
 refine R O<|zS O O (qP O O) ?_
 rintro _ _ ⟨b1,rfl,rfl⟩
 refine G O<|zA<|zF<|qW 8 mixed (by kernel_rfl) O O<|zL O O (zH O zBr O)<|zL O O (zC O one3 O (A 0 O) O)<|zL O O (kH O O O)<|zL O O (zH O zBr O)<|zL O O (zC O one3 O (A 0 O) O)<|zL O O (kH O O O)<|zL O O (yR O O)<|zL O O (yR O O)<|yM<|zA<|R O<|zJ O zBr<|zE one3 (A 0 O) O<|yE O<|G O<|rL0 O (fun g2_3=>zH O zBr O) O<|B 16 O (fun g2_3=>zC O one3 O (A 0 O) O) O<|B 17 O (fun g2_3=>kH O O O) O<|r_or O (fun h=>(lzf h))<|G O<|zA<|zF<|R O<|G O<|wE O<|G O<|rL0 O (fun g3_2=>zM O O) O<|B 23 O (fun g3_2=>wJ O O) O<|yW O (fun h=>h)<|G O<|rL0 O (fun g3_6=>zM O O) O<|B 27 O (fun g3_6=>wJ O O) O<|yW O (fun h=>h)<|zA<|zD O (fun c1=>?_) (fun c1=>?_)
 ·refine R O<|G O<|zA<|zN<|zV O ?_
  exact congrArg vB (pln_1 c1)
 ·refine zI<|zF<|R O<|G O<|wE O<|G O<|rL0 O (fun g5_2=>zH O zIc O) O<|B 33 O (fun g5_2=>zC O one3 O (A 0 O) O) O<|B 34 O (fun g5_2=>zAi O O O) O<|B 35 O (fun g5_2=>zM O O) O<|rLz [] O N T (fun g5_6=>zH O zNg O) O<|rLz [(37,_)] O N ⟨O,O,T⟩ (fun g5_6=>zC O one3 O (A 0 O) O) O<|rLz [(38,_)] O N ⟨O,O,T⟩ (fun g5_6=>zAi O O O) O<|B 36 O (fun g5_2=>zAq O O O O (fun h=>kO (by assumption) (lzf h))) O<|yW O (fun h=>h)<|G O<|rL0 O (fun g5_12=>zH O zBr O) O<|B 43 O (fun g5_12=>zC O one3 O (A 0 O) O) O<|B 44 O (fun g5_12=>zAi O O O) O<|B 45 O (fun g5_12=>zM O O) O<|rLz [] O N T (fun g5_16=>zH O zPt O) O<|rLz [(47,_)] O N ⟨O,O,T⟩ (fun g5_16=>zC O one3 O (A 0 O) O) O<|rLz [(48,_)] O N ⟨O,O,T⟩ (fun g5_16=>zAi O O O) O<|B 46 O (fun g5_12=>wV O O O (fun h=>kO (by assumption) h) O) O<|r_or O (fun h=>(lzf h))<|G O<|rL0 O (fun g5_22=>zM O O) O<|B 53 O (fun g5_22=>zM O O) O<|rLz [] O N T (fun g5_24=>zH O zBq O) O<|rLz [(55,_)] O N ⟨O,O,T⟩ (fun g5_24=>zC O one9 O (A 0 O) O) O<|rLz [(56,_)] O N ⟨O,O,T⟩ (fun g5_24=>zAv O O O) O<|B 54 O (fun g5_22=>wV O O O (fun h=>kO (by assumption) h) O) O<|r_or O (fun h=>(lzf h))<|zA<|zD O (fun c2=>?_) (fun c2=>?_)
  ·refine R O<|G O<|zA<|zN<|zV O ?_
   exact congrArg vB (pln_2 c2)
  ·refine zI<|zF<|R O<|G O<|wE O<|G O<|rL0 O (fun g7_2=>zH O zEz O) O<|B 63 O (fun g7_2=>zC O wI O (A 0 O) O) O<|B 64 O (fun g7_2=>yV O el51 O) O<|B 65 O (fun g7_2=>yH O O O) O<|yW O (fun h=>h)<|G O<|rL0 O (fun g7_8=>zM O O) O<|B 69 O (fun g7_8=>zM O O) O<|rLz [] O N T (fun g7_10=>zH O zBb O) O<|rLz [(71,_)] O N ⟨O,O,T⟩ (fun g7_10=>zC O zAh O (A 0 O) O) O<|rLz [(72,_)] O N ⟨O,O,T⟩ (fun g7_10=>yV O el23 O) O<|rLz [(73,_)] O N ⟨O,O,T⟩ (fun g7_10=>yH O O O) O<|B 70 O (fun g7_8=>wV O O O (fun h=>kO (by assumption) h) O) O<|r_or O (fun h=>(lzf h))<|zA<|zD O (fun c3=>?_) (fun c3=>?_)
   ·refine R O<|G O<|zA<|zN<|zV O ?_
    exact congrArg vB (pln_3 c3)
   ·refine zI<|R O<|G O<|wE O<|G O<|rL0 O (fun g9_2=>zH O zBi O) O<|B 80 O (fun g9_2=>qC O yN O (A 0 O) O) O<|rL0 O (fun g9_2=>kT [none,none,none,none,none,none,none,none,none,none,some 2,some 4,some 13] O zr57 pl57 O O) O<|rLz [(81,_),(82,_)] O gv1 ⟨O,O,O,O,T⟩ (fun g9_2=>qR O ok183 (base_Expr s.E zEx (by omega)) ⟨zB,O,zB,O,T⟩) O<|r_or O (fun h=>(lzf h))<|G O<|zA<|zN<|zV O ?_
    exact congrArg vB (pln_4 c1 c2 c3)
theorem ref30_store (n:Ns) (bd:List Bd) (s:St) (hn:n.Ok) (hb:bd.length<=1000000) (hs:s.wt<=900000):
    Pur cfg 160 [vNs n,rX bd,vSt s] (vI (gL n.Bufs (bd.map Bd.Name) s)):=by
 refine zW Tryz.func160 O Tryz.ntmps160 Tryz.results160 O ?_
 intro z hz
 obtain ⟨hE,hI,hIw,hB,hBw⟩:=St.parts hs
 have hrd:=rdE_wt s
 refine R O<|zS O O (qP O O) ?_
 rintro _ _ ⟨b1,rfl,rfl⟩
 refine zS O O (qP O O) ?_
 rintro _ _ ⟨b2,rfl,rfl⟩
 refine G O<|zA<|zF<|R O<|zQ zAm (A 1 O) O<|G O<|zJ O zBq<|zE one9 (A 0 O) O<|zJ O zEz<|zE wI (A 0 O) O<|zZ O (kT [none,none,none,none,none,none,none,none,none,none,some 2,none,some 13] O zr57 pl57 O O)<|qS O ok158 (zHh n bd (rdE s) hn hb (by omega)) ⟨zB,O,zB,O,zB,O,T⟩<|zZ O (yA O O)<|zZ O (kB O O O)<|kP O<|zS O O (yZ O zr31) ?_
 rintro _ _ ⟨b3,rfl,rfl⟩
 refine Y 0 sz31 O<|G O<|zA<|R O<|G O<|wA O<|zA<|zD O (fun c1=>?_) (fun c1=>?_)
 ·try simp only [sx] at c1
  refine R O<|G O<|G O<|zA<|zN<|zV O ?_
  rw [storeE_1 c1]
 ·try simp only [sx] at c1
  refine zI<|R O<|zQ zAm (A 2 O) O<|zJ O zBq<|zE one9 (A 1 O) O<|qS O ok83 (zBc n s.Name hn) ⟨zB,O,zB,O,T⟩<|zZ O (yA O O)<|zZ O (kB O O O)<|kP O<|zS O O (qQ [none,none,none,none,none,none,some 1,none] O zr69 O) ?_
  rintro _ _ ⟨b4,rfl,rfl⟩
  refine Y 0 sz69 O<|G O<|zA<|zF<|R O<|zJ O zIb<|zE one3 (A 0 O) O<|yE O<|G O<|rL0 O (fun g5_3=>zH O zBr O) O<|B 38 O (fun g5_3=>zC O one3 O (A 2 O) O) O<|B 39 O (fun g5_3=>kH O O O) O<|B 40 O (fun g5_3=>zM O O) O<|rLz [] O N T (fun g5_7=>zH O zPt O) O<|rLz [(42,_)] O N ⟨O,O,T⟩ (fun g5_7=>zC O one3 O (A 2 O) O) O<|rLz [(43,_)] O N ⟨O,O,T⟩ (fun g5_7=>kM O O O) O<|rLz [(44,_)] O N ⟨O,O,T⟩ (fun g5_7=>zM O O) O<|rLz [] O N T (fun g5_11=>zH O zPt O) O<|rLz [(46,_)] O N ⟨O,O,T⟩ (fun g5_11=>zC O one3 O (A 2 O) O) O<|rLz [(47,_)] O N ⟨O,O,T⟩ (fun g5_11=>yH O O O) O<|rLz [(45,_)] O N ⟨O,O,T⟩ (fun g5_7=>zAq O O O O (fun h=>kO (by assumption) (lzf h))) O<|B 41 O (fun g5_3=>wV O O O (fun h=>kO (by assumption) h) O) O<|r_or O (fun h=>(lzf h))<|zA<|zD O (fun c2=>?_) (fun c2=>?_)
  ·try simp only [sx] at c2
   refine R O<|G O<|zA<|zN<|zV O ?_
   rw [storeE_u c1 c2]
  ·try simp only [sx] at c2
   refine zI<|R O<|zQ zAm (A 3 O) O<|G O<|zJ O zBi<|zQ yN (A 2 O) O<|qS O ok158 (zHh n bd s.E hn hb (by omega)) ⟨zB,O,zB,O,zB,O,T⟩<|zZ O (yA O O)<|zZ O (kB O O O)<|kP O<|zS O O (yZ O zr31) ?_
   rintro _ _ ⟨b5,rfl,rfl⟩
   refine Y 0 sz31 O<|G O<|zA<|zF<|R O<|G O<|yE O<|G O<|rL0 O (fun g8_2=>zH O zBi O) O<|B 63 O (fun g8_2=>qC O yN O (A 3 O) O) O<|B 64 O (fun g8_2=>qR O ok159 (wD _) ⟨zB,O,T⟩) O<|B 65 O (fun g8_2=>zM O O) O<|rLz [] O N T (fun g8_6=>qC O yG O (A 0 O) O) O<|rLz [] O N T (fun g8_6=>zH O zEy O) O<|rLz [(68,_)] O N ⟨O,O,T⟩ (fun g8_6=>qC O yG O (A 1 O) O) O<|rLz [(67,_),(69,_)] O N ⟨O,O,O,O,T⟩ (fun g8_6=>zAw O fl31 O O O) O<|B 66 O (fun g8_2=>zAq O O O O (fun h=>kO (by assumption) (lzf h))) O<|yW O (fun h=>h)<|zA<|zD O (fun c3=>?_) (fun c3=>?_)
   ·obtain ⟨h0,h10⟩:=st3_t c3
    refine R O<|G O<|zA<|zN<|zV O ?_
    rw [storeE_10 c1 (by omega) h0 h10]
   ·have h3:=st3_f c3
    refine zI<|R O<|G O<|G O<|zA<|zN<|zV O ?_
    rw [st_fin c1 (by omega) h3]
theorem ref30_one (n:Ns) (bd:List Bd) (U:List ByteArray) (s:St) (hn:n.Ok) (hb:bd.length<=1000000) (hs:s.wt<=900000) (hU:U.length<=1000000):
    Pur cfg 122 [vNs n,rX bd,vSs U,vSt s] (vI (stE n.Bufs U (bd.map Bd.Name) s)):=by
 refine zW Tryz.func122 O Tryz.ntmps122 Tryz.results122 O ?_
 intro z hz
 obtain ⟨hE,hI,hIw,hB,hBw⟩:=St.parts hs
 refine R O<|zS O O (qP O O) ?_
 rintro _ _ ⟨b1,rfl,rfl⟩
 refine zS O O (qP O O) ?_
 rintro _ _ ⟨b2,rfl,rfl⟩
 refine G O<|zA<|zF<|R O<|zQ zEi (A 0 O) O<|qS O ok157 (ref30_plain s (by omega)) ⟨zB,O,T⟩<|wE O<|zA<|zD O (fun c1=>?_) (fun c1=>?_)
 ·try simp only [sx] at c1
  refine R O<|G O<|zA<|zN<|zV O ?_
  rw [stE_5 c1]
 ·try simp only [sx] at c1
  refine zI<|zF<|R O<|zJ O zBr<|zE one3 (A 0 O) O<|zA<|zP<|R O<|yE O<|G O<|zA<|zD O (fun c2=>?_) (fun c2=>?_)
  ·try simp only [sx] at c2
   refine R O<|zQ zAm (A 1 O) O<|zJ O zBq<|zE one9 (A 0 O) O<|qS O ok83 (zBc n s.Name hn) ⟨zB,O,zB,O,T⟩<|zZ O (yA O O)<|zZ O (kB O O O)<|kP O<|zS O O (qQ [none,none,none,none,none,none,some 1,none] O zr69 O) ?_
   rintro _ _ ⟨b3,rfl,rfl⟩
   refine Y 0 sz69 O<|G O<|zA<|zF<|zP<|R O<|zJ O zBq<|zE one9 (A 1 O) O<|qS O ok120 (zGv s.Name) ⟨zB,O,T⟩<|wE O<|G O<|zA<|zD O (fun c3=>?_) (fun c3=>?_)
   ·try simp only [sx] at c3
    refine R O<|G O<|zA<|zN<|zV O ?_
    rw [stE_l c1 c2,loopE_7 c3]
   ·try simp only [sx] at c3
    refine R O<|G O<|G O<|rL0 O (fun g8_1=>zM O O) O<|rL0 O (fun g8_1=>zH O zBq O) O<|B 36 O (fun g8_1=>zC O one9 O (A 1 O) O) O<|rLz [(35,_),(37,_)] O gv1 ⟨O,O,O,O,T⟩ (fun g8_1=>qR O ok94 (zRj U s.Name (by omega)) ⟨zB,O,zB,O,T⟩) O<|r_or O (fun h=>(lzf h))<|G O<|zA<|zD O (fun c4=>?_) (fun c4=>?_)
    ·try simp only [sx] at c4
     refine R O<|G O<|zA<|zN<|zV O ?_
     rw [stE_l c1 c2,loopE_8 c3 c4]
    ·try simp only [sx] at c4
     have h8:¬(bO n.Bufs s.Name=true∨bR U s.Name=true):=by rw [c4.1,c4.2];simp
     refine R O<|zJ O zIc<|zE one3 (A 1 O) O<|yC O<|G O<|rL0 O (fun g10_3=>zH O zIc O) O<|B 45 O (fun g10_3=>zC O one3 O (A 1 O) O) O<|B 46 O (fun g10_3=>yH O O O) O<|r_or O (fun h=>(lzf h))<|G O<|rL0 O (fun g10_8=>zH O zNg O) O<|B 50 O (fun g10_8=>zC O one3 O (A 1 O) O) O<|B 51 O (fun g10_8=>kM O O O) O<|r_or O (fun h=>(lzf h))<|G O<|rL0 O (fun g10_13=>zH O zNg O) O<|B 55 O (fun g10_13=>zC O one3 O (A 1 O) O) O<|B 56 O (fun g10_13=>yH O O O) O<|r_or O (fun h=>(lzf h))<|G O<|zA<|zD O (fun c5=>?_) (fun c5=>?_)
     ·try simp only [sx] at c5
      refine R O<|G O<|zA<|zN<|zV O ?_
      rw [stE_l c1 c2,loopE_1 c3 h8 (by omega)]
     ·try simp only [sx] at c5
      refine zI<|R O<|G O<|zA<|zN<|zV O ?_
      rw [stE_l c1 c2,loopE_0 c3 h8 (by omega)]
  ·try simp only [sx] at c2
   refine R O<|yE O<|G O<|zA<|zD O (fun c6=>?_) (fun c6=>?_)
   ·try simp only [sx] at c6
    refine R O<|zQ zAm (A 1 O) O<|G O<|zJ O zBi<|zQ yN (A 0 O) O<|qS O ok158 (zHh n bd s.E hn hb (by omega)) ⟨zB,O,zB,O,zB,O,T⟩<|zZ O (yA O O)<|zZ O (kB O O O)<|kP O<|zS O O (yZ O zr31) ?_
    rintro _ _ ⟨b4,rfl,rfl⟩
    refine Y 0 sz31 O<|G O<|zA<|zF<|R O<|G O<|yE O<|G O<|rL0 O (fun g15_2=>zH O zBi O) O<|B 72 O (fun g15_2=>qC O yN O (A 1 O) O) O<|B 73 O (fun g15_2=>qR O ok159 (wD _) ⟨zB,O,T⟩) O<|B 74 O (fun g15_2=>wJ O O) O<|yW O (fun h=>h)<|zA<|zD O (fun c7=>?_) (fun c7=>?_)
    ·refine R O<|G O<|zA<|zN<|zV O ?_
     rw [stE_i c1 c6,if_t c7]
    ·refine zI<|R O<|G O<|G O<|zA<|zN<|zV O ?_
     rw [stE_i c1 c6,if_fin c7]
   ·try simp only [sx] at c6
    refine zI<|R O<|zQ zAm (A 1 O) O<|G O<|zQ zEi (A 0 O) O<|qS O ok160 (ref30_store n bd s hn hb hs) ⟨zB,O,zB,O,zB,O,T⟩<|G O<|zA<|zN<|zV O ?_
    rw [stE_s c1 c2 c6]
set_option maxHeartbeats 2000000 in
theorem zIy (n:Ns) (bd:List Bd) (U:List ByteArray) (l:List St) (W:List Int) (hn:n.Ok) (hU:U.length+dJ l<=1000000) (hb:bd.length+dJ l<=1000000) (hW:W.length+dJ l<=1000000) (hl:bE l<=900000) (ih:∀s,s∈l->∀(bd:List Bd) (U:List ByteArray) (W:List Int),U.length+dJ s.Body<=1000000->bd.length+dJ s.Body<=1000000->W.length+dJ s.Body<=1000000->Pur cfg 71 [vNs n,rX bd,vSs U,dM s.Body,vIs W] (ckC (dV n.Bufs U (bd.map Bd.Name) W 0 s.Body))):
    Pur cfg 71 [vNs n,rX bd,vSs U,dM l,vIs W] (ckC (dV n.Bufs U (bd.map Bd.Name) W 0 l)):=by
 refine zW Tryz.func71 O Tryz.ntmps71 Tryz.results71 O ?_
 intro z hz
 have hll:=wH l
 have hlN:=zEl l
 refine R O<|zS O O (qP O O) ?_
 rintro _ _ ⟨b1,rfl,rfl⟩
 refine zS O O (qQ [some 1,some 1,none] O zr128 O) ?_
 rintro _ _ ⟨b2,rfl,rfl⟩
 refine zA<|zF<|R O<|G O<|zA<|zP<|zU ⟨[(11,.c _),(2,.c _),(1,.c _),(3,.c _),(4,.c _),(5,.c _),(10,.c _)],[_,_]⟩ (Weak.mk [true,true] ⟨zB,zB,zB,zB,zB,zB,zB,T⟩ O)<|qF 2 0 O O (Nat×List ByteArray) (fun ⟨k,u⟩=>[(11,vI k),(2,vSs u)]) (fun ⟨k,u⟩=>[]) (fun ⟨k,u⟩=>k<=l.length/\(u.length+dJ (l.drop k)<=1000000)/\((dV n.Bufs U (bd.map Bd.Name) W 0 l)=dV n.Bufs u (bd.map Bd.Name) W k (l.drop k))) (fun ⟨k,u⟩=>l.length-k) ⟨⟨0,U⟩,⟨by omega,by simpa using hU,O⟩,Weak.mk [true,true] ⟨zB,VLe.of_eq (O),zB,zB,zB,zB,zB,T⟩ O⟩ ?_
 rintro ⟨k,u⟩ ⟨hk,hub,hp⟩
 show AWP _ _ _ _ _ ⟨[(11,vI k),(2,vSs u)]++_,[]++_⟩
 refine zF<|R O<|G O<|G O<|qD O el23<|yC O<|zA<|zD O (fun c1=>?_) (fun c1=>?_)
 ·try simp only [sx] at c1
  obtain ⟨s,hs⟩:=qU l k (by omega)
  have hsw:=kC (qE hs)
  have hsb:=St.body_wt s
  have hsn:=stsN_drop hs
  have hse:=zPk s
  have hsm:=zQn (qE hs)
  have hcl:=chkS_len n.Bufs s u (bd.map Bd.Name) (W++[(k:Int)])
  refine zI<|zF<|zP<|R O<|zZ O (zHs O el67 zr3)<|G O<|zS O O (zHj O el67 O O (by simp only [List.length_map,List.length_append,List.length_cons,List.length_nil];omega) (by simp only [List.length_map,List.length_append,List.length_cons,List.length_nil];omega)) ?_
  rintro _ _ ⟨sv3,rfl,rfl⟩
  refine G O<|zZ O (yJ O el67 zr3 O O O O)<|zS O O (yI 0 O el67 O O O (by simp only [List.length_map,List.length_append,List.length_cons,List.length_nil];omega) (by simp only [List.length_map,List.length_append,List.length_cons,List.length_nil];omega)) ?_
  rintro _ _ ⟨sv4,rfl,rfl⟩
  refine G O<|zA<|zF<|zF<|zU _ (Weak.vecEq 0 O (rows':=(W++[(k:Int)]).map fun i=>[cI i]) (by first|rfl|simp|rw [List.take_of_length_le (by simp)]))<|zU _ (yT 0 O (regs':=[(27,_),(12,_)]) (μ':=[_,_]) ⟨FLe.sl,FLe.sl,T⟩ ⟨EFle.refl _,EFle.refl _,T⟩)<|qW 9 mixed (by kernel_rfl) O O<|zL O O (qC O zAm O (A 1 O) O)<|zL O O (zM O O)<|zL O O (zM O O)<|zL O O (zM O O)<|zL O O (zM O O)<|zL O O (qH O el23 O O (by omega) (zCc (by assumption)))<|zL O O (qC O zEi O zO O)<|zL O O (qR O ok122 (ref30_one n bd u s hn (by omega) (by have:=kC (qE hs);omega) (by omega)) ⟨zB,O,zB,O,zB,O,zB,O,T⟩)<|zL O O (yR O O)<|yM<|zA<|R O<|G O<|wA O<|zA<|zD O (fun c2=>?_) (fun c2=>?_)
  ·try simp only [sx] at c2
   have hx0:=chkS_no (here:=W++[(k:Int)]) (B:=n.Bufs) (U:=u) (sc:=(bd.map Bd.Name)) (s:=s) c2
   refine R O<|G O<|G O<|zZ O (kT [some 1,none,none] O zr128 pl128 O O)<|Y 0 sz128 O<|zA<|zN<|fin1 (qN agg128 O (A 0 O) O) ?_
   rw [zEh hs hp (by rw [hx0];exact c2),hx0];rfl
  ·try simp only [sx] at c2
   have hin:=chkS_in (here:=W++[(k:Int)]) (B:=n.Bufs) (U:=u) (sc:=(bd.map Bd.Name)) (s:=s) c2
   refine zI<|R O<|G O<|G O<|zA<|zF<|R O<|G O<|G O<|zY O el23 (by omega) (zCc (by assumption))<|zT O zBr<|zE one3 zO O<|yE O<|zA<|zD O (fun c3=>?_) (fun c3=>?_)
   ·try simp only [sx] at c3
    rw [zJc c3,zJc c3,←map_bd] at hin
    refine zF<|yL 9 1 [⟨0,.q []⟩,⟨1,.q []⟩,⟨3,.q []⟩,⟨4,.q []⟩,⟨5,.q []⟩,⟨6,.q []⟩,⟨7,.q []⟩,⟨8,.q []⟩,⟨2,.e 0 []⟩] mixed (by kernel_rfl) (by kernel_rfl) O O O<|J O<|J O<|J O<|J O<|J O<|J O<|J O<|J O<|J O<|wQ<|zX O (by decide) O O (zHs O el78 zr9)<|zX O (by decide) O O (zM O O)<|zX O (by decide) O O (zM O O)<|zX O (by decide) O O (zM O O)<|zX O (by decide) O O (qH O el23 O O (by omega) (zCc (by assumption)))<|zX O (by decide) O O (qB O zBq O)<|zX O (by decide) O O (zC O one9 O zO O)<|zX O (by decide) O O (yJ O el78 zr9 O O O O)<|zEs O O (by decide) O O (zHj O el78 O O (by simp only [List.length_map,List.length_append,List.length_cons,List.length_nil];omega) (by simp only [List.length_map,List.length_append,List.length_cons,List.length_nil];omega)) ?_
    rintro _ _ ⟨sv5,rfl,rfl⟩
    refine ⟨_,O,?_⟩
    refine wP O<|zS O O (yI 0 O el78 O O O (by simp only [List.length_map,List.length_append,List.length_cons,List.length_nil];omega) (by simp only [List.length_map,List.length_append,List.length_cons,List.length_nil];omega)) ?_
    rintro _ _ ⟨sv6,rfl,rfl⟩
    refine G O<|zA<|yL 15 1 [⟨0,.q []⟩,⟨1,.q []⟩,⟨3,.q []⟩,⟨4,.q []⟩,⟨5,.q []⟩,⟨6,.q []⟩,⟨7,.q []⟩,⟨8,.q []⟩,⟨9,.q []⟩,⟨10,.q []⟩,⟨11,.q []⟩,⟨12,.q []⟩,⟨13,.q []⟩,⟨14,.q []⟩,⟨2,.e 0 []⟩] mixed (by kernel_rfl) (by kernel_rfl) O O O<|J O<|J O<|J O<|J O<|J O<|J O<|J O<|J O<|J O<|J O<|J O<|J O<|J O<|J O<|J O<|wQ<|zX O (by decide) O O (zHs O el171 zr174)<|zX O (by decide) O O (zM O O)<|zX O (by decide) O O (zM O O)<|zX O (by decide) O O (zM O O)<|zX O (by decide) O O (qH O el23 O O (by omega) (zCc (by assumption)))<|zX O (by decide) O O (qB O zBq O)<|zX O (by decide) O O (zC O one9 O zO O)<|zX O (by decide) O O (zM O O)<|zX O (by decide) O O (zM O O)<|zX O (by decide) O O (qH O el23 O O (by omega) (zCc (by assumption)))<|zX O (by decide) O O (qB O zIc O)<|zX O (by decide) O O (zC O one3 O zO O)<|zX O (by decide) O O (kU O zr174 pl174 O)<|zX O (by decide) O O (yJ O el171 zr174 O O O O)<|zEs O O (by decide) O O (zHj O el171 O O (by simp only [List.length_map,List.length_append,List.length_cons,List.length_nil];omega) (by simp only [List.length_map,List.length_append,List.length_cons,List.length_nil];omega)) ?_
    rintro _ _ ⟨sv7,rfl,rfl⟩
    refine ⟨_,O,?_⟩
    refine wP O<|zS O O (yI 0 O el171 O O O (by simp only [List.length_map,List.length_append,List.length_cons,List.length_nil];omega) (by simp only [List.length_map,List.length_append,List.length_cons,List.length_nil];omega)) ?_
    rintro _ _ ⟨sv8,rfl,rfl⟩
    refine G O<|zA<|zF<|zU _ (Weak.vecEq 1 O (rows':=(u++[s.Name]).map fun s=>[cS s]) (by first|rfl|simp|rw [List.take_of_length_le (by simp)]))<|zU _ (yT 1 O (regs':=[(2,_),(57,_)]) (μ':=[_,_,_]) ⟨FLe.sl,FLe.sl,T⟩ ⟨EFle.refl _,EFle.refl _,EFle.refl _,T⟩)<|zU _ (Weak.vecEq 0 O (rows':=(bd++[(⟨s.Name,s.Many⟩:Bd)]).map Bd.cells) (by rw [List.map_append];rfl))<|zU _ (yT 0 O (regs':=[(14,_),(73,_)]) (μ':=[_,_]) ⟨FLe.sl,FLe.sl,T⟩ ⟨EFle.refl _,EFle.refl _,T⟩)<|yL 11 1 [⟨0,.q [2]⟩,⟨1,.q []⟩,⟨2,.q []⟩,⟨3,.q []⟩,⟨4,.q []⟩,⟨5,.q []⟩,⟨6,.q []⟩,⟨7,.q []⟩,⟨8,.q []⟩,⟨9,.q []⟩,⟨10,.f 0⟩] mixed (by kernel_rfl) (by kernel_rfl) O O O<|J O<|J O<|J O<|J O<|J O<|J O<|J O<|J O<|J O<|J O<|zKb O O (zDa (qQ [some 1,some 1,none] O zr128 O)) ⟨_,_,0,O,O⟩<|wQ<|zX O (by decide) O O (qC O zAm O (A 0 O) O)<|zX O (by decide) O O (zM O O)<|zX O (by decide) O O (zM O O)<|zX O (by decide) O O (zM O O)<|zX O (by decide) O O (zM O O)<|zX O (by decide) O O (qH O el23 O O (by omega) (zCc (by assumption)))<|zX O (by decide) O O (qB O zBb O)<|zX O (by decide) O O (zC O zAh O zO O)<|zX O (by decide) O O (zM O O)<|zX O (by decide) O O (qR O ok71 (ih s (qE hs) (bd++[(⟨s.Name,s.Many⟩:Bd)]) (u++[s.Name]) (W++[(k:Int)]) (by first|omega|(simp;omega)) (by first|omega|(simp;omega)) (by simp;omega)) ⟨zB,O,zB,O,zB,O,zB,O,zB,O,T⟩)<|zJt O O ?_
    rintro _ _ ⟨b9,rfl,rfl⟩
    exact o5
   ·try simp only [sx] at c3
    rw [zMs c3,zMs c3] at hin
    refine zI<|zF<|yL 11 1 [⟨0,.q [2]⟩,⟨1,.q []⟩,⟨2,.q []⟩,⟨3,.q []⟩,⟨4,.q []⟩,⟨5,.q []⟩,⟨6,.q []⟩,⟨7,.q []⟩,⟨8,.q []⟩,⟨9,.q []⟩,⟨10,.f 0⟩] mixed (by kernel_rfl) (by kernel_rfl) O O O<|J O<|J O<|J O<|J O<|J O<|J O<|J O<|J O<|J O<|J O<|zKb O O (zDa (qQ [some 1,some 1,none] O zr128 O)) ⟨_,_,0,O,O⟩<|wQ<|zX O (by decide) O O (qC O zAm O (A 0 O) O)<|zX O (by decide) O O (zM O O)<|zX O (by decide) O O (zM O O)<|zX O (by decide) O O (zM O O)<|zX O (by decide) O O (zM O O)<|zX O (by decide) O O (qH O el23 O O (by omega) (zCc (by assumption)))<|zX O (by decide) O O (qB O zBb O)<|zX O (by decide) O O (zC O zAh O zO O)<|zX O (by decide) O O (zM O O)<|zX O (by decide) O O (qR O ok71 (ih s (qE hs) bd u (W++[(k:Int)]) (by first|omega|(simp;omega)) (by first|omega|(simp;omega)) (by simp;omega)) ⟨zB,O,zB,O,zB,O,zB,O,zB,O,T⟩)<|zJt O O ?_
    rintro _ _ ⟨b10,rfl,rfl⟩
    exact o5
 ·try simp only [sx] at c1
  refine qK<|R O<|G O<|zZ O (kT [none,some 1,none] O zr128 pl128 O O)<|Y 0 sz128 O<|zA<|zN<|fin1 (qN agg128 O (A 0 O) O) ?_
  rw [zRh hp (by omega)];rfl
theorem zSk (n:Ns) (hn:n.Ok) (s:St) (hl:bE s.Body<=900000):∀(bd:List Bd) (U:List ByteArray) (W:List Int),U.length+dJ s.Body<=1000000->bd.length+dJ s.Body<=1000000->W.length+dJ s.Body<=1000000->Pur cfg 71 [vNs n,rX bd,vSs U,dM s.Body,vIs W] (ckC (dV n.Bufs U (bd.map Bd.Name) W 0 s.Body)):=by
  induction s using St.ind with
  |_ s ih=>
    intro bd U W hU hb hW
    refine zIy n bd U s.Body W hn hU hb hW hl fun a ha=>ih a ha ?_
    have:=kC ha;have:=St.body_wt a;omega
theorem ref30_body (n:Ns) (bd:List Bd) (U:List ByteArray) (l:List St) (W:List Int)  (hn:n.Ok) (hU:U.length+dJ l<=1000000) (hb:bd.length+dJ l<=1000000) (hW:W.length+dJ l<=1000000) (hl:bE l<=900000):Pur cfg 71 [vNs n,rX bd,vSs U,dM l,vIs W] (ckC (dV n.Bufs U (bd.map Bd.Name) W 0 l)):=
  zIy n bd U l W hn hU hb hW hl fun s hs=>zSk n hn s (by have:=kC hs;have:=St.body_wt s;omega)
theorem zKr (n:Ns) (hn:n.Ok) (hw:bE n.Body<=900000):
    Pur cfg 31 [vNs n] (.tup [vIs (bY n).1,vI (bY n).2]):=by
 refine zW Tryz.func31 O Tryz.ntmps31 Tryz.results31 O ?_
 intro z hz
 refine R O<|zS O O (qP O O) ?_
 rintro _ _ ⟨b1,rfl,rfl⟩
 refine zZ O (yO 1 O O)<|G O<|zA<|zF<|R O<|zJ O zBs<|zE zAh (A 0 O) O<|qS O ok68 (ref30_depth 41 n.Body 41 (by omega) (by omega) O) ⟨zB,O,zB,O,T⟩<|zZ O (yH O O O)<|zA<|zD O (fun c1=>?_) (fun c1=>?_)
 ·try simp only [sx] at c1
  have hwi:=within_f c1
  refine R O<|zZ O (yO 1 O O)<|G O<|zA<|zN<|fin2 (D O) (D O) ?_
  rw [zRu hwi];rfl
 ·try simp only [sx] at c1
  have hwi:=within_t c1
  refine zI<|zF<|R O<|zJ O zBs<|zE zAh (A 0 O) O<|qS O ok69 (ref30_size n.Body 2000 2000 (by omega) (by omega) O) ⟨zB,O,zB,O,T⟩<|zZ O (yH O O O)<|G O<|rL0 O (fun g3_4=>zH O zAn O) O<|B 15 O (fun g3_4=>zC O zDg O (A 0 O) O) O<|B 16 O (fun g3_4=>yV O el22 O) O<|B 17 O (fun g3_4=>yH O O O) O<|r_or O (fun h=>(lzf h))<|zA<|zD O (fun c2=>?_) (fun c2=>?_)
  ·try simp only [sx] at c2
   refine R O<|zZ O (yO 1 O O)<|G O<|zA<|zN<|fin2 (D O) (D O) ?_
   rw [validN_2 hwi (by omega)];rfl
  ·try simp only [sx] at c2
   have hnum:=numB_ok (l:=n.Body) (m:=2000) (by omega)
   refine zI<|zF<|R O<|zQ zAm (A 0 O) O<|qS O ok70 (ref30_bufs n hn) ⟨zB,O,T⟩<|G O<|zA<|R O<|G O<|wA O<|zA<|zD O (fun c3=>?_) (fun c3=>?_)
   ·try simp only [sx] at c3
    refine R O<|G O<|zZ O (yO 1 O O)<|G O<|zA<|zN<|fin2 (D O) (D O) ?_
    rw [validN_b hwi (by omega) c3];rfl
   ·try simp only [sx] at c3
    refine zI<|R O<|zQ zAm (A 0 O) O<|zJ O zBs<|zE zAh (A 0 O) O<|qS O ok71 (ref30_body n [] [] n.Body [] hn (by simp;omega) (by simp;omega) (by simp;omega) hw) ⟨zB,O,VLe.nil,O,VLe.nil,O,zB,O,VLe.nil,O,T⟩<|zS O O (qQ [some 1,some 1,none] O zr128 O) ?_
    rintro _ _ ⟨b2,rfl,rfl⟩
    refine Y 0 sz128 O<|zA<|zF<|qW 6 mixed (by kernel_rfl) O O<|zL O O (zH O fd128_1 O)<|zL O O (zC O zCy O (A 0 O) O)<|zL O O (zH O fd128_2 O)<|zL O O (zC O zJa O (A 0 O) O)<|zL O O (yR O O)<|zL O O (yR O O)<|yM<|zA<|zN<|fin2 (D O) (D O) ?_
    rw [zQk hwi (by omega) c3];rfl
end Go.W
