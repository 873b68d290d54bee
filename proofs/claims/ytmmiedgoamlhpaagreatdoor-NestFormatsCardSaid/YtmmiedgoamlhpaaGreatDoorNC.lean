/-
  Walks: what functions of the program compute. Printed by wip/gen/mk2.py.
  Conditions: none.
-/
import Derived.Test.YtmmiedgoamlhpaaGreatDoorNB
import Derived.Test.YtmmiedgoamlhpaaGreatDoorPlain2
import Derived.Test.YtmmiedgoamlhpaaGreatDoorEngZ
set_option linter.unusedSimpArgs false
set_option linter.unusedVariables false
set_option maxRecDepth 10000
namespace Go.W
open Go Go.Eng Go.Proofs Go.L41 Go.Br
attribute [local irreducible] AWP RWP TD finQ
abbrev vBds (l:List Bd):V:=.c (.sl 2 (l.map Bd.cells))
abbrev ckC (x:Ck):V:=.agg [.sl 1 (x.U.map fun s=>[cS s]),.sl 1 (x.W.map fun i=>[cI i]),cI x.E]
theorem bd_get {l:List Bd} {k:Nat} {x:Bd} (h:l[k]? =some x):(l.map Bd.cells)[k]? =some [cS x.Name,cI x.Val]:=by rw [getm h];rfl
theorem agg125:aggT Tryz.prog 125=some 3:=by kernel_rfl
theorem el113:elemT Tryz.prog 113=some (118,2,24):=by kernel_rfl
theorem fd118_0:fieldT Tryz.prog 118 0=some (0,9):=by kernel_rfl
theorem fd125_0:fieldT Tryz.prog 125 0=some (0,123):=by kernel_rfl
theorem fd125_1:fieldT Tryz.prog 125 1=some (1,55):=by kernel_rfl
theorem fd125_2:fieldT Tryz.prog 125 2=some (2,32):=by kernel_rfl
theorem ok47:callOk Tryz.prog 47=true:=by kernel_rfl
theorem ok48:callOk Tryz.prog 48=true:=by kernel_rfl
theorem ok95:callOk Tryz.prog 95=true:=by kernel_rfl
theorem ok143:callOk Tryz.prog 143=true:=by kernel_rfl
theorem ok144:callOk Tryz.prog 144=true:=by kernel_rfl
theorem ok145:callOk Tryz.prog 145=true:=by kernel_rfl
theorem ok147:callOk Tryz.prog 147=true:=by kernel_rfl
theorem ok155:callOk Tryz.prog 155=true:=by kernel_rfl
theorem ok204:callOk Tryz.prog 204=true:=by kernel_rfl
theorem ok205:callOk Tryz.prog 205=true:=by kernel_rfl
theorem ok266:callOk Tryz.prog 266=true:=by kernel_rfl
theorem ok267:callOk Tryz.prog 267=true:=by kernel_rfl
theorem pl118:placesT Tryz.prog 118=some [(0,1),(1,1)]:=by kernel_rfl
theorem pl125:placesT Tryz.prog 125=some [(0,1),(1,1),(2,1)]:=by kernel_rfl
theorem sz125:(Tryz.prog.info? 125).map (·.size)=some 3:=by kernel_rfl
theorem zr118:zeroT Tryz.prog 118=some [(Value.string (ByteArray.mk #[])),(Value.int IntKind.i64 0)]:=by kernel_rfl
theorem zr125:zeroT Tryz.prog 125=some [(Value.slice none 0 0),(Value.slice none 0 0),(Value.int IntKind.i64 0)]:=by kernel_rfl
theorem zRf (l:List Lf) (bd:List Bd) (hl:l.length<=4294967296) (hx:∀x,x∈l->x.L.length<=4294967296) (hb:bd.length<=4294967296):
    Pur cfg 266 [vLins l,vBds bd] (vB (l.all (inSc (bd.map Bd.Name)))):=by
 refine zS Tryz.func266 O Tryz.ntmps266 Tryz.results266 O ?_
 intro z hz
 have hl0:=hx
 clear hx
 refine A O<|G O<|R<|zK<|A O<|G O<|R<|zR<|zX ⟨[(5,.c _),(0,.c _),(1,.c _)],[]⟩ (Weak.mk [] ⟨Y,Y,Y,T⟩ O)<|qG 1 0 O O (Nat) (fun k=>[(5,vI k)]) (fun k=>[]) (fun k=>k<=l.length/\((l.take k).all (inSc (bd.map Bd.Name))=true)) (fun k=>l.length-k) ⟨0,⟨by omega,O⟩,Weak.mk [] ⟨Y,Y,Y,T⟩ O⟩ ?_
 rintro k ⟨hk,hp⟩
 refine zK<|A O<|G O<|G O<|zZ O wV<|yJ O<|R<|zC O (fun c1=>?_) (fun c1=>?_)
 ·try simp only [sx] at c1
  obtain ⟨x,hx⟩:=qY l k (by omega)
  have hxl:=hl0 x (zY hx)
  refine zI<|zK<|zR<|A O<|G O<|R<|zR<|zX ⟨[(6,.c _),(0,.c _),(1,.c _),(5,.c _)],[]⟩ (Weak.mk [] ⟨Y,Y,Y,Y,T⟩ O)<|qG 1 0 O O (Nat) (fun j=>[(6,vI j)]) (fun j=>[]) (fun j=>j<=x.L.length/\(x.L.take j).all (fun m=>hasB (bd.map Bd.Name) m.Name)=true) (fun j=>x.L.length-j) ⟨0,⟨by omega,O⟩,Weak.mk [] ⟨Y,Y,Y,Y,T⟩ O⟩ ?_
  rintro j ⟨hj,hq⟩
  refine zK<|A O<|G O<|G O<|G O<|qE O wV (by omega) (getm hx)<|yB O kT<|zM zBp qA O<|zZ O el99<|yJ O<|R<|zC O (fun c2=>?_) (fun c2=>?_)
  ·try simp only [sx] at c2
   obtain ⟨m,hm⟩:=qY x.L j (by omega)
   refine zI<|zK<|zR<|A O<|G O<|R<|zK<|A O<|G O<|R<|zR<|zX ⟨[(8,.c _),(7,.c _),(0,.c _),(1,.c _),(5,.c _),(6,.c _)],[]⟩ (Weak.mk [] ⟨Y,Y,Y,Y,Y,Y,T⟩ O)<|qG 2 0 O O (Nat) (fun i=>[(8,vI i),(7,vB ((bd.take i).any fun d=>decide (d.Name=m.Name)))]) (fun i=>[]) (fun i=>i<=bd.length) (fun i=>bd.length-i) ⟨0,(by omega),Weak.mk [] ⟨Y,VLe.of_eq (O),Y,Y,Y,Y,T⟩ O⟩ ?_
   rintro i hi
   refine zK<|A O<|G O<|G O<|zZ O el113<|yJ O<|R<|zC O (fun c3=>?_) (fun c3=>?_)
   ·try simp only [sx] at c3
    obtain ⟨d,hd⟩:=qY bd i (by omega)
    refine zI<|zK<|zR<|qU 19 mixed (by kernel_rfl) O O<|J O O (zP O O)<|J O O (zP O O)<|qR [] O O O O gv1 T (fun g11_1=>zP O O) O<|qR [] O O O O gv1 T (fun g11_1=>zP O O) O<|qR [(33,_),(34,_)] O O O O gv1 ⟨O,O,O,O,T⟩ (fun g11_1=>qO O el113 O O (by omega) (bd_get hd)) O<|qR [(35,_)] O O O O gv1 ⟨O,O,T⟩ (fun g11_1=>qW O fd118_0 O) O<|qR [(36,_)] O O O O gv1 ⟨O,O,T⟩ (fun g11_1=>zJ O one9 O qA O) O<|qR [] O O O O gv1 T (fun g11_1=>zP O O) O<|qR [] O O O O gv1 T (fun g11_1=>zP O O) O<|qR [(38,_),(39,_)] O O O O gv1 ⟨O,O,O,O,T⟩ (fun g11_1=>qO O wV O O (by omega) (getm hx)) O<|qR [(40,_)] O O O O gv1 ⟨O,O,T⟩ (fun g11_1=>qW O kT O) O<|qR [(41,_)] O O O O gv1 ⟨O,O,T⟩ (fun g11_1=>zJ O zBp O qA O) O<|qR [] O O O O gv1 T (fun g11_1=>zP O O) O<|qR [(42,_),(43,_)] O O O O gv1 ⟨O,O,O,O,T⟩ (fun g11_1=>qO O el99 O O (by omega) (getm hm)) O<|qR [(44,_)] O O O O gv1 ⟨O,O,T⟩ (fun g11_1=>qW O zEb O) O<|qR [(45,_)] O O O O gv1 ⟨O,O,T⟩ (fun g11_1=>zJ O one9 O qA O) O<|qR [(37,_),(46,_)] O O O O gv1 ⟨O,O,O,O,T⟩ (fun g11_1=>zGw O O O) O<|J O O (zBk O O O O (fun h=>(lzf h)))<|J O O (qV O O)<|yO<|R<|zN O<|G O<|qI O ⟨by omega,by omega⟩<|G O<|R ?_
    refine ⟨i+1,(by omega),(by omega),Weak.mk [] ⟨Y,VLe.of_eq (congrArg vB (any_step hd)),Y,Y,Y,Y,T⟩ O⟩
   ·try simp only [sx] at c3
    rw [yE (l:=bd) (k:=i) (by omega),any_hasB]
    refine qP<|A O<|G O<|wA O<|R<|zC O (fun c4=>?_) (fun c4=>?_)
    ·try simp only [sx] at c4
     have hno:=bound_no hx hm c4
     refine A O<|G O<|R<|zF<|zQ O ?_
     rw [hno]
    ·try simp only [sx] at c4
     refine zI<|zN O<|G O<|qI O ⟨by omega,by omega⟩<|G O<|R ?_
     refine ⟨j+1,⟨by omega,zEu hm hq c4⟩,(by omega),Weak.mk [] ⟨Y,Y,Y,Y,T⟩ O⟩
  ·try simp only [sx] at c2
   rw [yE (l:=x.L) (k:=j) (by omega)] at hq
   refine qP<|zN O<|G O<|qI O ⟨by omega,by omega⟩<|G O<|R ?_
   refine ⟨k+1,⟨by omega,zEu hx hp (show inSc _ x=true from hq)⟩,(by omega),Weak.mk [] ⟨Y,Y,Y,T⟩ O⟩
 ·try simp only [sx] at c1
  refine qP<|A O<|G O<|R<|zF<|zQ O ?_
  rw [yE (by omega)] at hp;rw [hp]
theorem ref30_lins (l:List Ix) (hl:l.length<=4294967296) (hw:idxWt l<=4294967296):
    OwnR cfg 267 [vIndices l] 101 2 ((l.flatMap ixF).map Lf.cells):=by
 refine zS Tryz.func267 O Tryz.ntmps267 Tryz.results267 O ?_
 intro z hz
 refine A O<|G O<|R<|A O<|G O<|yX _ (wI 101 2)<|R<|zK<|A O<|G O<|R<|zR<|zX ⟨[(4,.c _),(3,.c _),(0,.c _)],[_]⟩ (Weak.mk [true] ⟨Y,Y,Y,T⟩ O)<|qG 2 1 O O (Nat×Value) (fun ⟨k,sv⟩=>[(4,vI k),(3,.c (.lit sv))]) (fun ⟨k,sv⟩=>[E.vec sv 101 2 (((l.take k).flatMap ixF).map Lf.cells)]) (fun ⟨k,sv⟩=>k<=l.length) (fun ⟨k,sv⟩=>l.length-k) ⟨⟨0,(.slice none 0 0)⟩,(by omega),Weak.mk [true] ⟨Y,Y,Y,T⟩ O⟩ ?_
 rintro ⟨k,sv⟩ hk
 show AWP _ _ _ _ _ ⟨[(4,vI k),(3,.c (.lit sv))]++_,[E.vec sv 101 2 (((l.take k).flatMap ixF).map Lf.cells)]++_⟩
 refine zK<|A O<|G O<|G O<|zZ O kO<|yJ O<|R<|zC O (fun c1=>?_) (fun c1=>?_)
 ·try simp only [sx] at c1
  obtain ⟨x,hx⟩:=qY l k (by omega)
  have hfl:=ixs_len l k
  have hxw:=zCz (zY hx)
  unfold Ix.wt at hxw
  refine zI<|zK<|zR<|A O<|G O<|G O<|G O<|qE O kO (by omega) (getm (by assumption))<|yB O zAh<|zO kL qA O<|zT O (yK O wV zKm O O O O)<|zU O O (kG 0 O wV O O O (by simp only [List.length_map,List.length_append,List.length_cons,List.length_nil];omega) (by simp only [List.length_map,List.length_append,List.length_cons,List.length_nil];omega)) ?_
  rintro _ _ ⟨sv2,rfl,rfl⟩
  refine G O<|R<|zN O<|G O<|G O<|G O<|qE O kO (by omega) (getm (by assumption))<|yB O wC<|zM zAk qA O<|zU O O (kG 0 O wV O O O (by simp only [List.length_map,List.length_append,List.length_cons,List.length_nil];omega) (by simp only [List.length_map,List.length_append,List.length_cons,List.length_nil];omega)) ?_
  rintro _ _ ⟨sv3,rfl,rfl⟩
  refine G O<|R<|zN O<|G O<|qI O ⟨by omega,by omega⟩<|G O<|R ?_
  refine ⟨⟨k+1,sv3⟩,(by omega),(by show l.length-(k+1)<l.length-k;omega),Weak.mk [true] ⟨Y,Y,Y,T⟩ (by exact zFm (by rw [yN hx,List.flatMap_append,List.map_append];simp [ixF];rfl))⟩
 ·try simp only [sx] at c1
  refine qP<|A O<|G O<|G O<|R<|zF<|zQ O ?_
  exact ⟨_,O,by rw [yE (by omega)];rfl⟩
theorem ref30_node (n:Ns) (bd:List Bd) (e:Ex) (hn:n.Ok) (hb:bd.length<=1000000) (he:e.wt<=1073741824):
    Pur cfg 204 [vNs n,vBds bd,vE e] (vI (nodeN n.Bufs (bd.map Bd.Name) e)):=by
 refine zS Tryz.func204 O Tryz.ntmps204 Tryz.results204 O ?_
 intro z hz
 obtain ⟨hL,hI,hA⟩:=e.parts he
 have hwt:=Ex.wt_eq e
 refine A O<|zU O O (qN O O) ?_
 rintro _ _ ⟨b1,rfl,rfl⟩
 refine zU O O (qN O O) ?_
 rintro _ _ ⟨b2,rfl,rfl⟩
 refine G O<|R<|zK<|A O<|zH O zCs<|zO kL (zD 0 O) O<|zT O (yK O wV zKm O O O O)<|G O<|qK O ok266 (zRf [e.Lin] bd (by simp) (by simp;omega) (by omega)) ⟨Y,O,Y,O,T⟩<|wA O<|G O<|rL0 O (fun g1_6=>zE O yV O) O<|rL1 19 O (fun g1_6=>zJ O kF O (zD 0 O) O) O<|rL1 20 O (fun g1_6=>qC O ok267 (OwnR.pur (ref30_lins e.Idx (by omega) (by omega))) ⟨Y,O,T⟩) O<|rL0 O (fun g1_6=>zP O O) O<|rLz [(21,_),(22,_)] O gv1 ⟨O,O,O,O,T⟩ (fun g1_6=>qC O ok266 (zRf (e.Idx.flatMap ixF) bd (by have:=ixs_len e.Idx e.Idx.length;rw [List.take_length] at this;omega) (fun x hx=>by have:=forms_wt he (show x∈formsL e by unfold formsL;exact List.mem_cons_of_mem _ hx);omega) (by omega)) ⟨Y,O,Y,O,T⟩) O<|rL1 23 O (fun g1_6=>wL O O) O<|r_or O (fun h=>(lzf h))<|R<|zC O (fun c1=>?_) (fun c1=>?_)
 ·have h9:=node_sc_f c1
  refine A O<|G O<|R<|zF<|zQ O ?_
  rw [nodeN_9 h9]
 ·have h9:=node_sc_t c1
  refine zI<|zK<|A O<|zH O kA<|zM one3 (zD 0 O) O<|kP O<|R<|zC O (fun c2=>?_) (fun c2=>?_)
  ·try simp only [sx] at c2
   refine A O<|G O<|R<|zF<|zQ O ?_
   rw [nodeN_o h9 c2]
  ·try simp only [sx] at c2
   refine zI<|A O<|zO zBb (zD 1 O) O<|zH O zBs<|zM one9 (zD 0 O) O<|qK O ok144 (zCu n e.Name hn) ⟨Y,O,Y,O,T⟩<|zT O (yH O O)<|zT O (yW O O O)<|zT O (kC O O O)<|zU O O (qT [none,none,none,none,none,none,some 1,none] O zr95 O) ?_
   rintro _ _ ⟨b3,rfl,rfl⟩
   refine rStR 0 sz95 O<|G O<|R<|zK<|A O<|G O<|wA O<|R<|zC O (fun c3=>?_) (fun c3=>?_)
   ·try simp only [sx] at c3
    refine A O<|G O<|R<|zF<|zQ O ?_
    rw [nodeN_n h9 (by omega) c3]
   ·try simp only [sx] at c3
    refine zI<|zK<|A O<|zH O zEt<|zM zEh (zD 0 O) O<|zZ O el55<|zH O yV<|zM kF (zD 1 O) O<|zZ O kO<|kP O<|R<|zC O (fun c4=>?_) (fun c4=>?_)
    ·try simp only [sx] at c4
     refine A O<|G O<|R<|zF<|zQ O ?_
     rw [nodeN_r h9 (by omega) c3 (by omega)]
    ·try simp only [sx] at c4
     refine zI<|zK<|A O<|G O<|R<|zR<|zX ⟨[(9,.c _),(3,.c _),(5,.c _)],[_,_]⟩ (Weak.mk [false,true,true] ⟨Y,Y,Y,T⟩ O)<|qG 1 0 O O (Nat) (fun j=>[(9,vI j)]) (fun j=>[]) (fun j=>j<=e.Idx.length/\(gathL n.Bufs e.Idx=gathL n.Bufs (e.Idx.drop j))) (fun j=>e.Idx.length-j) ⟨0,⟨by omega,O⟩,Weak.mk [true,true] ⟨Y,Y,Y,T⟩ O⟩ ?_
     rintro j ⟨hk,hq⟩
     refine zK<|A O<|G O<|zH O yV<|zM kF (zD 0 O) O<|zZ O kO<|yJ O<|R<|zC O (fun c5=>?_) (fun c5=>?_)
     ·try simp only [sx] at c5
      obtain ⟨y,hy⟩:=qY e.Idx j (by omega)
      refine zI<|zK<|zR<|zK<|A O<|zH O yV<|zM kF (zD 0 O) O<|G O<|qE O kO (by omega) (getm (by assumption))<|yB O zAg<|zM one9 qA O<|wF O<|R<|zC O (fun c6=>?_) (fun c6=>?_)
      ·try simp only [sx] at c6
       refine qP<|zN O<|G O<|qI O ⟨by omega,by omega⟩<|G O<|R ?_
       refine ⟨j+1,⟨by omega,hq.trans (zJn hy (by first|exact gathE_0 c6|exact zPm c6 c7 (by omega) (by omega)))⟩,(by omega),Weak.mk [true,true] ⟨Y,Y,Y,T⟩ O⟩
      ·try simp only [sx] at c6
       refine zI<|zK<|kN 13 1 [⟨0,.q [2]⟩,⟨1,.q []⟩,⟨2,.q [1]⟩,⟨3,.q []⟩,⟨4,.q []⟩,⟨5,.q []⟩,⟨6,.q []⟩,⟨7,.q []⟩,⟨8,.q []⟩,⟨9,.q []⟩,⟨10,.q []⟩,⟨11,.e 0 []⟩,⟨12,.e 0 []⟩] mixed (by kernel_rfl) (by kernel_rfl) O O O<|zW O<|zW O<|zW O<|zW O<|zW O<|zW O<|zW O<|zW O<|zW O<|zW O<|zW O<|zW O<|zW O<|zCc<|qF O (by decide) O O (zV O zBb O (zD 0 O) O)<|qF O (by decide) O O (zE O yV O)<|qF O (by decide) O O (zJ O kF O (zD 0 O) O)<|qF O (by decide) O O (zP O O)<|qF O (by decide) O O (qO O kO O O (by omega) (getm (by assumption)))<|qF O (by decide) O O (qW O zAg O)<|qF O (by decide) O O (zJ O one9 O qA O)<|qF O (by decide) O O (qC O ok144 (zCu n y.From hn) ⟨Y,O,Y,O,T⟩)<|qF O (by decide) O O (yH O O)<|qF O (by decide) O O (yW O O O)<|qF O (by decide) O O (kC O O O)<|zJw O O (by decide) O O (qT [none,none,none,none,none,none,some 1,none] O zr95 O) ?_
       rintro _ _ ⟨b4,rfl,rfl⟩
       refine ⟨_,O,?_⟩
       refine zKc O O (by decide) O O (zAn O sz95 O O O (zKa 0 O O)) ?_
       rintro _ _ ⟨rfl,rfl⟩
       refine ⟨_,O,?_⟩
       refine zCb O<|G O<|R<|zR<|A O<|G O<|wA O<|G O<|R<|zC O (fun c7=>?_) (fun c7=>?_)
       ·try simp only [sx] at c7
        refine A O<|G O<|R<|zF<|zQ O ?_
        rw [zIf h9 (by omega) c3 (by omega),hq,zJm hy (by rw [gathE_9 c6 c7];decide),gathE_9 c6 c7]
       ·try simp only [sx] at c7
        refine A O<|zH O zIn<|zH O zDd<|zM one3 (zD 0 O) O<|kP O<|G O<|R<|zC O (fun c8=>?_) (fun c8=>?_)
        ·try simp only [sx] at c8
         refine A O<|G O<|R<|zF<|zQ O ?_
         rw [zIf h9 (by omega) c3 (by omega),hq,zJm hy (by rw [zPo c6 c7 c8];decide),zPo c6 c7 c8]
        ·try simp only [sx] at c8
         refine zK<|qU 12 mixed (by kernel_rfl) O O<|J O O (zE O zEt O)<|J O O (zJ O zEh O (zD 0 O) O)<|J O O (yG O el55 O)<|J O O (zE O yV O)<|J O O (zJ O kF O (zD 1 O) O)<|J O O (zP O O)<|J O O (qO O kO O O (by omega) (getm (by assumption)))<|J O O (qW O wC O)<|J O O (zJ O zAk O qA O)<|J O O (yG O wV O)<|J O O (wU O O O)<|J O O (qV O O)<|yO<|R<|zC O (fun c9=>?_) (fun c9=>?_)
         ·try simp only [sx] at c9
          refine A O<|G O<|R<|zF<|zQ O ?_
          rw [zIf h9 (by omega) c3 (by omega),hq,zJm hy (by rw [zPn c6 c7 c8 (by omega)];decide),zPn c6 c7 c8 (by omega)]
         ·try simp only [sx] at c9
          refine zI<|zN O<|G O<|qI O ⟨by omega,by omega⟩<|G O<|R ?_
          refine ⟨j+1,⟨by omega,hq.trans (zJn hy (by first|exact gathE_0 c6|exact zPm c6 c7 (by omega) (by omega)))⟩,(by omega),Weak.mk [false,true,true] ⟨Y,Y,Y,T⟩ O⟩
     ·try simp only [sx] at c5
      refine qP<|A O<|G O<|R<|zF<|zQ O ?_
      rw [zIf h9 (by omega) c3 (by omega),hq,kW (by omega)];rfl
theorem zRh (n:Ns) (hn:n.Ok) (e:Ex) (ih:∀a,a∈e.Args->partE a=0->a.wt<=1073741824->Pur cfg 205 [vNs n,vE a] (.tup [vTy (nodeT (kiN n.Bufs) a).1,vI (nodeT (kiN n.Bufs) a).2])) (hpart:partE e=0) (he:e.wt<=1073741824):
    Pur cfg 205 [vNs n,vE e] (.tup [vTy (nodeT (kiN n.Bufs) e).1,vI (nodeT (kiN n.Bufs) e).2]):=by
 refine zS Tryz.func205 O Tryz.ntmps205 Tryz.results205 O ?_
 intro z hz
 obtain ⟨hLl,hIl,hAl⟩:=e.parts he
 have hwt:=Ex.wt_eq e
 refine A O<|zU O O (qN O O) ?_
 rintro _ _ ⟨b1,rfl,rfl⟩
 refine zU O O (qN O O) ?_
 rintro _ _ ⟨b2,rfl,rfl⟩
 refine zU O O (yL O zr65) ?_
 rintro _ _ ⟨b3,rfl,rfl⟩
 refine G O<|R<|A O<|G O<|yX _ (wI 65 5)<|R<|zK<|A O<|G O<|R<|zR<|zX ⟨[(7,.c _),(6,.c _),(2,.c _),(3,.c _),(4,.c _)],[_,_,_,_]⟩ (Weak.mk [true,true,true,true] ⟨Y,Y,Y,Y,Y,T⟩ O)<|qG 2 1 O O (Nat×Value) (fun ⟨k,sv⟩=>[(7,vI k),(6,.c (.lit sv))]) (fun ⟨k,sv⟩=>[E.vec sv 65 5 ((nonC (e.Args.take k) (nodeL (kiN n.Bufs) (e.Args.take k)).1).map tyC)]) (fun ⟨k,sv⟩=>k<=e.Args.length/\((nodeL (kiN n.Bufs) (e.Args.take k)).2=0)) (fun ⟨k,sv⟩=>e.Args.length-k) ⟨⟨0,(.slice none 0 0)⟩,⟨by omega,O⟩,Weak.mk [true,true,true,true] ⟨Y,Y,Y,Y,Y,T⟩ O⟩ ?_
 rintro ⟨k,sv⟩ ⟨hk,hp⟩
 show AWP _ _ _ _ _ ⟨[(7,vI k),(6,.c (.lit sv))]++_,[E.vec sv 65 5 ((nonC (e.Args.take k) (nodeL (kiN n.Bufs) (e.Args.take k)).1).map tyC)]++_⟩
 refine zK<|A O<|G O<|zH O yY<|zM kU (zD 2 O) O<|zZ O wE<|yJ O<|R<|zC O (fun c1=>?_) (fun c1=>?_)
 ·try simp only [sx] at c1
  obtain ⟨x,hx⟩:=qY e.Args k (by omega)
  have hll:=zFs _ _ hp
  have hcl:=nonC_len (e.Args.take k) (nodeL (kiN n.Bufs) (e.Args.take k)).1
  have htk:=List.length_take_le' k e.Args
  refine zI<|zK<|zR<|zK<|kN 12 1 [⟨0,.q [4]⟩,⟨1,.q []⟩,⟨2,.q [3]⟩,⟨3,.q []⟩,⟨4,.q []⟩,⟨5,.q []⟩,⟨6,.q []⟩,⟨7,.q []⟩,⟨8,.q []⟩,⟨9,.q []⟩,⟨10,.e 0 []⟩,⟨11,.e 0 []⟩] mixed (by kernel_rfl) (by kernel_rfl) O O O<|zW O<|zW O<|zW O<|zW O<|zW O<|zW O<|zW O<|zW O<|zW O<|zW O<|zW O<|zW O<|zCc<|qF O (by decide) O O (zV O zBb O (zD 0 O) O)<|qF O (by decide) O O (zE O yY O)<|qF O (by decide) O O (zJ O kU O (zD 0 O) O)<|qF O (by decide) O O (zP O O)<|qF O (by decide) O O (qO O wE O O (by omega) (zBr (by assumption)))<|qF O (by decide) O O (zV O qX O qA O)<|qF O (by decide) O O (qC O ok205 (ih x (zY hx) (zBc hpart (zY hx)) (by have:=Ex.arg_wt (zY hx);omega)) ⟨Y,O,Y,O,T⟩)<|qF O (by decide) O O (yH O O)<|qF O (by decide) O O (yW O O O)<|qF O (by decide) O O (kC O O O)<|zJw O O (by decide) O O (yL O zr65) ?_
  rintro _ _ ⟨b5,rfl,rfl⟩
  refine ⟨_,O,?_⟩
  refine zKc O O (by decide) O O (zAn O sz65 O O O (zKa 0 O O)) ?_
  rintro _ _ ⟨rfl,rfl⟩
  refine ⟨_,O,?_⟩
  refine zCb O<|G O<|R<|zK<|A O<|G O<|kP O<|R<|zC O (fun c2=>?_) (fun c2=>?_)
  ·try simp only [sx] at c2
   refine A O<|yU O zr65 pl65<|G O<|rStR 2 sz65 O<|G O<|R<|zF<|D (qL yI O (zD 2 O) O) (B O) ?_
   rw [nodeT_no hx hp c2];rfl
  ·try simp only [sx] at c2
   refine zI<|A O<|zH O yY<|zM kU (zD 3 O) O<|G O<|qE O wE (by omega) (zBr (by assumption))<|zO qX qA O<|qK O ok146 (kV x) ⟨Y,O,T⟩<|wA O<|R<|zC O (fun c3=>?_) (fun c3=>?_)
   ·try simp only [sx] at c3
    refine zN O<|G O<|zO yI (zD 0 O) O<|zT O (yK O el23 zr65 O O O O)<|zU O O (kG 1 O el23 O O O (by simp only [List.length_map,List.length_append,List.length_cons,List.length_nil,hll,List.length_take];omega) (by simp only [List.length_map,List.length_append,List.length_cons,List.length_nil,hll,List.length_take];omega)) ?_
    rintro _ _ ⟨sv6,rfl,rfl⟩
    refine G O<|R<|zN O<|G O<|qI O ⟨by omega,by omega⟩<|G O<|R ?_
    refine ⟨⟨k+1,_⟩,⟨by omega,by rw [zEm hx hp c2]⟩,(by show e.Args.length-(k+1)<e.Args.length-k;omega),Weak.mk [false,true,true,true,true] ⟨Y,Y,Y,Y,Y,T⟩ (by exact zFm (by rw [zEm hx hp c2,yN hx,zRv hll.symm];first|(rw [if_pos c3,List.append_nil])|(rw [if_neg (by rw [c3];simp),List.map_append];rfl)))⟩
   ·try simp only [sx] at c3
    refine zI<|zN O<|G O<|qI O ⟨by omega,by omega⟩<|G O<|R ?_
    refine ⟨⟨k+1,_⟩,⟨by omega,by rw [zEm hx hp c2]⟩,(by show e.Args.length-(k+1)<e.Args.length-k;omega),Weak.mk [false,true,true,true,true] ⟨Y,Y,Y,Y,Y,T⟩ (by exact zFm (by rw [zEm hx hp c2,yN hx,zRv hll.symm];first|(rw [if_pos c3,List.append_nil])|(rw [if_neg (by rw [c3];simp),List.map_append];rfl)))⟩
 ·try simp only [sx] at c1
  have hll:=zFs _ _ hp
  have hta:e.Args.take k=e.Args:=yE (by omega)
  have hT:nodeT (kiN n.Bufs) e=kiF n.Bufs e (nonC (e.Args.take k) (nodeL (kiN n.Bufs) (e.Args.take k)).1):=by have h:=nodeT_ok (N:=kiN n.Bufs) hta hp;rw [h];show kiF n.Bufs e (nonC e.Args _)=_;rw [hta]
  refine qP<|zK<|zK<|qU 12 mixed (by kernel_rfl) O O<|J O O (zP O O)<|J O O (yQ 0 O el23 O O)<|J O O (kB O O O)<|J O O (zP O O)<|qR [] O O O O gv1 T (fun g10_3=>zP O O) O<|qR [(48,_)] O O O O gv1 ⟨O,O,T⟩ (fun g10_3=>yC 0 O el23 O O O (by omega) (by simp only [Lz,cond_true,decide_eq_true_eq,List.length_map] at g10_3⊢;omega)) O<|qR [(49,_)] O O O O gv1 ⟨O,O,T⟩ (fun g10_3=>zV O yI O (wY 0 O (zJe (by simp only [Lz,cond_true,decide_eq_true_eq,List.length_map] at g10_3⊢;omega))) O) O<|qR [] O O O O gv1 T (fun g10_3=>zP O O) O<|qR [(51,_)] O O O O gv1 ⟨O,O,T⟩ (fun g10_3=>yC 0 O el23 O O O (by omega) (by simp only [Lz,cond_true,decide_eq_true_eq,List.length_map] at g10_3⊢;omega)) O<|qR [(52,_)] O O O O gv1 ⟨O,O,T⟩ (fun g10_3=>zV O yI O (wY 0 O (zJe (by simp only [Lz,cond_true,decide_eq_true_eq,List.length_map] at g10_3⊢;omega))) O) O<|qR [(50,_),(53,_)] O O O O gv1 ⟨O,O,O,O,T⟩ (fun g10_3=>zBl O fl65 O O O) O<|J O O (zAp O O O (fun h=>h) O)<|yO<|R<|zC O (fun c4=>?_) (fun c4=>?_)
  ·obtain ⟨q1,q2⟩:=ki10_t c4
   refine A O<|yU O zr65 pl65<|rStR 1 sz65 O<|G O<|R<|zF<|D (qL yI O (zD 1 O) O) (B O) ?_
   rw [hT];first|(rw [zFu q1 q2];rfl)|(rw [zNo hq (by omega)];rfl)|(rw [zOw hq (by omega)];rfl)|(rw [zOv hq (by omega)];rfl)|(rw [zLz hq c9];rfl)|(rw [zLy hq (by omega) c9];rfl)
  ·have hq:=ki10_f c4
   refine zI<|zK<|A O<|zH O kA<|zM one3 (zD 2 O) O<|R<|zR<|zK<|A O<|L O<|G O<|R<|zC O (fun c5=>?_) (fun c5=>?_)
   ·try simp only [sx] at c5
    refine zI<|zC O (fun c6=>?_) (fun c6=>?_)
    ·try simp only [sx] at c6
     refine A O<|zH O zAo<|zO yI (zD 2 O) O<|rStR 1 sz65 O<|G O<|R<|zF<|D (qL yI O (zD 1 O) O) (B O) ?_
     rw [hT];first|(rw [zFu q1 q2];rfl)|(rw [zNo hq (by omega)];rfl)|(rw [zOw hq (by omega)];rfl)|(rw [zOv hq (by omega)];rfl)|(rw [zLz hq c9];rfl)|(rw [zLy hq (by omega) c9];rfl)
    ·try simp only [sx] at c6
     refine A O<|L O<|G O<|R<|zC O (fun c7=>?_) (fun c7=>?_)
     ·try simp only [sx] at c7
      refine A O<|yU O zr65 pl65<|rStR 1 sz65 O<|G O<|R<|zF<|D (qL yI O (zD 1 O) O) (B O) ?_
      rw [hT];first|(rw [zFu q1 q2];rfl)|(rw [zNo hq (by omega)];rfl)|(rw [zOw hq (by omega)];rfl)|(rw [zOv hq (by omega)];rfl)|(rw [zLz hq c9];rfl)|(rw [zLy hq (by omega) c9];rfl)
     ·try simp only [sx] at c7
      refine A O<|L O<|G O<|R<|zC O (fun c8=>?_) (fun c8=>?_)
      ·try simp only [sx] at c8
       refine A O<|zO zBb (zD 3 O) O<|zH O zBs<|zM one9 (zD 2 O) O<|qK O ok144 (zCu n e.Name hn) ⟨Y,O,Y,O,T⟩<|zT O (yH O O)<|zT O (yW O O O)<|zT O (kC O O O)<|zU O O (qT [none,none,none,none,none,none,some 1,none] O zr95 O) ?_
       rintro _ _ ⟨b7,rfl,rfl⟩
       refine rStR 0 sz95 O<|G O<|R<|A O<|zH O zIn<|zO yI (zD 0 O) O<|rStR 2 sz65 O<|G O<|R<|zF<|D (qL yI O (zD 2 O) O) (B O) ?_
       rw [hT];first|(rw [zFu q1 q2];rfl)|(rw [zNo hq (by omega)];rfl)|(rw [zOw hq (by omega)];rfl)|(rw [zOv hq (by omega)];rfl)|(rw [zLz hq c9];rfl)|(rw [zLy hq (by omega) c9];rfl)
      ·try simp only [sx] at c8
       refine zI<|zK<|A O<|zO qX (zD 2 O) O<|qK O ok146 (kV e) ⟨Y,O,T⟩<|R<|zC O (fun c9=>?_) (fun c9=>?_)
       ·try simp only [sx] at c9
        refine A O<|yU O zr65 pl65<|rStR 1 sz65 O<|G O<|R<|zF<|D (qL yI O (zD 1 O) O) (B O) ?_
        rw [hT];first|(rw [zFu q1 q2];rfl)|(rw [zNo hq (by omega)];rfl)|(rw [zOw hq (by omega)];rfl)|(rw [zOv hq (by omega)];rfl)|(rw [zLz hq c9];rfl)|(rw [zLy hq (by omega) c9];rfl)
       ·try simp only [sx] at c9
        have hq1:1<=(nonC (e.Args.take k) (nodeL (kiN n.Bufs) (e.Args.take k)).1).length:=by have h:=ki_one hpart (l:=(nodeL (kiN n.Bufs) (e.Args.take k)).1) (by rw [hll,hta]) (by omega) c9;rw [hta];rw [hta] at h;exact h
        refine zI<|A O<|G O<|zT O (yC 0 O el23 O O O (by omega) (by simp only [List.length_map];omega))<|zO yI (wY 0 O (zJe (by omega))) O<|rStR 1 sz65 O<|G O<|R<|zF<|D (qL yI O (zD 1 O) O) (B O) ?_
        rw [hT];first|(rw [zFu q1 q2];rfl)|(rw [zNo hq (by omega)];rfl)|(rw [zOw hq (by omega)];rfl)|(rw [zOv hq (by omega)];rfl)|(rw [zLz hq c9];rfl)|(rw [zLy hq (by omega) c9];rfl)
   ·try simp only [sx] at c5
    refine zN O<|L O<|G O<|R<|zC O (fun c6=>?_) (fun c6=>?_)
    ·try simp only [sx] at c6
     refine A O<|zH O zAo<|zO yI (zD 2 O) O<|rStR 1 sz65 O<|G O<|R<|zF<|D (qL yI O (zD 1 O) O) (B O) ?_
     rw [hT];first|(rw [zFu q1 q2];rfl)|(rw [zNo hq (by omega)];rfl)|(rw [zOw hq (by omega)];rfl)|(rw [zOv hq (by omega)];rfl)|(rw [zLz hq c9];rfl)|(rw [zLy hq (by omega) c9];rfl)
    ·try simp only [sx] at c6
     refine A O<|L O<|G O<|R<|zC O (fun c7=>?_) (fun c7=>?_)
     ·try simp only [sx] at c7
      refine A O<|yU O zr65 pl65<|rStR 1 sz65 O<|G O<|R<|zF<|D (qL yI O (zD 1 O) O) (B O) ?_
      rw [hT];first|(rw [zFu q1 q2];rfl)|(rw [zNo hq (by omega)];rfl)|(rw [zOw hq (by omega)];rfl)|(rw [zOv hq (by omega)];rfl)|(rw [zLz hq c9];rfl)|(rw [zLy hq (by omega) c9];rfl)
     ·try simp only [sx] at c7
      refine A O<|L O<|G O<|R<|zC O (fun c8=>?_) (fun c8=>?_)
      ·try simp only [sx] at c8
       refine A O<|zO zBb (zD 3 O) O<|zH O zBs<|zM one9 (zD 2 O) O<|qK O ok144 (zCu n e.Name hn) ⟨Y,O,Y,O,T⟩<|zT O (yH O O)<|zT O (yW O O O)<|zT O (kC O O O)<|zU O O (qT [none,none,none,none,none,none,some 1,none] O zr95 O) ?_
       rintro _ _ ⟨b8,rfl,rfl⟩
       refine rStR 0 sz95 O<|G O<|R<|A O<|zH O zIn<|zO yI (zD 0 O) O<|rStR 2 sz65 O<|G O<|R<|zF<|D (qL yI O (zD 2 O) O) (B O) ?_
       rw [hT];first|(rw [zFu q1 q2];rfl)|(rw [zNo hq (by omega)];rfl)|(rw [zOw hq (by omega)];rfl)|(rw [zOv hq (by omega)];rfl)|(rw [zLz hq c9];rfl)|(rw [zLy hq (by omega) c9];rfl)
      ·try simp only [sx] at c8
       refine zI<|zK<|A O<|zO qX (zD 2 O) O<|qK O ok146 (kV e) ⟨Y,O,T⟩<|R<|zC O (fun c9=>?_) (fun c9=>?_)
       ·try simp only [sx] at c9
        refine A O<|yU O zr65 pl65<|rStR 1 sz65 O<|G O<|R<|zF<|D (qL yI O (zD 1 O) O) (B O) ?_
        rw [hT];first|(rw [zFu q1 q2];rfl)|(rw [zNo hq (by omega)];rfl)|(rw [zOw hq (by omega)];rfl)|(rw [zOv hq (by omega)];rfl)|(rw [zLz hq c9];rfl)|(rw [zLy hq (by omega) c9];rfl)
       ·try simp only [sx] at c9
        have hq1:1<=(nonC (e.Args.take k) (nodeL (kiN n.Bufs) (e.Args.take k)).1).length:=by have h:=ki_one hpart (l:=(nodeL (kiN n.Bufs) (e.Args.take k)).1) (by rw [hll,hta]) (by omega) c9;rw [hta];rw [hta] at h;exact h
        refine zI<|A O<|G O<|zT O (yC 0 O el23 O O O (by omega) (by simp only [List.length_map];omega))<|zO yI (wY 0 O (zJe (by omega))) O<|rStR 1 sz65 O<|G O<|R<|zF<|D (qL yI O (zD 1 O) O) (B O) ?_
        rw [hT];first|(rw [zFu q1 q2];rfl)|(rw [zNo hq (by omega)];rfl)|(rw [zOw hq (by omega)];rfl)|(rw [zOv hq (by omega)];rfl)|(rw [zLz hq c9];rfl)|(rw [zLy hq (by omega) c9];rfl)
theorem ref30_Kind (n:Ns) (e:Ex) (hn:n.Ok) (hpart:partE e=0) (he:e.wt<=1073741824):Pur cfg 205 [vNs n,vE e] (.tup [vTy (nodeT (kiN n.Bufs) e).1,vI (nodeT (kiN n.Bufs) e).2]):=by
  induction e using Ex.ind with
  |_ e ih=>exact zRh n hn e (fun a ha h1 h2=>ih a ha h1 h2) hpart he
theorem zGi (n:Ns) (bd:List Bd) (e:Ex) (hn:n.Ok) (hb:bd.length<=1000000) (he:e.wt<=1000000):
    Pur cfg 145 [vNs n,vBds bd,vE e] (.tup [vTy (exprT n.Bufs (bd.map Bd.Name) e).1,vI (exprT n.Bufs (bd.map Bd.Name) e).2]):=by
 refine zS Tryz.func145 O Tryz.ntmps145 Tryz.results145 O ?_
 intro z hz
 have hnl:=nodes_wt e
 refine A O<|zU O O (qN O O) ?_
 rintro _ _ ⟨b1,rfl,rfl⟩
 refine zU O O (qN O O) ?_
 rintro _ _ ⟨b2,rfl,rfl⟩
 refine zU O O (yL O zr65) ?_
 rintro _ _ ⟨b3,rfl,rfl⟩
 refine G O<|R<|zK<|A O<|zO qX (zD 1 O) O<|qK O ok155 (zKf e (by omega)) ⟨Y,O,T⟩<|G O<|R<|A O<|G O<|kP O<|R<|zC O (fun c1=>?_) (fun c1=>?_)
 ·try simp only [sx] at c1
  refine A O<|yU O zr65 pl65<|G O<|rStR 0 sz65 O<|G O<|R<|zF<|D (qL yI O (zD 0 O) O) (B O) ?_
  rw [exprT_1 c1];rfl
 ·try simp only [sx] at c1
  refine zI<|A O<|zO qX (zD 1 O) O<|qK O ok203 (OwnR.pur (ref14_All e (by omega))) ⟨Y,O,T⟩<|G O<|R<|zK<|A O<|G O<|R<|zR<|zX ⟨[(10,.c _),(1,.c _),(3,.c _),(5,.c _),(6,.c _),(9,.c _)],[_,_,_]⟩ (Weak.mk [true,true,true] ⟨Y,Y,Y,Y,Y,Y,T⟩ O)<|qG 1 0 O O (Nat) (fun k=>[(10,vI k)]) (fun k=>[]) (fun k=>k<=(nodes e).length/\(nodesN n.Bufs (bd.map Bd.Name) (nodes e)=nodesN n.Bufs (bd.map Bd.Name) ((nodes e).drop k))) (fun k=>(nodes e).length-k) ⟨0,⟨by omega,O⟩,Weak.mk [true,true,true] ⟨Y,Y,Y,Y,Y,Y,T⟩ O⟩ ?_
  rintro k ⟨hk,hp⟩
  refine zK<|A O<|G O<|G O<|zZ O wE<|yJ O<|R<|zC O (fun c2=>?_) (fun c2=>?_)
  ·try simp only [sx] at c2
   obtain ⟨x,hx⟩:=qY (nodes e) k (by omega)
   refine zI<|zK<|zR<|zK<|qU 8 mixed (by kernel_rfl) O O<|J O O (zV O zBb O (zD 2 O) O)<|J O O (zP O O)<|J O O (zP O O)<|J O O (zP O O)<|J O O (qO O wE O O (by omega) (zBr (by assumption)))<|J O O (zV O qX O qA O)<|J O O (qC O ok204 (ref30_node n bd x hn hb (by have:=zGn e x (zY hx);omega)) ⟨Y,O,Y,O,Y,O,T⟩)<|J O O (qV O O)<|yO<|R<|A O<|G O<|kP O<|R<|zC O (fun c3=>?_) (fun c3=>?_)
   ·try simp only [sx] at c3
    refine A O<|yU O zr65 pl65<|G O<|rStR 0 sz65 O<|G O<|R<|zF<|D (qL yI O (zD 0 O) O) (B O) ?_
    rw [exprT_2 c1 (by rw [hp,nodesN_no hx c3];exact c3),hp,nodesN_no hx c3];rfl
   ·try simp only [sx] at c3
    refine zI<|zN O<|G O<|qI O ⟨by omega,by omega⟩<|G O<|R ?_
    refine ⟨k+1,⟨by omega,hp.trans (nodesN_at hx c3)⟩,(by omega),Weak.mk [true,true,true] ⟨Y,Y,Y,Y,Y,Y,T⟩ O⟩
  ·try simp only [sx] at c2
   refine qP<|A O<|zO zBb (zD 2 O) O<|zO qX (zD 1 O) O<|qK O ok205 (ref30_Kind n e hn (zDi c1) (by omega)) ⟨Y,O,Y,O,T⟩<|zT O (yW O O O)<|zT O (kC O O O)<|rStR 0 sz65 O<|G O<|R<|zF<|D (qL yI O (zD 0 O) O) (B O) ?_
   rw [exprT_k c1 (by rw [hp,kW (by omega)];rfl)];rfl
theorem ref30_plain (s:St) (hs:s.wt<=900000000):
    Pur cfg 143 [vSt s] (vB (synSt s)):=by
 refine zS Tryz.func143 O Tryz.ntmps143 Tryz.results143 O ?_
 intro z hz
 obtain ⟨hE,hI,hIw,hB,hBw⟩:=St.parts hs
 refine A O<|zU O O (qN O O) ?_
 rintro _ _ ⟨b1,rfl,rfl⟩
 refine G O<|R<|zK<|qU 8 mixed (by kernel_rfl) O O<|J O O (zE O zAf O)<|J O O (zJ O one3 O (zD 0 O) O)<|J O O (kB O O O)<|J O O (zE O zAf O)<|J O O (zJ O one3 O (zD 0 O) O)<|J O O (kB O O O)<|J O O (qV O O)<|J O O (qV O O)<|yO<|R<|A O<|zH O zAf<|zM one3 (zD 0 O) O<|L O<|G O<|rL0 O (fun g2_3=>zE O zAf O) O<|rL1 16 O (fun g2_3=>zJ O one3 O (zD 0 O) O) O<|rL1 17 O (fun g2_3=>kB O O O) O<|r_or O (fun h=>(lzf h))<|G O<|R<|zK<|A O<|G O<|wA O<|G O<|rL0 O (fun g3_2=>zP O O) O<|rL1 23 O (fun g3_2=>wL O O) O<|yZ O (fun h=>h)<|G O<|rL0 O (fun g3_6=>zP O O) O<|rL1 27 O (fun g3_6=>wL O O) O<|yZ O (fun h=>h)<|R<|zC O (fun c1=>?_) (fun c1=>?_)
 ·refine A O<|G O<|R<|zF<|zQ O ?_
  exact congrArg vB (pln_1 c1)
 ·refine zI<|zK<|A O<|G O<|wA O<|G O<|rL0 O (fun g5_2=>zE O zFo O) O<|rL1 33 O (fun g5_2=>zJ O one3 O (zD 0 O) O) O<|rL1 34 O (fun g5_2=>wU O O O) O<|rL1 35 O (fun g5_2=>zP O O) O<|rLz [] O N T (fun g5_6=>zE O zIs O) O<|rLz [(37,_)] O N ⟨O,O,T⟩ (fun g5_6=>zJ O one3 O (zD 0 O) O) O<|rLz [(38,_)] O N ⟨O,O,T⟩ (fun g5_6=>wU O O O) O<|rL1 36 O (fun g5_2=>zBk O O O O (fun h=>kI (by assumption) (lzf h))) O<|yZ O (fun h=>h)<|G O<|rL0 O (fun g5_12=>zE O zAf O) O<|rL1 43 O (fun g5_12=>zJ O one3 O (zD 0 O) O) O<|rL1 44 O (fun g5_12=>wU O O O) O<|rL1 45 O (fun g5_12=>zP O O) O<|rLz [] O N T (fun g5_16=>zE O zIr O) O<|rLz [(47,_)] O N ⟨O,O,T⟩ (fun g5_16=>zJ O one3 O (zD 0 O) O) O<|rLz [(48,_)] O N ⟨O,O,T⟩ (fun g5_16=>wU O O O) O<|rL1 46 O (fun g5_12=>zAp O O O (fun h=>kI (by assumption) h) O) O<|r_or O (fun h=>(lzf h))<|G O<|rL0 O (fun g5_22=>zP O O) O<|rL1 53 O (fun g5_22=>zP O O) O<|rLz [] O N T (fun g5_24=>zE O wZ O) O<|rLz [(55,_)] O N ⟨O,O,T⟩ (fun g5_24=>zJ O one9 O (zD 0 O) O) O<|rLz [(56,_)] O N ⟨O,O,T⟩ (fun g5_24=>zAz O O O) O<|rL1 54 O (fun g5_22=>zAp O O O (fun h=>kI (by assumption) h) O) O<|r_or O (fun h=>(lzf h))<|R<|zC O (fun c2=>?_) (fun c2=>?_)
  ·refine A O<|G O<|R<|zF<|zQ O ?_
   exact congrArg vB (pln_2 c2)
  ·refine zI<|zK<|A O<|G O<|wA O<|G O<|rL0 O (fun g7_2=>zE O zDl O) O<|rL1 63 O (fun g7_2=>zJ O kF O (zD 0 O) O) O<|rL1 64 O (fun g7_2=>yG O kO O) O<|rL1 65 O (fun g7_2=>yA O O O) O<|yZ O (fun h=>h)<|G O<|rL0 O (fun g7_8=>zP O O) O<|rL1 69 O (fun g7_8=>zP O O) O<|rLz [] O N T (fun g7_10=>zE O zAu O) O<|rLz [(71,_)] O N ⟨O,O,T⟩ (fun g7_10=>zJ O zCg O (zD 0 O) O) O<|rLz [(72,_)] O N ⟨O,O,T⟩ (fun g7_10=>yG O el51 O) O<|rLz [(73,_)] O N ⟨O,O,T⟩ (fun g7_10=>yA O O O) O<|rL1 70 O (fun g7_8=>zAp O O O (fun h=>kI (by assumption) h) O) O<|r_or O (fun h=>(lzf h))<|R<|zC O (fun c3=>?_) (fun c3=>?_)
   ·refine A O<|G O<|R<|zF<|zQ O ?_
    exact congrArg vB (pln_3 c3)
   ·refine zI<|A O<|G O<|wA O<|G O<|rL0 O (fun g9_2=>zE O zAv O) O<|rL1 80 O (fun g9_2=>zV O qX O (zD 0 O) O) O<|rL0 O (fun g9_2=>wG [none,none,none,none,none,none,none,none,none,none,some 2,some 4,some 13] O zDx zRn O O) O<|rLz [(81,_),(82,_)] O gv1 ⟨O,O,O,O,T⟩ (fun g9_2=>qC O ok202 (base_Expr s.E zEx (by omega)) ⟨Y,O,Y,O,T⟩) O<|r_or O (fun h=>(lzf h))<|G O<|R<|zF<|zQ O ?_
    exact congrArg vB (pln_4 c1 c2 c3)
theorem ref30_store (n:Ns) (bd:List Bd) (s:St) (hn:n.Ok) (hb:bd.length<=1000000) (hs:s.wt<=900000):
    Pur cfg 147 [vNs n,vBds bd,vSt s] (vI (storeE n.Bufs (bd.map Bd.Name) s)):=by
 refine zS Tryz.func147 O Tryz.ntmps147 Tryz.results147 O ?_
 intro z hz
 obtain ⟨hE,hI,hIw,hB,hBw⟩:=St.parts hs
 have hrd:=rdE_wt s
 refine A O<|zU O O (qN O O) ?_
 rintro _ _ ⟨b1,rfl,rfl⟩
 refine zU O O (qN O O) ?_
 rintro _ _ ⟨b2,rfl,rfl⟩
 refine G O<|R<|zK<|A O<|zO zBb (zD 1 O) O<|G O<|zH O wZ<|zM one9 (zD 0 O) O<|zH O zDl<|zM kF (zD 0 O) O<|zT O (wG [none,none,none,none,none,none,none,none,none,none,some 2,none,some 13] O zDx zRn O O)<|qK O ok145 (zGi n bd (rdE s) hn hb (by omega)) ⟨Y,O,Y,O,Y,O,T⟩<|zT O (yH O O)<|zT O (yW O O O)<|zT O (kC O O O)<|zU O O (yL O zr65) ?_
 rintro _ _ ⟨b3,rfl,rfl⟩
 refine rStR 0 sz65 O<|G O<|R<|A O<|G O<|kP O<|R<|zC O (fun c1=>?_) (fun c1=>?_)
 ·try simp only [sx] at c1
  refine A O<|G O<|G O<|R<|zF<|zQ O ?_
  rw [storeE_1 c1]
 ·try simp only [sx] at c1
  refine zI<|A O<|zO zBb (zD 2 O) O<|zH O wZ<|zM one9 (zD 1 O) O<|qK O ok144 (zCu n s.Name hn) ⟨Y,O,Y,O,T⟩<|zT O (yH O O)<|zT O (yW O O O)<|zT O (kC O O O)<|zU O O (qT [none,none,none,none,none,none,some 1,none] O zr95 O) ?_
  rintro _ _ ⟨b4,rfl,rfl⟩
  refine rStR 0 sz95 O<|G O<|R<|zK<|A O<|zH O zMe<|zM one3 (zD 0 O) O<|L O<|G O<|rL0 O (fun g5_3=>zE O zAf O) O<|rL1 38 O (fun g5_3=>zJ O one3 O (zD 2 O) O) O<|rL1 39 O (fun g5_3=>kB O O O) O<|rL1 40 O (fun g5_3=>zP O O) O<|rLz [] O N T (fun g5_7=>zE O zIr O) O<|rLz [(42,_)] O N ⟨O,O,T⟩ (fun g5_7=>zJ O one3 O (zD 2 O) O) O<|rLz [(43,_)] O N ⟨O,O,T⟩ (fun g5_7=>zCh O O O) O<|rLz [(44,_)] O N ⟨O,O,T⟩ (fun g5_7=>zP O O) O<|rLz [] O N T (fun g5_11=>zE O zIr O) O<|rLz [(46,_)] O N ⟨O,O,T⟩ (fun g5_11=>zJ O one3 O (zD 2 O) O) O<|rLz [(47,_)] O N ⟨O,O,T⟩ (fun g5_11=>yA O O O) O<|rLz [(45,_)] O N ⟨O,O,T⟩ (fun g5_7=>zBk O O O O (fun h=>kI (by assumption) (lzf h))) O<|rL1 41 O (fun g5_3=>zAp O O O (fun h=>kI (by assumption) h) O) O<|r_or O (fun h=>(lzf h))<|R<|zC O (fun c2=>?_) (fun c2=>?_)
  ·try simp only [sx] at c2
   refine A O<|G O<|R<|zF<|zQ O ?_
   rw [storeE_u c1 c2]
  ·try simp only [sx] at c2
   refine zI<|A O<|zO zBb (zD 3 O) O<|G O<|zH O zAv<|zO qX (zD 2 O) O<|qK O ok145 (zGi n bd s.E hn hb (by omega)) ⟨Y,O,Y,O,Y,O,T⟩<|zT O (yH O O)<|zT O (yW O O O)<|zT O (kC O O O)<|zU O O (yL O zr65) ?_
   rintro _ _ ⟨b5,rfl,rfl⟩
   refine rStR 0 sz65 O<|G O<|R<|zK<|A O<|G O<|L O<|G O<|rL0 O (fun g8_2=>zE O zAv O) O<|rL1 63 O (fun g8_2=>zV O qX O (zD 3 O) O) O<|rL1 64 O (fun g8_2=>qC O ok146 (kV _) ⟨Y,O,T⟩) O<|rL1 65 O (fun g8_2=>zP O O) O<|rLz [] O N T (fun g8_6=>zV O yI O (zD 0 O) O) O<|rLz [] O N T (fun g8_6=>zE O zIn O) O<|rLz [(68,_)] O N ⟨O,O,T⟩ (fun g8_6=>zV O yI O (zD 1 O) O) O<|rLz [(67,_),(69,_)] O N ⟨O,O,O,O,T⟩ (fun g8_6=>zBl O fl65 O O O) O<|rL1 66 O (fun g8_2=>zBk O O O O (fun h=>kI (by assumption) (lzf h))) O<|yZ O (fun h=>h)<|R<|zC O (fun c3=>?_) (fun c3=>?_)
   ·obtain ⟨h0,h10⟩:=st3_t c3
    refine A O<|G O<|R<|zF<|zQ O ?_
    rw [storeE_10 c1 (by omega) h0 h10]
   ·have h3:=st3_f c3
    refine zI<|A O<|G O<|G O<|R<|zF<|zQ O ?_
    rw [st_fin c1 (by omega) h3]
theorem ref30_one (n:Ns) (bd:List Bd) (U:List ByteArray) (s:St) (hn:n.Ok) (hb:bd.length<=1000000) (hs:s.wt<=900000) (hU:U.length<=1000000):
    Pur cfg 95 [vNs n,vBds bd,vSs U,vSt s] (vI (stE n.Bufs U (bd.map Bd.Name) s)):=by
 refine zS Tryz.func95 O Tryz.ntmps95 Tryz.results95 O ?_
 intro z hz
 obtain ⟨hE,hI,hIw,hB,hBw⟩:=St.parts hs
 refine A O<|zU O O (qN O O) ?_
 rintro _ _ ⟨b1,rfl,rfl⟩
 refine zU O O (qN O O) ?_
 rintro _ _ ⟨b2,rfl,rfl⟩
 refine G O<|R<|zK<|A O<|zO zDe (zD 0 O) O<|qK O ok143 (ref30_plain s (by omega)) ⟨Y,O,T⟩<|wA O<|R<|zC O (fun c1=>?_) (fun c1=>?_)
 ·try simp only [sx] at c1
  refine A O<|G O<|R<|zF<|zQ O ?_
  rw [stE_5 c1]
 ·try simp only [sx] at c1
  refine zI<|zK<|A O<|zH O zAf<|zM one3 (zD 0 O) O<|R<|zR<|A O<|L O<|G O<|R<|zC O (fun c2=>?_) (fun c2=>?_)
  ·try simp only [sx] at c2
   refine A O<|zO zBb (zD 1 O) O<|zH O wZ<|zM one9 (zD 0 O) O<|qK O ok144 (zCu n s.Name hn) ⟨Y,O,Y,O,T⟩<|zT O (yH O O)<|zT O (yW O O O)<|zT O (kC O O O)<|zU O O (qT [none,none,none,none,none,none,some 1,none] O zr95 O) ?_
   rintro _ _ ⟨b3,rfl,rfl⟩
   refine rStR 0 sz95 O<|G O<|R<|zK<|zR<|A O<|zH O wZ<|zM one9 (zD 1 O) O<|qK O ok93 (zGa s.Name) ⟨Y,O,T⟩<|wA O<|G O<|R<|zC O (fun c3=>?_) (fun c3=>?_)
   ·try simp only [sx] at c3
    refine A O<|G O<|R<|zF<|zQ O ?_
    rw [stE_l c1 c2,loopE_7 c3]
   ·try simp only [sx] at c3
    refine A O<|G O<|G O<|rL0 O (fun g8_1=>zP O O) O<|rL0 O (fun g8_1=>zE O wZ O) O<|rL1 36 O (fun g8_1=>zJ O one9 O (zD 1 O) O) O<|rLz [(35,_),(37,_)] O gv1 ⟨O,O,O,O,T⟩ (fun g8_1=>qC O ok141 (base_Has U s.Name (by omega)) ⟨Y,O,Y,O,T⟩) O<|r_or O (fun h=>(lzf h))<|G O<|R<|zC O (fun c4=>?_) (fun c4=>?_)
    ·try simp only [sx] at c4
     refine A O<|G O<|R<|zF<|zQ O ?_
     rw [stE_l c1 c2,loopE_8 c3 c4]
    ·try simp only [sx] at c4
     have h8:¬(hasBf n.Bufs s.Name=true∨hasB U s.Name=true):=by rw [c4.1,c4.2];simp
     refine A O<|zH O zFo<|zM one3 (zD 1 O) O<|yJ O<|G O<|rL0 O (fun g10_3=>zE O zFo O) O<|rL1 45 O (fun g10_3=>zJ O one3 O (zD 1 O) O) O<|rL1 46 O (fun g10_3=>yA O O O) O<|r_or O (fun h=>(lzf h))<|G O<|rL0 O (fun g10_8=>zE O zIs O) O<|rL1 50 O (fun g10_8=>zJ O one3 O (zD 1 O) O) O<|rL1 51 O (fun g10_8=>zCh O O O) O<|r_or O (fun h=>(lzf h))<|G O<|rL0 O (fun g10_13=>zE O zIs O) O<|rL1 55 O (fun g10_13=>zJ O one3 O (zD 1 O) O) O<|rL1 56 O (fun g10_13=>yA O O O) O<|r_or O (fun h=>(lzf h))<|G O<|R<|zC O (fun c5=>?_) (fun c5=>?_)
     ·try simp only [sx] at c5
      refine A O<|G O<|R<|zF<|zQ O ?_
      rw [stE_l c1 c2,loopE_1 c3 h8 (by omega)]
     ·try simp only [sx] at c5
      refine zI<|A O<|G O<|R<|zF<|zQ O ?_
      rw [stE_l c1 c2,loopE_0 c3 h8 (by omega)]
  ·try simp only [sx] at c2
   refine A O<|L O<|G O<|R<|zC O (fun c6=>?_) (fun c6=>?_)
   ·try simp only [sx] at c6
    refine A O<|zO zBb (zD 1 O) O<|G O<|zH O zAv<|zO qX (zD 0 O) O<|qK O ok145 (zGi n bd s.E hn hb (by omega)) ⟨Y,O,Y,O,Y,O,T⟩<|zT O (yH O O)<|zT O (yW O O O)<|zT O (kC O O O)<|zU O O (yL O zr65) ?_
    rintro _ _ ⟨b4,rfl,rfl⟩
    refine rStR 0 sz65 O<|G O<|R<|zK<|A O<|G O<|L O<|G O<|rL0 O (fun g15_2=>zE O zAv O) O<|rL1 72 O (fun g15_2=>zV O qX O (zD 1 O) O) O<|rL1 73 O (fun g15_2=>qC O ok146 (kV _) ⟨Y,O,T⟩) O<|rL1 74 O (fun g15_2=>wL O O) O<|yZ O (fun h=>h)<|R<|zC O (fun c7=>?_) (fun c7=>?_)
    ·refine A O<|G O<|R<|zF<|zQ O ?_
     rw [stE_i c1 c6,if_t c7]
    ·refine zI<|A O<|G O<|G O<|R<|zF<|zQ O ?_
     rw [stE_i c1 c6,if_fin c7]
   ·try simp only [sx] at c6
    refine zI<|A O<|zO zBb (zD 1 O) O<|G O<|zO zDe (zD 0 O) O<|qK O ok147 (ref30_store n bd s hn hb hs) ⟨Y,O,Y,O,Y,O,T⟩<|G O<|R<|zF<|zQ O ?_
    rw [stE_s c1 c2 c6]
set_option maxHeartbeats 2000000 in
theorem zIa (n:Ns) (bd:List Bd) (U:List ByteArray) (l:List St) (W:List Int) (hn:n.Ok) (hU:U.length+stsN l<=1000000) (hb:bd.length+stsN l<=1000000) (hW:W.length+stsN l<=1000000) (hl:stsWt l<=900000) (ih:∀s,s∈l->∀(bd:List Bd) (U:List ByteArray) (W:List Int),U.length+stsN s.Body<=1000000->bd.length+stsN s.Body<=1000000->W.length+stsN s.Body<=1000000->Pur cfg 48 [vNs n,vBds bd,vSs U,vSts s.Body,vIs W] (ckC (chkL n.Bufs U (bd.map Bd.Name) W 0 s.Body))):
    Pur cfg 48 [vNs n,vBds bd,vSs U,vSts l,vIs W] (ckC (chkL n.Bufs U (bd.map Bd.Name) W 0 l)):=by
 refine zS Tryz.func48 O Tryz.ntmps48 Tryz.results48 O ?_
 intro z hz
 have hll:=zAe l
 have hlN:=zDp l
 refine A O<|zU O O (qN O O) ?_
 rintro _ _ ⟨b1,rfl,rfl⟩
 refine zU O O (qT [some 1,some 1,none] O zr125 O) ?_
 rintro _ _ ⟨b2,rfl,rfl⟩
 refine R<|zK<|A O<|G O<|R<|zR<|zX ⟨[(11,.c _),(2,.c _),(1,.c _),(3,.c _),(4,.c _),(5,.c _),(10,.c _)],[_,_]⟩ (Weak.mk [true,true] ⟨Y,Y,Y,Y,Y,Y,Y,T⟩ O)<|qG 2 0 O O (Nat×List ByteArray) (fun ⟨k,u⟩=>[(11,vI k),(2,vSs u)]) (fun ⟨k,u⟩=>[]) (fun ⟨k,u⟩=>k<=l.length/\(u.length+stsN (l.drop k)<=1000000)/\((chkL n.Bufs U (bd.map Bd.Name) W 0 l)=chkL n.Bufs u (bd.map Bd.Name) W k (l.drop k))) (fun ⟨k,u⟩=>l.length-k) ⟨⟨0,U⟩,⟨by omega,by simpa using hU,O⟩,Weak.mk [true,true] ⟨Y,VLe.of_eq (O),Y,Y,Y,Y,Y,T⟩ O⟩ ?_
 rintro ⟨k,u⟩ ⟨hk,hub,hp⟩
 show AWP _ _ _ _ _ ⟨[(11,vI k),(2,vSs u)]++_,[]++_⟩
 refine zK<|A O<|G O<|G O<|zZ O el51<|yJ O<|R<|zC O (fun c1=>?_) (fun c1=>?_)
 ·try simp only [sx] at c1
  obtain ⟨s,hs⟩:=qY l k (by omega)
  have hsw:=kK (zY hs)
  have hsb:=St.body_wt s
  have hsn:=stsN_drop hs
  have hse:=zKb s
  have hsm:=zLj (zY hs)
  have hcl:=chkS_len n.Bufs s u (bd.map Bd.Name) (W++[(k:Int)])
  refine zI<|zK<|zR<|A O<|zT O (zHc O el55 zr3)<|G O<|zU O O (zGl O el55 O O (by simp only [List.length_map,List.length_append,List.length_cons,List.length_nil];omega) (by simp only [List.length_map,List.length_append,List.length_cons,List.length_nil];omega)) ?_
  rintro _ _ ⟨sv3,rfl,rfl⟩
  refine G O<|zT O (yK O el55 zr3 O O O O)<|zU O O (kG 0 O el55 O O O (by simp only [List.length_map,List.length_append,List.length_cons,List.length_nil];omega) (by simp only [List.length_map,List.length_append,List.length_cons,List.length_nil];omega)) ?_
  rintro _ _ ⟨sv4,rfl,rfl⟩
  refine G O<|R<|zK<|zK<|zX _ (Weak.vecEq 0 O (rows':=(W++[(k:Int)]).map fun i=>[cI i]) (by first|rfl|simp|rw [List.take_of_length_le (by simp)]))<|zX _ (kQ 0 O (regs':=[(27,_),(12,_)]) (μ':=[_,_]) ⟨FLe.sl,FLe.sl,T⟩ ⟨EFle.refl _,EFle.refl _,T⟩)<|qU 9 mixed (by kernel_rfl) O O<|J O O (zV O zBb O (zD 1 O) O)<|J O O (zP O O)<|J O O (zP O O)<|J O O (zP O O)<|J O O (zP O O)<|J O O (qO O el51 O O (by omega) (zDc (by assumption)))<|J O O (zV O zDe O qA O)<|J O O (qC O ok95 (ref30_one n bd u s hn (by omega) (by have:=kK (zY hs);omega) (by omega)) ⟨Y,O,Y,O,Y,O,Y,O,T⟩)<|J O O (qV O O)<|yO<|R<|A O<|G O<|kP O<|R<|zC O (fun c2=>?_) (fun c2=>?_)
  ·try simp only [sx] at c2
   have hx0:=chkS_no (here:=W++[(k:Int)]) (B:=n.Bufs) (U:=u) (sc:=(bd.map Bd.Name)) (s:=s) c2
   refine A O<|G O<|G O<|zT O (wG [some 1,none,none] O zr125 pl125 O O)<|rStR 0 sz125 O<|R<|zF<|v (qL agg125 O (zD 0 O) O) ?_
   rw [zDz hs hp (by rw [hx0];exact c2),hx0];rfl
  ·try simp only [sx] at c2
   have hin:=chkS_in (here:=W++[(k:Int)]) (B:=n.Bufs) (U:=u) (sc:=(bd.map Bd.Name)) (s:=s) c2
   refine zI<|A O<|G O<|G O<|R<|zK<|A O<|G O<|G O<|qE O el51 (by omega) (zDc (by assumption))<|yB O zAf<|zM one3 qA O<|L O<|R<|zC O (fun c3=>?_) (fun c3=>?_)
   ·try simp only [sx] at c3
    rw [zLr c3,zLr c3,←map_bd] at hin
    refine zK<|kN 9 1 [⟨0,.q []⟩,⟨1,.q []⟩,⟨3,.q []⟩,⟨4,.q []⟩,⟨5,.q []⟩,⟨6,.q []⟩,⟨7,.q []⟩,⟨8,.q []⟩,⟨2,.e 0 []⟩] mixed (by kernel_rfl) (by kernel_rfl) O O O<|zW O<|zW O<|zW O<|zW O<|zW O<|zW O<|zW O<|zW O<|zW O<|zCc<|qF O (by decide) O O (zHc O zBz zr9)<|qF O (by decide) O O (zP O O)<|qF O (by decide) O O (zP O O)<|qF O (by decide) O O (zP O O)<|qF O (by decide) O O (qO O el51 O O (by omega) (zDc (by assumption)))<|qF O (by decide) O O (qW O wZ O)<|qF O (by decide) O O (zJ O one9 O qA O)<|qF O (by decide) O O (yK O zBz zr9 O O O O)<|zJw O O (by decide) O O (zGl O zBz O O (by simp only [List.length_map,List.length_append,List.length_cons,List.length_nil];omega) (by simp only [List.length_map,List.length_append,List.length_cons,List.length_nil];omega)) ?_
    rintro _ _ ⟨sv5,rfl,rfl⟩
    refine ⟨_,O,?_⟩
    refine zCb O<|zU O O (kG 0 O zBz O O O (by simp only [List.length_map,List.length_append,List.length_cons,List.length_nil];omega) (by simp only [List.length_map,List.length_append,List.length_cons,List.length_nil];omega)) ?_
    rintro _ _ ⟨sv6,rfl,rfl⟩
    refine G O<|R<|kN 15 1 [⟨0,.q []⟩,⟨1,.q []⟩,⟨3,.q []⟩,⟨4,.q []⟩,⟨5,.q []⟩,⟨6,.q []⟩,⟨7,.q []⟩,⟨8,.q []⟩,⟨9,.q []⟩,⟨10,.q []⟩,⟨11,.q []⟩,⟨12,.q []⟩,⟨13,.q []⟩,⟨14,.q []⟩,⟨2,.e 0 []⟩] mixed (by kernel_rfl) (by kernel_rfl) O O O<|zW O<|zW O<|zW O<|zW O<|zW O<|zW O<|zW O<|zW O<|zW O<|zW O<|zW O<|zW O<|zW O<|zW O<|zW O<|zCc<|qF O (by decide) O O (zHc O el113 zr118)<|qF O (by decide) O O (zP O O)<|qF O (by decide) O O (zP O O)<|qF O (by decide) O O (zP O O)<|qF O (by decide) O O (qO O el51 O O (by omega) (zDc (by assumption)))<|qF O (by decide) O O (qW O wZ O)<|qF O (by decide) O O (zJ O one9 O qA O)<|qF O (by decide) O O (zP O O)<|qF O (by decide) O O (zP O O)<|qF O (by decide) O O (qO O el51 O O (by omega) (zDc (by assumption)))<|qF O (by decide) O O (qW O zFo O)<|qF O (by decide) O O (zJ O one3 O qA O)<|qF O (by decide) O O (zBt O zr118 pl118 O)<|qF O (by decide) O O (yK O el113 zr118 O O O O)<|zJw O O (by decide) O O (zGl O el113 O O (by simp only [List.length_map,List.length_append,List.length_cons,List.length_nil];omega) (by simp only [List.length_map,List.length_append,List.length_cons,List.length_nil];omega)) ?_
    rintro _ _ ⟨sv7,rfl,rfl⟩
    refine ⟨_,O,?_⟩
    refine zCb O<|zU O O (kG 0 O el113 O O O (by simp only [List.length_map,List.length_append,List.length_cons,List.length_nil];omega) (by simp only [List.length_map,List.length_append,List.length_cons,List.length_nil];omega)) ?_
    rintro _ _ ⟨sv8,rfl,rfl⟩
    refine G O<|R<|zK<|zX _ (Weak.vecEq 1 O (rows':=(u++[s.Name]).map fun s=>[cS s]) (by first|rfl|simp|rw [List.take_of_length_le (by simp)]))<|zX _ (kQ 1 O (regs':=[(2,_),(57,_)]) (μ':=[_,_,_]) ⟨FLe.sl,FLe.sl,T⟩ ⟨EFle.refl _,EFle.refl _,EFle.refl _,T⟩)<|zX _ (Weak.vecEq 0 O (rows':=(bd++[(⟨s.Name,s.Many⟩:Bd)]).map Bd.cells) (by rw [List.map_append];rfl))<|zX _ (kQ 0 O (regs':=[(14,_),(73,_)]) (μ':=[_,_]) ⟨FLe.sl,FLe.sl,T⟩ ⟨EFle.refl _,EFle.refl _,T⟩)<|kN 11 1 [⟨0,.q [2]⟩,⟨1,.q []⟩,⟨2,.q []⟩,⟨3,.q []⟩,⟨4,.q []⟩,⟨5,.q []⟩,⟨6,.q []⟩,⟨7,.q []⟩,⟨8,.q []⟩,⟨9,.q []⟩,⟨10,.f 0⟩] mixed (by kernel_rfl) (by kernel_rfl) O O O<|zW O<|zW O<|zW O<|zW O<|zW O<|zW O<|zW O<|zW O<|zW O<|zW O<|zPp O O (zFc (qT [some 1,some 1,none] O zr125 O)) ⟨_,_,0,O,O⟩<|zCc<|qF O (by decide) O O (zV O zBb O (zD 0 O) O)<|qF O (by decide) O O (zP O O)<|qF O (by decide) O O (zP O O)<|qF O (by decide) O O (zP O O)<|qF O (by decide) O O (zP O O)<|qF O (by decide) O O (qO O el51 O O (by omega) (zDc (by assumption)))<|qF O (by decide) O O (qW O zAu O)<|qF O (by decide) O O (zJ O zCg O qA O)<|qF O (by decide) O O (zP O O)<|qF O (by decide) O O (qC O ok48 (ih s (zY hs) (bd++[(⟨s.Name,s.Many⟩:Bd)]) (u++[s.Name]) (W++[(k:Int)]) (by first|omega|(simp;omega)) (by first|omega|(simp;omega)) (by simp;omega)) ⟨Y,O,Y,O,Y,O,Y,O,Y,O,T⟩)<|zPe O O ?_
    rintro _ _ ⟨b9,rfl,rfl⟩
    refine zCb O<|rStR 0 sz125 O<|R<|zK<|A O<|zH O fd125_2<|zM zIc (zD 0 O) O<|kP O<|R<|zC O (fun c4=>?_) (fun c4=>?_)
    ·try simp only [sx] at c4
     rw [←hin] at c4
     refine A O<|zO agg125 (zD 0 O) O<|rStR 1 sz125 O<|R<|zF<|v (qL agg125 O (zD 1 O) O) ?_
     rw [zDz hs hp c4,hin];rfl
    ·try simp only [sx] at c4
     rw [←hin] at c4
     refine zI<|zN O<|zH O fd125_0<|zM zId (zD 0 O) O<|G O<|R<|zN O<|G O<|qI O ⟨by omega,by omega⟩<|G O<|R ?_
     refine ⟨⟨k+1,(chkS n.Bufs u (bd.map Bd.Name) (W++[(k:Int)]) s).U⟩,⟨by omega,by omega,zMr hs hp c4⟩,(by show l.length-(k+1)<l.length-k;omega),Weak.mk [false,true,true] ⟨Y,VLe.of_eq (congrArg vSs (by rw [hin])),Y,Y,Y,Y,Y,T⟩ O⟩
   ·try simp only [sx] at c3
    rw [zPj c3,zPj c3] at hin
    refine zI<|zK<|kN 11 1 [⟨0,.q [2]⟩,⟨1,.q []⟩,⟨2,.q []⟩,⟨3,.q []⟩,⟨4,.q []⟩,⟨5,.q []⟩,⟨6,.q []⟩,⟨7,.q []⟩,⟨8,.q []⟩,⟨9,.q []⟩,⟨10,.f 0⟩] mixed (by kernel_rfl) (by kernel_rfl) O O O<|zW O<|zW O<|zW O<|zW O<|zW O<|zW O<|zW O<|zW O<|zW O<|zW O<|zPp O O (zFc (qT [some 1,some 1,none] O zr125 O)) ⟨_,_,0,O,O⟩<|zCc<|qF O (by decide) O O (zV O zBb O (zD 0 O) O)<|qF O (by decide) O O (zP O O)<|qF O (by decide) O O (zP O O)<|qF O (by decide) O O (zP O O)<|qF O (by decide) O O (zP O O)<|qF O (by decide) O O (qO O el51 O O (by omega) (zDc (by assumption)))<|qF O (by decide) O O (qW O zAu O)<|qF O (by decide) O O (zJ O zCg O qA O)<|qF O (by decide) O O (zP O O)<|qF O (by decide) O O (qC O ok48 (ih s (zY hs) bd u (W++[(k:Int)]) (by first|omega|(simp;omega)) (by first|omega|(simp;omega)) (by simp;omega)) ⟨Y,O,Y,O,Y,O,Y,O,Y,O,T⟩)<|zPe O O ?_
    rintro _ _ ⟨b10,rfl,rfl⟩
    refine zCb O<|rStR 0 sz125 O<|R<|zK<|A O<|zH O fd125_2<|zM zIc (zD 0 O) O<|kP O<|R<|zC O (fun c4=>?_) (fun c4=>?_)
    ·try simp only [sx] at c4
     rw [←hin] at c4
     refine A O<|zO agg125 (zD 0 O) O<|rStR 1 sz125 O<|R<|zF<|v (qL agg125 O (zD 1 O) O) ?_
     rw [zDz hs hp c4,hin];rfl
    ·try simp only [sx] at c4
     rw [←hin] at c4
     refine zI<|zN O<|zH O fd125_0<|zM zId (zD 0 O) O<|G O<|R<|zN O<|G O<|qI O ⟨by omega,by omega⟩<|G O<|R ?_
     refine ⟨⟨k+1,(chkS n.Bufs u (bd.map Bd.Name) (W++[(k:Int)]) s).U⟩,⟨by omega,by omega,zMr hs hp c4⟩,(by show l.length-(k+1)<l.length-k;omega),Weak.mk [false,true,true] ⟨Y,VLe.of_eq (congrArg vSs (by rw [hin])),Y,Y,Y,Y,Y,T⟩ O⟩
 ·try simp only [sx] at c1
  refine qP<|A O<|G O<|zT O (wG [none,some 1,none] O zr125 pl125 O O)<|rStR 0 sz125 O<|R<|zF<|v (qL agg125 O (zD 0 O) O) ?_
  rw [zPw hp (by omega)];rfl
theorem zRg (n:Ns) (hn:n.Ok) (s:St) (hl:stsWt s.Body<=900000):∀(bd:List Bd) (U:List ByteArray) (W:List Int),U.length+stsN s.Body<=1000000->bd.length+stsN s.Body<=1000000->W.length+stsN s.Body<=1000000->Pur cfg 48 [vNs n,vBds bd,vSs U,vSts s.Body,vIs W] (ckC (chkL n.Bufs U (bd.map Bd.Name) W 0 s.Body)):=by
  induction s using St.ind with
  |_ s ih=>
    intro bd U W hU hb hW
    refine zIa n bd U s.Body W hn hU hb hW hl fun a ha=>ih a ha ?_
    have:=kK ha;have:=St.body_wt a;omega
theorem ref30_body (n:Ns) (bd:List Bd) (U:List ByteArray) (l:List St) (W:List Int)  (hn:n.Ok) (hU:U.length+stsN l<=1000000) (hb:bd.length+stsN l<=1000000) (hW:W.length+stsN l<=1000000) (hl:stsWt l<=900000):Pur cfg 48 [vNs n,vBds bd,vSs U,vSts l,vIs W] (ckC (chkL n.Bufs U (bd.map Bd.Name) W 0 l)):=
  zIa n bd U l W hn hU hb hW hl fun s hs=>zRg n hn s (by have:=kK hs;have:=St.body_wt s;omega)
theorem ref30_Validate (n:Ns) (hn:n.Ok) (hw:stsWt n.Body<=900000):
    Pur cfg 16 [vNs n] (.tup [vIs (validN n).1,vI (validN n).2]):=by
 refine zS Tryz.func16 O Tryz.ntmps16 Tryz.results16 O ?_
 intro z hz
 refine A O<|zU O O (qN O O) ?_
 rintro _ _ ⟨b1,rfl,rfl⟩
 refine zT O (kE 1 O O)<|G O<|R<|zK<|A O<|zH O zFf<|zM zCg (zD 0 O) O<|qK O ok45 (ref30_depth 41 n.Body 41 (by omega) (by omega) O) ⟨Y,O,Y,O,T⟩<|zT O (yA O O O)<|R<|zC O (fun c1=>?_) (fun c1=>?_)
 ·try simp only [sx] at c1
  have hwi:=within_f c1
  refine A O<|zT O (kE 1 O O)<|G O<|R<|zF<|D (B O) (B O) ?_
  rw [zQn hwi];rfl
 ·try simp only [sx] at c1
  have hwi:=within_t c1
  refine zI<|zK<|A O<|zH O zFf<|zM zCg (zD 0 O) O<|qK O ok46 (ref30_size n.Body 2000 2000 (by omega) (by omega) O) ⟨Y,O,Y,O,T⟩<|zT O (yA O O O)<|G O<|rL0 O (fun g3_4=>zE O zAt O) O<|rL1 15 O (fun g3_4=>zJ O zDv O (zD 0 O) O) O<|rL1 16 O (fun g3_4=>yG O el50 O) O<|rL1 17 O (fun g3_4=>yA O O O) O<|r_or O (fun h=>(lzf h))<|R<|zC O (fun c2=>?_) (fun c2=>?_)
  ·try simp only [sx] at c2
   refine A O<|zT O (kE 1 O O)<|G O<|R<|zF<|D (B O) (B O) ?_
   rw [validN_2 hwi (by omega)];rfl
  ·try simp only [sx] at c2
   have hnum:=numB_ok (l:=n.Body) (m:=2000) (by omega)
   refine zI<|zK<|A O<|zO zBb (zD 0 O) O<|qK O ok47 (ref30_bufs n hn) ⟨Y,O,T⟩<|G O<|R<|A O<|G O<|kP O<|R<|zC O (fun c3=>?_) (fun c3=>?_)
   ·try simp only [sx] at c3
    refine A O<|G O<|zT O (kE 1 O O)<|G O<|R<|zF<|D (B O) (B O) ?_
    rw [validN_b hwi (by omega) c3];rfl
   ·try simp only [sx] at c3
    refine zI<|A O<|zO zBb (zD 0 O) O<|zH O zFf<|zM zCg (zD 0 O) O<|qK O ok48 (ref30_body n [] [] n.Body [] hn (by simp;omega) (by simp;omega) (by simp;omega) hw) ⟨Y,O,VLe.nil,O,VLe.nil,O,Y,O,VLe.nil,O,T⟩<|zU O O (qT [some 1,some 1,none] O zr125 O) ?_
    rintro _ _ ⟨b2,rfl,rfl⟩
    refine rStR 0 sz125 O<|R<|zK<|qU 6 mixed (by kernel_rfl) O O<|J O O (zE O fd125_1 O)<|J O O (zJ O zEh O (zD 0 O) O)<|J O O (zE O fd125_2 O)<|J O O (zJ O zIc O (zD 0 O) O)<|J O O (qV O O)<|J O O (qV O O)<|yO<|R<|zF<|D (B O) (B O) ?_
    rw [zPa hwi (by omega) c3];rfl
end Go.W
