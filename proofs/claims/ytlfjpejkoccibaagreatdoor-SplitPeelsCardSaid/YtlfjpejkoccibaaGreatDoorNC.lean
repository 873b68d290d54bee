/-
  Walks: what functions of the program compute. Printed by wip/gen/mk2.py.
  Conditions: none.
-/
import Derived.Test.YtlfjpejkoccibaaGreatDoorNB
import Derived.Test.YtlfjpejkoccibaaGreatDoorPlain2
import Derived.Test.YtlfjpejkoccibaaGreatDoorEngZ
set_option linter.unusedSimpArgs false
set_option linter.unusedVariables false
set_option maxRecDepth 10000
namespace Go.W
open Go Go.Eng Go.Proofs Go.L41 Go.Br
attribute [local irreducible] AWP RWP TD finQ
abbrev vBds (l:List Bd):V:=.c (.sl 2 (l.map Bd.cells))
abbrev ckC (x:Ck):V:=.agg [.sl 1 (x.U.map fun s=>[cS s]),.sl 1 (x.W.map fun i=>[cI i]),cI x.E]
theorem bd_get {l:List Bd} {k:Nat} {x:Bd} (h:l[k]? =some x):(l.map Bd.cells)[k]? =some [cS x.Name,cI x.Val]:=by rw [Q h];rfl
theorem agg148:aggT Tryz.prog 148=some 3:=by kernel_rfl
theorem el73:elemT Tryz.prog 73=some (80,2,24):=by kernel_rfl
theorem fd80_0:fieldT Tryz.prog 80 0=some (0,9):=by kernel_rfl
theorem fd148_0:fieldT Tryz.prog 148 0=some (0,105):=by kernel_rfl
theorem fd148_1:fieldT Tryz.prog 148 1=some (1,26):=by kernel_rfl
theorem fd148_2:fieldT Tryz.prog 148 2=some (2,51):=by kernel_rfl
theorem ok111:callOk Tryz.prog 111=true:=by kernel_rfl
theorem ok112:callOk Tryz.prog 112=true:=by kernel_rfl
theorem ok115:callOk Tryz.prog 115=true:=by kernel_rfl
theorem ok150:callOk Tryz.prog 150=true:=by kernel_rfl
theorem ok179:callOk Tryz.prog 179=true:=by kernel_rfl
theorem ok180:callOk Tryz.prog 180=true:=by kernel_rfl
theorem ok182:callOk Tryz.prog 182=true:=by kernel_rfl
theorem ok200:callOk Tryz.prog 200=true:=by kernel_rfl
theorem ok202:callOk Tryz.prog 202=true:=by kernel_rfl
theorem ok203:callOk Tryz.prog 203=true:=by kernel_rfl
theorem ok231:callOk Tryz.prog 231=true:=by kernel_rfl
theorem ok232:callOk Tryz.prog 232=true:=by kernel_rfl
theorem pl80:placesT Tryz.prog 80=some [(0,1),(1,1)]:=by kernel_rfl
theorem pl148:placesT Tryz.prog 148=some [(0,1),(1,1),(2,1)]:=by kernel_rfl
theorem sz148:(Tryz.prog.info? 148).map (·.size)=some 3:=by kernel_rfl
theorem zr80:zeroT Tryz.prog 80=some [(Value.string (ByteArray.mk #[])),(Value.int IntKind.i64 0)]:=by kernel_rfl
theorem zr148:zeroT Tryz.prog 148=some [(Value.slice none 0 0),(Value.slice none 0 0),(Value.int IntKind.i64 0)]:=by kernel_rfl
theorem zTe (l:List Lf) (bd:List Bd) (hl:l.length<=4294967296) (hx:∀x,x∈l->x.L.length<=4294967296) (hb:bd.length<=4294967296):
    Pur cfg 231 [vLins l,vBds bd] (vB (l.all (inSc (bd.map Bd.Name)))):=by
 refine zT Tryz.func231 O Tryz.ntmps231 Tryz.results231 O ?_
 intro z hz
 have hl0:=hx
 clear hx
 refine F O<|A O<|G<|zJ<|F O<|A O<|G<|zR<|zY ⟨[(5,.c _),(0,.c _),(1,.c _)],[]⟩ (Weak.mk [] ⟨H,H,H,T⟩ O)<|qK 1 0 O O (Nat) (fun k=>[(5,vI k)]) (fun k=>[]) (fun k=>k<=l.length/\((l.take k).all (inSc (bd.map Bd.Name))=true)) (fun k=>l.length-k) ⟨0,⟨by omega,O⟩,Weak.mk [] ⟨H,H,H,T⟩ O⟩ ?_
 rintro k ⟨hk,hp⟩
 refine zJ<|F O<|A O<|A O<|qC O el70<|yD O<|G<|zD O (fun c1=>?_) (fun c1=>?_)
 ·try simp only [I] at c1
  obtain ⟨x,hx⟩:=qV l k (by omega)
  have hxl:=hl0 x (qB hx)
  refine zK<|zJ<|zR<|F O<|A O<|G<|zR<|zY ⟨[(6,.c _),(0,.c _),(1,.c _),(5,.c _)],[]⟩ (Weak.mk [] ⟨H,H,H,H,T⟩ O)<|qK 1 0 O O (Nat) (fun j=>[(6,vI j)]) (fun j=>[]) (fun j=>j<=x.L.length/\(x.L.take j).all (fun m=>hasB (bd.map Bd.Name) m.Name)=true) (fun j=>x.L.length-j) ⟨0,⟨by omega,O⟩,Weak.mk [] ⟨H,H,H,H,T⟩ O⟩ ?_
  rintro j ⟨hj,hq⟩
  refine zJ<|F O<|A O<|A O<|A O<|qD O el70 (by omega) (Q hx)<|qP O yT<|zM wE qA O<|qC O N<|yD O<|G<|zD O (fun c2=>?_) (fun c2=>?_)
  ·try simp only [I] at c2
   obtain ⟨m,hm⟩:=qV x.L j (by omega)
   refine zK<|zJ<|zR<|F O<|A O<|G<|zJ<|F O<|A O<|G<|zR<|zY ⟨[(8,.c _),(7,.c _),(0,.c _),(1,.c _),(5,.c _),(6,.c _)],[]⟩ (Weak.mk [] ⟨H,H,H,H,H,H,T⟩ O)<|qK 2 0 O O (Nat) (fun i=>[(8,vI i),(7,vB ((bd.take i).any fun d=>decide (d.Name=m.Name)))]) (fun i=>[]) (fun i=>i<=bd.length) (fun i=>bd.length-i) ⟨0,(by omega),Weak.mk [] ⟨H,VLe.of_eq (O),H,H,H,H,T⟩ O⟩ ?_
   rintro i hi
   refine zJ<|F O<|A O<|A O<|qC O el73<|yD O<|G<|zD O (fun c3=>?_) (fun c3=>?_)
   ·try simp only [I] at c3
    obtain ⟨d,hd⟩:=qV bd i (by omega)
    refine zK<|zJ<|zR<|qY 19 mixed (by kernel_rfl) O O<|M O O (w O O)<|M O O (w O O)<|f [] O O O O gv1 T (fun g11_1=>w O O) O<|f [] O O O O gv1 T (fun g11_1=>w O O) O<|f [(33,_),(34,_)] O O O O gv1 ⟨O,O,O,O,T⟩ (fun g11_1=>qG O el73 O O (by omega) (bd_get hd)) O<|f [(35,_)] O O O O gv1 ⟨O,O,T⟩ (fun g11_1=>qL O fd80_0 O) O<|f [(36,_)] O O O O gv1 ⟨O,O,T⟩ (fun g11_1=>zF O one9 O qA O) O<|f [] O O O O gv1 T (fun g11_1=>w O O) O<|f [] O O O O gv1 T (fun g11_1=>w O O) O<|f [(38,_),(39,_)] O O O O gv1 ⟨O,O,O,O,T⟩ (fun g11_1=>qG O el70 O O (by omega) (Q hx)) O<|f [(40,_)] O O O O gv1 ⟨O,O,T⟩ (fun g11_1=>qL O yT O) O<|f [(41,_)] O O O O gv1 ⟨O,O,T⟩ (fun g11_1=>zF O wE O qA O) O<|f [] O O O O gv1 T (fun g11_1=>w O O) O<|f [(42,_),(43,_)] O O O O gv1 ⟨O,O,O,O,T⟩ (fun g11_1=>qG O N O O (by omega) (Q hm)) O<|f [(44,_)] O O O O gv1 ⟨O,O,T⟩ (fun g11_1=>qL O zAc O) O<|f [(45,_)] O O O O gv1 ⟨O,O,T⟩ (fun g11_1=>zF O one9 O qA O) O<|f [(37,_),(46,_)] O O O O gv1 ⟨O,O,O,O,T⟩ (fun g11_1=>yV O O O) O<|M O O (zAs O O O O (fun h=>(lzf h)))<|M O O (yA O O)<|kD<|G<|zQ O<|A O<|qJ O ⟨by omega,by omega⟩<|A O<|G ?_
    refine ⟨i+1,(by omega),(by omega),Weak.mk [] ⟨H,VLe.of_eq (congrArg vB (any_step hd)),H,H,H,H,T⟩ O⟩
   ·try simp only [I] at c3
    rw [yO (l:=bd) (k:=i) (by omega),any_hasB]
    refine qQ<|F O<|A O<|kO O<|G<|zD O (fun c4=>?_) (fun c4=>?_)
    ·try simp only [I] at c4
     have hno:=bound_no hx hm c4
     refine F O<|A O<|G<|o<|X O ?_
     rw [hno]
    ·try simp only [I] at c4
     refine zK<|zQ O<|A O<|qJ O ⟨by omega,by omega⟩<|A O<|G ?_
     refine ⟨j+1,⟨by omega,zKd hm hq c4⟩,(by omega),Weak.mk [] ⟨H,H,H,H,T⟩ O⟩
  ·try simp only [I] at c2
   rw [yO (l:=x.L) (k:=j) (by omega)] at hq
   refine qQ<|zQ O<|A O<|qJ O ⟨by omega,by omega⟩<|A O<|G ?_
   refine ⟨k+1,⟨by omega,zKd hx hp (show inSc _ x=true from hq)⟩,(by omega),Weak.mk [] ⟨H,H,H,T⟩ O⟩
 ·try simp only [I] at c1
  refine qQ<|F O<|A O<|G<|o<|X O ?_
  rw [yO (by omega)] at hp;rw [hp]
theorem ref30_lins (l:List Ix) (hl:l.length<=4294967296) (hw:idxWt l<=4294967296):
    OwnR cfg 232 [vIndices l] 41 2 ((l.flatMap ixF).map Lf.cells):=by
 refine zT Tryz.func232 O Tryz.ntmps232 Tryz.results232 O ?_
 intro z hz
 refine F O<|A O<|G<|F O<|A O<|yI _ (kN 41 2)<|G<|zJ<|F O<|A O<|G<|zR<|zY ⟨[(4,.c _),(3,.c _),(0,.c _)],[_]⟩ (Weak.mk [true] ⟨H,H,H,T⟩ O)<|qK 2 1 O O (Nat×Value) (fun ⟨k,sv⟩=>[(4,vI k),(3,.c (.lit sv))]) (fun ⟨k,sv⟩=>[E.vec sv 41 2 (((l.take k).flatMap ixF).map Lf.cells)]) (fun ⟨k,sv⟩=>k<=l.length) (fun ⟨k,sv⟩=>l.length-k) ⟨⟨0,(.slice none 0 0)⟩,(by omega),Weak.mk [true] ⟨H,H,H,T⟩ O⟩ ?_
 rintro ⟨k,sv⟩ hk
 show AWP _ _ _ _ _ ⟨[(4,vI k),(3,.c (.lit sv))]++_,[E.vec sv 41 2 (((l.take k).flatMap ixF).map Lf.cells)]++_⟩
 refine zJ<|F O<|A O<|A O<|qC O d<|yD O<|G<|zD O (fun c1=>?_) (fun c1=>?_)
 ·try simp only [I] at c1
  obtain ⟨x,hx⟩:=qV l k (by omega)
  have hfl:=ixs_len l k
  have hxw:=zAy (qB hx)
  unfold Ix.wt at hxw
  refine zK<|zJ<|zR<|F O<|A O<|A O<|A O<|qD O d (by omega) (Q (by assumption))<|qP O zEp<|zP yK qA O<|yZ O el70 U<|zX O O (qX 0 O el70 O O O (by simp only [List.length_map,List.length_append,List.length_cons,List.length_nil];omega) (by simp only [List.length_map,List.length_append,List.length_cons,List.length_nil];omega)) ?_
  rintro _ _ ⟨sv2,rfl,rfl⟩
  refine A O<|G<|zQ O<|A O<|A O<|A O<|qD O d (by omega) (Q (by assumption))<|qP O zAq<|zM zEh qA O<|zX O O (qX 0 O el70 O O O (by simp only [List.length_map,List.length_append,List.length_cons,List.length_nil];omega) (by simp only [List.length_map,List.length_append,List.length_cons,List.length_nil];omega)) ?_
  rintro _ _ ⟨sv3,rfl,rfl⟩
  refine A O<|G<|zQ O<|A O<|qJ O ⟨by omega,by omega⟩<|A O<|G ?_
  refine ⟨⟨k+1,sv3⟩,(by omega),(by show l.length-(k+1)<l.length-k;omega),Weak.mk [true] ⟨H,H,H,T⟩ (by exact zHo (by rw [yM hx,List.flatMap_append,List.map_append];simp [ixF];rfl))⟩
 ·try simp only [I] at c1
  refine qQ<|F O<|A O<|A O<|G<|o<|X O ?_
  exact ⟨_,O,by rw [yO (by omega)];rfl⟩
theorem ref30_node (n:Ns) (bd:List Bd) (e:Ex) (hn:n.Ok) (hb:bd.length<=1000000) (he:e.wt<=1073741824):
    Pur cfg 202 [vNs n,vBds bd,vE e] (vI (nodeN n.Bufs (bd.map Bd.Name) e)):=by
 refine zT Tryz.func202 O Tryz.ntmps202 Tryz.results202 O ?_
 intro z hz
 obtain ⟨hL,hI,hA⟩:=e.parts he
 have hwt:=Ex.wt_eq e
 refine F O<|zX O O (qN O O) ?_
 rintro _ _ ⟨b1,rfl,rfl⟩
 refine zX O O (qN O O) ?_
 rintro _ _ ⟨b2,rfl,rfl⟩
 refine A O<|G<|zJ<|F O<|zH O zDj<|zP yK (R 0 O) O<|yZ O el70 U<|A O<|qI O ok231 (zTe [e.Lin] bd (by simp) (by simp;omega) (by omega)) ⟨H,O,H,O,T⟩<|kO O<|A O<|rL0 O (fun g1_6=>zE O wD O) O<|B 19 O (fun g1_6=>zF O wQ O (R 0 O) O) O<|B 20 O (fun g1_6=>qM O ok232 (OwnR.pur (ref30_lins e.Idx (by omega) (by omega))) ⟨H,O,T⟩) O<|rL0 O (fun g1_6=>w O O) O<|rLz [(21,_),(22,_)] O gv1 ⟨O,O,O,O,T⟩ (fun g1_6=>qM O ok231 (zTe (e.Idx.flatMap ixF) bd (by have:=ixs_len e.Idx e.Idx.length;rw [List.take_length] at this;omega) (fun x hx=>by have:=forms_wt he (show x∈formsL e by unfold formsL;exact List.mem_cons_of_mem _ hx);omega) (by omega)) ⟨H,O,H,O,T⟩) O<|B 23 O (fun g1_6=>kX O O) O<|r_or O (fun h=>(lzf h))<|G<|zD O (fun c1=>?_) (fun c1=>?_)
 ·have h9:=node_sc_f c1
  refine F O<|A O<|G<|o<|X O ?_
  rw [nodeN_9 h9]
 ·have h9:=node_sc_t c1
  refine zK<|zJ<|F O<|zH O wF<|zM one3 (R 0 O) O<|yN O<|G<|zD O (fun c2=>?_) (fun c2=>?_)
  ·try simp only [I] at c2
   refine F O<|A O<|G<|o<|X O ?_
   rw [nodeN_o h9 c2]
  ·try simp only [I] at c2
   refine zK<|F O<|zP yY (R 1 O) O<|zH O zFk<|zM one9 (R 0 O) O<|qI O ok115 (zBu n e.Name hn) ⟨H,O,H,O,T⟩<|qO O<|yJ O<|qU O<|zX O O (qE [none,none,none,none,none,none,some 1,none] O zr65 O) ?_
   rintro _ _ ⟨b3,rfl,rfl⟩
   refine Y 0 sz65 O<|A O<|G<|zJ<|F O<|A O<|kO O<|G<|zD O (fun c3=>?_) (fun c3=>?_)
   ·try simp only [I] at c3
    refine F O<|A O<|G<|o<|X O ?_
    rw [nodeN_n h9 (by omega) c3]
   ·try simp only [I] at c3
    refine zK<|zJ<|F O<|zH O zLh<|zM zGo (R 0 O) O<|qC O K<|zH O wD<|zM wQ (R 1 O) O<|qC O d<|yN O<|G<|zD O (fun c4=>?_) (fun c4=>?_)
    ·try simp only [I] at c4
     refine F O<|A O<|G<|o<|X O ?_
     rw [nodeN_r h9 (by omega) c3 (by omega)]
    ·try simp only [I] at c4
     refine zK<|zJ<|F O<|A O<|G<|zR<|zY ⟨[(9,.c _),(3,.c _),(5,.c _)],[_,_]⟩ (Weak.mk [false,true,true] ⟨H,H,H,T⟩ O)<|qK 1 0 O O (Nat) (fun j=>[(9,vI j)]) (fun j=>[]) (fun j=>j<=e.Idx.length/\(gathL n.Bufs e.Idx=gathL n.Bufs (e.Idx.drop j))) (fun j=>e.Idx.length-j) ⟨0,⟨by omega,O⟩,Weak.mk [true,true] ⟨H,H,H,T⟩ O⟩ ?_
     rintro j ⟨hk,hq⟩
     refine zJ<|F O<|A O<|zH O wD<|zM wQ (R 0 O) O<|qC O d<|yD O<|G<|zD O (fun c5=>?_) (fun c5=>?_)
     ·try simp only [I] at c5
      obtain ⟨y,hy⟩:=qV e.Idx j (by omega)
      refine zK<|zJ<|zR<|zJ<|F O<|zH O wD<|zM wQ (R 0 O) O<|A O<|qD O d (by omega) (Q (by assumption))<|qP O zEo<|zM one9 qA O<|zU O (yV O O O)<|G<|zD O (fun c6=>?_) (fun c6=>?_)
      ·try simp only [I] at c6
       refine qQ<|zQ O<|A O<|qJ O ⟨by omega,by omega⟩<|A O<|G ?_
       refine ⟨j+1,⟨by omega,hq.trans (zKr hy (by first|exact gathE_0 c6|exact zRk c6 c7 (by omega) (by omega)))⟩,(by omega),Weak.mk [true,true] ⟨H,H,H,T⟩ O⟩
      ·try simp only [I] at c6
       refine zK<|zJ<|kH 13 1 [⟨0,.q [2]⟩,⟨1,.q []⟩,⟨2,.q [1]⟩,⟨3,.q []⟩,⟨4,.q []⟩,⟨5,.q []⟩,⟨6,.q []⟩,⟨7,.q []⟩,⟨8,.q []⟩,⟨9,.q []⟩,⟨10,.q []⟩,⟨11,.e 0 []⟩,⟨12,.e 0 []⟩] mixed (by kernel_rfl) (by kernel_rfl) O O O<|t O<|t O<|t O<|t O<|t O<|t O<|t O<|t O<|t O<|t O<|t O<|t O<|t O<|zAz<|v O (by decide) O O (zZ O yY O (R 0 O) O)<|v O (by decide) O O (zE O wD O)<|v O (by decide) O O (zF O wQ O (R 0 O) O)<|v O (by decide) O O (w O O)<|v O (by decide) O O (qG O d O O (by omega) (Q (by assumption)))<|v O (by decide) O O (qL O zEo O)<|v O (by decide) O O (zF O one9 O qA O)<|v O (by decide) O O (qM O ok115 (zBu n y.From hn) ⟨H,O,H,O,T⟩)<|v O (by decide) O O (kF O O)<|v O (by decide) O O (kY O O O)<|v O (by decide) O O (wA O O O)<|zHe O O (by decide) O O (qE [none,none,none,none,none,none,some 1,none] O zr65 O) ?_
       rintro _ _ ⟨b4,rfl,rfl⟩
       refine ⟨_,O,?_⟩
       refine zEe O O (by decide) O O (yU O sz65 O O O (zEd 0 O O)) ?_
       rintro _ _ ⟨rfl,rfl⟩
       refine ⟨_,O,?_⟩
       refine zAv O<|A O<|G<|zR<|F O<|A O<|kO O<|A O<|G<|zD O (fun c7=>?_) (fun c7=>?_)
       ·try simp only [I] at c7
        refine F O<|A O<|G<|o<|X O ?_
        rw [zJo h9 (by omega) c3 (by omega),hq,zKq hy (by rw [gathE_9 c6 c7];decide),gathE_9 c6 c7]
       ·try simp only [I] at c7
        refine F O<|zH O zJv<|zH O zGu<|zM one3 (R 0 O) O<|yN O<|A O<|G<|zD O (fun c8=>?_) (fun c8=>?_)
        ·try simp only [I] at c8
         refine F O<|A O<|G<|o<|X O ?_
         rw [zJo h9 (by omega) c3 (by omega),hq,zKq hy (by rw [zRm c6 c7 c8];decide),zRm c6 c7 c8]
        ·try simp only [I] at c8
         refine zJ<|qY 12 mixed (by kernel_rfl) O O<|M O O (zE O zLh O)<|M O O (zF O zGo O (R 0 O) O)<|M O O (yC O K O)<|M O O (zE O wD O)<|M O O (zF O wQ O (R 1 O) O)<|M O O (w O O)<|M O O (qG O d O O (by omega) (Q (by assumption)))<|M O O (qL O zAq O)<|M O O (zF O zEh O qA O)<|M O O (yC O el70 O)<|M O O (kR O O O)<|M O O (yA O O)<|kD<|G<|zD O (fun c9=>?_) (fun c9=>?_)
         ·try simp only [I] at c9
          refine F O<|A O<|G<|o<|X O ?_
          rw [zJo h9 (by omega) c3 (by omega),hq,zKq hy (by rw [zRl c6 c7 c8 (by omega)];decide),zRl c6 c7 c8 (by omega)]
         ·try simp only [I] at c9
          refine zK<|zQ O<|A O<|qJ O ⟨by omega,by omega⟩<|A O<|G ?_
          refine ⟨j+1,⟨by omega,hq.trans (zKr hy (by first|exact gathE_0 c6|exact zRk c6 c7 (by omega) (by omega)))⟩,(by omega),Weak.mk [false,true,true] ⟨H,H,H,T⟩ O⟩
     ·try simp only [I] at c5
      refine qQ<|F O<|A O<|G<|o<|X O ?_
      rw [zJo h9 (by omega) c3 (by omega),hq,kA (by omega)];rfl
theorem zTg (n:Ns) (hn:n.Ok) (e:Ex) (ih:∀a,a∈e.Args->partE a=0->a.wt<=1073741824->Pur cfg 203 [vNs n,vE a] (.tup [vTy (nodeT (kiN n.Bufs) a).1,vI (nodeT (kiN n.Bufs) a).2])) (hpart:partE e=0) (he:e.wt<=1073741824):
    Pur cfg 203 [vNs n,vE e] (.tup [vTy (nodeT (kiN n.Bufs) e).1,vI (nodeT (kiN n.Bufs) e).2]):=by
 refine zT Tryz.func203 O Tryz.ntmps203 Tryz.results203 O ?_
 intro z hz
 obtain ⟨hLl,hIl,hAl⟩:=e.parts he
 have hwt:=Ex.wt_eq e
 refine F O<|zX O O (qN O O) ?_
 rintro _ _ ⟨b1,rfl,rfl⟩
 refine zX O O (qN O O) ?_
 rintro _ _ ⟨b2,rfl,rfl⟩
 refine zX O O (yX O m) ?_
 rintro _ _ ⟨b3,rfl,rfl⟩
 refine A O<|G<|F O<|A O<|yI _ (kN 38 5)<|G<|zJ<|F O<|A O<|G<|zR<|zY ⟨[(7,.c _),(6,.c _),(2,.c _),(3,.c _),(4,.c _)],[_,_,_,_]⟩ (Weak.mk [true,true,true,true] ⟨H,H,H,H,H,T⟩ O)<|qK 2 1 O O (Nat×Value) (fun ⟨k,sv⟩=>[(7,vI k),(6,.c (.lit sv))]) (fun ⟨k,sv⟩=>[E.vec sv 38 5 ((nonC (e.Args.take k) (nodeL (kiN n.Bufs) (e.Args.take k)).1).map tyC)]) (fun ⟨k,sv⟩=>k<=e.Args.length/\((nodeL (kiN n.Bufs) (e.Args.take k)).2=0)) (fun ⟨k,sv⟩=>e.Args.length-k) ⟨⟨0,(.slice none 0 0)⟩,⟨by omega,O⟩,Weak.mk [true,true,true,true] ⟨H,H,H,H,H,T⟩ O⟩ ?_
 rintro ⟨k,sv⟩ ⟨hk,hp⟩
 show AWP _ _ _ _ _ ⟨[(7,vI k),(6,.c (.lit sv))]++_,[E.vec sv 38 5 ((nonC (e.Args.take k) (nodeL (kiN n.Bufs) (e.Args.take k)).1).map tyC)]++_⟩
 refine zJ<|F O<|A O<|zH O wN<|zM zBk (R 2 O) O<|qC O el42<|yD O<|G<|zD O (fun c1=>?_) (fun c1=>?_)
 ·try simp only [I] at c1
  obtain ⟨x,hx⟩:=qV e.Args k (by omega)
  have hll:=zGp _ _ hp
  have hcl:=nonC_len (e.Args.take k) (nodeL (kiN n.Bufs) (e.Args.take k)).1
  have htk:=List.length_take_le' k e.Args
  refine zK<|zJ<|zR<|zJ<|kH 12 1 [⟨0,.q [4]⟩,⟨1,.q []⟩,⟨2,.q [3]⟩,⟨3,.q []⟩,⟨4,.q []⟩,⟨5,.q []⟩,⟨6,.q []⟩,⟨7,.q []⟩,⟨8,.q []⟩,⟨9,.q []⟩,⟨10,.e 0 []⟩,⟨11,.e 0 []⟩] mixed (by kernel_rfl) (by kernel_rfl) O O O<|t O<|t O<|t O<|t O<|t O<|t O<|t O<|t O<|t O<|t O<|t O<|t O<|zAz<|v O (by decide) O O (zZ O yY O (R 0 O) O)<|v O (by decide) O O (zE O wN O)<|v O (by decide) O O (zF O zBk O (R 0 O) O)<|v O (by decide) O O (w O O)<|v O (by decide) O O (qG O el42 O O (by omega) (zEm (by assumption)))<|v O (by decide) O O (zZ O kC O qA O)<|v O (by decide) O O (qM O ok203 (ih x (qB hx) (zTl hpart (qB hx)) (by have:=Ex.arg_wt (qB hx);omega)) ⟨H,O,H,O,T⟩)<|v O (by decide) O O (kF O O)<|v O (by decide) O O (kY O O O)<|v O (by decide) O O (wA O O O)<|zHe O O (by decide) O O (yX O m) ?_
  rintro _ _ ⟨b5,rfl,rfl⟩
  refine ⟨_,O,?_⟩
  refine zEe O O (by decide) O O (yU O L O O O (zEd 0 O O)) ?_
  rintro _ _ ⟨rfl,rfl⟩
  refine ⟨_,O,?_⟩
  refine zAv O<|A O<|G<|zJ<|F O<|A O<|yN O<|G<|zD O (fun c2=>?_) (fun c2=>?_)
  ·try simp only [I] at c2
   refine F O<|yP O m pl38<|A O<|Y 2 L O<|A O<|G<|o<|p (zV yR O (R 2 O) O) (J O) ?_
   rw [nodeT_no hx hp c2];rfl
  ·try simp only [I] at c2
   refine zK<|F O<|zH O wN<|zM zBk (R 3 O) O<|A O<|qD O el42 (by omega) (zEm (by assumption))<|zP kC qA O<|qI O ok181 (kZ x) ⟨H,O,T⟩<|kO O<|G<|zD O (fun c3=>?_) (fun c3=>?_)
   ·try simp only [I] at c3
    refine zQ O<|A O<|zP yR (R 0 O) O<|yZ O zAk m<|zX O O (qX 1 O zAk O O O (by simp only [List.length_map,List.length_append,List.length_cons,List.length_nil,hll,List.length_take];omega) (by simp only [List.length_map,List.length_append,List.length_cons,List.length_nil,hll,List.length_take];omega)) ?_
    rintro _ _ ⟨sv6,rfl,rfl⟩
    refine A O<|G<|zQ O<|A O<|qJ O ⟨by omega,by omega⟩<|A O<|G ?_
    refine ⟨⟨k+1,_⟩,⟨by omega,by rw [zEu hx hp c2]⟩,(by show e.Args.length-(k+1)<e.Args.length-k;omega),Weak.mk [false,true,true,true,true] ⟨H,H,H,H,H,T⟩ (by exact zHo (by rw [zEu hx hp c2,yM hx,zTo hll.symm];first|(rw [if_pos c3,List.append_nil])|(rw [if_neg (by rw [c3];simp),List.map_append];rfl)))⟩
   ·try simp only [I] at c3
    refine zK<|zQ O<|A O<|qJ O ⟨by omega,by omega⟩<|A O<|G ?_
    refine ⟨⟨k+1,_⟩,⟨by omega,by rw [zEu hx hp c2]⟩,(by show e.Args.length-(k+1)<e.Args.length-k;omega),Weak.mk [false,true,true,true,true] ⟨H,H,H,H,H,T⟩ (by exact zHo (by rw [zEu hx hp c2,yM hx,zTo hll.symm];first|(rw [if_pos c3,List.append_nil])|(rw [if_neg (by rw [c3];simp),List.map_append];rfl)))⟩
 ·try simp only [I] at c1
  have hll:=zGp _ _ hp
  have hta:e.Args.take k=e.Args:=yO (by omega)
  have hT:nodeT (kiN n.Bufs) e=kiF n.Bufs e (nonC (e.Args.take k) (nodeL (kiN n.Bufs) (e.Args.take k)).1):=by have h:=nodeT_ok (N:=kiN n.Bufs) hta hp;rw [h];show kiF n.Bufs e (nonC e.Args _)=_;rw [hta]
  refine qQ<|zJ<|zJ<|qY 12 mixed (by kernel_rfl) O O<|M O O (w O O)<|M O O (kJ 0 O zAk O O)<|M O O (yL O O O)<|M O O (w O O)<|f [] O O O O gv1 T (fun g10_3=>w O O) O<|f [(48,_)] O O O O gv1 ⟨O,O,T⟩ (fun g10_3=>qS 0 O zAk O O O (by omega) (by simp only [Lz,cond_true,decide_eq_true_eq,List.length_map] at g10_3⊢;omega)) O<|f [(49,_)] O O O O gv1 ⟨O,O,T⟩ (fun g10_3=>zZ O yR O (wM 0 O (zKi (by simp only [Lz,cond_true,decide_eq_true_eq,List.length_map] at g10_3⊢;omega))) O) O<|f [] O O O O gv1 T (fun g10_3=>w O O) O<|f [(51,_)] O O O O gv1 ⟨O,O,T⟩ (fun g10_3=>qS 0 O zAk O O O (by omega) (by simp only [Lz,cond_true,decide_eq_true_eq,List.length_map] at g10_3⊢;omega)) O<|f [(52,_)] O O O O gv1 ⟨O,O,T⟩ (fun g10_3=>zZ O yR O (wM 0 O (zKi (by simp only [Lz,cond_true,decide_eq_true_eq,List.length_map] at g10_3⊢;omega))) O) O<|f [(50,_),(53,_)] O O O O gv1 ⟨O,O,O,O,T⟩ (fun g10_3=>zBj O fl38 O O O) O<|M O O (kU O O O (fun h=>h) O)<|kD<|G<|zD O (fun c4=>?_) (fun c4=>?_)
  ·obtain ⟨q1,q2⟩:=ki10_t c4
   refine F O<|yP O m pl38<|Y 1 L O<|A O<|G<|o<|p (zV yR O (R 1 O) O) (J O) ?_
   rw [hT];first|(rw [zGr q1 q2];rfl)|(rw [zPa hq (by omega)];rfl)|(rw [zQm hq (by omega)];rfl)|(rw [zQl hq (by omega)];rfl)|(rw [zNi hq c9];rfl)|(rw [zNh hq (by omega) c9];rfl)
  ·have hq:=ki10_f c4
   refine zK<|zJ<|F O<|zH O wF<|zM one3 (R 2 O) O<|G<|zR<|zJ<|F O<|yF O<|A O<|G<|zD O (fun c5=>?_) (fun c5=>?_)
   ·try simp only [I] at c5
    refine zK<|zD O (fun c6=>?_) (fun c6=>?_)
    ·try simp only [I] at c6
     refine F O<|zH O zFj<|zP yR (R 2 O) O<|Y 1 L O<|A O<|G<|o<|p (zV yR O (R 1 O) O) (J O) ?_
     rw [hT];first|(rw [zGr q1 q2];rfl)|(rw [zPa hq (by omega)];rfl)|(rw [zQm hq (by omega)];rfl)|(rw [zQl hq (by omega)];rfl)|(rw [zNi hq c9];rfl)|(rw [zNh hq (by omega) c9];rfl)
    ·try simp only [I] at c6
     refine F O<|yF O<|A O<|G<|zD O (fun c7=>?_) (fun c7=>?_)
     ·try simp only [I] at c7
      refine F O<|yP O m pl38<|Y 1 L O<|A O<|G<|o<|p (zV yR O (R 1 O) O) (J O) ?_
      rw [hT];first|(rw [zGr q1 q2];rfl)|(rw [zPa hq (by omega)];rfl)|(rw [zQm hq (by omega)];rfl)|(rw [zQl hq (by omega)];rfl)|(rw [zNi hq c9];rfl)|(rw [zNh hq (by omega) c9];rfl)
     ·try simp only [I] at c7
      refine F O<|yF O<|A O<|G<|zD O (fun c8=>?_) (fun c8=>?_)
      ·try simp only [I] at c8
       refine F O<|zP yY (R 3 O) O<|zH O zFk<|zM one9 (R 2 O) O<|qI O ok115 (zBu n e.Name hn) ⟨H,O,H,O,T⟩<|qO O<|yJ O<|qU O<|zX O O (qE [none,none,none,none,none,none,some 1,none] O zr65 O) ?_
       rintro _ _ ⟨b7,rfl,rfl⟩
       refine Y 0 sz65 O<|A O<|G<|F O<|zH O zJv<|zP yR (R 0 O) O<|Y 2 L O<|A O<|G<|o<|p (zV yR O (R 2 O) O) (J O) ?_
       rw [hT];first|(rw [zGr q1 q2];rfl)|(rw [zPa hq (by omega)];rfl)|(rw [zQm hq (by omega)];rfl)|(rw [zQl hq (by omega)];rfl)|(rw [zNi hq c9];rfl)|(rw [zNh hq (by omega) c9];rfl)
      ·try simp only [I] at c8
       refine zK<|zJ<|F O<|zP kC (R 2 O) O<|qI O ok181 (kZ e) ⟨H,O,T⟩<|G<|zD O (fun c9=>?_) (fun c9=>?_)
       ·try simp only [I] at c9
        refine F O<|yP O m pl38<|Y 1 L O<|A O<|G<|o<|p (zV yR O (R 1 O) O) (J O) ?_
        rw [hT];first|(rw [zGr q1 q2];rfl)|(rw [zPa hq (by omega)];rfl)|(rw [zQm hq (by omega)];rfl)|(rw [zQl hq (by omega)];rfl)|(rw [zNi hq c9];rfl)|(rw [zNh hq (by omega) c9];rfl)
       ·try simp only [I] at c9
        have hq1:1<=(nonC (e.Args.take k) (nodeL (kiN n.Bufs) (e.Args.take k)).1).length:=by have h:=ki_one hpart (l:=(nodeL (kiN n.Bufs) (e.Args.take k)).1) (by rw [hll,hta]) (by omega) c9;rw [hta];rw [hta] at h;exact h
        refine zK<|F O<|A O<|zU O (qS 0 O zAk O O O (by omega) (by simp only [List.length_map];omega))<|zP yR (wM 0 O (zKi (by omega))) O<|Y 1 L O<|A O<|G<|o<|p (zV yR O (R 1 O) O) (J O) ?_
        rw [hT];first|(rw [zGr q1 q2];rfl)|(rw [zPa hq (by omega)];rfl)|(rw [zQm hq (by omega)];rfl)|(rw [zQl hq (by omega)];rfl)|(rw [zNi hq c9];rfl)|(rw [zNh hq (by omega) c9];rfl)
   ·try simp only [I] at c5
    refine zQ O<|yF O<|A O<|G<|zD O (fun c6=>?_) (fun c6=>?_)
    ·try simp only [I] at c6
     refine F O<|zH O zFj<|zP yR (R 2 O) O<|Y 1 L O<|A O<|G<|o<|p (zV yR O (R 1 O) O) (J O) ?_
     rw [hT];first|(rw [zGr q1 q2];rfl)|(rw [zPa hq (by omega)];rfl)|(rw [zQm hq (by omega)];rfl)|(rw [zQl hq (by omega)];rfl)|(rw [zNi hq c9];rfl)|(rw [zNh hq (by omega) c9];rfl)
    ·try simp only [I] at c6
     refine F O<|yF O<|A O<|G<|zD O (fun c7=>?_) (fun c7=>?_)
     ·try simp only [I] at c7
      refine F O<|yP O m pl38<|Y 1 L O<|A O<|G<|o<|p (zV yR O (R 1 O) O) (J O) ?_
      rw [hT];first|(rw [zGr q1 q2];rfl)|(rw [zPa hq (by omega)];rfl)|(rw [zQm hq (by omega)];rfl)|(rw [zQl hq (by omega)];rfl)|(rw [zNi hq c9];rfl)|(rw [zNh hq (by omega) c9];rfl)
     ·try simp only [I] at c7
      refine F O<|yF O<|A O<|G<|zD O (fun c8=>?_) (fun c8=>?_)
      ·try simp only [I] at c8
       refine F O<|zP yY (R 3 O) O<|zH O zFk<|zM one9 (R 2 O) O<|qI O ok115 (zBu n e.Name hn) ⟨H,O,H,O,T⟩<|qO O<|yJ O<|qU O<|zX O O (qE [none,none,none,none,none,none,some 1,none] O zr65 O) ?_
       rintro _ _ ⟨b8,rfl,rfl⟩
       refine Y 0 sz65 O<|A O<|G<|F O<|zH O zJv<|zP yR (R 0 O) O<|Y 2 L O<|A O<|G<|o<|p (zV yR O (R 2 O) O) (J O) ?_
       rw [hT];first|(rw [zGr q1 q2];rfl)|(rw [zPa hq (by omega)];rfl)|(rw [zQm hq (by omega)];rfl)|(rw [zQl hq (by omega)];rfl)|(rw [zNi hq c9];rfl)|(rw [zNh hq (by omega) c9];rfl)
      ·try simp only [I] at c8
       refine zK<|zJ<|F O<|zP kC (R 2 O) O<|qI O ok181 (kZ e) ⟨H,O,T⟩<|G<|zD O (fun c9=>?_) (fun c9=>?_)
       ·try simp only [I] at c9
        refine F O<|yP O m pl38<|Y 1 L O<|A O<|G<|o<|p (zV yR O (R 1 O) O) (J O) ?_
        rw [hT];first|(rw [zGr q1 q2];rfl)|(rw [zPa hq (by omega)];rfl)|(rw [zQm hq (by omega)];rfl)|(rw [zQl hq (by omega)];rfl)|(rw [zNi hq c9];rfl)|(rw [zNh hq (by omega) c9];rfl)
       ·try simp only [I] at c9
        have hq1:1<=(nonC (e.Args.take k) (nodeL (kiN n.Bufs) (e.Args.take k)).1).length:=by have h:=ki_one hpart (l:=(nodeL (kiN n.Bufs) (e.Args.take k)).1) (by rw [hll,hta]) (by omega) c9;rw [hta];rw [hta] at h;exact h
        refine zK<|F O<|A O<|zU O (qS 0 O zAk O O O (by omega) (by simp only [List.length_map];omega))<|zP yR (wM 0 O (zKi (by omega))) O<|Y 1 L O<|A O<|G<|o<|p (zV yR O (R 1 O) O) (J O) ?_
        rw [hT];first|(rw [zGr q1 q2];rfl)|(rw [zPa hq (by omega)];rfl)|(rw [zQm hq (by omega)];rfl)|(rw [zQl hq (by omega)];rfl)|(rw [zNi hq c9];rfl)|(rw [zNh hq (by omega) c9];rfl)
theorem ref30_Kind (n:Ns) (e:Ex) (hn:n.Ok) (hpart:partE e=0) (he:e.wt<=1073741824):Pur cfg 203 [vNs n,vE e] (.tup [vTy (nodeT (kiN n.Bufs) e).1,vI (nodeT (kiN n.Bufs) e).2]):=by
  induction e using Ex.ind with
  |_ e ih=>exact zTg n hn e (fun a ha h1 h2=>ih a ha h1 h2) hpart he
theorem zHj (n:Ns) (bd:List Bd) (e:Ex) (hn:n.Ok) (hb:bd.length<=1000000) (he:e.wt<=1000000):
    Pur cfg 180 [vNs n,vBds bd,vE e] (.tup [vTy (exprT n.Bufs (bd.map Bd.Name) e).1,vI (exprT n.Bufs (bd.map Bd.Name) e).2]):=by
 refine zT Tryz.func180 O Tryz.ntmps180 Tryz.results180 O ?_
 intro z hz
 have hnl:=nodes_wt e
 refine F O<|zX O O (qN O O) ?_
 rintro _ _ ⟨b1,rfl,rfl⟩
 refine zX O O (qN O O) ?_
 rintro _ _ ⟨b2,rfl,rfl⟩
 refine zX O O (yX O m) ?_
 rintro _ _ ⟨b3,rfl,rfl⟩
 refine A O<|G<|zJ<|F O<|zP kC (R 1 O) O<|qI O ok200 (ref14_Validate e (by omega)) ⟨H,O,T⟩<|A O<|G<|F O<|A O<|yN O<|G<|zD O (fun c1=>?_) (fun c1=>?_)
 ·try simp only [I] at c1
  refine F O<|yP O m pl38<|A O<|Y 0 L O<|A O<|G<|o<|p (zV yR O (R 0 O) O) (J O) ?_
  rw [exprT_1 c1];rfl
 ·try simp only [I] at c1
  refine zK<|F O<|zP kC (R 1 O) O<|qI O ok201 (OwnR.pur (ref14_All e (by omega))) ⟨H,O,T⟩<|A O<|G<|zJ<|F O<|A O<|G<|zR<|zY ⟨[(10,.c _),(1,.c _),(3,.c _),(5,.c _),(6,.c _),(9,.c _)],[_,_,_]⟩ (Weak.mk [true,true,true] ⟨H,H,H,H,H,H,T⟩ O)<|qK 1 0 O O (Nat) (fun k=>[(10,vI k)]) (fun k=>[]) (fun k=>k<=(nodes e).length/\(nodesN n.Bufs (bd.map Bd.Name) (nodes e)=nodesN n.Bufs (bd.map Bd.Name) ((nodes e).drop k))) (fun k=>(nodes e).length-k) ⟨0,⟨by omega,O⟩,Weak.mk [true,true,true] ⟨H,H,H,H,H,H,T⟩ O⟩ ?_
  rintro k ⟨hk,hp⟩
  refine zJ<|F O<|A O<|A O<|qC O el42<|yD O<|G<|zD O (fun c2=>?_) (fun c2=>?_)
  ·try simp only [I] at c2
   obtain ⟨x,hx⟩:=qV (nodes e) k (by omega)
   refine zK<|zJ<|zR<|zJ<|qY 8 mixed (by kernel_rfl) O O<|M O O (zZ O yY O (R 2 O) O)<|M O O (w O O)<|M O O (w O O)<|M O O (w O O)<|M O O (qG O el42 O O (by omega) (zEm (by assumption)))<|M O O (zZ O kC O qA O)<|M O O (qM O ok202 (ref30_node n bd x hn hb (by have:=zFe e x (qB hx);omega)) ⟨H,O,H,O,H,O,T⟩)<|M O O (yA O O)<|kD<|G<|F O<|A O<|yN O<|G<|zD O (fun c3=>?_) (fun c3=>?_)
   ·try simp only [I] at c3
    refine F O<|yP O m pl38<|A O<|Y 0 L O<|A O<|G<|o<|p (zV yR O (R 0 O) O) (J O) ?_
    rw [exprT_2 c1 (by rw [hp,nodesN_no hx c3];exact c3),hp,nodesN_no hx c3];rfl
   ·try simp only [I] at c3
    refine zK<|zQ O<|A O<|qJ O ⟨by omega,by omega⟩<|A O<|G ?_
    refine ⟨k+1,⟨by omega,hp.trans (nodesN_at hx c3)⟩,(by omega),Weak.mk [true,true,true] ⟨H,H,H,H,H,H,T⟩ O⟩
  ·try simp only [I] at c2
   refine qQ<|F O<|zP yY (R 2 O) O<|zP kC (R 1 O) O<|qI O ok203 (ref30_Kind n e hn (zOi c1) (by omega)) ⟨H,O,H,O,T⟩<|yJ O<|qU O<|Y 0 L O<|A O<|G<|o<|p (zV yR O (R 0 O) O) (J O) ?_
   rw [exprT_k c1 (by rw [hp,kA (by omega)];rfl)];rfl
theorem ref30_plain (s:St) (hs:s.wt<=900000000):
    Pur cfg 179 [vSt s] (vB (synSt s)):=by
 refine zT Tryz.func179 O Tryz.ntmps179 Tryz.results179 O ?_
 intro z hz
 obtain ⟨hE,hI,hIw,hB,hBw⟩:=St.parts hs
 refine F O<|zX O O (qN O O) ?_
 rintro _ _ ⟨b1,rfl,rfl⟩
 refine A O<|G<|zJ<|qY 8 mixed (by kernel_rfl) O O<|M O O (zE O zAm O)<|M O O (zF O one3 O (R 0 O) O)<|M O O (yL O O O)<|M O O (zE O zAm O)<|M O O (zF O one3 O (R 0 O) O)<|M O O (yL O O O)<|M O O (yA O O)<|M O O (yA O O)<|kD<|G<|F O<|zH O zAm<|zM one3 (R 0 O) O<|yF O<|A O<|rL0 O (fun g2_3=>zE O zAm O) O<|B 16 O (fun g2_3=>zF O one3 O (R 0 O) O) O<|B 17 O (fun g2_3=>yL O O O) O<|r_or O (fun h=>(lzf h))<|A O<|G<|zJ<|F O<|A O<|kO O<|A O<|rL0 O (fun g3_2=>w O O) O<|B 23 O (fun g3_2=>kX O O) O<|yS O (fun h=>h)<|A O<|rL0 O (fun g3_6=>w O O) O<|B 27 O (fun g3_6=>kX O O) O<|yS O (fun h=>h)<|G<|zD O (fun c1=>?_) (fun c1=>?_)
 ·refine F O<|A O<|G<|o<|X O ?_
  exact congrArg vB (pln_1 c1)
 ·refine zK<|zJ<|F O<|A O<|kO O<|A O<|rL0 O (fun g5_2=>zE O zAl O) O<|B 33 O (fun g5_2=>zF O one3 O (R 0 O) O) O<|B 34 O (fun g5_2=>kR O O O) O<|B 35 O (fun g5_2=>w O O) O<|rLz [] O P T (fun g5_6=>zE O zFw O) O<|rLz [(37,_)] O P ⟨O,O,T⟩ (fun g5_6=>zF O one3 O (R 0 O) O) O<|rLz [(38,_)] O P ⟨O,O,T⟩ (fun g5_6=>kR O O O) O<|B 36 O (fun g5_2=>zAs O O O O (fun h=>kE (by assumption) (lzf h))) O<|yS O (fun h=>h)<|A O<|rL0 O (fun g5_12=>zE O zAm O) O<|B 43 O (fun g5_12=>zF O one3 O (R 0 O) O) O<|B 44 O (fun g5_12=>kR O O O) O<|B 45 O (fun g5_12=>w O O) O<|rLz [] O P T (fun g5_16=>zE O zPx O) O<|rLz [(47,_)] O P ⟨O,O,T⟩ (fun g5_16=>zF O one3 O (R 0 O) O) O<|rLz [(48,_)] O P ⟨O,O,T⟩ (fun g5_16=>kR O O O) O<|B 46 O (fun g5_12=>kU O O O (fun h=>kE (by assumption) h) O) O<|r_or O (fun h=>(lzf h))<|A O<|rL0 O (fun g5_22=>w O O) O<|B 53 O (fun g5_22=>w O O) O<|rLz [] O P T (fun g5_24=>zE O zAo O) O<|rLz [(55,_)] O P ⟨O,O,T⟩ (fun g5_24=>zF O one9 O (R 0 O) O) O<|rLz [(56,_)] O P ⟨O,O,T⟩ (fun g5_24=>zAp O O O) O<|B 54 O (fun g5_22=>kU O O O (fun h=>kE (by assumption) h) O) O<|r_or O (fun h=>(lzf h))<|G<|zD O (fun c2=>?_) (fun c2=>?_)
  ·refine F O<|A O<|G<|o<|X O ?_
   exact congrArg vB (pln_2 c2)
  ·refine zK<|zJ<|F O<|A O<|kO O<|A O<|rL0 O (fun g7_2=>zE O zDm O) O<|B 63 O (fun g7_2=>zF O wQ O (R 0 O) O) O<|B 64 O (fun g7_2=>yC O d O) O<|B 65 O (fun g7_2=>yG O O O) O<|yS O (fun h=>h)<|A O<|rL0 O (fun g7_8=>w O O) O<|B 69 O (fun g7_8=>w O O) O<|rLz [] O P T (fun g7_10=>zE O kM O) O<|rLz [(71,_)] O P ⟨O,O,T⟩ (fun g7_10=>zF O kQ O (R 0 O) O) O<|rLz [(72,_)] O P ⟨O,O,T⟩ (fun g7_10=>yC O D O) O<|rLz [(73,_)] O P ⟨O,O,T⟩ (fun g7_10=>yG O O O) O<|B 70 O (fun g7_8=>kU O O O (fun h=>kE (by assumption) h) O) O<|r_or O (fun h=>(lzf h))<|G<|zD O (fun c3=>?_) (fun c3=>?_)
   ·refine F O<|A O<|G<|o<|X O ?_
    exact congrArg vB (pln_3 c3)
   ·refine zK<|F O<|A O<|kO O<|A O<|rL0 O (fun g9_2=>zE O zBd O) O<|B 80 O (fun g9_2=>zZ O kC O (R 0 O) O) O<|rL0 O (fun g9_2=>zEy [none,none,none,none,none,none,none,none,none,none,some 2,some 4,some 13] O zr44 pl44 O O) O<|rLz [(81,_),(82,_)] O gv1 ⟨O,O,O,O,T⟩ (fun g9_2=>qM O ok141 (base_Expr s.E zEx (by omega)) ⟨H,O,H,O,T⟩) O<|r_or O (fun h=>(lzf h))<|A O<|G<|o<|X O ?_
    exact congrArg vB (pln_4 c1 c2 c3)
theorem ref30_store (n:Ns) (bd:List Bd) (s:St) (hn:n.Ok) (hb:bd.length<=1000000) (hs:s.wt<=900000):
    Pur cfg 182 [vNs n,vBds bd,vSt s] (vI (storeE n.Bufs (bd.map Bd.Name) s)):=by
 refine zT Tryz.func182 O Tryz.ntmps182 Tryz.results182 O ?_
 intro z hz
 obtain ⟨hE,hI,hIw,hB,hBw⟩:=St.parts hs
 have hrd:=rdE_wt s
 refine F O<|zX O O (qN O O) ?_
 rintro _ _ ⟨b1,rfl,rfl⟩
 refine zX O O (qN O O) ?_
 rintro _ _ ⟨b2,rfl,rfl⟩
 refine A O<|G<|zJ<|F O<|zP yY (R 1 O) O<|A O<|zH O zAo<|zM one9 (R 0 O) O<|zH O zDm<|zM wQ (R 0 O) O<|qT [none,none,none,none,none,none,none,none,none,none,some 2,none,some 13] O zr44 pl44<|qI O ok180 (zHj n bd (rdE s) hn hb (by omega)) ⟨H,O,H,O,H,O,T⟩<|qO O<|yJ O<|qU O<|zX O O (yX O m) ?_
 rintro _ _ ⟨b3,rfl,rfl⟩
 refine Y 0 L O<|A O<|G<|F O<|A O<|yN O<|G<|zD O (fun c1=>?_) (fun c1=>?_)
 ·try simp only [I] at c1
  refine F O<|A O<|A O<|G<|o<|X O ?_
  rw [storeE_1 c1]
 ·try simp only [I] at c1
  refine zK<|F O<|zP yY (R 2 O) O<|zH O zAo<|zM one9 (R 1 O) O<|qI O ok115 (zBu n s.Name hn) ⟨H,O,H,O,T⟩<|qO O<|yJ O<|qU O<|zX O O (qE [none,none,none,none,none,none,some 1,none] O zr65 O) ?_
  rintro _ _ ⟨b4,rfl,rfl⟩
  refine Y 0 sz65 O<|A O<|G<|zJ<|F O<|zH O zPw<|zM one3 (R 0 O) O<|yF O<|A O<|rL0 O (fun g5_3=>zE O zAm O) O<|B 38 O (fun g5_3=>zF O one3 O (R 2 O) O) O<|B 39 O (fun g5_3=>yL O O O) O<|B 40 O (fun g5_3=>w O O) O<|rLz [] O P T (fun g5_7=>zE O zPx O) O<|rLz [(42,_)] O P ⟨O,O,T⟩ (fun g5_7=>zF O one3 O (R 2 O) O) O<|rLz [(43,_)] O P ⟨O,O,T⟩ (fun g5_7=>zBa O O O) O<|rLz [(44,_)] O P ⟨O,O,T⟩ (fun g5_7=>w O O) O<|rLz [] O P T (fun g5_11=>zE O zPx O) O<|rLz [(46,_)] O P ⟨O,O,T⟩ (fun g5_11=>zF O one3 O (R 2 O) O) O<|rLz [(47,_)] O P ⟨O,O,T⟩ (fun g5_11=>yG O O O) O<|rLz [(45,_)] O P ⟨O,O,T⟩ (fun g5_7=>zAs O O O O (fun h=>kE (by assumption) (lzf h))) O<|B 41 O (fun g5_3=>kU O O O (fun h=>kE (by assumption) h) O) O<|r_or O (fun h=>(lzf h))<|G<|zD O (fun c2=>?_) (fun c2=>?_)
  ·try simp only [I] at c2
   refine F O<|A O<|G<|o<|X O ?_
   rw [storeE_u c1 c2]
  ·try simp only [I] at c2
   refine zK<|F O<|zP yY (R 3 O) O<|A O<|zH O zBd<|zP kC (R 2 O) O<|qI O ok180 (zHj n bd s.E hn hb (by omega)) ⟨H,O,H,O,H,O,T⟩<|qO O<|yJ O<|qU O<|zX O O (yX O m) ?_
   rintro _ _ ⟨b5,rfl,rfl⟩
   refine Y 0 L O<|A O<|G<|zJ<|F O<|A O<|yF O<|A O<|rL0 O (fun g8_2=>zE O zBd O) O<|B 63 O (fun g8_2=>zZ O kC O (R 3 O) O) O<|B 64 O (fun g8_2=>qM O ok181 (kZ _) ⟨H,O,T⟩) O<|B 65 O (fun g8_2=>w O O) O<|rLz [] O P T (fun g8_6=>zZ O yR O (R 0 O) O) O<|rLz [] O P T (fun g8_6=>zE O zJv O) O<|rLz [(68,_)] O P ⟨O,O,T⟩ (fun g8_6=>zZ O yR O (R 1 O) O) O<|rLz [(67,_),(69,_)] O P ⟨O,O,O,O,T⟩ (fun g8_6=>zBj O fl38 O O O) O<|B 66 O (fun g8_2=>zAs O O O O (fun h=>kE (by assumption) (lzf h))) O<|yS O (fun h=>h)<|G<|zD O (fun c3=>?_) (fun c3=>?_)
   ·obtain ⟨h0,h10⟩:=st3_t c3
    refine F O<|A O<|G<|o<|X O ?_
    rw [storeE_10 c1 (by omega) h0 h10]
   ·have h3:=st3_f c3
    refine zK<|F O<|A O<|A O<|G<|o<|X O ?_
    rw [st_fin c1 (by omega) h3]
theorem ref30_one (n:Ns) (bd:List Bd) (U:List ByteArray) (s:St) (hn:n.Ok) (hb:bd.length<=1000000) (hs:s.wt<=900000) (hU:U.length<=1000000):
    Pur cfg 150 [vNs n,vBds bd,vSs U,vSt s] (vI (stE n.Bufs U (bd.map Bd.Name) s)):=by
 refine zT Tryz.func150 O Tryz.ntmps150 Tryz.results150 O ?_
 intro z hz
 obtain ⟨hE,hI,hIw,hB,hBw⟩:=St.parts hs
 refine F O<|zX O O (qN O O) ?_
 rintro _ _ ⟨b1,rfl,rfl⟩
 refine zX O O (qN O O) ?_
 rintro _ _ ⟨b2,rfl,rfl⟩
 refine A O<|G<|zJ<|F O<|zP zAt (R 0 O) O<|qI O ok179 (ref30_plain s (by omega)) ⟨H,O,T⟩<|kO O<|G<|zD O (fun c1=>?_) (fun c1=>?_)
 ·try simp only [I] at c1
  refine F O<|A O<|G<|o<|X O ?_
  rw [stE_5 c1]
 ·try simp only [I] at c1
  refine zK<|zJ<|F O<|zH O zAm<|zM one3 (R 0 O) O<|G<|zR<|F O<|yF O<|A O<|G<|zD O (fun c2=>?_) (fun c2=>?_)
  ·try simp only [I] at c2
   refine F O<|zP yY (R 1 O) O<|zH O zAo<|zM one9 (R 0 O) O<|qI O ok115 (zBu n s.Name hn) ⟨H,O,H,O,T⟩<|qO O<|yJ O<|qU O<|zX O O (qE [none,none,none,none,none,none,some 1,none] O zr65 O) ?_
   rintro _ _ ⟨b3,rfl,rfl⟩
   refine Y 0 sz65 O<|A O<|G<|zJ<|zR<|F O<|zH O zAo<|zM one9 (R 1 O) O<|qI O ok60 (zEk s.Name) ⟨H,O,T⟩<|kO O<|A O<|G<|zD O (fun c3=>?_) (fun c3=>?_)
   ·try simp only [I] at c3
    refine F O<|A O<|G<|o<|X O ?_
    rw [stE_l c1 c2,loopE_7 c3]
   ·try simp only [I] at c3
    refine F O<|A O<|A O<|rL0 O (fun g8_1=>w O O) O<|rL0 O (fun g8_1=>zE O zAo O) O<|B 36 O (fun g8_1=>zF O one9 O (R 1 O) O) O<|rLz [(35,_),(37,_)] O gv1 ⟨O,O,O,O,T⟩ (fun g8_1=>qM O ok113 (zOb U s.Name (by omega)) ⟨H,O,H,O,T⟩) O<|r_or O (fun h=>(lzf h))<|A O<|G<|zD O (fun c4=>?_) (fun c4=>?_)
    ·try simp only [I] at c4
     refine F O<|A O<|G<|o<|X O ?_
     rw [stE_l c1 c2,loopE_8 c3 c4]
    ·try simp only [I] at c4
     have h8:¬(hasBf n.Bufs s.Name=true∨hasB U s.Name=true):=by rw [c4.1,c4.2];simp
     refine F O<|zH O zAl<|zM one3 (R 1 O) O<|yD O<|A O<|rL0 O (fun g10_3=>zE O zAl O) O<|B 45 O (fun g10_3=>zF O one3 O (R 1 O) O) O<|B 46 O (fun g10_3=>yG O O O) O<|r_or O (fun h=>(lzf h))<|A O<|rL0 O (fun g10_8=>zE O zFw O) O<|B 50 O (fun g10_8=>zF O one3 O (R 1 O) O) O<|B 51 O (fun g10_8=>zBa O O O) O<|r_or O (fun h=>(lzf h))<|A O<|rL0 O (fun g10_13=>zE O zFw O) O<|B 55 O (fun g10_13=>zF O one3 O (R 1 O) O) O<|B 56 O (fun g10_13=>yG O O O) O<|r_or O (fun h=>(lzf h))<|A O<|G<|zD O (fun c5=>?_) (fun c5=>?_)
     ·try simp only [I] at c5
      refine F O<|A O<|G<|o<|X O ?_
      rw [stE_l c1 c2,loopE_1 c3 h8 (by omega)]
     ·try simp only [I] at c5
      refine zK<|F O<|A O<|G<|o<|X O ?_
      rw [stE_l c1 c2,loopE_0 c3 h8 (by omega)]
  ·try simp only [I] at c2
   refine F O<|yF O<|A O<|G<|zD O (fun c6=>?_) (fun c6=>?_)
   ·try simp only [I] at c6
    refine F O<|zP yY (R 1 O) O<|A O<|zH O zBd<|zP kC (R 0 O) O<|qI O ok180 (zHj n bd s.E hn hb (by omega)) ⟨H,O,H,O,H,O,T⟩<|qO O<|yJ O<|qU O<|zX O O (yX O m) ?_
    rintro _ _ ⟨b4,rfl,rfl⟩
    refine Y 0 L O<|A O<|G<|zJ<|F O<|A O<|yF O<|A O<|rL0 O (fun g15_2=>zE O zBd O) O<|B 72 O (fun g15_2=>zZ O kC O (R 1 O) O) O<|B 73 O (fun g15_2=>qM O ok181 (kZ _) ⟨H,O,T⟩) O<|B 74 O (fun g15_2=>kX O O) O<|yS O (fun h=>h)<|G<|zD O (fun c7=>?_) (fun c7=>?_)
    ·refine F O<|A O<|G<|o<|X O ?_
     rw [stE_i c1 c6,if_t c7]
    ·refine zK<|F O<|A O<|A O<|G<|o<|X O ?_
     rw [stE_i c1 c6,if_fin c7]
   ·try simp only [I] at c6
    refine zK<|F O<|zP yY (R 1 O) O<|A O<|zP zAt (R 0 O) O<|qI O ok182 (ref30_store n bd s hn hb hs) ⟨H,O,H,O,H,O,T⟩<|A O<|G<|o<|X O ?_
    rw [stE_s c1 c2 c6]
set_option maxHeartbeats 2000000 in
theorem zJh (n:Ns) (bd:List Bd) (U:List ByteArray) (l:List St) (W:List Int) (hn:n.Ok) (hU:U.length+stsN l<=1000000) (hb:bd.length+stsN l<=1000000) (hW:W.length+stsN l<=1000000) (hl:stsWt l<=900000) (ih:∀s,s∈l->∀(bd:List Bd) (U:List ByteArray) (W:List Int),U.length+stsN s.Body<=1000000->bd.length+stsN s.Body<=1000000->W.length+stsN s.Body<=1000000->Pur cfg 112 [vNs n,vBds bd,vSs U,vSts s.Body,vIs W] (ckC (chkL n.Bufs U (bd.map Bd.Name) W 0 s.Body))):
    Pur cfg 112 [vNs n,vBds bd,vSs U,vSts l,vIs W] (ckC (chkL n.Bufs U (bd.map Bd.Name) W 0 l)):=by
 refine zT Tryz.func112 O Tryz.ntmps112 Tryz.results112 O ?_
 intro z hz
 have hll:=kP l
 have hlN:=zDv l
 refine F O<|zX O O (qN O O) ?_
 rintro _ _ ⟨b1,rfl,rfl⟩
 refine zX O O (qE [some 1,some 1,none] O zr148 O) ?_
 rintro _ _ ⟨b2,rfl,rfl⟩
 refine G<|zJ<|F O<|A O<|G<|zR<|zY ⟨[(11,.c _),(2,.c _),(1,.c _),(3,.c _),(4,.c _),(5,.c _),(10,.c _)],[_,_]⟩ (Weak.mk [true,true] ⟨H,H,H,H,H,H,H,T⟩ O)<|qK 2 0 O O (Nat×List ByteArray) (fun ⟨k,u⟩=>[(11,vI k),(2,vSs u)]) (fun ⟨k,u⟩=>[]) (fun ⟨k,u⟩=>k<=l.length/\(u.length+stsN (l.drop k)<=1000000)/\((chkL n.Bufs U (bd.map Bd.Name) W 0 l)=chkL n.Bufs u (bd.map Bd.Name) W k (l.drop k))) (fun ⟨k,u⟩=>l.length-k) ⟨⟨0,U⟩,⟨by omega,by simpa using hU,O⟩,Weak.mk [true,true] ⟨H,VLe.of_eq (O),H,H,H,H,H,T⟩ O⟩ ?_
 rintro ⟨k,u⟩ ⟨hk,hub,hp⟩
 show AWP _ _ _ _ _ ⟨[(11,vI k),(2,vSs u)]++_,[]++_⟩
 refine zJ<|F O<|A O<|A O<|qC O D<|yD O<|G<|zD O (fun c1=>?_) (fun c1=>?_)
 ·try simp only [I] at c1
  obtain ⟨s,hs⟩:=qV l k (by omega)
  have hsw:=yE (qB hs)
  have hsb:=St.body_wt s
  have hsn:=stsN_drop hs
  have hse:=zGi s
  have hsm:=zHd (qB hs)
  have hcl:=chkS_len n.Bufs s u (bd.map Bd.Name) (W++[(k:Int)])
  refine zK<|zJ<|zR<|F O<|zU O (zLy O K zr3)<|A O<|zX O O (zLs O K O O (by simp only [List.length_map,List.length_append,List.length_cons,List.length_nil];omega) (by simp only [List.length_map,List.length_append,List.length_cons,List.length_nil];omega)) ?_
  rintro _ _ ⟨sv3,rfl,rfl⟩
  refine A O<|yZ O K zr3<|zX O O (qX 0 O K O O O (by simp only [List.length_map,List.length_append,List.length_cons,List.length_nil];omega) (by simp only [List.length_map,List.length_append,List.length_cons,List.length_nil];omega)) ?_
  rintro _ _ ⟨sv4,rfl,rfl⟩
  refine A O<|G<|zJ<|zJ<|zY _ (Weak.vecEq 0 O (rows':=(W++[(k:Int)]).map fun i=>[cI i]) (by first|rfl|simp|rw [List.take_of_length_le (by simp)]))<|zY _ (yH 0 O (regs':=[(27,_),(12,_)]) (μ':=[_,_]) ⟨FLe.sl,FLe.sl,T⟩ ⟨EFle.refl _,EFle.refl _,T⟩)<|qY 9 mixed (by kernel_rfl) O O<|M O O (zZ O yY O (R 1 O) O)<|M O O (w O O)<|M O O (w O O)<|M O O (w O O)<|M O O (w O O)<|M O O (qG O D O O (by omega) (wG (by assumption)))<|M O O (zZ O zAt O qA O)<|M O O (qM O ok150 (ref30_one n bd u s hn (by omega) (by have:=yE (qB hs);omega) (by omega)) ⟨H,O,H,O,H,O,H,O,T⟩)<|M O O (yA O O)<|kD<|G<|F O<|A O<|yN O<|G<|zD O (fun c2=>?_) (fun c2=>?_)
  ·try simp only [I] at c2
   have hx0:=chkS_no (here:=W++[(k:Int)]) (B:=n.Bufs) (U:=u) (sc:=(bd.map Bd.Name)) (s:=s) c2
   refine F O<|A O<|A O<|qT [some 1,none,none] O zr148 pl148<|Y 0 sz148 O<|G<|o<|fin1 (zV agg148 O (R 0 O) O) ?_
   rw [zEn hs hp (by rw [hx0];exact c2),hx0];rfl
  ·try simp only [I] at c2
   have hin:=chkS_in (here:=W++[(k:Int)]) (B:=n.Bufs) (U:=u) (sc:=(bd.map Bd.Name)) (s:=s) c2
   refine zK<|F O<|A O<|A O<|G<|zJ<|F O<|A O<|A O<|qD O D (by omega) (wG (by assumption))<|qP O zAm<|zM one3 qA O<|yF O<|G<|zD O (fun c3=>?_) (fun c3=>?_)
   ·try simp only [I] at c3
    rw [zMy c3,zMy c3,←map_bd] at hin
    refine zJ<|kH 9 1 [⟨0,.q []⟩,⟨1,.q []⟩,⟨3,.q []⟩,⟨4,.q []⟩,⟨5,.q []⟩,⟨6,.q []⟩,⟨7,.q []⟩,⟨8,.q []⟩,⟨2,.e 0 []⟩] mixed (by kernel_rfl) (by kernel_rfl) O O O<|t O<|t O<|t O<|t O<|t O<|t O<|t O<|t O<|t O<|zAz<|v O (by decide) O O (zLy O zCl zr9)<|v O (by decide) O O (w O O)<|v O (by decide) O O (w O O)<|v O (by decide) O O (w O O)<|v O (by decide) O O (qG O D O O (by omega) (wG (by assumption)))<|v O (by decide) O O (qL O zAo O)<|v O (by decide) O O (zF O one9 O qA O)<|v O (by decide) O O (wI O zCl zr9 O O O O)<|zHe O O (by decide) O O (zLs O zCl O O (by simp only [List.length_map,List.length_append,List.length_cons,List.length_nil];omega) (by simp only [List.length_map,List.length_append,List.length_cons,List.length_nil];omega)) ?_
    rintro _ _ ⟨sv5,rfl,rfl⟩
    refine ⟨_,O,?_⟩
    refine zAv O<|zX O O (qX 0 O zCl O O O (by simp only [List.length_map,List.length_append,List.length_cons,List.length_nil];omega) (by simp only [List.length_map,List.length_append,List.length_cons,List.length_nil];omega)) ?_
    rintro _ _ ⟨sv6,rfl,rfl⟩
    refine A O<|G<|kH 15 1 [⟨0,.q []⟩,⟨1,.q []⟩,⟨3,.q []⟩,⟨4,.q []⟩,⟨5,.q []⟩,⟨6,.q []⟩,⟨7,.q []⟩,⟨8,.q []⟩,⟨9,.q []⟩,⟨10,.q []⟩,⟨11,.q []⟩,⟨12,.q []⟩,⟨13,.q []⟩,⟨14,.q []⟩,⟨2,.e 0 []⟩] mixed (by kernel_rfl) (by kernel_rfl) O O O<|t O<|t O<|t O<|t O<|t O<|t O<|t O<|t O<|t O<|t O<|t O<|t O<|t O<|t O<|t O<|zAz<|v O (by decide) O O (zLy O el73 zr80)<|v O (by decide) O O (w O O)<|v O (by decide) O O (w O O)<|v O (by decide) O O (w O O)<|v O (by decide) O O (qG O D O O (by omega) (wG (by assumption)))<|v O (by decide) O O (qL O zAo O)<|v O (by decide) O O (zF O one9 O qA O)<|v O (by decide) O O (w O O)<|v O (by decide) O O (w O O)<|v O (by decide) O O (qG O D O O (by omega) (wG (by assumption)))<|v O (by decide) O O (qL O zAl O)<|v O (by decide) O O (zF O one3 O qA O)<|v O (by decide) O O (zBy O zr80 pl80 O)<|v O (by decide) O O (wI O el73 zr80 O O O O)<|zHe O O (by decide) O O (zLs O el73 O O (by simp only [List.length_map,List.length_append,List.length_cons,List.length_nil];omega) (by simp only [List.length_map,List.length_append,List.length_cons,List.length_nil];omega)) ?_
    rintro _ _ ⟨sv7,rfl,rfl⟩
    refine ⟨_,O,?_⟩
    refine zAv O<|zX O O (qX 0 O el73 O O O (by simp only [List.length_map,List.length_append,List.length_cons,List.length_nil];omega) (by simp only [List.length_map,List.length_append,List.length_cons,List.length_nil];omega)) ?_
    rintro _ _ ⟨sv8,rfl,rfl⟩
    refine A O<|G<|zJ<|zY _ (Weak.vecEq 1 O (rows':=(u++[s.Name]).map fun s=>[cS s]) (by first|rfl|simp|rw [List.take_of_length_le (by simp)]))<|zY _ (yH 1 O (regs':=[(2,_),(57,_)]) (μ':=[_,_,_]) ⟨FLe.sl,FLe.sl,T⟩ ⟨EFle.refl _,EFle.refl _,EFle.refl _,T⟩)<|zY _ (Weak.vecEq 0 O (rows':=(bd++[(⟨s.Name,s.Many⟩:Bd)]).map Bd.cells) (by rw [List.map_append];rfl))<|zY _ (yH 0 O (regs':=[(14,_),(73,_)]) (μ':=[_,_]) ⟨FLe.sl,FLe.sl,T⟩ ⟨EFle.refl _,EFle.refl _,T⟩)<|kH 11 1 [⟨0,.q [2]⟩,⟨1,.q []⟩,⟨2,.q []⟩,⟨3,.q []⟩,⟨4,.q []⟩,⟨5,.q []⟩,⟨6,.q []⟩,⟨7,.q []⟩,⟨8,.q []⟩,⟨9,.q []⟩,⟨10,.f 0⟩] mixed (by kernel_rfl) (by kernel_rfl) O O O<|t O<|t O<|t O<|t O<|t O<|t O<|t O<|t O<|t O<|t O<|zNl O O (zEj (qE [some 1,some 1,none] O zr148 O)) ⟨_,_,0,O,O⟩<|zAz<|v O (by decide) O O (zZ O yY O (R 0 O) O)<|v O (by decide) O O (w O O)<|v O (by decide) O O (w O O)<|v O (by decide) O O (w O O)<|v O (by decide) O O (w O O)<|v O (by decide) O O (qG O D O O (by omega) (wG (by assumption)))<|v O (by decide) O O (qL O kM O)<|v O (by decide) O O (zF O kQ O qA O)<|v O (by decide) O O (w O O)<|v O (by decide) O O (qM O ok112 (ih s (qB hs) (bd++[(⟨s.Name,s.Many⟩:Bd)]) (u++[s.Name]) (W++[(k:Int)]) (by first|omega|(simp;omega)) (by first|omega|(simp;omega)) (by simp;omega)) ⟨H,O,H,O,H,O,H,O,H,O,T⟩)<|zMk O O ?_
    rintro _ _ ⟨b9,rfl,rfl⟩
    refine zAv O<|Y 0 sz148 O<|G<|zJ<|F O<|zH O fd148_2<|zM zJm (R 0 O) O<|yN O<|G<|zD O (fun c4=>?_) (fun c4=>?_)
    ·try simp only [I] at c4
     rw [←hin] at c4
     refine F O<|zP agg148 (R 0 O) O<|Y 1 sz148 O<|G<|o<|fin1 (zV agg148 O (R 1 O) O) ?_
     rw [zEn hs hp c4,hin];rfl
    ·try simp only [I] at c4
     rw [←hin] at c4
     refine zK<|zQ O<|zH O fd148_0<|zM zMw (R 0 O) O<|A O<|G<|zQ O<|A O<|qJ O ⟨by omega,by omega⟩<|A O<|G ?_
     refine ⟨⟨k+1,(chkS n.Bufs u (bd.map Bd.Name) (W++[(k:Int)]) s).U⟩,⟨by omega,by omega,zNx hs hp c4⟩,(by show l.length-(k+1)<l.length-k;omega),Weak.mk [false,true,true] ⟨H,VLe.of_eq (congrArg vSs (by rw [hin])),H,H,H,H,H,T⟩ O⟩
   ·try simp only [I] at c3
    rw [zRf c3,zRf c3] at hin
    refine zK<|zJ<|kH 11 1 [⟨0,.q [2]⟩,⟨1,.q []⟩,⟨2,.q []⟩,⟨3,.q []⟩,⟨4,.q []⟩,⟨5,.q []⟩,⟨6,.q []⟩,⟨7,.q []⟩,⟨8,.q []⟩,⟨9,.q []⟩,⟨10,.f 0⟩] mixed (by kernel_rfl) (by kernel_rfl) O O O<|t O<|t O<|t O<|t O<|t O<|t O<|t O<|t O<|t O<|t O<|zNl O O (zEj (qE [some 1,some 1,none] O zr148 O)) ⟨_,_,0,O,O⟩<|zAz<|v O (by decide) O O (zZ O yY O (R 0 O) O)<|v O (by decide) O O (w O O)<|v O (by decide) O O (w O O)<|v O (by decide) O O (w O O)<|v O (by decide) O O (w O O)<|v O (by decide) O O (qG O D O O (by omega) (wG (by assumption)))<|v O (by decide) O O (qL O kM O)<|v O (by decide) O O (zF O kQ O qA O)<|v O (by decide) O O (w O O)<|v O (by decide) O O (qM O ok112 (ih s (qB hs) bd u (W++[(k:Int)]) (by first|omega|(simp;omega)) (by first|omega|(simp;omega)) (by simp;omega)) ⟨H,O,H,O,H,O,H,O,H,O,T⟩)<|zMk O O ?_
    rintro _ _ ⟨b10,rfl,rfl⟩
    refine zAv O<|Y 0 sz148 O<|G<|zJ<|F O<|zH O fd148_2<|zM zJm (R 0 O) O<|yN O<|G<|zD O (fun c4=>?_) (fun c4=>?_)
    ·try simp only [I] at c4
     rw [←hin] at c4
     refine F O<|zP agg148 (R 0 O) O<|Y 1 sz148 O<|G<|o<|fin1 (zV agg148 O (R 1 O) O) ?_
     rw [zEn hs hp c4,hin];rfl
    ·try simp only [I] at c4
     rw [←hin] at c4
     refine zK<|zQ O<|zH O fd148_0<|zM zMw (R 0 O) O<|A O<|G<|zQ O<|A O<|qJ O ⟨by omega,by omega⟩<|A O<|G ?_
     refine ⟨⟨k+1,(chkS n.Bufs u (bd.map Bd.Name) (W++[(k:Int)]) s).U⟩,⟨by omega,by omega,zNx hs hp c4⟩,(by show l.length-(k+1)<l.length-k;omega),Weak.mk [false,true,true] ⟨H,VLe.of_eq (congrArg vSs (by rw [hin])),H,H,H,H,H,T⟩ O⟩
 ·try simp only [I] at c1
  refine qQ<|F O<|A O<|qT [none,some 1,none] O zr148 pl148<|Y 0 sz148 O<|G<|o<|fin1 (zV agg148 O (R 0 O) O) ?_
  rw [zRv hp (by omega)];rfl
theorem zTf (n:Ns) (hn:n.Ok) (s:St) (hl:stsWt s.Body<=900000):∀(bd:List Bd) (U:List ByteArray) (W:List Int),U.length+stsN s.Body<=1000000->bd.length+stsN s.Body<=1000000->W.length+stsN s.Body<=1000000->Pur cfg 112 [vNs n,vBds bd,vSs U,vSts s.Body,vIs W] (ckC (chkL n.Bufs U (bd.map Bd.Name) W 0 s.Body)):=by
  induction s using St.ind with
  |_ s ih=>
    intro bd U W hU hb hW
    refine zJh n bd U s.Body W hn hU hb hW hl fun a ha=>ih a ha ?_
    have:=yE ha;have:=St.body_wt a;omega
theorem ref30_body (n:Ns) (bd:List Bd) (U:List ByteArray) (l:List St) (W:List Int)  (hn:n.Ok) (hU:U.length+stsN l<=1000000) (hb:bd.length+stsN l<=1000000) (hW:W.length+stsN l<=1000000) (hl:stsWt l<=900000):Pur cfg 112 [vNs n,vBds bd,vSs U,vSts l,vIs W] (ckC (chkL n.Bufs U (bd.map Bd.Name) W 0 l)):=
  zJh n bd U l W hn hU hb hW hl fun s hs=>zTf n hn s (by have:=yE hs;have:=St.body_wt s;omega)
theorem zLc (n:Ns) (hn:n.Ok) (hw:stsWt n.Body<=900000):
    Pur cfg 58 [vNs n] (.tup [vIs (validN n).1,vI (validN n).2]):=by
 refine zT Tryz.func58 O Tryz.ntmps58 Tryz.results58 O ?_
 intro z hz
 refine F O<|zX O O (qN O O) ?_
 rintro _ _ ⟨b1,rfl,rfl⟩
 refine qZ 1 O<|A O<|G<|zJ<|F O<|zH O zAd<|zM kQ (R 0 O) O<|qI O ok110 (ref30_depth 41 n.Body 41 (by omega) (by omega) O) ⟨H,O,H,O,T⟩<|zU O (yG O O O)<|G<|zD O (fun c1=>?_) (fun c1=>?_)
 ·try simp only [I] at c1
  have hwi:=within_f c1
  refine F O<|qZ 1 O<|A O<|G<|o<|p (J O) (J O) ?_
  rw [zSj hwi];rfl
 ·try simp only [I] at c1
  have hwi:=within_t c1
  refine zK<|zJ<|F O<|zH O zAd<|zM kQ (R 0 O) O<|qI O ok46 (ref30_size n.Body 2000 2000 (by omega) (by omega) O) ⟨H,O,H,O,T⟩<|zU O (yG O O O)<|A O<|rL0 O (fun g3_4=>zE O zAr O) O<|B 15 O (fun g3_4=>zF O zEi O (R 0 O) O) O<|B 16 O (fun g3_4=>yC O el22 O) O<|B 17 O (fun g3_4=>yG O O O) O<|r_or O (fun h=>(lzf h))<|G<|zD O (fun c2=>?_) (fun c2=>?_)
  ·try simp only [I] at c2
   refine F O<|qZ 1 O<|A O<|G<|o<|p (J O) (J O) ?_
   rw [validN_2 hwi (by omega)];rfl
  ·try simp only [I] at c2
   have hnum:=numB_ok (l:=n.Body) (m:=2000) (by omega)
   refine zK<|zJ<|F O<|zP yY (R 0 O) O<|qI O ok111 (ref30_bufs n hn) ⟨H,O,T⟩<|A O<|G<|F O<|A O<|yN O<|G<|zD O (fun c3=>?_) (fun c3=>?_)
   ·try simp only [I] at c3
    refine F O<|A O<|qZ 1 O<|A O<|G<|o<|p (J O) (J O) ?_
    rw [validN_b hwi (by omega) c3];rfl
   ·try simp only [I] at c3
    refine zK<|F O<|zP yY (R 0 O) O<|zH O zAd<|zM kQ (R 0 O) O<|qI O ok112 (ref30_body n [] [] n.Body [] hn (by simp;omega) (by simp;omega) (by simp;omega) hw) ⟨H,O,VLe.nil,O,VLe.nil,O,H,O,VLe.nil,O,T⟩<|zX O O (qE [some 1,some 1,none] O zr148 O) ?_
    rintro _ _ ⟨b2,rfl,rfl⟩
    refine Y 0 sz148 O<|G<|zJ<|qY 6 mixed (by kernel_rfl) O O<|M O O (zE O fd148_1 O)<|M O O (zF O zGo O (R 0 O) O)<|M O O (zE O fd148_2 O)<|M O O (zF O zJm O (R 0 O) O)<|M O O (yA O O)<|M O O (yA O O)<|kD<|G<|o<|p (J O) (J O) ?_
    rw [zQr hwi (by omega) c3];rfl
end Go.W
