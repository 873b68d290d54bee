/-
  Walks: what functions of the program compute. Printed by wip/gen/mk2.py.
  Conditions: none.
-/
import Derived.Test.YtlfjpejkoccibaaGreatDoorNB
import Derived.Test.YtlfjpejkoccibaaGreatDoorPlain2
import Derived.Test.YtlfjpejkoccibaaGreatDoorEngZ
set_option linter.unusedSimpArgs false
set_option linter.unusedVariables false
set_option maxRecDepth 10000
namespace Go.W
open Go Go.Eng Go.Proofs Go.L41 Go.Br
attribute [local irreducible] AWP RWP TD finQ
abbrev vBds (l:List Bd):V:=.c (.sl 2 (l.map Bd.cells))
abbrev ckC (x:Ck):V:=.agg [.sl 1 (x.U.map fun s=>[cS s]),.sl 1 (x.W.map fun i=>[cI i]),cI x.E]
theorem bd_get {l:List Bd} {k:Nat} {x:Bd} (h:l[k]? =some x):(l.map Bd.cells)[k]? =some [cS x.Name,cI x.Val]:=by rw [N h];rfl
theorem agg148:aggT Tryz.prog 148=some 3:=by kernel_rfl
theorem el73:elemT Tryz.prog 73=some (80,2,24):=by kernel_rfl
theorem fd80_0:fieldT Tryz.prog 80 0=some (0,9):=by kernel_rfl
theorem fd148_0:fieldT Tryz.prog 148 0=some (0,105):=by kernel_rfl
theorem fd148_1:fieldT Tryz.prog 148 1=some (1,26):=by kernel_rfl
theorem fd148_2:fieldT Tryz.prog 148 2=some (2,51):=by kernel_rfl
theorem ok111:callOk Tryz.prog 111=true:=by kernel_rfl
theorem ok112:callOk Tryz.prog 112=true:=by kernel_rfl
theorem ok115:callOk Tryz.prog 115=true:=by kernel_rfl
theorem ok150:callOk Tryz.prog 150=true:=by kernel_rfl
theorem ok179:callOk Tryz.prog 179=true:=by kernel_rfl
theorem ok180:callOk Tryz.prog 180=true:=by kernel_rfl
theorem ok182:callOk Tryz.prog 182=true:=by kernel_rfl
theorem ok200:callOk Tryz.prog 200=true:=by kernel_rfl
theorem ok202:callOk Tryz.prog 202=true:=by kernel_rfl
theorem ok203:callOk Tryz.prog 203=true:=by kernel_rfl
theorem ok231:callOk Tryz.prog 231=true:=by kernel_rfl
theorem ok232:callOk Tryz.prog 232=true:=by kernel_rfl
theorem pl80:placesT Tryz.prog 80=some [(0,1),(1,1)]:=by kernel_rfl
theorem pl148:placesT Tryz.prog 148=some [(0,1),(1,1),(2,1)]:=by kernel_rfl
theorem sz148:(Tryz.prog.info? 148).map (·.size)=some 3:=by kernel_rfl
theorem zr80:zeroT Tryz.prog 80=some [(Value.string (ByteArray.mk #[])),(Value.int IntKind.i64 0)]:=by kernel_rfl
theorem zr148:zeroT Tryz.prog 148=some [(Value.slice none 0 0),(Value.slice none 0 0),(Value.int IntKind.i64 0)]:=by kernel_rfl
theorem zRj (l:List Lf) (bd:List Bd) (hl:l.length<=4294967296) (hx:∀x,x∈l->x.L.length<=4294967296) (hb:bd.length<=4294967296):
    Pur cfg 231 [vLins l,vBds bd] (vB (l.all (inSc (bd.map Bd.Name)))):=by
 refine zR Tryz.func231 O Tryz.ntmps231 Tryz.results231 O ?_
 intro z hz
 have hl0:=hx
 clear hx
 refine G O<|F O<|I<|zJ<|G O<|F O<|I<|zQ<|zW ⟨[(5,.c _),(0,.c _),(1,.c _)],[]⟩ (Weak.mk [] ⟨H,H,H,T⟩ O)<|qK 1 0 O O (Nat) (fun k=>[(5,vI k)]) (fun k=>[]) (fun k=>k<=l.length/\((l.take k).all (inSc (bd.map Bd.Name))=true)) (fun k=>l.length-k) ⟨0,⟨by omega,O⟩,Weak.mk [] ⟨H,H,H,T⟩ O⟩ ?_
 rintro k ⟨hk,hp⟩
 refine zJ<|G O<|F O<|F O<|qB O s<|yH O<|I<|zF O (fun c1=>?_) (fun c1=>?_)
 ·try simp only [R] at c1
  obtain ⟨x,hx⟩:=qW l k (by omega)
  have hxl:=hl0 x (zZ hx)
  refine zI<|zJ<|zQ<|G O<|F O<|I<|zQ<|zW ⟨[(6,.c _),(0,.c _),(1,.c _),(5,.c _)],[]⟩ (Weak.mk [] ⟨H,H,H,H,T⟩ O)<|qK 1 0 O O (Nat) (fun j=>[(6,vI j)]) (fun j=>[]) (fun j=>j<=x.L.length/\(x.L.take j).all (fun m=>hasB (bd.map Bd.Name) m.Name)=true) (fun j=>x.L.length-j) ⟨0,⟨by omega,O⟩,Weak.mk [] ⟨H,H,H,H,T⟩ O⟩ ?_
  rintro j ⟨hj,hq⟩
  refine zJ<|G O<|F O<|F O<|F O<|qC O s (by omega) (N hx)<|qQ O kM<|zK wX qA O<|qB O U<|yH O<|I<|zF O (fun c2=>?_) (fun c2=>?_)
  ·try simp only [R] at c2
   obtain ⟨m,hm⟩:=qW x.L j (by omega)
   refine zI<|zJ<|zQ<|G O<|F O<|I<|zJ<|G O<|F O<|I<|zQ<|zW ⟨[(8,.c _),(7,.c _),(0,.c _),(1,.c _),(5,.c _),(6,.c _)],[]⟩ (Weak.mk [] ⟨H,H,H,H,H,H,T⟩ O)<|qK 2 0 O O (Nat) (fun i=>[(8,vI i),(7,vB ((bd.take i).any fun d=>decide (d.Name=m.Name)))]) (fun i=>[]) (fun i=>i<=bd.length) (fun i=>bd.length-i) ⟨0,(by omega),Weak.mk [] ⟨H,VLe.of_eq (O),H,H,H,H,T⟩ O⟩ ?_
   rintro i hi
   refine zJ<|G O<|F O<|F O<|qB O el73<|yH O<|I<|zF O (fun c3=>?_) (fun c3=>?_)
   ·try simp only [R] at c3
    obtain ⟨d,hd⟩:=qW bd i (by omega)
    refine zI<|zJ<|zQ<|qX 19 mixed (by kernel_rfl) O O<|M O O (zN O O)<|M O O (zN O O)<|f [] O O O O gv1 T (fun g11_1=>zN O O) O<|f [] O O O O gv1 T (fun g11_1=>zN O O) O<|f [(33,_),(34,_)] O O O O gv1 ⟨O,O,O,O,T⟩ (fun g11_1=>qD O el73 O O (by omega) (bd_get hd)) O<|f [(35,_)] O O O O gv1 ⟨O,O,T⟩ (fun g11_1=>qI O fd80_0 O) O<|f [(36,_)] O O O O gv1 ⟨O,O,T⟩ (fun g11_1=>Q O one9 O qA O) O<|f [] O O O O gv1 T (fun g11_1=>zN O O) O<|f [] O O O O gv1 T (fun g11_1=>zN O O) O<|f [(38,_),(39,_)] O O O O gv1 ⟨O,O,O,O,T⟩ (fun g11_1=>qD O s O O (by omega) (N hx)) O<|f [(40,_)] O O O O gv1 ⟨O,O,T⟩ (fun g11_1=>qI O kM O) O<|f [(41,_)] O O O O gv1 ⟨O,O,T⟩ (fun g11_1=>Q O wX O qA O) O<|f [] O O O O gv1 T (fun g11_1=>zN O O) O<|f [(42,_),(43,_)] O O O O gv1 ⟨O,O,O,O,T⟩ (fun g11_1=>qD O U O O (by omega) (N hm)) O<|f [(44,_)] O O O O gv1 ⟨O,O,T⟩ (fun g11_1=>qI O zAl O) O<|f [(45,_)] O O O O gv1 ⟨O,O,T⟩ (fun g11_1=>Q O one9 O qA O) O<|f [(37,_),(46,_)] O O O O gv1 ⟨O,O,O,O,T⟩ (fun g11_1=>yU O O O) O<|M O O (zAm O O O O (fun h=>(lzf h)))<|M O O (qY O O)<|kB<|I<|zS O<|F O<|qH O ⟨by omega,by omega⟩<|F O<|I ?_
    refine ⟨i+1,(by omega),(by omega),Weak.mk [] ⟨H,VLe.of_eq (congrArg vB (any_step hd)),H,H,H,H,T⟩ O⟩
   ·try simp only [R] at c3
    rw [yL (l:=bd) (k:=i) (by omega),any_hasB]
    refine qN<|G O<|F O<|kO O<|I<|zF O (fun c4=>?_) (fun c4=>?_)
    ·try simp only [R] at c4
     have hno:=bound_no hx hm c4
     refine G O<|F O<|I<|o<|X O ?_
     rw [hno]
    ·try simp only [R] at c4
     refine zI<|zS O<|F O<|qH O ⟨by omega,by omega⟩<|F O<|I ?_
     refine ⟨j+1,⟨by omega,zIx hm hq c4⟩,(by omega),Weak.mk [] ⟨H,H,H,H,T⟩ O⟩
  ·try simp only [R] at c2
   rw [yL (l:=x.L) (k:=j) (by omega)] at hq
   refine qN<|zS O<|F O<|qH O ⟨by omega,by omega⟩<|F O<|I ?_
   refine ⟨k+1,⟨by omega,zIx hx hp (show inSc _ x=true from hq)⟩,(by omega),Weak.mk [] ⟨H,H,H,T⟩ O⟩
 ·try simp only [R] at c1
  refine qN<|G O<|F O<|I<|o<|X O ?_
  rw [yL (by omega)] at hp;rw [hp]
theorem ref30_lins (l:List Ix) (hl:l.length<=4294967296) (hw:idxWt l<=4294967296):
    OwnR cfg 232 [vIndices l] 41 2 ((l.flatMap ixF).map Lf.cells):=by
 refine zR Tryz.func232 O Tryz.ntmps232 Tryz.results232 O ?_
 intro z hz
 refine G O<|F O<|I<|G O<|F O<|yN _ (kX 41 2)<|I<|zJ<|G O<|F O<|I<|zQ<|zW ⟨[(4,.c _),(3,.c _),(0,.c _)],[_]⟩ (Weak.mk [true] ⟨H,H,H,T⟩ O)<|qK 2 1 O O (Nat×Value) (fun ⟨k,sv⟩=>[(4,vI k),(3,.c (.lit sv))]) (fun ⟨k,sv⟩=>[E.vec sv 41 2 (((l.take k).flatMap ixF).map Lf.cells)]) (fun ⟨k,sv⟩=>k<=l.length) (fun ⟨k,sv⟩=>l.length-k) ⟨⟨0,(.slice none 0 0)⟩,(by omega),Weak.mk [true] ⟨H,H,H,T⟩ O⟩ ?_
 rintro ⟨k,sv⟩ hk
 show AWP _ _ _ _ _ ⟨[(4,vI k),(3,.c (.lit sv))]++_,[E.vec sv 41 2 (((l.take k).flatMap ixF).map Lf.cells)]++_⟩
 refine zJ<|G O<|F O<|F O<|qB O A<|yH O<|I<|zF O (fun c1=>?_) (fun c1=>?_)
 ·try simp only [R] at c1
  obtain ⟨x,hx⟩:=qW l k (by omega)
  have hfl:=ixs_len l k
  have hxw:=zAw (zZ hx)
  unfold Ix.wt at hxw
  refine zI<|zJ<|zQ<|G O<|F O<|F O<|F O<|qC O A (by omega) (N (by assumption))<|qQ O zEm<|zO yY qA O<|zX O (qS O s zr41 O O O O)<|zU O O (yD 0 O s O O O (by simp only [List.length_map,List.length_append,List.length_cons,List.length_nil];omega) (by simp only [List.length_map,List.length_append,List.length_cons,List.length_nil];omega)) ?_
  rintro _ _ ⟨sv2,rfl,rfl⟩
  refine F O<|I<|zS O<|F O<|F O<|F O<|qC O A (by omega) (N (by assumption))<|qQ O zBa<|zK zEe qA O<|zU O O (yD 0 O s O O O (by simp only [List.length_map,List.length_append,List.length_cons,List.length_nil];omega) (by simp only [List.length_map,List.length_append,List.length_cons,List.length_nil];omega)) ?_
  rintro _ _ ⟨sv3,rfl,rfl⟩
  refine F O<|I<|zS O<|F O<|qH O ⟨by omega,by omega⟩<|F O<|I ?_
  refine ⟨⟨k+1,sv3⟩,(by omega),(by show l.length-(k+1)<l.length-k;omega),Weak.mk [true] ⟨H,H,H,T⟩ (by exact zNi (by rw [yF hx,List.flatMap_append,List.map_append];simp [ixF];rfl))⟩
 ·try simp only [R] at c1
  refine qN<|G O<|F O<|F O<|I<|o<|X O ?_
  exact ⟨_,O,by rw [yL (by omega)];rfl⟩
theorem ref30_node (n:Ns) (bd:List Bd) (e:Ex) (hn:n.Ok) (hb:bd.length<=1000000) (he:e.wt<=1073741824):
    Pur cfg 202 [vNs n,vBds bd,vE e] (vI (nodeN n.Bufs (bd.map Bd.Name) e)):=by
 refine zR Tryz.func202 O Tryz.ntmps202 Tryz.results202 O ?_
 intro z hz
 obtain ⟨hL,hI,hA⟩:=e.parts he
 have hwt:=Ex.wt_eq e
 refine G O<|zU O O (qM O O) ?_
 rintro _ _ ⟨b1,rfl,rfl⟩
 refine zU O O (qM O O) ?_
 rintro _ _ ⟨b2,rfl,rfl⟩
 refine F O<|I<|zJ<|G O<|zH O zCq<|zO yY (Y 0 O) O<|zX O (qS O s zr41 O O O O)<|F O<|qJ O ok231 (zRj [e.Lin] bd (by simp) (by simp;omega) (by omega)) ⟨H,O,H,O,T⟩<|kO O<|F O<|rL0 O (fun g1_6=>zD O wA O) O<|B 19 O (fun g1_6=>Q O wR O (Y 0 O) O) O<|B 20 O (fun g1_6=>qL O ok232 (OwnR.pur (ref30_lins e.Idx (by omega) (by omega))) ⟨H,O,T⟩) O<|rL0 O (fun g1_6=>zN O O) O<|rLz [(21,_),(22,_)] O gv1 ⟨O,O,O,O,T⟩ (fun g1_6=>qL O ok231 (zRj (e.Idx.flatMap ixF) bd (by have:=ixs_len e.Idx e.Idx.length;rw [List.take_length] at this;omega) (fun x hx=>by have:=forms_wt he (show x∈formsL e by unfold formsL;exact List.mem_cons_of_mem _ hx);omega) (by omega)) ⟨H,O,H,O,T⟩) O<|B 23 O (fun g1_6=>kV O O) O<|r_or O (fun h=>(lzf h))<|I<|zF O (fun c1=>?_) (fun c1=>?_)
 ·have h9:=node_sc_f c1
  refine G O<|F O<|I<|o<|X O ?_
  rw [nodeN_9 h9]
 ·have h9:=node_sc_t c1
  refine zI<|zJ<|G O<|zH O kQ<|zK J (Y 0 O) O<|yR O<|I<|zF O (fun c2=>?_) (fun c2=>?_)
  ·try simp only [R] at c2
   refine G O<|F O<|I<|o<|X O ?_
   rw [nodeN_o h9 c2]
  ·try simp only [R] at c2
   refine zI<|G O<|zO kG (Y 1 O) O<|zH O zEt<|zK one9 (Y 0 O) O<|qJ O ok115 (zCg n e.Name hn) ⟨H,O,H,O,T⟩<|qP O<|yO O<|qT O<|zU O O (qE [none,none,none,none,none,none,some 1,none] O zr65 O) ?_
   rintro _ _ ⟨b3,rfl,rfl⟩
   refine D 0 sz65 O<|F O<|I<|zJ<|G O<|F O<|kO O<|I<|zF O (fun c3=>?_) (fun c3=>?_)
   ·try simp only [R] at c3
    refine G O<|F O<|I<|o<|X O ?_
    rw [nodeN_n h9 (by omega) c3]
   ·try simp only [R] at c3
    refine zI<|zJ<|G O<|zH O zJz<|zK zFm (Y 0 O) O<|qB O el26<|zH O wA<|zK wR (Y 1 O) O<|qB O A<|yR O<|I<|zF O (fun c4=>?_) (fun c4=>?_)
    ·try simp only [R] at c4
     refine G O<|F O<|I<|o<|X O ?_
     rw [nodeN_r h9 (by omega) c3 (by omega)]
    ·try simp only [R] at c4
     refine zI<|zJ<|G O<|F O<|I<|zQ<|zW ⟨[(9,.c _),(3,.c _),(5,.c _)],[_,_]⟩ (Weak.mk [false,true,true] ⟨H,H,H,T⟩ O)<|qK 1 0 O O (Nat) (fun j=>[(9,vI j)]) (fun j=>[]) (fun j=>j<=e.Idx.length/\(gathL n.Bufs e.Idx=gathL n.Bufs (e.Idx.drop j))) (fun j=>e.Idx.length-j) ⟨0,⟨by omega,O⟩,Weak.mk [true,true] ⟨H,H,H,T⟩ O⟩ ?_
     rintro j ⟨hk,hq⟩
     refine zJ<|G O<|F O<|zH O wA<|zK wR (Y 0 O) O<|qB O A<|yH O<|I<|zF O (fun c5=>?_) (fun c5=>?_)
     ·try simp only [R] at c5
      obtain ⟨y,hy⟩:=qW e.Idx j (by omega)
      refine zI<|zJ<|zQ<|zJ<|G O<|zH O wA<|zK wR (Y 0 O) O<|F O<|qC O A (by omega) (N (by assumption))<|qQ O zEl<|zK one9 qA O<|zX O (yU O O O)<|I<|zF O (fun c6=>?_) (fun c6=>?_)
      ·try simp only [R] at c6
       refine qN<|zS O<|F O<|qH O ⟨by omega,by omega⟩<|F O<|I ?_
       refine ⟨j+1,⟨by omega,hq.trans (zJi hy (by first|exact gathE_0 c6|exact zPt c6 c7 (by omega) (by omega)))⟩,(by omega),Weak.mk [true,true] ⟨H,H,H,T⟩ O⟩
      ·try simp only [R] at c6
       refine zI<|zJ<|kJ 13 1 [⟨0,.q [2]⟩,⟨1,.q []⟩,⟨2,.q [1]⟩,⟨3,.q []⟩,⟨4,.q []⟩,⟨5,.q []⟩,⟨6,.q []⟩,⟨7,.q []⟩,⟨8,.q []⟩,⟨9,.q []⟩,⟨10,.q []⟩,⟨11,.e 0 []⟩,⟨12,.e 0 []⟩] mixed (by kernel_rfl) (by kernel_rfl) O O O<|t O<|t O<|t O<|t O<|t O<|t O<|t O<|t O<|t O<|t O<|t O<|t O<|t O<|zBj<|v O (by decide) O O (zY O kG O (Y 0 O) O)<|v O (by decide) O O (zD O wA O)<|v O (by decide) O O (Q O wR O (Y 0 O) O)<|v O (by decide) O O (zN O O)<|v O (by decide) O O (qD O A O O (by omega) (N (by assumption)))<|v O (by decide) O O (qI O zEl O)<|v O (by decide) O O (Q O one9 O qA O)<|v O (by decide) O O (qL O ok115 (zCg n y.From hn) ⟨H,O,H,O,T⟩)<|v O (by decide) O O (kK O O)<|v O (by decide) O O (wF O O O)<|v O (by decide) O O (wI O O O)<|zHq O O (by decide) O O (qE [none,none,none,none,none,none,some 1,none] O zr65 O) ?_
       rintro _ _ ⟨b4,rfl,rfl⟩
       refine ⟨_,O,?_⟩
       refine zFg O O (by decide) O O (yV O sz65 O O O (zFf 0 O O)) ?_
       rintro _ _ ⟨rfl,rfl⟩
       refine ⟨_,O,?_⟩
       refine zBd O<|F O<|I<|zQ<|G O<|F O<|kO O<|F O<|I<|zF O (fun c7=>?_) (fun c7=>?_)
       ·try simp only [R] at c7
        refine G O<|F O<|I<|o<|X O ?_
        rw [zIk h9 (by omega) c3 (by omega),hq,zJh hy (by rw [gathE_9 c6 c7];decide),gathE_9 c6 c7]
       ·try simp only [R] at c7
        refine G O<|zH O zIr<|zH O zFr<|zK J (Y 0 O) O<|yR O<|F O<|I<|zF O (fun c8=>?_) (fun c8=>?_)
        ·try simp only [R] at c8
         refine G O<|F O<|I<|o<|X O ?_
         rw [zIk h9 (by omega) c3 (by omega),hq,zJh hy (by rw [zPv c6 c7 c8];decide),zPv c6 c7 c8]
        ·try simp only [R] at c8
         refine zJ<|qX 12 mixed (by kernel_rfl) O O<|M O O (zD O zJz O)<|M O O (Q O zFm O (Y 0 O) O)<|M O O (yB O el26 O)<|M O O (zD O wA O)<|M O O (Q O wR O (Y 1 O) O)<|M O O (zN O O)<|M O O (qD O A O O (by omega) (N (by assumption)))<|M O O (qI O zBa O)<|M O O (Q O zEe O qA O)<|M O O (yB O s O)<|M O O (kH O O O)<|M O O (qY O O)<|kB<|I<|zF O (fun c9=>?_) (fun c9=>?_)
         ·try simp only [R] at c9
          refine G O<|F O<|I<|o<|X O ?_
          rw [zIk h9 (by omega) c3 (by omega),hq,zJh hy (by rw [zPu c6 c7 c8 (by omega)];decide),zPu c6 c7 c8 (by omega)]
         ·try simp only [R] at c9
          refine zI<|zS O<|F O<|qH O ⟨by omega,by omega⟩<|F O<|I ?_
          refine ⟨j+1,⟨by omega,hq.trans (zJi hy (by first|exact gathE_0 c6|exact zPt c6 c7 (by omega) (by omega)))⟩,(by omega),Weak.mk [false,true,true] ⟨H,H,H,T⟩ O⟩
     ·try simp only [R] at c5
      refine qN<|G O<|F O<|I<|o<|X O ?_
      rw [zIk h9 (by omega) c3 (by omega),hq,kC (by omega)];rfl
theorem zRl (n:Ns) (hn:n.Ok) (e:Ex) (ih:∀a,a∈e.Args->partE a=0->a.wt<=1073741824->Pur cfg 203 [vNs n,vE a] (.tup [vTy (nodeT (kiN n.Bufs) a).1,vI (nodeT (kiN n.Bufs) a).2])) (hpart:partE e=0) (he:e.wt<=1073741824):
    Pur cfg 203 [vNs n,vE e] (.tup [vTy (nodeT (kiN n.Bufs) e).1,vI (nodeT (kiN n.Bufs) e).2]):=by
 refine zR Tryz.func203 O Tryz.ntmps203 Tryz.results203 O ?_
 intro z hz
 obtain ⟨hLl,hIl,hAl⟩:=e.parts he
 have hwt:=Ex.wt_eq e
 refine G O<|zU O O (qM O O) ?_
 rintro _ _ ⟨b1,rfl,rfl⟩
 refine zU O O (qM O O) ?_
 rintro _ _ ⟨b2,rfl,rfl⟩
 refine zU O O (yW O m) ?_
 rintro _ _ ⟨b3,rfl,rfl⟩
 refine F O<|I<|G O<|F O<|yN _ (kX 38 5)<|I<|zJ<|G O<|F O<|I<|zQ<|zW ⟨[(7,.c _),(6,.c _),(2,.c _),(3,.c _),(4,.c _)],[_,_,_,_]⟩ (Weak.mk [true,true,true,true] ⟨H,H,H,H,H,T⟩ O)<|qK 2 1 O O (Nat×Value) (fun ⟨k,sv⟩=>[(7,vI k),(6,.c (.lit sv))]) (fun ⟨k,sv⟩=>[E.vec sv 38 5 ((nonC (e.Args.take k) (nodeL (kiN n.Bufs) (e.Args.take k)).1).map tyC)]) (fun ⟨k,sv⟩=>k<=e.Args.length/\((nodeL (kiN n.Bufs) (e.Args.take k)).2=0)) (fun ⟨k,sv⟩=>e.Args.length-k) ⟨⟨0,(.slice none 0 0)⟩,⟨by omega,O⟩,Weak.mk [true,true,true,true] ⟨H,H,H,H,H,T⟩ O⟩ ?_
 rintro ⟨k,sv⟩ ⟨hk,hp⟩
 show AWP _ _ _ _ _ ⟨[(7,vI k),(6,.c (.lit sv))]++_,[E.vec sv 38 5 ((nonC (e.Args.take k) (nodeL (kiN n.Bufs) (e.Args.take k)).1).map tyC)]++_⟩
 refine zJ<|G O<|F O<|zH O kZ<|zK zAj (Y 2 O) O<|qB O g<|yH O<|I<|zF O (fun c1=>?_) (fun c1=>?_)
 ·try simp only [R] at c1
  obtain ⟨x,hx⟩:=qW e.Args k (by omega)
  have hll:=zFn _ _ hp
  have hcl:=nonC_len (e.Args.take k) (nodeL (kiN n.Bufs) (e.Args.take k)).1
  have htk:=List.length_take_le' k e.Args
  refine zI<|zJ<|zQ<|zJ<|kJ 12 1 [⟨0,.q [4]⟩,⟨1,.q []⟩,⟨2,.q [3]⟩,⟨3,.q []⟩,⟨4,.q []⟩,⟨5,.q []⟩,⟨6,.q []⟩,⟨7,.q []⟩,⟨8,.q []⟩,⟨9,.q []⟩,⟨10,.e 0 []⟩,⟨11,.e 0 []⟩] mixed (by kernel_rfl) (by kernel_rfl) O O O<|t O<|t O<|t O<|t O<|t O<|t O<|t O<|t O<|t O<|t O<|t O<|t O<|zBj<|v O (by decide) O O (zY O kG O (Y 0 O) O)<|v O (by decide) O O (zD O kZ O)<|v O (by decide) O O (Q O zAj O (Y 0 O) O)<|v O (by decide) O O (zN O O)<|v O (by decide) O O (qD O g O O (by omega) (zCk (by assumption)))<|v O (by decide) O O (zY O yX O qA O)<|v O (by decide) O O (qL O ok203 (ih x (zZ hx) (zRr hpart (zZ hx)) (by have:=Ex.arg_wt (zZ hx);omega)) ⟨H,O,H,O,T⟩)<|v O (by decide) O O (kK O O)<|v O (by decide) O O (wF O O O)<|v O (by decide) O O (wI O O O)<|zHq O O (by decide) O O (yW O m) ?_
  rintro _ _ ⟨b5,rfl,rfl⟩
  refine ⟨_,O,?_⟩
  refine zFg O O (by decide) O O (yV O L O O O (zFf 0 O O)) ?_
  rintro _ _ ⟨rfl,rfl⟩
  refine ⟨_,O,?_⟩
  refine zBd O<|F O<|I<|zJ<|G O<|F O<|yR O<|I<|zF O (fun c2=>?_) (fun c2=>?_)
  ·try simp only [R] at c2
   refine G O<|yP O m pl38<|F O<|D 2 L O<|F O<|I<|o<|w (zV yK O (Y 2 O) O) (p O) ?_
   rw [nodeT_no hx hp c2];rfl
  ·try simp only [R] at c2
   refine zI<|G O<|zH O kZ<|zK zAj (Y 3 O) O<|F O<|qC O g (by omega) (zCk (by assumption))<|zO yX qA O<|qJ O ok181 (kS x) ⟨H,O,T⟩<|kO O<|I<|zF O (fun c3=>?_) (fun c3=>?_)
   ·try simp only [R] at c3
    refine zS O<|F O<|zO yK (Y 0 O) O<|zX O (qS O zAa m O O O O)<|zU O O (yD 1 O zAa O O O (by simp only [List.length_map,List.length_append,List.length_cons,List.length_nil,hll,List.length_take];omega) (by simp only [List.length_map,List.length_append,List.length_cons,List.length_nil,hll,List.length_take];omega)) ?_
    rintro _ _ ⟨sv6,rfl,rfl⟩
    refine F O<|I<|zS O<|F O<|qH O ⟨by omega,by omega⟩<|F O<|I ?_
    refine ⟨⟨k+1,_⟩,⟨by omega,by rw [zDy hx hp c2]⟩,(by show e.Args.length-(k+1)<e.Args.length-k;omega),Weak.mk [false,true,true,true,true] ⟨H,H,H,H,H,T⟩ (by exact zNi (by rw [zDy hx hp c2,yF hx,zRu hll.symm];first|(rw [if_pos c3,List.append_nil])|(rw [if_neg (by rw [c3];simp),List.map_append];rfl)))⟩
   ·try simp only [R] at c3
    refine zI<|zS O<|F O<|qH O ⟨by omega,by omega⟩<|F O<|I ?_
    refine ⟨⟨k+1,_⟩,⟨by omega,by rw [zDy hx hp c2]⟩,(by show e.Args.length-(k+1)<e.Args.length-k;omega),Weak.mk [false,true,true,true,true] ⟨H,H,H,H,H,T⟩ (by exact zNi (by rw [zDy hx hp c2,yF hx,zRu hll.symm];first|(rw [if_pos c3,List.append_nil])|(rw [if_neg (by rw [c3];simp),List.map_append];rfl)))⟩
 ·try simp only [R] at c1
  have hll:=zFn _ _ hp
  have hta:e.Args.take k=e.Args:=yL (by omega)
  have hT:nodeT (kiN n.Bufs) e=kiF n.Bufs e (nonC (e.Args.take k) (nodeL (kiN n.Bufs) (e.Args.take k)).1):=by have h:=nodeT_ok (N:=kiN n.Bufs) hta hp;rw [h];show kiF n.Bufs e (nonC e.Args _)=_;rw [hta]
  refine qN<|zJ<|zJ<|qX 12 mixed (by kernel_rfl) O O<|M O O (zN O O)<|M O O (kE 0 O zAa O O)<|M O O (yG O O O)<|M O O (zN O O)<|f [] O O O O gv1 T (fun g10_3=>zN O O) O<|f [(48,_)] O O O O gv1 ⟨O,O,T⟩ (fun g10_3=>qO 0 O zAa O O O (by omega) (by simp only [Lz,cond_true,decide_eq_true_eq,List.length_map] at g10_3⊢;omega)) O<|f [(49,_)] O O O O gv1 ⟨O,O,T⟩ (fun g10_3=>zY O yK O (wC 0 O (zJb (by simp only [Lz,cond_true,decide_eq_true_eq,List.length_map] at g10_3⊢;omega))) O) O<|f [] O O O O gv1 T (fun g10_3=>zN O O) O<|f [(51,_)] O O O O gv1 ⟨O,O,T⟩ (fun g10_3=>qO 0 O zAa O O O (by omega) (by simp only [Lz,cond_true,decide_eq_true_eq,List.length_map] at g10_3⊢;omega)) O<|f [(52,_)] O O O O gv1 ⟨O,O,T⟩ (fun g10_3=>zY O yK O (wC 0 O (zJb (by simp only [Lz,cond_true,decide_eq_true_eq,List.length_map] at g10_3⊢;omega))) O) O<|f [(50,_),(53,_)] O O O O gv1 ⟨O,O,O,O,T⟩ (fun g10_3=>zAu O fl38 O O O) O<|M O O (kW O O O (fun h=>h) O)<|kB<|I<|zF O (fun c4=>?_) (fun c4=>?_)
  ·obtain ⟨q1,q2⟩:=ki10_t c4
   refine G O<|yP O m pl38<|D 1 L O<|F O<|I<|o<|w (zV yK O (Y 1 O) O) (p O) ?_
   rw [hT];first|(rw [zFo q1 q2];rfl)|(rw [zNl hq (by omega)];rfl)|(rw [zOw hq (by omega)];rfl)|(rw [zOv hq (by omega)];rfl)|(rw [zLw hq c9];rfl)|(rw [zLv hq (by omega) c9];rfl)
  ·have hq:=ki10_f c4
   refine zI<|zJ<|G O<|zH O kQ<|zK J (Y 2 O) O<|I<|zQ<|zJ<|G O<|yE O<|F O<|I<|zF O (fun c5=>?_) (fun c5=>?_)
   ·try simp only [R] at c5
    refine zI<|zF O (fun c6=>?_) (fun c6=>?_)
    ·try simp only [R] at c6
     refine G O<|zH O zEs<|zO yK (Y 2 O) O<|D 1 L O<|F O<|I<|o<|w (zV yK O (Y 1 O) O) (p O) ?_
     rw [hT];first|(rw [zFo q1 q2];rfl)|(rw [zNl hq (by omega)];rfl)|(rw [zOw hq (by omega)];rfl)|(rw [zOv hq (by omega)];rfl)|(rw [zLw hq c9];rfl)|(rw [zLv hq (by omega) c9];rfl)
    ·try simp only [R] at c6
     refine G O<|yE O<|F O<|I<|zF O (fun c7=>?_) (fun c7=>?_)
     ·try simp only [R] at c7
      refine G O<|yP O m pl38<|D 1 L O<|F O<|I<|o<|w (zV yK O (Y 1 O) O) (p O) ?_
      rw [hT];first|(rw [zFo q1 q2];rfl)|(rw [zNl hq (by omega)];rfl)|(rw [zOw hq (by omega)];rfl)|(rw [zOv hq (by omega)];rfl)|(rw [zLw hq c9];rfl)|(rw [zLv hq (by omega) c9];rfl)
     ·try simp only [R] at c7
      refine G O<|yE O<|F O<|I<|zF O (fun c8=>?_) (fun c8=>?_)
      ·try simp only [R] at c8
       refine G O<|zO kG (Y 3 O) O<|zH O zEt<|zK one9 (Y 2 O) O<|qJ O ok115 (zCg n e.Name hn) ⟨H,O,H,O,T⟩<|qP O<|yO O<|qT O<|zU O O (qE [none,none,none,none,none,none,some 1,none] O zr65 O) ?_
       rintro _ _ ⟨b7,rfl,rfl⟩
       refine D 0 sz65 O<|F O<|I<|G O<|zH O zIr<|zO yK (Y 0 O) O<|D 2 L O<|F O<|I<|o<|w (zV yK O (Y 2 O) O) (p O) ?_
       rw [hT];first|(rw [zFo q1 q2];rfl)|(rw [zNl hq (by omega)];rfl)|(rw [zOw hq (by omega)];rfl)|(rw [zOv hq (by omega)];rfl)|(rw [zLw hq c9];rfl)|(rw [zLv hq (by omega) c9];rfl)
      ·try simp only [R] at c8
       refine zI<|zJ<|G O<|zO yX (Y 2 O) O<|qJ O ok181 (kS e) ⟨H,O,T⟩<|I<|zF O (fun c9=>?_) (fun c9=>?_)
       ·try simp only [R] at c9
        refine G O<|yP O m pl38<|D 1 L O<|F O<|I<|o<|w (zV yK O (Y 1 O) O) (p O) ?_
        rw [hT];first|(rw [zFo q1 q2];rfl)|(rw [zNl hq (by omega)];rfl)|(rw [zOw hq (by omega)];rfl)|(rw [zOv hq (by omega)];rfl)|(rw [zLw hq c9];rfl)|(rw [zLv hq (by omega) c9];rfl)
       ·try simp only [R] at c9
        have hq1:1<=(nonC (e.Args.take k) (nodeL (kiN n.Bufs) (e.Args.take k)).1).length:=by have h:=ki_one hpart (l:=(nodeL (kiN n.Bufs) (e.Args.take k)).1) (by rw [hll,hta]) (by omega) c9;rw [hta];rw [hta] at h;exact h
        refine zI<|G O<|F O<|zX O (qO 0 O zAa O O O (by omega) (by simp only [List.length_map];omega))<|zO yK (wC 0 O (zJb (by omega))) O<|D 1 L O<|F O<|I<|o<|w (zV yK O (Y 1 O) O) (p O) ?_
        rw [hT];first|(rw [zFo q1 q2];rfl)|(rw [zNl hq (by omega)];rfl)|(rw [zOw hq (by omega)];rfl)|(rw [zOv hq (by omega)];rfl)|(rw [zLw hq c9];rfl)|(rw [zLv hq (by omega) c9];rfl)
   ·try simp only [R] at c5
    refine zS O<|yE O<|F O<|I<|zF O (fun c6=>?_) (fun c6=>?_)
    ·try simp only [R] at c6
     refine G O<|zH O zEs<|zO yK (Y 2 O) O<|D 1 L O<|F O<|I<|o<|w (zV yK O (Y 1 O) O) (p O) ?_
     rw [hT];first|(rw [zFo q1 q2];rfl)|(rw [zNl hq (by omega)];rfl)|(rw [zOw hq (by omega)];rfl)|(rw [zOv hq (by omega)];rfl)|(rw [zLw hq c9];rfl)|(rw [zLv hq (by omega) c9];rfl)
    ·try simp only [R] at c6
     refine G O<|yE O<|F O<|I<|zF O (fun c7=>?_) (fun c7=>?_)
     ·try simp only [R] at c7
      refine G O<|yP O m pl38<|D 1 L O<|F O<|I<|o<|w (zV yK O (Y 1 O) O) (p O) ?_
      rw [hT];first|(rw [zFo q1 q2];rfl)|(rw [zNl hq (by omega)];rfl)|(rw [zOw hq (by omega)];rfl)|(rw [zOv hq (by omega)];rfl)|(rw [zLw hq c9];rfl)|(rw [zLv hq (by omega) c9];rfl)
     ·try simp only [R] at c7
      refine G O<|yE O<|F O<|I<|zF O (fun c8=>?_) (fun c8=>?_)
      ·try simp only [R] at c8
       refine G O<|zO kG (Y 3 O) O<|zH O zEt<|zK one9 (Y 2 O) O<|qJ O ok115 (zCg n e.Name hn) ⟨H,O,H,O,T⟩<|qP O<|yO O<|qT O<|zU O O (qE [none,none,none,none,none,none,some 1,none] O zr65 O) ?_
       rintro _ _ ⟨b8,rfl,rfl⟩
       refine D 0 sz65 O<|F O<|I<|G O<|zH O zIr<|zO yK (Y 0 O) O<|D 2 L O<|F O<|I<|o<|w (zV yK O (Y 2 O) O) (p O) ?_
       rw [hT];first|(rw [zFo q1 q2];rfl)|(rw [zNl hq (by omega)];rfl)|(rw [zOw hq (by omega)];rfl)|(rw [zOv hq (by omega)];rfl)|(rw [zLw hq c9];rfl)|(rw [zLv hq (by omega) c9];rfl)
      ·try simp only [R] at c8
       refine zI<|zJ<|G O<|zO yX (Y 2 O) O<|qJ O ok181 (kS e) ⟨H,O,T⟩<|I<|zF O (fun c9=>?_) (fun c9=>?_)
       ·try simp only [R] at c9
        refine G O<|yP O m pl38<|D 1 L O<|F O<|I<|o<|w (zV yK O (Y 1 O) O) (p O) ?_
        rw [hT];first|(rw [zFo q1 q2];rfl)|(rw [zNl hq (by omega)];rfl)|(rw [zOw hq (by omega)];rfl)|(rw [zOv hq (by omega)];rfl)|(rw [zLw hq c9];rfl)|(rw [zLv hq (by omega) c9];rfl)
       ·try simp only [R] at c9
        have hq1:1<=(nonC (e.Args.take k) (nodeL (kiN n.Bufs) (e.Args.take k)).1).length:=by have h:=ki_one hpart (l:=(nodeL (kiN n.Bufs) (e.Args.take k)).1) (by rw [hll,hta]) (by omega) c9;rw [hta];rw [hta] at h;exact h
        refine zI<|G O<|F O<|zX O (qO 0 O zAa O O O (by omega) (by simp only [List.length_map];omega))<|zO yK (wC 0 O (zJb (by omega))) O<|D 1 L O<|F O<|I<|o<|w (zV yK O (Y 1 O) O) (p O) ?_
        rw [hT];first|(rw [zFo q1 q2];rfl)|(rw [zNl hq (by omega)];rfl)|(rw [zOw hq (by omega)];rfl)|(rw [zOv hq (by omega)];rfl)|(rw [zLw hq c9];rfl)|(rw [zLv hq (by omega) c9];rfl)
theorem ref30_Kind (n:Ns) (e:Ex) (hn:n.Ok) (hpart:partE e=0) (he:e.wt<=1073741824):Pur cfg 203 [vNs n,vE e] (.tup [vTy (nodeT (kiN n.Bufs) e).1,vI (nodeT (kiN n.Bufs) e).2]):=by
  induction e using Ex.ind with
  |_ e ih=>exact zRl n hn e (fun a ha h1 h2=>ih a ha h1 h2) hpart he
theorem zGf (n:Ns) (bd:List Bd) (e:Ex) (hn:n.Ok) (hb:bd.length<=1000000) (he:e.wt<=1000000):
    Pur cfg 180 [vNs n,vBds bd,vE e] (.tup [vTy (exprT n.Bufs (bd.map Bd.Name) e).1,vI (exprT n.Bufs (bd.map Bd.Name) e).2]):=by
 refine zR Tryz.func180 O Tryz.ntmps180 Tryz.results180 O ?_
 intro z hz
 have hnl:=nodes_wt e
 refine G O<|zU O O (qM O O) ?_
 rintro _ _ ⟨b1,rfl,rfl⟩
 refine zU O O (qM O O) ?_
 rintro _ _ ⟨b2,rfl,rfl⟩
 refine zU O O (yW O m) ?_
 rintro _ _ ⟨b3,rfl,rfl⟩
 refine F O<|I<|zJ<|G O<|zO yX (Y 1 O) O<|qJ O ok200 (ref14_Validate e (by omega)) ⟨H,O,T⟩<|F O<|I<|G O<|F O<|yR O<|I<|zF O (fun c1=>?_) (fun c1=>?_)
 ·try simp only [R] at c1
  refine G O<|yP O m pl38<|F O<|D 0 L O<|F O<|I<|o<|w (zV yK O (Y 0 O) O) (p O) ?_
  rw [exprT_1 c1];rfl
 ·try simp only [R] at c1
  refine zI<|G O<|zO yX (Y 1 O) O<|qJ O ok201 (OwnR.pur (ref14_All e (by omega))) ⟨H,O,T⟩<|F O<|I<|zJ<|G O<|F O<|I<|zQ<|zW ⟨[(10,.c _),(1,.c _),(3,.c _),(5,.c _),(6,.c _),(9,.c _)],[_,_,_]⟩ (Weak.mk [true,true,true] ⟨H,H,H,H,H,H,T⟩ O)<|qK 1 0 O O (Nat) (fun k=>[(10,vI k)]) (fun k=>[]) (fun k=>k<=(nodes e).length/\(nodesN n.Bufs (bd.map Bd.Name) (nodes e)=nodesN n.Bufs (bd.map Bd.Name) ((nodes e).drop k))) (fun k=>(nodes e).length-k) ⟨0,⟨by omega,O⟩,Weak.mk [true,true,true] ⟨H,H,H,H,H,H,T⟩ O⟩ ?_
  rintro k ⟨hk,hp⟩
  refine zJ<|G O<|F O<|F O<|qB O g<|yH O<|I<|zF O (fun c2=>?_) (fun c2=>?_)
  ·try simp only [R] at c2
   obtain ⟨x,hx⟩:=qW (nodes e) k (by omega)
   refine zI<|zJ<|zQ<|zJ<|qX 8 mixed (by kernel_rfl) O O<|M O O (zY O kG O (Y 2 O) O)<|M O O (zN O O)<|M O O (zN O O)<|M O O (zN O O)<|M O O (qD O g O O (by omega) (zCk (by assumption)))<|M O O (zY O yX O qA O)<|M O O (qL O ok202 (ref30_node n bd x hn hb (by have:=zEg e x (zZ hx);omega)) ⟨H,O,H,O,H,O,T⟩)<|M O O (qY O O)<|kB<|I<|G O<|F O<|yR O<|I<|zF O (fun c3=>?_) (fun c3=>?_)
   ·try simp only [R] at c3
    refine G O<|yP O m pl38<|F O<|D 0 L O<|F O<|I<|o<|w (zV yK O (Y 0 O) O) (p O) ?_
    rw [exprT_2 c1 (by rw [hp,nodesN_no hx c3];exact c3),hp,nodesN_no hx c3];rfl
   ·try simp only [R] at c3
    refine zI<|zS O<|F O<|qH O ⟨by omega,by omega⟩<|F O<|I ?_
    refine ⟨k+1,⟨by omega,hp.trans (nodesN_at hx c3)⟩,(by omega),Weak.mk [true,true,true] ⟨H,H,H,H,H,H,T⟩ O⟩
  ·try simp only [R] at c2
   refine qN<|G O<|zO kG (Y 2 O) O<|zO yX (Y 1 O) O<|qJ O ok203 (ref30_Kind n e hn (zIz c1) (by omega)) ⟨H,O,H,O,T⟩<|yO O<|qT O<|D 0 L O<|F O<|I<|o<|w (zV yK O (Y 0 O) O) (p O) ?_
   rw [exprT_k c1 (by rw [hp,kC (by omega)];rfl)];rfl
theorem ref30_plain (s:St) (hs:s.wt<=900000000):
    Pur cfg 179 [vSt s] (vB (synSt s)):=by
 refine zR Tryz.func179 O Tryz.ntmps179 Tryz.results179 O ?_
 intro z hz
 obtain ⟨hE,hI,hIw,hB,hBw⟩:=St.parts hs
 refine G O<|zU O O (qM O O) ?_
 rintro _ _ ⟨b1,rfl,rfl⟩
 refine F O<|I<|zJ<|qX 8 mixed (by kernel_rfl) O O<|M O O (zD O zAb O)<|M O O (Q O J O (Y 0 O) O)<|M O O (yG O O O)<|M O O (zD O zAb O)<|M O O (Q O J O (Y 0 O) O)<|M O O (yG O O O)<|M O O (qY O O)<|M O O (qY O O)<|kB<|I<|G O<|zH O zAb<|zK J (Y 0 O) O<|yE O<|F O<|rL0 O (fun g2_3=>zD O zAb O) O<|B 16 O (fun g2_3=>Q O J O (Y 0 O) O) O<|B 17 O (fun g2_3=>yG O O O) O<|r_or O (fun h=>(lzf h))<|F O<|I<|zJ<|G O<|F O<|kO O<|F O<|rL0 O (fun g3_2=>zN O O) O<|B 23 O (fun g3_2=>kV O O) O<|yQ O (fun h=>h)<|F O<|rL0 O (fun g3_6=>zN O O) O<|B 27 O (fun g3_6=>kV O O) O<|yQ O (fun h=>h)<|I<|zF O (fun c1=>?_) (fun c1=>?_)
 ·refine G O<|F O<|I<|o<|X O ?_
  exact congrArg vB (pln_1 c1)
 ·refine zI<|zJ<|G O<|F O<|kO O<|F O<|rL0 O (fun g5_2=>zD O zAd O) O<|B 33 O (fun g5_2=>Q O J O (Y 0 O) O) O<|B 34 O (fun g5_2=>kH O O O) O<|B 35 O (fun g5_2=>zN O O) O<|rLz [] O P T (fun g5_6=>zD O zHd O) O<|rLz [(37,_)] O P ⟨O,O,T⟩ (fun g5_6=>Q O J O (Y 0 O) O) O<|rLz [(38,_)] O P ⟨O,O,T⟩ (fun g5_6=>kH O O O) O<|B 36 O (fun g5_2=>zAm O O O O (fun h=>kA (by assumption) (lzf h))) O<|yQ O (fun h=>h)<|F O<|rL0 O (fun g5_12=>zD O zAb O) O<|B 43 O (fun g5_12=>Q O J O (Y 0 O) O) O<|B 44 O (fun g5_12=>kH O O O) O<|B 45 O (fun g5_12=>zN O O) O<|rLz [] O P T (fun g5_16=>zD O zOk O) O<|rLz [(47,_)] O P ⟨O,O,T⟩ (fun g5_16=>Q O J O (Y 0 O) O) O<|rLz [(48,_)] O P ⟨O,O,T⟩ (fun g5_16=>kH O O O) O<|B 46 O (fun g5_12=>kW O O O (fun h=>kA (by assumption) h) O) O<|r_or O (fun h=>(lzf h))<|F O<|rL0 O (fun g5_22=>zN O O) O<|B 53 O (fun g5_22=>zN O O) O<|rLz [] O P T (fun g5_24=>zD O zAf O) O<|rLz [(55,_)] O P ⟨O,O,T⟩ (fun g5_24=>Q O one9 O (Y 0 O) O) O<|rLz [(56,_)] O P ⟨O,O,T⟩ (fun g5_24=>zBb O O O) O<|B 54 O (fun g5_22=>kW O O O (fun h=>kA (by assumption) h) O) O<|r_or O (fun h=>(lzf h))<|I<|zF O (fun c2=>?_) (fun c2=>?_)
  ·refine G O<|F O<|I<|o<|X O ?_
   exact congrArg vB (pln_2 c2)
  ·refine zI<|zJ<|G O<|F O<|kO O<|F O<|rL0 O (fun g7_2=>zD O zDt O) O<|B 63 O (fun g7_2=>Q O wR O (Y 0 O) O) O<|B 64 O (fun g7_2=>yB O A O) O<|B 65 O (fun g7_2=>yC O O O) O<|yQ O (fun h=>h)<|F O<|rL0 O (fun g7_8=>zN O O) O<|B 69 O (fun g7_8=>zN O O) O<|rLz [] O P T (fun g7_10=>zD O kP O) O<|rLz [(71,_)] O P ⟨O,O,T⟩ (fun g7_10=>Q O kT O (Y 0 O) O) O<|rLz [(72,_)] O P ⟨O,O,T⟩ (fun g7_10=>yB O K O) O<|rLz [(73,_)] O P ⟨O,O,T⟩ (fun g7_10=>yC O O O) O<|B 70 O (fun g7_8=>kW O O O (fun h=>kA (by assumption) h) O) O<|r_or O (fun h=>(lzf h))<|I<|zF O (fun c3=>?_) (fun c3=>?_)
   ·refine G O<|F O<|I<|o<|X O ?_
    exact congrArg vB (pln_3 c3)
   ·refine zI<|G O<|F O<|kO O<|F O<|rL0 O (fun g9_2=>zD O zAp O) O<|B 80 O (fun g9_2=>zY O yX O (Y 0 O) O) O<|rL0 O (fun g9_2=>zEb [none,none,none,none,none,none,none,none,none,none,some 2,some 4,some 13] O zr44 pl44 O O) O<|rLz [(81,_),(82,_)] O gv1 ⟨O,O,O,O,T⟩ (fun g9_2=>qL O ok141 (base_Expr s.E zEx (by omega)) ⟨H,O,H,O,T⟩) O<|r_or O (fun h=>(lzf h))<|F O<|I<|o<|X O ?_
    exact congrArg vB (pln_4 c1 c2 c3)
theorem ref30_store (n:Ns) (bd:List Bd) (s:St) (hn:n.Ok) (hb:bd.length<=1000000) (hs:s.wt<=900000):
    Pur cfg 182 [vNs n,vBds bd,vSt s] (vI (storeE n.Bufs (bd.map Bd.Name) s)):=by
 refine zR Tryz.func182 O Tryz.ntmps182 Tryz.results182 O ?_
 intro z hz
 obtain ⟨hE,hI,hIw,hB,hBw⟩:=St.parts hs
 have hrd:=rdE_wt s
 refine G O<|zU O O (qM O O) ?_
 rintro _ _ ⟨b1,rfl,rfl⟩
 refine zU O O (qM O O) ?_
 rintro _ _ ⟨b2,rfl,rfl⟩
 refine F O<|I<|zJ<|G O<|zO kG (Y 1 O) O<|F O<|zH O zAf<|zK one9 (Y 0 O) O<|zH O zDt<|zK wR (Y 0 O) O<|qV [none,none,none,none,none,none,none,none,none,none,some 2,none,some 13] O zr44 pl44<|qJ O ok180 (zGf n bd (rdE s) hn hb (by omega)) ⟨H,O,H,O,H,O,T⟩<|qP O<|yO O<|qT O<|zU O O (yW O m) ?_
 rintro _ _ ⟨b3,rfl,rfl⟩
 refine D 0 L O<|F O<|I<|G O<|F O<|yR O<|I<|zF O (fun c1=>?_) (fun c1=>?_)
 ·try simp only [R] at c1
  refine G O<|F O<|F O<|I<|o<|X O ?_
  rw [storeE_1 c1]
 ·try simp only [R] at c1
  refine zI<|G O<|zO kG (Y 2 O) O<|zH O zAf<|zK one9 (Y 1 O) O<|qJ O ok115 (zCg n s.Name hn) ⟨H,O,H,O,T⟩<|qP O<|yO O<|qT O<|zU O O (qE [none,none,none,none,none,none,some 1,none] O zr65 O) ?_
  rintro _ _ ⟨b4,rfl,rfl⟩
  refine D 0 sz65 O<|F O<|I<|zJ<|G O<|zH O zOj<|zK J (Y 0 O) O<|yE O<|F O<|rL0 O (fun g5_3=>zD O zAb O) O<|B 38 O (fun g5_3=>Q O J O (Y 2 O) O) O<|B 39 O (fun g5_3=>yG O O O) O<|B 40 O (fun g5_3=>zN O O) O<|rLz [] O P T (fun g5_7=>zD O zOk O) O<|rLz [(42,_)] O P ⟨O,O,T⟩ (fun g5_7=>Q O J O (Y 2 O) O) O<|rLz [(43,_)] O P ⟨O,O,T⟩ (fun g5_7=>zCt O O O) O<|rLz [(44,_)] O P ⟨O,O,T⟩ (fun g5_7=>zN O O) O<|rLz [] O P T (fun g5_11=>zD O zOk O) O<|rLz [(46,_)] O P ⟨O,O,T⟩ (fun g5_11=>Q O J O (Y 2 O) O) O<|rLz [(47,_)] O P ⟨O,O,T⟩ (fun g5_11=>yC O O O) O<|rLz [(45,_)] O P ⟨O,O,T⟩ (fun g5_7=>zAm O O O O (fun h=>kA (by assumption) (lzf h))) O<|B 41 O (fun g5_3=>kW O O O (fun h=>kA (by assumption) h) O) O<|r_or O (fun h=>(lzf h))<|I<|zF O (fun c2=>?_) (fun c2=>?_)
  ·try simp only [R] at c2
   refine G O<|F O<|I<|o<|X O ?_
   rw [storeE_u c1 c2]
  ·try simp only [R] at c2
   refine zI<|G O<|zO kG (Y 3 O) O<|F O<|zH O zAp<|zO yX (Y 2 O) O<|qJ O ok180 (zGf n bd s.E hn hb (by omega)) ⟨H,O,H,O,H,O,T⟩<|qP O<|yO O<|qT O<|zU O O (yW O m) ?_
   rintro _ _ ⟨b5,rfl,rfl⟩
   refine D 0 L O<|F O<|I<|zJ<|G O<|F O<|yE O<|F O<|rL0 O (fun g8_2=>zD O zAp O) O<|B 63 O (fun g8_2=>zY O yX O (Y 3 O) O) O<|B 64 O (fun g8_2=>qL O ok181 (kS _) ⟨H,O,T⟩) O<|B 65 O (fun g8_2=>zN O O) O<|rLz [] O P T (fun g8_6=>zY O yK O (Y 0 O) O) O<|rLz [] O P T (fun g8_6=>zD O zIr O) O<|rLz [(68,_)] O P ⟨O,O,T⟩ (fun g8_6=>zY O yK O (Y 1 O) O) O<|rLz [(67,_),(69,_)] O P ⟨O,O,O,O,T⟩ (fun g8_6=>zAu O fl38 O O O) O<|B 66 O (fun g8_2=>zAm O O O O (fun h=>kA (by assumption) (lzf h))) O<|yQ O (fun h=>h)<|I<|zF O (fun c3=>?_) (fun c3=>?_)
   ·obtain ⟨h0,h10⟩:=st3_t c3
    refine G O<|F O<|I<|o<|X O ?_
    rw [storeE_10 c1 (by omega) h0 h10]
   ·have h3:=st3_f c3
    refine zI<|G O<|F O<|F O<|I<|o<|X O ?_
    rw [st_fin c1 (by omega) h3]
theorem ref30_one (n:Ns) (bd:List Bd) (U:List ByteArray) (s:St) (hn:n.Ok) (hb:bd.length<=1000000) (hs:s.wt<=900000) (hU:U.length<=1000000):
    Pur cfg 150 [vNs n,vBds bd,vSs U,vSt s] (vI (stE n.Bufs U (bd.map Bd.Name) s)):=by
 refine zR Tryz.func150 O Tryz.ntmps150 Tryz.results150 O ?_
 intro z hz
 obtain ⟨hE,hI,hIw,hB,hBw⟩:=St.parts hs
 refine G O<|zU O O (qM O O) ?_
 rintro _ _ ⟨b1,rfl,rfl⟩
 refine zU O O (qM O O) ?_
 rintro _ _ ⟨b2,rfl,rfl⟩
 refine F O<|I<|zJ<|G O<|zO zBx (Y 0 O) O<|qJ O ok179 (ref30_plain s (by omega)) ⟨H,O,T⟩<|kO O<|I<|zF O (fun c1=>?_) (fun c1=>?_)
 ·try simp only [R] at c1
  refine G O<|F O<|I<|o<|X O ?_
  rw [stE_5 c1]
 ·try simp only [R] at c1
  refine zI<|zJ<|G O<|zH O zAb<|zK J (Y 0 O) O<|I<|zQ<|G O<|yE O<|F O<|I<|zF O (fun c2=>?_) (fun c2=>?_)
  ·try simp only [R] at c2
   refine G O<|zO kG (Y 1 O) O<|zH O zAf<|zK one9 (Y 0 O) O<|qJ O ok115 (zCg n s.Name hn) ⟨H,O,H,O,T⟩<|qP O<|yO O<|qT O<|zU O O (qE [none,none,none,none,none,none,some 1,none] O zr65 O) ?_
   rintro _ _ ⟨b3,rfl,rfl⟩
   refine D 0 sz65 O<|F O<|I<|zJ<|zQ<|G O<|zH O zAf<|zK one9 (Y 1 O) O<|qJ O ok60 (zFv s.Name) ⟨H,O,T⟩<|kO O<|F O<|I<|zF O (fun c3=>?_) (fun c3=>?_)
   ·try simp only [R] at c3
    refine G O<|F O<|I<|o<|X O ?_
    rw [stE_l c1 c2,loopE_7 c3]
   ·try simp only [R] at c3
    refine G O<|F O<|F O<|rL0 O (fun g8_1=>zN O O) O<|rL0 O (fun g8_1=>zD O zAf O) O<|B 36 O (fun g8_1=>Q O one9 O (Y 1 O) O) O<|rLz [(35,_),(37,_)] O gv1 ⟨O,O,O,O,T⟩ (fun g8_1=>qL O ok113 (base_Has U s.Name (by omega)) ⟨H,O,H,O,T⟩) O<|r_or O (fun h=>(lzf h))<|F O<|I<|zF O (fun c4=>?_) (fun c4=>?_)
    ·try simp only [R] at c4
     refine G O<|F O<|I<|o<|X O ?_
     rw [stE_l c1 c2,loopE_8 c3 c4]
    ·try simp only [R] at c4
     have h8:¬(hasBf n.Bufs s.Name=true∨hasB U s.Name=true):=by rw [c4.1,c4.2];simp
     refine G O<|zH O zAd<|zK J (Y 1 O) O<|yH O<|F O<|rL0 O (fun g10_3=>zD O zAd O) O<|B 45 O (fun g10_3=>Q O J O (Y 1 O) O) O<|B 46 O (fun g10_3=>yC O O O) O<|r_or O (fun h=>(lzf h))<|F O<|rL0 O (fun g10_8=>zD O zHd O) O<|B 50 O (fun g10_8=>Q O J O (Y 1 O) O) O<|B 51 O (fun g10_8=>zCt O O O) O<|r_or O (fun h=>(lzf h))<|F O<|rL0 O (fun g10_13=>zD O zHd O) O<|B 55 O (fun g10_13=>Q O J O (Y 1 O) O) O<|B 56 O (fun g10_13=>yC O O O) O<|r_or O (fun h=>(lzf h))<|F O<|I<|zF O (fun c5=>?_) (fun c5=>?_)
     ·try simp only [R] at c5
      refine G O<|F O<|I<|o<|X O ?_
      rw [stE_l c1 c2,loopE_1 c3 h8 (by omega)]
     ·try simp only [R] at c5
      refine zI<|G O<|F O<|I<|o<|X O ?_
      rw [stE_l c1 c2,loopE_0 c3 h8 (by omega)]
  ·try simp only [R] at c2
   refine G O<|yE O<|F O<|I<|zF O (fun c6=>?_) (fun c6=>?_)
   ·try simp only [R] at c6
    refine G O<|zO kG (Y 1 O) O<|F O<|zH O zAp<|zO yX (Y 0 O) O<|qJ O ok180 (zGf n bd s.E hn hb (by omega)) ⟨H,O,H,O,H,O,T⟩<|qP O<|yO O<|qT O<|zU O O (yW O m) ?_
    rintro _ _ ⟨b4,rfl,rfl⟩
    refine D 0 L O<|F O<|I<|zJ<|G O<|F O<|yE O<|F O<|rL0 O (fun g15_2=>zD O zAp O) O<|B 72 O (fun g15_2=>zY O yX O (Y 1 O) O) O<|B 73 O (fun g15_2=>qL O ok181 (kS _) ⟨H,O,T⟩) O<|B 74 O (fun g15_2=>kV O O) O<|yQ O (fun h=>h)<|I<|zF O (fun c7=>?_) (fun c7=>?_)
    ·refine G O<|F O<|I<|o<|X O ?_
     rw [stE_i c1 c6,if_t c7]
    ·refine zI<|G O<|F O<|F O<|I<|o<|X O ?_
     rw [stE_i c1 c6,if_fin c7]
   ·try simp only [R] at c6
    refine zI<|G O<|zO kG (Y 1 O) O<|F O<|zO zBx (Y 0 O) O<|qJ O ok182 (ref30_store n bd s hn hb hs) ⟨H,O,H,O,H,O,T⟩<|F O<|I<|o<|X O ?_
    rw [stE_s c1 c2 c6]
set_option maxHeartbeats 2000000 in
theorem zIf (n:Ns) (bd:List Bd) (U:List ByteArray) (l:List St) (W:List Int) (hn:n.Ok) (hU:U.length+stsN l<=1000000) (hb:bd.length+stsN l<=1000000) (hW:W.length+stsN l<=1000000) (hl:stsWt l<=900000) (ih:∀s,s∈l->∀(bd:List Bd) (U:List ByteArray) (W:List Int),U.length+stsN s.Body<=1000000->bd.length+stsN s.Body<=1000000->W.length+stsN s.Body<=1000000->Pur cfg 112 [vNs n,vBds bd,vSs U,vSts s.Body,vIs W] (ckC (chkL n.Bufs U (bd.map Bd.Name) W 0 s.Body))):
    Pur cfg 112 [vNs n,vBds bd,vSs U,vSts l,vIs W] (ckC (chkL n.Bufs U (bd.map Bd.Name) W 0 l)):=by
 refine zR Tryz.func112 O Tryz.ntmps112 Tryz.results112 O ?_
 intro z hz
 have hll:=kN l
 have hlN:=zDg l
 refine G O<|zU O O (qM O O) ?_
 rintro _ _ ⟨b1,rfl,rfl⟩
 refine zU O O (qE [some 1,some 1,none] O zr148 O) ?_
 rintro _ _ ⟨b2,rfl,rfl⟩
 refine I<|zJ<|G O<|F O<|I<|zQ<|zW ⟨[(11,.c _),(2,.c _),(1,.c _),(3,.c _),(4,.c _),(5,.c _),(10,.c _)],[_,_]⟩ (Weak.mk [true,true] ⟨H,H,H,H,H,H,H,T⟩ O)<|qK 2 0 O O (Nat×List ByteArray) (fun ⟨k,u⟩=>[(11,vI k),(2,vSs u)]) (fun ⟨k,u⟩=>[]) (fun ⟨k,u⟩=>k<=l.length/\(u.length+stsN (l.drop k)<=1000000)/\((chkL n.Bufs U (bd.map Bd.Name) W 0 l)=chkL n.Bufs u (bd.map Bd.Name) W k (l.drop k))) (fun ⟨k,u⟩=>l.length-k) ⟨⟨0,U⟩,⟨by omega,by simpa using hU,O⟩,Weak.mk [true,true] ⟨H,VLe.of_eq (O),H,H,H,H,H,T⟩ O⟩ ?_
 rintro ⟨k,u⟩ ⟨hk,hub,hp⟩
 show AWP _ _ _ _ _ ⟨[(11,vI k),(2,vSs u)]++_,[]++_⟩
 refine zJ<|G O<|F O<|F O<|qB O K<|yH O<|I<|zF O (fun c1=>?_) (fun c1=>?_)
 ·try simp only [R] at c1
  obtain ⟨s,hs⟩:=qW l k (by omega)
  have hsw:=yI (zZ hs)
  have hsb:=St.body_wt s
  have hsn:=stsN_drop hs
  have hse:=zGz s
  have hsm:=zLb (zZ hs)
  have hcl:=chkS_len n.Bufs s u (bd.map Bd.Name) (W++[(k:Int)])
  refine zI<|zJ<|zQ<|G O<|zX O (zKr O el26 zr3)<|F O<|zU O O (zKl O el26 O O (by simp only [List.length_map,List.length_append,List.length_cons,List.length_nil];omega) (by simp only [List.length_map,List.length_append,List.length_cons,List.length_nil];omega)) ?_
  rintro _ _ ⟨sv3,rfl,rfl⟩
  refine F O<|zX O (qS O el26 zr3 O O O O)<|zU O O (yD 0 O el26 O O O (by simp only [List.length_map,List.length_append,List.length_cons,List.length_nil];omega) (by simp only [List.length_map,List.length_append,List.length_cons,List.length_nil];omega)) ?_
  rintro _ _ ⟨sv4,rfl,rfl⟩
  refine F O<|I<|zJ<|zJ<|zW _ (Weak.vecEq 0 O (rows':=(W++[(k:Int)]).map fun i=>[cI i]) (by first|rfl|simp|rw [List.take_of_length_le (by simp)]))<|zW _ (yS 0 O (regs':=[(27,_),(12,_)]) (μ':=[_,_]) ⟨FLe.sl,FLe.sl,T⟩ ⟨EFle.refl _,EFle.refl _,T⟩)<|qX 9 mixed (by kernel_rfl) O O<|M O O (zY O kG O (Y 1 O) O)<|M O O (zN O O)<|M O O (zN O O)<|M O O (zN O O)<|M O O (zN O O)<|M O O (qD O K O O (by omega) (wJ (by assumption)))<|M O O (zY O zBx O qA O)<|M O O (qL O ok150 (ref30_one n bd u s hn (by omega) (by have:=yI (zZ hs);omega) (by omega)) ⟨H,O,H,O,H,O,H,O,T⟩)<|M O O (qY O O)<|kB<|I<|G O<|F O<|yR O<|I<|zF O (fun c2=>?_) (fun c2=>?_)
  ·try simp only [R] at c2
   have hx0:=chkS_no (here:=W++[(k:Int)]) (B:=n.Bufs) (U:=u) (sc:=(bd.map Bd.Name)) (s:=s) c2
   refine G O<|F O<|F O<|qV [some 1,none,none] O zr148 pl148<|D 0 sz148 O<|I<|o<|fin1 (zV agg148 O (Y 0 O) O) ?_
   rw [zDr hs hp (by rw [hx0];exact c2),hx0];rfl
  ·try simp only [R] at c2
   have hin:=chkS_in (here:=W++[(k:Int)]) (B:=n.Bufs) (U:=u) (sc:=(bd.map Bd.Name)) (s:=s) c2
   refine zI<|G O<|F O<|F O<|I<|zJ<|G O<|F O<|F O<|qC O K (by omega) (wJ (by assumption))<|qQ O zAb<|zK J qA O<|yE O<|I<|zF O (fun c3=>?_) (fun c3=>?_)
   ·try simp only [R] at c3
    rw [zLn c3,zLn c3,←map_bd] at hin
    refine zJ<|kJ 9 1 [⟨0,.q []⟩,⟨1,.q []⟩,⟨3,.q []⟩,⟨4,.q []⟩,⟨5,.q []⟩,⟨6,.q []⟩,⟨7,.q []⟩,⟨8,.q []⟩,⟨2,.e 0 []⟩] mixed (by kernel_rfl) (by kernel_rfl) O O O<|t O<|t O<|t O<|t O<|t O<|t O<|t O<|t O<|t O<|zBj<|v O (by decide) O O (zKr O zCr zr9)<|v O (by decide) O O (zN O O)<|v O (by decide) O O (zN O O)<|v O (by decide) O O (zN O O)<|v O (by decide) O O (qD O K O O (by omega) (wJ (by assumption)))<|v O (by decide) O O (qI O zAf O)<|v O (by decide) O O (Q O one9 O qA O)<|v O (by decide) O O (qS O zCr zr9 O O O O)<|zHq O O (by decide) O O (zKl O zCr O O (by simp only [List.length_map,List.length_append,List.length_cons,List.length_nil];omega) (by simp only [List.length_map,List.length_append,List.length_cons,List.length_nil];omega)) ?_
    rintro _ _ ⟨sv5,rfl,rfl⟩
    refine ⟨_,O,?_⟩
    refine zBd O<|zU O O (yD 0 O zCr O O O (by simp only [List.length_map,List.length_append,List.length_cons,List.length_nil];omega) (by simp only [List.length_map,List.length_append,List.length_cons,List.length_nil];omega)) ?_
    rintro _ _ ⟨sv6,rfl,rfl⟩
    refine F O<|I<|kJ 15 1 [⟨0,.q []⟩,⟨1,.q []⟩,⟨3,.q []⟩,⟨4,.q []⟩,⟨5,.q []⟩,⟨6,.q []⟩,⟨7,.q []⟩,⟨8,.q []⟩,⟨9,.q []⟩,⟨10,.q []⟩,⟨11,.q []⟩,⟨12,.q []⟩,⟨13,.q []⟩,⟨14,.q []⟩,⟨2,.e 0 []⟩] mixed (by kernel_rfl) (by kernel_rfl) O O O<|t O<|t O<|t O<|t O<|t O<|t O<|t O<|t O<|t O<|t O<|t O<|t O<|t O<|t O<|t O<|zBj<|v O (by decide) O O (zKr O el73 zr80)<|v O (by decide) O O (zN O O)<|v O (by decide) O O (zN O O)<|v O (by decide) O O (zN O O)<|v O (by decide) O O (qD O K O O (by omega) (wJ (by assumption)))<|v O (by decide) O O (qI O zAf O)<|v O (by decide) O O (Q O one9 O qA O)<|v O (by decide) O O (zN O O)<|v O (by decide) O O (zN O O)<|v O (by decide) O O (qD O K O O (by omega) (wJ (by assumption)))<|v O (by decide) O O (qI O zAd O)<|v O (by decide) O O (Q O J O qA O)<|v O (by decide) O O (zBw O zr80 pl80 O)<|v O (by decide) O O (qS O el73 zr80 O O O O)<|zHq O O (by decide) O O (zKl O el73 O O (by simp only [List.length_map,List.length_append,List.length_cons,List.length_nil];omega) (by simp only [List.length_map,List.length_append,List.length_cons,List.length_nil];omega)) ?_
    rintro _ _ ⟨sv7,rfl,rfl⟩
    refine ⟨_,O,?_⟩
    refine zBd O<|zU O O (yD 0 O el73 O O O (by simp only [List.length_map,List.length_append,List.length_cons,List.length_nil];omega) (by simp only [List.length_map,List.length_append,List.length_cons,List.length_nil];omega)) ?_
    rintro _ _ ⟨sv8,rfl,rfl⟩
    refine F O<|I<|zJ<|zW _ (Weak.vecEq 1 O (rows':=(u++[s.Name]).map fun s=>[cS s]) (by first|rfl|simp|rw [List.take_of_length_le (by simp)]))<|zW _ (yS 1 O (regs':=[(2,_),(57,_)]) (μ':=[_,_,_]) ⟨FLe.sl,FLe.sl,T⟩ ⟨EFle.refl _,EFle.refl _,EFle.refl _,T⟩)<|zW _ (Weak.vecEq 0 O (rows':=(bd++[(⟨s.Name,s.Many⟩:Bd)]).map Bd.cells) (by rw [List.map_append];rfl))<|zW _ (yS 0 O (regs':=[(14,_),(73,_)]) (μ':=[_,_]) ⟨FLe.sl,FLe.sl,T⟩ ⟨EFle.refl _,EFle.refl _,T⟩)<|kJ 11 1 [⟨0,.q [2]⟩,⟨1,.q []⟩,⟨2,.q []⟩,⟨3,.q []⟩,⟨4,.q []⟩,⟨5,.q []⟩,⟨6,.q []⟩,⟨7,.q []⟩,⟨8,.q []⟩,⟨9,.q []⟩,⟨10,.f 0⟩] mixed (by kernel_rfl) (by kernel_rfl) O O O<|t O<|t O<|t O<|t O<|t O<|t O<|t O<|t O<|t O<|t O<|zLz O O (zDn (qE [some 1,some 1,none] O zr148 O)) ⟨_,_,0,O,O⟩<|zBj<|v O (by decide) O O (zY O kG O (Y 0 O) O)<|v O (by decide) O O (zN O O)<|v O (by decide) O O (zN O O)<|v O (by decide) O O (zN O O)<|v O (by decide) O O (zN O O)<|v O (by decide) O O (qD O K O O (by omega) (wJ (by assumption)))<|v O (by decide) O O (qI O kP O)<|v O (by decide) O O (Q O kT O qA O)<|v O (by decide) O O (zN O O)<|v O (by decide) O O (qL O ok112 (ih s (zZ hs) (bd++[(⟨s.Name,s.Many⟩:Bd)]) (u++[s.Name]) (W++[(k:Int)]) (by first|omega|(simp;omega)) (by first|omega|(simp;omega)) (by simp;omega)) ⟨H,O,H,O,H,O,H,O,H,O,T⟩)<|zLd O O ?_
    rintro _ _ ⟨b9,rfl,rfl⟩
    refine zBd O<|D 0 sz148 O<|I<|zJ<|G O<|zH O fd148_2<|zK zIh (Y 0 O) O<|yR O<|I<|zF O (fun c4=>?_) (fun c4=>?_)
    ·try simp only [R] at c4
     rw [←hin] at c4
     refine G O<|zO agg148 (Y 0 O) O<|D 1 sz148 O<|I<|o<|fin1 (zV agg148 O (Y 1 O) O) ?_
     rw [zDr hs hp c4,hin];rfl
    ·try simp only [R] at c4
     rw [←hin] at c4
     refine zI<|zS O<|zH O fd148_0<|zK zLl (Y 0 O) O<|F O<|I<|zS O<|F O<|qH O ⟨by omega,by omega⟩<|F O<|I ?_
     refine ⟨⟨k+1,(chkS n.Bufs u (bd.map Bd.Name) (W++[(k:Int)]) s).U⟩,⟨by omega,by omega,zMj hs hp c4⟩,(by show l.length-(k+1)<l.length-k;omega),Weak.mk [false,true,true] ⟨H,VLe.of_eq (congrArg vSs (by rw [hin])),H,H,H,H,H,T⟩ O⟩
   ·try simp only [R] at c3
    rw [zPp c3,zPp c3] at hin
    refine zI<|zJ<|kJ 11 1 [⟨0,.q [2]⟩,⟨1,.q []⟩,⟨2,.q []⟩,⟨3,.q []⟩,⟨4,.q []⟩,⟨5,.q []⟩,⟨6,.q []⟩,⟨7,.q []⟩,⟨8,.q []⟩,⟨9,.q []⟩,⟨10,.f 0⟩] mixed (by kernel_rfl) (by kernel_rfl) O O O<|t O<|t O<|t O<|t O<|t O<|t O<|t O<|t O<|t O<|t O<|zLz O O (zDn (qE [some 1,some 1,none] O zr148 O)) ⟨_,_,0,O,O⟩<|zBj<|v O (by decide) O O (zY O kG O (Y 0 O) O)<|v O (by decide) O O (zN O O)<|v O (by decide) O O (zN O O)<|v O (by decide) O O (zN O O)<|v O (by decide) O O (zN O O)<|v O (by decide) O O (qD O K O O (by omega) (wJ (by assumption)))<|v O (by decide) O O (qI O kP O)<|v O (by decide) O O (Q O kT O qA O)<|v O (by decide) O O (zN O O)<|v O (by decide) O O (qL O ok112 (ih s (zZ hs) bd u (W++[(k:Int)]) (by first|omega|(simp;omega)) (by first|omega|(simp;omega)) (by simp;omega)) ⟨H,O,H,O,H,O,H,O,H,O,T⟩)<|zLd O O ?_
    rintro _ _ ⟨b10,rfl,rfl⟩
    refine zBd O<|D 0 sz148 O<|I<|zJ<|G O<|zH O fd148_2<|zK zIh (Y 0 O) O<|yR O<|I<|zF O (fun c4=>?_) (fun c4=>?_)
    ·try simp only [R] at c4
     rw [←hin] at c4
     refine G O<|zO agg148 (Y 0 O) O<|D 1 sz148 O<|I<|o<|fin1 (zV agg148 O (Y 1 O) O) ?_
     rw [zDr hs hp c4,hin];rfl
    ·try simp only [R] at c4
     rw [←hin] at c4
     refine zI<|zS O<|zH O fd148_0<|zK zLl (Y 0 O) O<|F O<|I<|zS O<|F O<|qH O ⟨by omega,by omega⟩<|F O<|I ?_
     refine ⟨⟨k+1,(chkS n.Bufs u (bd.map Bd.Name) (W++[(k:Int)]) s).U⟩,⟨by omega,by omega,zMj hs hp c4⟩,(by show l.length-(k+1)<l.length-k;omega),Weak.mk [false,true,true] ⟨H,VLe.of_eq (congrArg vSs (by rw [hin])),H,H,H,H,H,T⟩ O⟩
 ·try simp only [R] at c1
  refine qN<|G O<|F O<|qV [none,some 1,none] O zr148 pl148<|D 0 sz148 O<|I<|o<|fin1 (zV agg148 O (Y 0 O) O) ?_
  rw [zQc hp (by omega)];rfl
theorem zRk (n:Ns) (hn:n.Ok) (s:St) (hl:stsWt s.Body<=900000):∀(bd:List Bd) (U:List ByteArray) (W:List Int),U.length+stsN s.Body<=1000000->bd.length+stsN s.Body<=1000000->W.length+stsN s.Body<=1000000->Pur cfg 112 [vNs n,vBds bd,vSs U,vSts s.Body,vIs W] (ckC (chkL n.Bufs U (bd.map Bd.Name) W 0 s.Body)):=by
  induction s using St.ind with
  |_ s ih=>
    intro bd U W hU hb hW
    refine zIf n bd U s.Body W hn hU hb hW hl fun a ha=>ih a ha ?_
    have:=yI ha;have:=St.body_wt a;omega
theorem ref30_body (n:Ns) (bd:List Bd) (U:List ByteArray) (l:List St) (W:List Int)  (hn:n.Ok) (hU:U.length+stsN l<=1000000) (hb:bd.length+stsN l<=1000000) (hW:W.length+stsN l<=1000000) (hl:stsWt l<=900000):Pur cfg 112 [vNs n,vBds bd,vSs U,vSts l,vIs W] (ckC (chkL n.Bufs U (bd.map Bd.Name) W 0 l)):=
  zIf n bd U l W hn hU hb hW hl fun s hs=>zRk n hn s (by have:=yI hs;have:=St.body_wt s;omega)
theorem ref30_Validate (n:Ns) (hn:n.Ok) (hw:stsWt n.Body<=900000):
    Pur cfg 58 [vNs n] (.tup [vIs (validN n).1,vI (validN n).2]):=by
 refine zR Tryz.func58 O Tryz.ntmps58 Tryz.results58 O ?_
 intro z hz
 refine G O<|zU O O (qM O O) ?_
 rintro _ _ ⟨b1,rfl,rfl⟩
 refine yA 1 O<|F O<|I<|zJ<|G O<|zH O zAc<|zK kT (Y 0 O) O<|qJ O ok110 (ref30_depth 41 n.Body 41 (by omega) (by omega) O) ⟨H,O,H,O,T⟩<|zX O (yC O O O)<|I<|zF O (fun c1=>?_) (fun c1=>?_)
 ·try simp only [R] at c1
  have hwi:=within_f c1
  refine G O<|yA 1 O<|F O<|I<|o<|w (p O) (p O) ?_
  rw [zQo hwi];rfl
 ·try simp only [R] at c1
  have hwi:=within_t c1
  refine zI<|zJ<|G O<|zH O zAc<|zK kT (Y 0 O) O<|qJ O ok46 (ref30_size n.Body 2000 2000 (by omega) (by omega) O) ⟨H,O,H,O,T⟩<|zX O (yC O O O)<|F O<|rL0 O (fun g3_4=>zD O zAg O) O<|B 15 O (fun g3_4=>Q O zDm O (Y 0 O) O) O<|B 16 O (fun g3_4=>yB O el22 O) O<|B 17 O (fun g3_4=>yC O O O) O<|r_or O (fun h=>(lzf h))<|I<|zF O (fun c2=>?_) (fun c2=>?_)
  ·try simp only [R] at c2
   refine G O<|yA 1 O<|F O<|I<|o<|w (p O) (p O) ?_
   rw [validN_2 hwi (by omega)];rfl
  ·try simp only [R] at c2
   have hnum:=numB_ok (l:=n.Body) (m:=2000) (by omega)
   refine zI<|zJ<|G O<|zO kG (Y 0 O) O<|qJ O ok111 (ref30_bufs n hn) ⟨H,O,T⟩<|F O<|I<|G O<|F O<|yR O<|I<|zF O (fun c3=>?_) (fun c3=>?_)
   ·try simp only [R] at c3
    refine G O<|F O<|yA 1 O<|F O<|I<|o<|w (p O) (p O) ?_
    rw [validN_b hwi (by omega) c3];rfl
   ·try simp only [R] at c3
    refine zI<|G O<|zO kG (Y 0 O) O<|zH O zAc<|zK kT (Y 0 O) O<|qJ O ok112 (ref30_body n [] [] n.Body [] hn (by simp;omega) (by simp;omega) (by simp;omega) hw) ⟨H,O,VLe.nil,O,VLe.nil,O,H,O,VLe.nil,O,T⟩<|zU O O (qE [some 1,some 1,none] O zr148 O) ?_
    rintro _ _ ⟨b2,rfl,rfl⟩
    refine D 0 sz148 O<|I<|zJ<|qX 6 mixed (by kernel_rfl) O O<|M O O (zD O fd148_1 O)<|M O O (Q O zFm O (Y 0 O) O)<|M O O (zD O fd148_2 O)<|M O O (Q O zIh O (Y 0 O) O)<|M O O (qY O O)<|M O O (qY O O)<|kB<|I<|o<|w (p O) (p O) ?_
    rw [zPc hwi (by omega) c3];rfl
end Go.W
