/-
  What functions compute.
  Conditions: none.
-/
import Derived.Test.YtgfomfnjionbeaaGreatDoorNB
import Derived.Test.YtgfomfnjionbeaaGreatDoorPlain3
import Derived.Test.YtgfomfnjionbeaaGreatDoorEngZ
set_option linter.unusedSimpArgs false
set_option linter.unusedVariables false
set_option maxRecDepth 10000
namespace Go.W
open Go Go.Eng Go.Proofs Go.L41 Go.Br
attribute [local irreducible] AWP RWP TD fQ
abbrev jT (l:List Bd):V:=.c (.sl 2 (l.map Bd.cells))
abbrev ckC (x:Ck):V:=.agg [.sl 1 (x.U.map fun s=>[cS s]),.sl 1 (x.W.map fun i=>[cI i]),cI x.E]
theorem bd_get {l:List Bd} {k:Nat} {x:Bd} (h:l[k]? =some x):(l.map Bd.cells)[k]? =some [cS x.Name,cI x.Val]:=by rw [getm h];rfl
theorem agg111:mJ Tryz.prog 111=some 3:=by kernel_rfl
theorem el31:dG Tryz.prog 31=some (50,2,24):=by kernel_rfl
theorem zQc:bD Tryz.prog 50 0=some (0,9):=by kernel_rfl
theorem fd111_0:bD Tryz.prog 111 0=some (0,25):=by kernel_rfl
theorem fd111_1:bD Tryz.prog 111 1=some (1,46):=by kernel_rfl
theorem fd111_2:bD Tryz.prog 111 2=some (2,34):=by kernel_rfl
theorem ok50:bA Tryz.prog 50=true:=by kernel_rfl
theorem ok51:bA Tryz.prog 51=true:=by kernel_rfl
theorem ok109:bA Tryz.prog 109=true:=by kernel_rfl
theorem ok170:bA Tryz.prog 170=true:=by kernel_rfl
theorem ok171:bA Tryz.prog 171=true:=by kernel_rfl
theorem ok172:bA Tryz.prog 172=true:=by kernel_rfl
theorem ok174:bA Tryz.prog 174=true:=by kernel_rfl
theorem ok213:bA Tryz.prog 213=true:=by kernel_rfl
theorem ok214:bA Tryz.prog 214=true:=by kernel_rfl
theorem ok250:bA Tryz.prog 250=true:=by kernel_rfl
theorem ok251:bA Tryz.prog 251=true:=by kernel_rfl
theorem pl50:dL Tryz.prog 50=some [(0,1),(1,1)]:=by kernel_rfl
theorem pl111:dL Tryz.prog 111=some [(0,1),(1,1),(2,1)]:=by kernel_rfl
theorem sz111:(Tryz.prog.info? 111).map (·.size)=some 3:=by kernel_rfl
theorem zr50:dO Tryz.prog 50=some [(Value.string (ByteArray.mk #[])),(Value.int IntKind.i64 0)]:=by kernel_rfl
theorem zr111:dO Tryz.prog 111=some [(Value.slice none 0 0),(Value.slice none 0 0),(Value.int IntKind.i64 0)]:=by kernel_rfl
theorem zSj (l:List Lf) (bd:List Bd) (hl:l.length<=4294967296) (hx:∀x,x∈l->x.L.length<=4294967296) (hb:bd.length<=4294967296):
    Pur cfg 250 [nI l,jT bd] (vB (l.all (mI (bd.map Bd.Name)))):=by
 refine zV Tryz.func250 O Tryz.ntmps250 Tryz.results250 O ?_
 intro z hz
 have hl0:=hx
 clear hx
 refine Y O<|G O<|zA<|zH<|Y O<|G O<|zA<|zR<|zU ⟨[(5,.c _),(0,.c _),(1,.c _)],[]⟩ (Weak.mk [] ⟨zB,zB,zB,T⟩ O)<|qF 1 0 O O (Nat) (fun k=>[(5,vI k)]) (fun k=>[]) (fun k=>k<=l.length/\((l.take k).all (mI (bd.map Bd.Name))=true)) (fun k=>l.length-k) ⟨0,⟨zC,O⟩,Weak.mk [] ⟨zB,zB,zB,T⟩ O⟩ ?_
 rintro k ⟨hk,hp⟩
 refine zH<|Y O<|G O<|G O<|qB O el72<|yA O<|zA<|zE O (fun c1=>?_) (fun c1=>?_)
 ·try simp only [sx] at c1
  obtain ⟨x,hx⟩:=qV l k zC
  have hxl:=hl0 x (qC hx)
  refine zI<|zH<|zR<|Y O<|G O<|zA<|zR<|zU ⟨[(6,.c _),(0,.c _),(1,.c _),(5,.c _)],[]⟩ (Weak.mk [] ⟨zB,zB,zB,zB,T⟩ O)<|qF 1 0 O O (Nat) (fun j=>[(6,vI j)]) (fun j=>[]) (fun j=>j<=x.L.length/\(x.L.take j).all (fun m=>bQ (bd.map Bd.Name) m.Name)=true) (fun j=>x.L.length-j) ⟨0,⟨zC,O⟩,Weak.mk [] ⟨zB,zB,zB,zB,T⟩ O⟩ ?_
  rintro j ⟨hj,hq⟩
  refine zH<|Y O<|G O<|G O<|G O<|qE O el72 zC (getm hx)<|qW O wC<|zG zBe qD O<|qB O U<|yA O<|zA<|zE O (fun c2=>?_) (fun c2=>?_)
  ·try simp only [sx] at c2
   obtain ⟨m,hm⟩:=qV x.L j zC
   refine zI<|zH<|zR<|Y O<|G O<|zA<|zH<|Y O<|G O<|zA<|zR<|zU ⟨[(8,.c _),(7,.c _),(0,.c _),(1,.c _),(5,.c _),(6,.c _)],[]⟩ (Weak.mk [] ⟨zB,zB,zB,zB,zB,zB,T⟩ O)<|qF 2 0 O O (Nat) (fun i=>[(8,vI i),(7,vB ((bd.take i).any fun d=>decide (d.Name=m.Name)))]) (fun i=>[]) (fun i=>i<=bd.length) (fun i=>bd.length-i) ⟨0,zC,Weak.mk [] ⟨zB,VLe.of_eq (O),zB,zB,zB,zB,T⟩ O⟩ ?_
   rintro i hi
   refine zH<|Y O<|G O<|G O<|qB O el31<|yA O<|zA<|zE O (fun c3=>?_) (fun c3=>?_)
   ·try simp only [sx] at c3
    obtain ⟨d,hd⟩:=qV bd i zC
    refine zI<|zH<|zR<|yE 19 mixed uC O O<|zN O O (zP O O)<|zN O O (zP O O)<|qP [] O O O O gv1 T (fun g11_1=>zP O O) O<|qP [] O O O O gv1 T (fun g11_1=>zP O O) O<|qP [(33,_),(34,_)] O O O O gv1 ⟨O,O,O,O,T⟩ (fun g11_1=>qN O el31 O O zC (bd_get hd)) O<|qP [(35,_)] O O O O gv1 ⟨O,O,T⟩ (fun g11_1=>qQ O zQc O) O<|qP [(36,_)] O O O O gv1 ⟨O,O,T⟩ (fun g11_1=>zK O one9 O qD O) O<|qP [] O O O O gv1 T (fun g11_1=>zP O O) O<|qP [] O O O O gv1 T (fun g11_1=>zP O O) O<|qP [(38,_),(39,_)] O O O O gv1 ⟨O,O,O,O,T⟩ (fun g11_1=>qN O el72 O O zC (getm hx)) O<|qP [(40,_)] O O O O gv1 ⟨O,O,T⟩ (fun g11_1=>qQ O wC O) O<|qP [(41,_)] O O O O gv1 ⟨O,O,T⟩ (fun g11_1=>zK O zBe O qD O) O<|qP [] O O O O gv1 T (fun g11_1=>zP O O) O<|qP [(42,_),(43,_)] O O O O gv1 ⟨O,O,O,O,T⟩ (fun g11_1=>qN O U O O zC (getm hm)) O<|qP [(44,_)] O O O O gv1 ⟨O,O,T⟩ (fun g11_1=>qQ O wV O) O<|qP [(45,_)] O O O O gv1 ⟨O,O,T⟩ (fun g11_1=>zK O one9 O qD O) O<|qP [(37,_),(46,_)] O O O O gv1 ⟨O,O,O,O,T⟩ (fun g11_1=>zNd O O O) O<|zN O O (zAy O O O O (fun h=>(lzf h)))<|zN O O (yL O O)<|kE<|zA<|zO O<|G O<|qH O ⟨zC,zC⟩<|G O<|zA ?_
    refine ⟨i+1,zC,zC,Weak.mk [] ⟨zB,VLe.of_eq (congrArg vB (any_step hd)),zB,zB,zB,zB,T⟩ O⟩
   ·try simp only [sx] at c3
    rw [yD (l:=bd) (k:=i) zC,any_hasB]
    refine qM<|Y O<|G O<|kZ O<|zA<|zE O (fun c4=>?_) (fun c4=>?_)
    ·try simp only [sx] at c4
     have hno:=bound_no hx hm c4
     refine Y O<|G O<|zA<|zJ<|zT O ?_
     rw [hno]
    ·try simp only [sx] at c4
     refine zI<|zO O<|G O<|qH O ⟨zC,zC⟩<|G O<|zA ?_
     refine ⟨j+1,⟨zC,zJw hm hq c4⟩,zC,Weak.mk [] ⟨zB,zB,zB,zB,T⟩ O⟩
  ·try simp only [sx] at c2
   rw [yD (l:=x.L) (k:=j) zC] at hq
   refine qM<|zO O<|G O<|qH O ⟨zC,zC⟩<|G O<|zA ?_
   refine ⟨k+1,⟨zC,zJw hx hp (show mI _ x=true from hq)⟩,zC,Weak.mk [] ⟨zB,zB,zB,T⟩ O⟩
 ·try simp only [sx] at c1
  refine qM<|Y O<|G O<|zA<|zJ<|zT O ?_
  rw [yD zC] at hp;rw [hp]
theorem ref30_lins (l:List Ix) (hl:l.length<=4294967296) (hw:dD l<=4294967296):
    OwnR cfg 251 [lN l] 59 2 ((l.flatMap ixF).map Lf.cells):=by
 refine zV Tryz.func251 O Tryz.ntmps251 Tryz.results251 O ?_
 intro z hz
 refine Y O<|G O<|zA<|Y O<|G O<|yT _ (kO 59 2)<|zA<|zH<|Y O<|G O<|zA<|zR<|zU ⟨[(4,.c _),(3,.c _),(0,.c _)],[_]⟩ (Weak.mk [true] ⟨zB,zB,zB,T⟩ O)<|qF 2 1 O O (Nat×Value) (fun ⟨k,sv⟩=>[(4,vI k),(3,.c (.lit sv))]) (fun ⟨k,sv⟩=>[E.vec sv 59 2 (((l.take k).flatMap ixF).map Lf.cells)]) (fun ⟨k,sv⟩=>k<=l.length) (fun ⟨k,sv⟩=>l.length-k) ⟨⟨0,(.slice none 0 0)⟩,zC,Weak.mk [true] ⟨zB,zB,zB,T⟩ O⟩ ?_
 rintro ⟨k,sv⟩ hk
 show AWP _ _ _ _ _ ⟨[(4,vI k),(3,.c (.lit sv))]++_,[E.vec sv 59 2 (((l.take k).flatMap ixF).map Lf.cells)]++_⟩
 refine zH<|Y O<|G O<|G O<|qB O N<|yA O<|zA<|zE O (fun c1=>?_) (fun c1=>?_)
 ·try simp only [sx] at c1
  obtain ⟨x,hx⟩:=qV l k zC
  have hfl:=ixs_len l k
  have hxw:=zCh (qC hx)
  unfold Ix.wt at hxw
  refine zI<|zH<|zR<|Y O<|G O<|G O<|G O<|qE O N zC (getm uD)<|qW O zCi<|zM kD qD O<|kA O el72 zr59<|zY O O (yH 0 O el72 O O O uB uB) ?_
  rintro _ _ ⟨sv2,rfl,rfl⟩
  refine G O<|zA<|zO O<|G O<|G O<|G O<|qE O N zC (getm uD)<|qW O zAg<|zG zCg qD O<|zY O O (yH 0 O el72 O O O uB uB) ?_
  rintro _ _ ⟨sv3,rfl,rfl⟩
  refine G O<|zA<|zO O<|G O<|qH O ⟨zC,zC⟩<|G O<|zA ?_
  refine ⟨⟨k+1,sv3⟩,zC,(by show l.length-(k+1)<l.length-k;omega),Weak.mk [true] ⟨zB,zB,zB,T⟩ (by exact zHk (by rw [yB hx,List.flatMap_append,List.map_append];simp [ixF];rfl))⟩
 ·try simp only [sx] at c1
  refine qM<|Y O<|G O<|G O<|zA<|zJ<|zT O ?_
  exact ⟨_,O,by rw [yD zC];rfl⟩
theorem ref30_node (n:Ns) (bd:List Bd) (e:Ex) (hn:n.Ok) (hb:bd.length<=1000000) (he:e.wt<=1073741824):
    Pur cfg 213 [vNs n,jT bd,vE e] (vI (jS n.Bufs (bd.map Bd.Name) e)):=by
 refine zV Tryz.func213 O Tryz.ntmps213 Tryz.results213 O ?_
 intro z hz
 obtain ⟨hL,hI,hA⟩:=e.parts he
 have hwt:=Ex.wt_eq e
 refine Y O<|zY O O (qL O O) ?_
 rintro _ _ ⟨b1,rfl,rfl⟩
 refine zY O O (qL O O) ?_
 rintro _ _ ⟨b2,rfl,rfl⟩
 refine G O<|zA<|zH<|Y O<|zD O zDi<|zM kD (J 0 O) O<|kA O el72 zr59<|G O<|qJ O ok250 (zSj [e.Lin] bd uG uF zC) ⟨zB,O,zB,O,T⟩<|kZ O<|G O<|rL0 O (fun g1_6=>zF O kQ O) O<|rL1 19 O (fun g1_6=>zK O wG O (J 0 O) O) O<|rL1 20 O (fun g1_6=>qS O ok251 (OwnR.pur (ref30_lins e.Idx zC zC)) ⟨zB,O,T⟩) O<|rL0 O (fun g1_6=>zP O O) O<|rLz [(21,_),(22,_)] O gv1 ⟨O,O,O,O,T⟩ (fun g1_6=>qS O ok250 (zSj (e.Idx.flatMap ixF) bd (by have:=ixs_len e.Idx e.Idx.length;rw [List.take_length] at this;omega) (fun x hx=>by have:=zRc he (show x∈dI e by unfold dI;exact List.mem_cons_of_mem _ hx);omega) zC) ⟨zB,O,zB,O,T⟩) O<|rL1 23 O (fun g1_6=>wJ O O) O<|r_or O (fun h=>(lzf h))<|zA<|zE O (fun c1=>?_) (fun c1=>?_)
 ·have h9:=node_sc_f c1
  refine Y O<|G O<|zA<|zJ<|zT O ?_
  rw [nodeN_9 h9]
 ·have h9:=node_sc_t c1
  refine zI<|zH<|Y O<|zD O wE<|zG one3 (J 0 O) O<|yN O<|zA<|zE O (fun c2=>?_) (fun c2=>?_)
  ·try simp only [sx] at c2
   refine Y O<|G O<|zA<|zJ<|zT O ?_
   rw [nodeN_o h9 c2]
  ·try simp only [sx] at c2
   refine zI<|Y O<|zM zBm (J 1 O) O<|zD O zFp<|zG one9 (J 0 O) O<|qJ O ok171 (zCt n e.Name hn) ⟨zB,O,zB,O,T⟩<|qU O<|zW O (qY O O O)<|yK O<|zY O O (qG [none,none,none,none,none,none,some 1,none] O zr66 O) ?_
   rintro _ _ ⟨b3,rfl,rfl⟩
   refine D 0 sz66 O<|G O<|zA<|zH<|Y O<|G O<|kZ O<|zA<|zE O (fun c3=>?_) (fun c3=>?_)
   ·try simp only [sx] at c3
    refine Y O<|G O<|zA<|zJ<|zT O ?_
    rw [nodeN_n h9 zC c3]
   ·try simp only [sx] at c3
    refine zI<|zH<|Y O<|zD O zPw<|zG zMf (J 0 O) O<|qB O el46<|zD O kQ<|zG wG (J 1 O) O<|qB O N<|yN O<|zA<|zE O (fun c4=>?_) (fun c4=>?_)
    ·try simp only [sx] at c4
     refine Y O<|G O<|zA<|zJ<|zT O ?_
     rw [nodeN_r h9 zC c3 zC]
    ·try simp only [sx] at c4
     refine zI<|zH<|Y O<|G O<|zA<|zR<|zU ⟨[(9,.c _),(3,.c _),(5,.c _)],[_,_]⟩ (Weak.mk [false,true,true] ⟨zB,zB,zB,T⟩ O)<|qF 1 0 O O (Nat) (fun j=>[(9,vI j)]) (fun j=>[]) (fun j=>j<=e.Idx.length/\(nL n.Bufs e.Idx=nL n.Bufs (e.Idx.drop j))) (fun j=>e.Idx.length-j) ⟨0,⟨zC,O⟩,Weak.mk [true,true] ⟨zB,zB,zB,T⟩ O⟩ ?_
     rintro j ⟨hk,hq⟩
     refine zH<|Y O<|G O<|zD O kQ<|zG wG (J 0 O) O<|qB O N<|yA O<|zA<|zE O (fun c5=>?_) (fun c5=>?_)
     ·try simp only [sx] at c5
      obtain ⟨y,hy⟩:=qV e.Idx j zC
      refine zI<|zH<|zR<|zH<|Y O<|zD O kQ<|zG wG (J 0 O) O<|G O<|qE O N zC (getm uD)<|qW O zDm<|zG one9 qD O<|wD O<|zA<|zE O (fun c6=>?_) (fun c6=>?_)
      ·try simp only [sx] at c6
       refine qM<|zO O<|G O<|qH O ⟨zC,zC⟩<|G O<|zA ?_
       refine ⟨j+1,⟨zC,hq.trans (zKi hy (by first|exact gathE_0 c6|exact zQz c6 c7 zC zC))⟩,zC,Weak.mk [true,true] ⟨zB,zB,zB,T⟩ O⟩
      ·try simp only [sx] at c6
       refine zI<|zH<|yS 13 1 [⟨0,.q [2]⟩,⟨1,.q []⟩,⟨2,.q [1]⟩,⟨3,.q []⟩,⟨4,.q []⟩,⟨5,.q []⟩,⟨6,.q []⟩,⟨7,.q []⟩,⟨8,.q []⟩,⟨9,.q []⟩,⟨10,.q []⟩,⟨11,.e 0 []⟩,⟨12,.e 0 []⟩] mixed uC uC O O O<|zQ O<|zQ O<|zQ O<|zQ O<|zQ O<|zQ O<|zQ O<|zQ O<|zQ O<|zQ O<|zQ O<|zQ O<|zQ O<|wS<|zX O uA O O (qA O zBm O (J 0 O) O)<|zX O uA O O (zF O kQ O)<|zX O uA O O (zK O wG O (J 0 O) O)<|zX O uA O O (zP O O)<|zX O uA O O (qN O N O O zC (getm uD))<|zX O uA O O (qQ O zDm O)<|zX O uA O O (zK O one9 O qD O)<|zX O uA O O (qS O ok171 (zCt n y.From hn) ⟨zB,O,zB,O,T⟩)<|zX O uA O O (yW O O)<|zX O uA O O (qY O O O)<|zX O uA O O (kT O O O)<|zGj O O uA O O (qG [none,none,none,none,none,none,some 1,none] O zr66 O) ?_
       rintro _ _ ⟨b4,rfl,rfl⟩
       refine ⟨_,O,?_⟩
       refine zDx O O uA O O (yX O sz66 O O O (zDb 0 O O)) ?_
       rintro _ _ ⟨rfl,rfl⟩
       refine ⟨_,O,?_⟩
       refine wR O<|G O<|zA<|zR<|Y O<|G O<|kZ O<|G O<|zA<|zE O (fun c7=>?_) (fun c7=>?_)
       ·try simp only [sx] at c7
        refine Y O<|G O<|zA<|zJ<|zT O ?_
        rw [zJb h9 zC c3 zC,hq,zKh hy (by rw [gathE_9 c6 c7];decide),gathE_9 c6 c7]
       ·try simp only [sx] at c7
        refine Y O<|zD O zMx<|zD O zFq<|zG one3 (J 0 O) O<|yN O<|G O<|zA<|zE O (fun c8=>?_) (fun c8=>?_)
        ·try simp only [sx] at c8
         refine Y O<|G O<|zA<|zJ<|zT O ?_
         rw [zJb h9 zC c3 zC,hq,zKh hy (by rw [zRb c6 c7 c8];decide),zRb c6 c7 c8]
        ·try simp only [sx] at c8
         refine zH<|yE 12 mixed uC O O<|zN O O (zF O zPw O)<|zN O O (zK O zMf O (J 0 O) O)<|zN O O (qT O el46 O)<|zN O O (zF O kQ O)<|zN O O (zK O wG O (J 1 O) O)<|zN O O (zP O O)<|zN O O (qN O N O O zC (getm uD))<|zN O O (qQ O zAg O)<|zN O O (zK O zCg O qD O)<|zN O O (qT O el72 O)<|zN O O (wM O O O)<|zN O O (yL O O)<|kE<|zA<|zE O (fun c9=>?_) (fun c9=>?_)
         ·try simp only [sx] at c9
          refine Y O<|G O<|zA<|zJ<|zT O ?_
          rw [zJb h9 zC c3 zC,hq,zKh hy (by rw [zRa c6 c7 c8 zC];decide),zRa c6 c7 c8 zC]
         ·try simp only [sx] at c9
          refine zI<|zO O<|G O<|qH O ⟨zC,zC⟩<|G O<|zA ?_
          refine ⟨j+1,⟨zC,hq.trans (zKi hy (by first|exact gathE_0 c6|exact zQz c6 c7 zC zC))⟩,zC,Weak.mk [false,true,true] ⟨zB,zB,zB,T⟩ O⟩
     ·try simp only [sx] at c5
      refine qM<|Y O<|G O<|zA<|zJ<|zT O ?_
      rw [zJb h9 zC c3 zC,hq,kJ zC];rfl
theorem zSl (n:Ns) (hn:n.Ok) (e:Ex) (ih:∀a,a∈e.Args->dZ a=0->a.wt<=1073741824->Pur cfg 214 [vNs n,vE a] (.tup [vTy (bL (kiN n.Bufs) a).1,vI (bL (kiN n.Bufs) a).2])) (hpart:dZ e=0) (he:e.wt<=1073741824):
    Pur cfg 214 [vNs n,vE e] (.tup [vTy (bL (kiN n.Bufs) e).1,vI (bL (kiN n.Bufs) e).2]):=by
 refine zV Tryz.func214 O Tryz.ntmps214 Tryz.results214 O ?_
 intro z hz
 obtain ⟨hLl,hIl,hAl⟩:=e.parts he
 have hwt:=Ex.wt_eq e
 refine Y O<|zY O O (qL O O) ?_
 rintro _ _ ⟨b1,rfl,rfl⟩
 refine zY O O (qL O O) ?_
 rintro _ _ ⟨b2,rfl,rfl⟩
 refine zY O O (yC O zr56) ?_
 rintro _ _ ⟨b3,rfl,rfl⟩
 refine G O<|zA<|Y O<|G O<|yT _ (kO 56 5)<|zA<|zH<|Y O<|G O<|zA<|zR<|zU ⟨[(7,.c _),(6,.c _),(2,.c _),(3,.c _),(4,.c _)],[_,_,_,_]⟩ (Weak.mk [true,true,true,true] ⟨zB,zB,zB,zB,zB,T⟩ O)<|qF 2 1 O O (Nat×Value) (fun ⟨k,sv⟩=>[(7,vI k),(6,.c (.lit sv))]) (fun ⟨k,sv⟩=>[E.vec sv 56 5 ((gS (e.Args.take k) (bE (kiN n.Bufs) (e.Args.take k)).1).map tyC)]) (fun ⟨k,sv⟩=>k<=e.Args.length/\((bE (kiN n.Bufs) (e.Args.take k)).2=0)) (fun ⟨k,sv⟩=>e.Args.length-k) ⟨⟨0,(.slice none 0 0)⟩,⟨zC,O⟩,Weak.mk [true,true,true,true] ⟨zB,zB,zB,zB,zB,T⟩ O⟩ ?_
 rintro ⟨k,sv⟩ ⟨hk,hp⟩
 show AWP _ _ _ _ _ ⟨[(7,vI k),(6,.c (.lit sv))]++_,[E.vec sv 56 5 ((gS (e.Args.take k) (bE (kiN n.Bufs) (e.Args.take k)).1).map tyC)]++_⟩
 refine zH<|Y O<|G O<|zD O wP<|zG zBy (J 2 O) O<|qB O el60<|yA O<|zA<|zE O (fun c1=>?_) (fun c1=>?_)
 ·try simp only [sx] at c1
  obtain ⟨x,hx⟩:=qV e.Args k zC
  have hll:=zEc _ _ hp
  have hcl:=nonC_len (e.Args.take k) (bE (kiN n.Bufs) (e.Args.take k)).1
  have htk:=List.length_take_le' k e.Args
  refine zI<|zH<|zR<|zH<|yS 12 1 [⟨0,.q [4]⟩,⟨1,.q []⟩,⟨2,.q [3]⟩,⟨3,.q []⟩,⟨4,.q []⟩,⟨5,.q []⟩,⟨6,.q []⟩,⟨7,.q []⟩,⟨8,.q []⟩,⟨9,.q []⟩,⟨10,.e 0 []⟩,⟨11,.e 0 []⟩] mixed uC uC O O O<|zQ O<|zQ O<|zQ O<|zQ O<|zQ O<|zQ O<|zQ O<|zQ O<|zQ O<|zQ O<|zQ O<|zQ O<|wS<|zX O uA O O (qA O zBm O (J 0 O) O)<|zX O uA O O (zF O wP O)<|zX O uA O O (zK O zBy O (J 0 O) O)<|zX O uA O O (zP O O)<|zX O uA O O (qN O el60 O O zC (zGh uD))<|zX O uA O O (qA O yU O qD O)<|zX O uA O O (qS O ok214 (ih x (qC hx) (zIx hpart (qC hx)) (by have:=Ex.arg_wt (qC hx);omega)) ⟨zB,O,zB,O,T⟩)<|zX O uA O O (yW O O)<|zX O uA O O (qY O O O)<|zX O uA O O (kT O O O)<|zGj O O uA O O (yC O zr56) ?_
  rintro _ _ ⟨b5,rfl,rfl⟩
  refine ⟨_,O,?_⟩
  refine zDx O O uA O O (yX O v O O O (zDb 0 O O)) ?_
  rintro _ _ ⟨rfl,rfl⟩
  refine ⟨_,O,?_⟩
  refine wR O<|G O<|zA<|zH<|Y O<|G O<|yN O<|zA<|zE O (fun c2=>?_) (fun c2=>?_)
  ·try simp only [sx] at c2
   refine Y O<|yI O zr56 pl56<|G O<|D 2 v O<|G O<|zA<|zJ<|fin2 (zZ qZ O (J 2 O) O) (rs_c O) ?_
   rw [nodeT_no hx hp c2];rfl
  ·try simp only [sx] at c2
   refine zI<|Y O<|zD O wP<|zG zBy (J 3 O) O<|G O<|qE O el60 zC (zGh uD)<|zM yU qD O<|qJ O ok173 (kU x) ⟨zB,O,T⟩<|kZ O<|zA<|zE O (fun c3=>?_) (fun c3=>?_)
   ·try simp only [sx] at c3
    refine zO O<|G O<|zM qZ (J 0 O) O<|kA O wF zr56<|zY O O (yH 1 O wF O O O (by simp only [List.length_map,List.length_append,List.length_cons,List.length_nil,hll,List.length_take];omega) (by simp only [List.length_map,List.length_append,List.length_cons,List.length_nil,hll,List.length_take];omega)) ?_
    rintro _ _ ⟨sv6,rfl,rfl⟩
    refine G O<|zA<|zO O<|G O<|qH O ⟨zC,zC⟩<|G O<|zA ?_
    exact v13
   ·try simp only [sx] at c3
    refine zI<|zO O<|G O<|qH O ⟨zC,zC⟩<|G O<|zA ?_
    exact v13
 ·try simp only [sx] at c1
  have hll:=zEc _ _ hp
  have hta:e.Args.take k=e.Args:=yD zC
  have hT:bL (kiN n.Bufs) e=kiF n.Bufs e (gS (e.Args.take k) (bE (kiN n.Bufs) (e.Args.take k)).1):=by have h:=nodeT_ok (N:=kiN n.Bufs) hta hp;rw [h];show kiF n.Bufs e (gS e.Args _)=_;rw [hta]
  refine qM<|zH<|zH<|yE 12 mixed uC O O<|zN O O (zP O O)<|zN O O (kK 0 O wF O O)<|zN O O (yR O O O)<|zN O O (zP O O)<|qP [] O O O O gv1 T (fun g10_3=>zP O O) O<|qP [(48,_)] O O O O gv1 ⟨O,O,T⟩ (fun g10_3=>qR 0 O wF O O O zC (by simp only [Lz,cond_true,decide_eq_true_eq,List.length_map] at g10_3⊢;omega)) O<|qP [(49,_)] O O O O gv1 ⟨O,O,T⟩ (fun g10_3=>qA O qZ O (kP 0 O (zHa (by simp only [Lz,cond_true,decide_eq_true_eq,List.length_map] at g10_3⊢;omega))) O) O<|qP [] O O O O gv1 T (fun g10_3=>zP O O) O<|qP [(51,_)] O O O O gv1 ⟨O,O,T⟩ (fun g10_3=>qR 0 O wF O O O zC (by simp only [Lz,cond_true,decide_eq_true_eq,List.length_map] at g10_3⊢;omega)) O<|qP [(52,_)] O O O O gv1 ⟨O,O,T⟩ (fun g10_3=>qA O qZ O (kP 0 O (zHa (by simp only [Lz,cond_true,decide_eq_true_eq,List.length_map] at g10_3⊢;omega))) O) O<|qP [(50,_),(53,_)] O O O O gv1 ⟨O,O,O,O,T⟩ (fun g10_3=>zAr O fl56 O O O) O<|zN O O (zAc O O O (fun h=>h) O)<|kE<|zA<|zE O (fun c4=>?_) (fun c4=>?_)
  ·obtain ⟨q1,q2⟩:=ki10_t c4
   exact v24
  ·have hq:=ki10_f c4
   refine zI<|zH<|Y O<|zD O wE<|zG one3 (J 2 O) O<|zA<|zR<|zH<|Y O<|yJ O<|G O<|zA<|zE O (fun c5=>?_) (fun c5=>?_)
   ·try simp only [sx] at c5
    refine zI<|zE O (fun c6=>?_) (fun c6=>?_)
    ·try simp only [sx] at c6
     refine Y O<|zD O zEo<|zM qZ (J 2 O) O<|D 1 v O<|G O<|zA<|zJ<|fin2 (zZ qZ O (J 1 O) O) (rs_c O) ?_
     exact t7
    ·try simp only [sx] at c6
     refine Y O<|yJ O<|G O<|zA<|zE O (fun c7=>?_) (fun c7=>?_)
     ·try simp only [sx] at c7
      exact v24
     ·try simp only [sx] at c7
      refine Y O<|yJ O<|G O<|zA<|zE O (fun c8=>?_) (fun c8=>?_)
      ·try simp only [sx] at c8
       refine Y O<|zM zBm (J 3 O) O<|zD O zFp<|zG one9 (J 2 O) O<|qJ O ok171 (zCt n e.Name hn) ⟨zB,O,zB,O,T⟩<|qU O<|zW O (qY O O O)<|yK O<|zY O O (qG [none,none,none,none,none,none,some 1,none] O zr66 O) ?_
       rintro _ _ ⟨b7,rfl,rfl⟩
       refine D 0 sz66 O<|G O<|zA<|Y O<|zD O zMx<|zM qZ (J 0 O) O<|D 2 v O<|G O<|zA<|zJ<|fin2 (zZ qZ O (J 2 O) O) (rs_c O) ?_
       exact t7
      ·exact o5
   ·try simp only [sx] at c5
    refine zO O<|yJ O<|G O<|zA<|zE O (fun c6=>?_) (fun c6=>?_)
    ·try simp only [sx] at c6
     refine Y O<|zD O zEo<|zM qZ (J 2 O) O<|D 1 v O<|G O<|zA<|zJ<|fin2 (zZ qZ O (J 1 O) O) (rs_c O) ?_
     exact t7
    ·try simp only [sx] at c6
     refine Y O<|yJ O<|G O<|zA<|zE O (fun c7=>?_) (fun c7=>?_)
     ·try simp only [sx] at c7
      exact v24
     ·try simp only [sx] at c7
      refine Y O<|yJ O<|G O<|zA<|zE O (fun c8=>?_) (fun c8=>?_)
      ·try simp only [sx] at c8
       refine Y O<|zM zBm (J 3 O) O<|zD O zFp<|zG one9 (J 2 O) O<|qJ O ok171 (zCt n e.Name hn) ⟨zB,O,zB,O,T⟩<|qU O<|zW O (qY O O O)<|yK O<|zY O O (qG [none,none,none,none,none,none,some 1,none] O zr66 O) ?_
       rintro _ _ ⟨b8,rfl,rfl⟩
       refine D 0 sz66 O<|G O<|zA<|Y O<|zD O zMx<|zM qZ (J 0 O) O<|D 2 v O<|G O<|zA<|zJ<|fin2 (zZ qZ O (J 2 O) O) (rs_c O) ?_
       exact t7
      ·exact o5
theorem ref30_Kind (n:Ns) (e:Ex) (hn:n.Ok) (hpart:dZ e=0) (he:e.wt<=1073741824):Pur cfg 214 [vNs n,vE e] (.tup [vTy (bL (kiN n.Bufs) e).1,vI (bL (kiN n.Bufs) e).2]):=by
  induction e using Ex.ind with
  |_ e ih=>exact zSl n hn e (fun a ha h1 h2=>ih a ha h1 h2) hpart he
theorem zHf (n:Ns) (bd:List Bd) (e:Ex) (hn:n.Ok) (hb:bd.length<=1000000) (he:e.wt<=1000000):
    Pur cfg 172 [vNs n,jT bd,vE e] (.tup [vTy (dE n.Bufs (bd.map Bd.Name) e).1,vI (dE n.Bufs (bd.map Bd.Name) e).2]):=by
 refine zV Tryz.func172 O Tryz.ntmps172 Tryz.results172 O ?_
 intro z hz
 have hnl:=nodes_wt e
 refine Y O<|zY O O (qL O O) ?_
 rintro _ _ ⟨b1,rfl,rfl⟩
 refine zY O O (qL O O) ?_
 rintro _ _ ⟨b2,rfl,rfl⟩
 refine zY O O (yC O zr56) ?_
 rintro _ _ ⟨b3,rfl,rfl⟩
 refine G O<|zA<|zH<|Y O<|zM yU (J 1 O) O<|qJ O ok197 (ref14_Validate e zC) ⟨zB,O,T⟩<|G O<|zA<|Y O<|G O<|yN O<|zA<|zE O (fun c1=>?_) (fun c1=>?_)
 ·try simp only [sx] at c1
  refine Y O<|yI O zr56 pl56<|G O<|D 0 v O<|G O<|zA<|zJ<|fin2 (zZ qZ O (J 0 O) O) (rs_c O) ?_
  rw [exprT_1 c1];rfl
 ·try simp only [sx] at c1
  refine zI<|Y O<|zM yU (J 1 O) O<|qJ O ok212 (OwnR.pur (ref14_All e zC)) ⟨zB,O,T⟩<|G O<|zA<|zH<|Y O<|G O<|zA<|zR<|zU ⟨[(10,.c _),(1,.c _),(3,.c _),(5,.c _),(6,.c _),(9,.c _)],[_,_,_]⟩ (Weak.mk [true,true,true] ⟨zB,zB,zB,zB,zB,zB,T⟩ O)<|qF 1 0 O O (Nat) (fun k=>[(10,vI k)]) (fun k=>[]) (fun k=>k<=(bY e).length/\(dF n.Bufs (bd.map Bd.Name) (bY e)=dF n.Bufs (bd.map Bd.Name) ((bY e).drop k))) (fun k=>(bY e).length-k) ⟨0,⟨zC,O⟩,Weak.mk [true,true,true] ⟨zB,zB,zB,zB,zB,zB,T⟩ O⟩ ?_
  rintro k ⟨hk,hp⟩
  refine zH<|Y O<|G O<|G O<|qB O el60<|yA O<|zA<|zE O (fun c2=>?_) (fun c2=>?_)
  ·try simp only [sx] at c2
   obtain ⟨x,hx⟩:=qV (bY e) k zC
   refine zI<|zH<|zR<|zH<|yE 8 mixed uC O O<|zN O O (qA O zBm O (J 2 O) O)<|zN O O (zP O O)<|zN O O (zP O O)<|zN O O (zP O O)<|zN O O (qN O el60 O O zC (zGh uD))<|zN O O (qA O yU O qD O)<|zN O O (qS O ok213 (ref30_node n bd x hn hb (by have:=zFh e x (qC hx);omega)) ⟨zB,O,zB,O,zB,O,T⟩)<|zN O O (yL O O)<|kE<|zA<|Y O<|G O<|yN O<|zA<|zE O (fun c3=>?_) (fun c3=>?_)
   ·try simp only [sx] at c3
    refine Y O<|yI O zr56 pl56<|G O<|D 0 v O<|G O<|zA<|zJ<|fin2 (zZ qZ O (J 0 O) O) (rs_c O) ?_
    rw [exprT_2 c1 (by rw [hp,nodesN_no hx c3];exact c3),hp,nodesN_no hx c3];rfl
   ·try simp only [sx] at c3
    refine zI<|zO O<|G O<|qH O ⟨zC,zC⟩<|G O<|zA ?_
    refine ⟨k+1,⟨zC,hp.trans (nodesN_at hx c3)⟩,zC,Weak.mk [true,true,true] ⟨zB,zB,zB,zB,zB,zB,T⟩ O⟩
  ·try simp only [sx] at c2
   refine qM<|Y O<|zM zBm (J 2 O) O<|zM yU (J 1 O) O<|qJ O ok214 (ref30_Kind n e hn (zCs c1) zC) ⟨zB,O,zB,O,T⟩<|zW O (qY O O O)<|yK O<|D 0 v O<|G O<|zA<|zJ<|fin2 (zZ qZ O (J 0 O) O) (rs_c O) ?_
   rw [exprT_k c1 (by rw [hp,kJ zC];rfl)];rfl
theorem ref30_plain (s:St) (hs:s.wt<=900000000):
    Pur cfg 170 [vSt s] (vB (gC s)):=by
 refine zV Tryz.func170 O Tryz.ntmps170 Tryz.results170 O ?_
 intro z hz
 obtain ⟨hE,hI,hIw,hB,hBw⟩:=St.parts hs
 refine Y O<|zY O O (qL O O) ?_
 rintro _ _ ⟨b1,rfl,rfl⟩
 refine G O<|zA<|zH<|yE 8 mixed uC O O<|zN O O (zF O zDh O)<|zN O O (zK O one3 O (J 0 O) O)<|zN O O (yR O O O)<|zN O O (zF O zDh O)<|zN O O (zK O one3 O (J 0 O) O)<|zN O O (yR O O O)<|zN O O (yL O O)<|zN O O (yL O O)<|kE<|zA<|Y O<|zD O zDh<|zG one3 (J 0 O) O<|yJ O<|G O<|rL0 O (fun g2_3=>zF O zDh O) O<|rL1 16 O (fun g2_3=>zK O one3 O (J 0 O) O) O<|rL1 17 O (fun g2_3=>yR O O O) O<|r_or O (fun h=>(lzf h))<|G O<|zA<|zH<|Y O<|G O<|kZ O<|G O<|rL0 O (fun g3_2=>zP O O) O<|rL1 23 O (fun g3_2=>wJ O O) O<|kB O (fun h=>h)<|G O<|rL0 O (fun g3_6=>zP O O) O<|rL1 27 O (fun g3_6=>wJ O O) O<|kB O (fun h=>h)<|zA<|zE O (fun c1=>?_) (fun c1=>?_)
 ·refine Y O<|G O<|zA<|zJ<|zT O ?_
  exact congrArg vB (pln_1 c1)
 ·refine zI<|zH<|Y O<|G O<|kZ O<|G O<|rL0 O (fun g5_2=>zF O zQa O) O<|rL1 33 O (fun g5_2=>zK O one3 O (J 0 O) O) O<|rL1 34 O (fun g5_2=>wM O O O) O<|rL1 35 O (fun g5_2=>zP O O) O<|rLz [] O gv2 T (fun g5_6=>zF O fd64_3 O) O<|rLz [(37,_)] O gv2 ⟨O,O,T⟩ (fun g5_6=>zK O one3 O (J 0 O) O) O<|rLz [(38,_)] O gv2 ⟨O,O,T⟩ (fun g5_6=>wM O O O) O<|rL1 36 O (fun g5_2=>zAy O O O O (fun h=>kM uD (lzf h))) O<|kB O (fun h=>h)<|G O<|rL0 O (fun g5_12=>zF O zDh O) O<|rL1 43 O (fun g5_12=>zK O one3 O (J 0 O) O) O<|rL1 44 O (fun g5_12=>wM O O O) O<|rL1 45 O (fun g5_12=>zP O O) O<|rLz [] O gv2 T (fun g5_16=>zF O zPz O) O<|rLz [(47,_)] O gv2 ⟨O,O,T⟩ (fun g5_16=>zK O one3 O (J 0 O) O) O<|rLz [(48,_)] O gv2 ⟨O,O,T⟩ (fun g5_16=>wM O O O) O<|rL1 46 O (fun g5_12=>zAc O O O (fun h=>kM uD h) O) O<|r_or O (fun h=>(lzf h))<|G O<|rL0 O (fun g5_22=>zP O O) O<|rL1 53 O (fun g5_22=>zP O O) O<|rLz [] O gv2 T (fun g5_24=>zF O zDg O) O<|rLz [(55,_)] O gv2 ⟨O,O,T⟩ (fun g5_24=>zK O one9 O (J 0 O) O) O<|rLz [(56,_)] O gv2 ⟨O,O,T⟩ (fun g5_24=>zEt O O O) O<|rL1 54 O (fun g5_22=>zAc O O O (fun h=>kM uD h) O) O<|r_or O (fun h=>(lzf h))<|zA<|zE O (fun c2=>?_) (fun c2=>?_)
  ·refine Y O<|G O<|zA<|zJ<|zT O ?_
   exact congrArg vB (pln_2 c2)
  ·refine zI<|zH<|Y O<|G O<|kZ O<|G O<|rL0 O (fun g7_2=>zF O zPy O) O<|rL1 63 O (fun g7_2=>zK O wG O (J 0 O) O) O<|rL1 64 O (fun g7_2=>qT O N O) O<|rL1 65 O (fun g7_2=>yF O O O) O<|kB O (fun h=>h)<|G O<|rL0 O (fun g7_8=>zP O O) O<|rL1 69 O (fun g7_8=>zP O O) O<|rLz [] O gv2 T (fun g7_10=>zF O zCy O) O<|rLz [(71,_)] O gv2 ⟨O,O,T⟩ (fun g7_10=>zK O zBg O (J 0 O) O) O<|rLz [(72,_)] O gv2 ⟨O,O,T⟩ (fun g7_10=>qT O L O) O<|rLz [(73,_)] O gv2 ⟨O,O,T⟩ (fun g7_10=>yF O O O) O<|rL1 70 O (fun g7_8=>zAc O O O (fun h=>kM uD h) O) O<|r_or O (fun h=>(lzf h))<|zA<|zE O (fun c3=>?_) (fun c3=>?_)
   ·refine Y O<|G O<|zA<|zJ<|zT O ?_
    exact congrArg vB (pln_3 c3)
   ·refine zI<|Y O<|G O<|kZ O<|G O<|rL0 O (fun g9_2=>zF O zEn O) O<|rL1 80 O (fun g9_2=>qA O yU O (J 0 O) O) O<|rL0 O (fun g9_2=>zDa [none,none,none,none,none,none,none,none,none,none,some 2,some 4,some 13] O zr62 pl62 O O) O<|rLz [(81,_),(82,_)] O gv1 ⟨O,O,O,O,T⟩ (fun g9_2=>qS O ok101 (base_Expr s.E zEx zC) ⟨zB,O,zB,O,T⟩) O<|r_or O (fun h=>(lzf h))<|G O<|zA<|zJ<|zT O ?_
    exact congrArg vB (pln_4 c1 c2 c3)
theorem ref30_store (n:Ns) (bd:List Bd) (s:St) (hn:n.Ok) (hb:bd.length<=1000000) (hs:s.wt<=900000):
    Pur cfg 174 [vNs n,jT bd,vSt s] (vI (jQ n.Bufs (bd.map Bd.Name) s)):=by
 refine zV Tryz.func174 O Tryz.ntmps174 Tryz.results174 O ?_
 intro z hz
 obtain ⟨hE,hI,hIw,hB,hBw⟩:=St.parts hs
 have hrd:=rdE_wt s
 refine Y O<|zY O O (qL O O) ?_
 rintro _ _ ⟨b1,rfl,rfl⟩
 refine zY O O (qL O O) ?_
 rintro _ _ ⟨b2,rfl,rfl⟩
 refine G O<|zA<|zH<|Y O<|zM zBm (J 1 O) O<|G O<|zD O zDg<|zG one9 (J 0 O) O<|zD O zPy<|zG wG (J 0 O) O<|yZ [none,none,none,none,none,none,none,none,none,none,some 2,none,some 13] O zr62 pl62<|qJ O ok172 (zHf n bd (rdE s) hn hb zC) ⟨zB,O,zB,O,zB,O,T⟩<|qU O<|zW O (qY O O O)<|yK O<|zY O O (yC O zr56) ?_
 rintro _ _ ⟨b3,rfl,rfl⟩
 refine D 0 v O<|G O<|zA<|Y O<|G O<|yN O<|zA<|zE O (fun c1=>?_) (fun c1=>?_)
 ·try simp only [sx] at c1
  refine Y O<|G O<|G O<|zA<|zJ<|zT O ?_
  rw [storeE_1 c1]
 ·try simp only [sx] at c1
  refine zI<|Y O<|zM zBm (J 2 O) O<|zD O zDg<|zG one9 (J 1 O) O<|qJ O ok171 (zCt n s.Name hn) ⟨zB,O,zB,O,T⟩<|qU O<|zW O (qY O O O)<|yK O<|zY O O (qG [none,none,none,none,none,none,some 1,none] O zr66 O) ?_
  rintro _ _ ⟨b4,rfl,rfl⟩
  refine D 0 sz66 O<|G O<|zA<|zH<|Y O<|zD O zMw<|zG one3 (J 0 O) O<|yJ O<|G O<|rL0 O (fun g5_3=>zF O zDh O) O<|rL1 38 O (fun g5_3=>zK O one3 O (J 2 O) O) O<|rL1 39 O (fun g5_3=>yR O O O) O<|rL1 40 O (fun g5_3=>zP O O) O<|rLz [] O gv2 T (fun g5_7=>zF O zPz O) O<|rLz [(42,_)] O gv2 ⟨O,O,T⟩ (fun g5_7=>zK O one3 O (J 2 O) O) O<|rLz [(43,_)] O gv2 ⟨O,O,T⟩ (fun g5_7=>zDk O O O) O<|rLz [(44,_)] O gv2 ⟨O,O,T⟩ (fun g5_7=>zP O O) O<|rLz [] O gv2 T (fun g5_11=>zF O zPz O) O<|rLz [(46,_)] O gv2 ⟨O,O,T⟩ (fun g5_11=>zK O one3 O (J 2 O) O) O<|rLz [(47,_)] O gv2 ⟨O,O,T⟩ (fun g5_11=>yF O O O) O<|rLz [(45,_)] O gv2 ⟨O,O,T⟩ (fun g5_7=>zAy O O O O (fun h=>kM uD (lzf h))) O<|rL1 41 O (fun g5_3=>zAc O O O (fun h=>kM uD h) O) O<|r_or O (fun h=>(lzf h))<|zA<|zE O (fun c2=>?_) (fun c2=>?_)
  ·try simp only [sx] at c2
   refine Y O<|G O<|zA<|zJ<|zT O ?_
   rw [storeE_u c1 c2]
  ·try simp only [sx] at c2
   refine zI<|Y O<|zM zBm (J 3 O) O<|G O<|zD O zEn<|zM yU (J 2 O) O<|qJ O ok172 (zHf n bd s.E hn hb zC) ⟨zB,O,zB,O,zB,O,T⟩<|qU O<|zW O (qY O O O)<|yK O<|zY O O (yC O zr56) ?_
   rintro _ _ ⟨b5,rfl,rfl⟩
   refine D 0 v O<|G O<|zA<|zH<|Y O<|G O<|yJ O<|G O<|rL0 O (fun g8_2=>zF O zEn O) O<|rL1 63 O (fun g8_2=>qA O yU O (J 3 O) O) O<|rL1 64 O (fun g8_2=>qS O ok173 (kU _) ⟨zB,O,T⟩) O<|rL1 65 O (fun g8_2=>zP O O) O<|rLz [] O gv2 T (fun g8_6=>qA O qZ O (J 0 O) O) O<|rLz [] O gv2 T (fun g8_6=>zF O zMx O) O<|rLz [(68,_)] O gv2 ⟨O,O,T⟩ (fun g8_6=>qA O qZ O (J 1 O) O) O<|rLz [(67,_),(69,_)] O gv2 ⟨O,O,O,O,T⟩ (fun g8_6=>zAr O fl56 O O O) O<|rL1 66 O (fun g8_2=>zAy O O O O (fun h=>kM uD (lzf h))) O<|kB O (fun h=>h)<|zA<|zE O (fun c3=>?_) (fun c3=>?_)
   ·obtain ⟨h0,h10⟩:=st3_t c3
    refine Y O<|G O<|zA<|zJ<|zT O ?_
    rw [storeE_10 c1 zC h0 h10]
   ·have h3:=st3_f c3
    refine zI<|Y O<|G O<|G O<|zA<|zJ<|zT O ?_
    rw [st_fin c1 zC h3]
theorem ref30_one (n:Ns) (bd:List Bd) (U:List ByteArray) (s:St) (hn:n.Ok) (hb:bd.length<=1000000) (hs:s.wt<=900000) (hU:U.length<=1000000):
    Pur cfg 109 [vNs n,jT bd,vSs U,vSt s] (vI (stE n.Bufs U (bd.map Bd.Name) s)):=by
 refine zV Tryz.func109 O Tryz.ntmps109 Tryz.results109 O ?_
 intro z hz
 obtain ⟨hE,hI,hIw,hB,hBw⟩:=St.parts hs
 refine Y O<|zY O O (qL O O) ?_
 rintro _ _ ⟨b1,rfl,rfl⟩
 refine zY O O (qL O O) ?_
 rintro _ _ ⟨b2,rfl,rfl⟩
 refine G O<|zA<|zH<|Y O<|zM zLr (J 0 O) O<|qJ O ok170 (ref30_plain s zC) ⟨zB,O,T⟩<|kZ O<|zA<|zE O (fun c1=>?_) (fun c1=>?_)
 ·try simp only [sx] at c1
  refine Y O<|G O<|zA<|zJ<|zT O ?_
  rw [stE_5 c1]
 ·try simp only [sx] at c1
  refine zI<|zH<|Y O<|zD O zDh<|zG one3 (J 0 O) O<|zA<|zR<|Y O<|yJ O<|G O<|zA<|zE O (fun c2=>?_) (fun c2=>?_)
  ·try simp only [sx] at c2
   refine Y O<|zM zBm (J 1 O) O<|zD O zDg<|zG one9 (J 0 O) O<|qJ O ok171 (zCt n s.Name hn) ⟨zB,O,zB,O,T⟩<|qU O<|zW O (qY O O O)<|yK O<|zY O O (qG [none,none,none,none,none,none,some 1,none] O zr66 O) ?_
   rintro _ _ ⟨b3,rfl,rfl⟩
   refine D 0 sz66 O<|G O<|zA<|zH<|zR<|Y O<|zD O zDg<|zG one9 (J 1 O) O<|qJ O ok20 (zGx s.Name) ⟨zB,O,T⟩<|kZ O<|G O<|zA<|zE O (fun c3=>?_) (fun c3=>?_)
   ·try simp only [sx] at c3
    refine Y O<|G O<|zA<|zJ<|zT O ?_
    rw [stE_l c1 c2,loopE_7 c3]
   ·try simp only [sx] at c3
    refine Y O<|G O<|G O<|rL0 O (fun g8_1=>zP O O) O<|rL0 O (fun g8_1=>zF O zDg O) O<|rL1 36 O (fun g8_1=>zK O one9 O (J 1 O) O) O<|rLz [(35,_),(37,_)] O gv1 ⟨O,O,O,O,T⟩ (fun g8_1=>qS O ok46 (base_Has U s.Name zC) ⟨zB,O,zB,O,T⟩) O<|r_or O (fun h=>(lzf h))<|G O<|zA<|zE O (fun c4=>?_) (fun c4=>?_)
    ·try simp only [sx] at c4
     refine Y O<|G O<|zA<|zJ<|zT O ?_
     rw [stE_l c1 c2,loopE_8 c3 c4]
    ·try simp only [sx] at c4
     have h8:¬(fH n.Bufs s.Name=true∨bQ U s.Name=true):=by rw [c4.1,c4.2];simp
     refine Y O<|zD O zQa<|zG one3 (J 1 O) O<|yA O<|G O<|rL0 O (fun g10_3=>zF O zQa O) O<|rL1 45 O (fun g10_3=>zK O one3 O (J 1 O) O) O<|rL1 46 O (fun g10_3=>yF O O O) O<|r_or O (fun h=>(lzf h))<|G O<|rL0 O (fun g10_8=>zF O fd64_3 O) O<|rL1 50 O (fun g10_8=>zK O one3 O (J 1 O) O) O<|rL1 51 O (fun g10_8=>zDk O O O) O<|r_or O (fun h=>(lzf h))<|G O<|rL0 O (fun g10_13=>zF O fd64_3 O) O<|rL1 55 O (fun g10_13=>zK O one3 O (J 1 O) O) O<|rL1 56 O (fun g10_13=>yF O O O) O<|r_or O (fun h=>(lzf h))<|G O<|zA<|zE O (fun c5=>?_) (fun c5=>?_)
     ·try simp only [sx] at c5
      refine Y O<|G O<|zA<|zJ<|zT O ?_
      rw [stE_l c1 c2,loopE_1 c3 h8 zC]
     ·try simp only [sx] at c5
      refine zI<|Y O<|G O<|zA<|zJ<|zT O ?_
      rw [stE_l c1 c2,loopE_0 c3 h8 zC]
  ·try simp only [sx] at c2
   refine Y O<|yJ O<|G O<|zA<|zE O (fun c6=>?_) (fun c6=>?_)
   ·try simp only [sx] at c6
    refine Y O<|zM zBm (J 1 O) O<|G O<|zD O zEn<|zM yU (J 0 O) O<|qJ O ok172 (zHf n bd s.E hn hb zC) ⟨zB,O,zB,O,zB,O,T⟩<|qU O<|zW O (qY O O O)<|yK O<|zY O O (yC O zr56) ?_
    rintro _ _ ⟨b4,rfl,rfl⟩
    refine D 0 v O<|G O<|zA<|zH<|Y O<|G O<|yJ O<|G O<|rL0 O (fun g15_2=>zF O zEn O) O<|rL1 72 O (fun g15_2=>qA O yU O (J 1 O) O) O<|rL1 73 O (fun g15_2=>qS O ok173 (kU _) ⟨zB,O,T⟩) O<|rL1 74 O (fun g15_2=>wJ O O) O<|kB O (fun h=>h)<|zA<|zE O (fun c7=>?_) (fun c7=>?_)
    ·refine Y O<|G O<|zA<|zJ<|zT O ?_
     rw [stE_i c1 c6,if_t c7]
    ·refine zI<|Y O<|G O<|G O<|zA<|zJ<|zT O ?_
     rw [stE_i c1 c6,if_fin c7]
   ·try simp only [sx] at c6
    refine zI<|Y O<|zM zBm (J 1 O) O<|G O<|zM zLr (J 0 O) O<|qJ O ok174 (ref30_store n bd s hn hb hs) ⟨zB,O,zB,O,zB,O,T⟩<|G O<|zA<|zJ<|zT O ?_
    rw [stE_s c1 c2 c6]
set_option maxHeartbeats 2000000 in
theorem zIv (n:Ns) (bd:List Bd) (U:List ByteArray) (l:List St) (W:List Int) (hn:n.Ok) (hU:U.length+dN l<=1000000) (hb:bd.length+dN l<=1000000) (hW:W.length+dN l<=1000000) (hl:bI l<=900000) (ih:∀s,s∈l->∀(bd:List Bd) (U:List ByteArray) (W:List Int),U.length+dN s.Body<=1000000->bd.length+dN s.Body<=1000000->W.length+dN s.Body<=1000000->Pur cfg 51 [vNs n,jT bd,vSs U,fP s.Body,vIs W] (ckC (fL n.Bufs U (bd.map Bd.Name) W 0 s.Body))):
    Pur cfg 51 [vNs n,jT bd,vSs U,fP l,vIs W] (ckC (fL n.Bufs U (bd.map Bd.Name) W 0 l)):=by
 refine zV Tryz.func51 O Tryz.ntmps51 Tryz.results51 O ?_
 intro z hz
 have hll:=zAt l
 have hlN:=zEr l
 refine Y O<|zY O O (qL O O) ?_
 rintro _ _ ⟨b1,rfl,rfl⟩
 refine zY O O (qG [some 1,some 1,none] O zr111 O) ?_
 rintro _ _ ⟨b2,rfl,rfl⟩
 refine zA<|zH<|Y O<|G O<|zA<|zR<|zU ⟨[(11,.c _),(2,.c _),(1,.c _),(3,.c _),(4,.c _),(5,.c _),(10,.c _)],[_,_]⟩ (Weak.mk [true,true] ⟨zB,zB,zB,zB,zB,zB,zB,T⟩ O)<|qF 2 0 O O (Nat×List ByteArray) (fun ⟨k,u⟩=>[(11,vI k),(2,vSs u)]) (fun ⟨k,u⟩=>[]) (fun ⟨k,u⟩=>k<=l.length/\(u.length+dN (l.drop k)<=1000000)/\((fL n.Bufs U (bd.map Bd.Name) W 0 l)=fL n.Bufs u (bd.map Bd.Name) W k (l.drop k))) (fun ⟨k,u⟩=>l.length-k) ⟨⟨0,U⟩,⟨zC,by simpa using hU,O⟩,Weak.mk [true,true] ⟨zB,VLe.of_eq (O),zB,zB,zB,zB,zB,T⟩ O⟩ ?_
 rintro ⟨k,u⟩ ⟨hk,hub,hp⟩
 show AWP _ _ _ _ _ ⟨[(11,vI k),(2,vSs u)]++_,[]++_⟩
 refine zH<|Y O<|G O<|G O<|qB O L<|yA O<|zA<|zE O (fun c1=>?_) (fun c1=>?_)
 ·try simp only [sx] at c1
  obtain ⟨s,hs⟩:=qV l k zC
  have hsw:=zAb (qC hs)
  have hsb:=St.body_wt s
  have hsn:=stsN_drop hs
  have hse:=zPp s
  have hsm:=zQv (qC hs)
  have hcl:=chkS_len n.Bufs s u (bd.map Bd.Name) (W++[(k:Int)])
  refine zI<|zH<|zR<|Y O<|zW O (zLo O el46 zr3)<|G O<|zY O O (zLl O el46 O O uB uB) ?_
  rintro _ _ ⟨sv3,rfl,rfl⟩
  refine G O<|kA O el46 zr3<|zY O O (yH 0 O el46 O O O uB uB) ?_
  rintro _ _ ⟨sv4,rfl,rfl⟩
  refine G O<|zA<|zH<|zH<|zU _ (Weak.vecEq 0 O (rows':=(W++[(k:Int)]).map fun i=>[cI i]) uK)<|zU _ (yO 0 O (regs':=[(27,_),(12,_)]) (μ':=[_,_]) ⟨FLe.sl,FLe.sl,T⟩ ⟨EFle.refl _,EFle.refl _,T⟩)<|yE 9 mixed uC O O<|zN O O (qA O zBm O (J 1 O) O)<|zN O O (zP O O)<|zN O O (zP O O)<|zN O O (zP O O)<|zN O O (zP O O)<|zN O O (qN O L O O zC (zCq uD))<|zN O O (qA O zLr O qD O)<|zN O O (qS O ok109 (ref30_one n bd u s hn zC (by have:=zAb (qC hs);omega) zC) ⟨zB,O,zB,O,zB,O,zB,O,T⟩)<|zN O O (yL O O)<|kE<|zA<|Y O<|G O<|yN O<|zA<|zE O (fun c2=>?_) (fun c2=>?_)
  ·try simp only [sx] at c2
   have hx0:=chkS_no (here:=W++[(k:Int)]) (B:=n.Bufs) (U:=u) (sc:=(bd.map Bd.Name)) (s:=s) c2
   refine Y O<|G O<|G O<|yZ [some 1,none,none] O zr111 pl111<|D 0 sz111 O<|zA<|zJ<|fin1 (zZ agg111 O (J 0 O) O) ?_
   rw [zEj hs hp (by rw [hx0];exact c2),hx0];rfl
  ·try simp only [sx] at c2
   have hin:=chkS_in (here:=W++[(k:Int)]) (B:=n.Bufs) (U:=u) (sc:=(bd.map Bd.Name)) (s:=s) c2
   refine zI<|Y O<|G O<|G O<|zA<|zH<|Y O<|G O<|G O<|qE O L zC (zCq uD)<|qW O zDh<|zG one3 qD O<|yJ O<|zA<|zE O (fun c3=>?_) (fun c3=>?_)
   ·try simp only [sx] at c3
    rw [zMi c3,zMi c3,←map_bd] at hin
    refine zH<|yS 9 1 [⟨0,.q []⟩,⟨1,.q []⟩,⟨3,.q []⟩,⟨4,.q []⟩,⟨5,.q []⟩,⟨6,.q []⟩,⟨7,.q []⟩,⟨8,.q []⟩,⟨2,.e 0 []⟩] mixed uC uC O O O<|zQ O<|zQ O<|zQ O<|zQ O<|zQ O<|zQ O<|zQ O<|zQ O<|zQ O<|wS<|zX O uA O O (zLo O el25 zr9)<|zX O uA O O (zP O O)<|zX O uA O O (zP O O)<|zX O uA O O (zP O O)<|zX O uA O O (qN O L O O zC (zCq uD))<|zX O uA O O (qQ O zDg O)<|zX O uA O O (zK O one9 O qD O)<|zX O uA O O (wL O el25 zr9 O O O O)<|zGj O O uA O O (zLl O el25 O O uB uB) ?_
    rintro _ _ ⟨sv5,rfl,rfl⟩
    refine ⟨_,O,?_⟩
    refine wR O<|zY O O (yH 0 O el25 O O O uB uB) ?_
    rintro _ _ ⟨sv6,rfl,rfl⟩
    refine G O<|zA<|yS 15 1 [⟨0,.q []⟩,⟨1,.q []⟩,⟨3,.q []⟩,⟨4,.q []⟩,⟨5,.q []⟩,⟨6,.q []⟩,⟨7,.q []⟩,⟨8,.q []⟩,⟨9,.q []⟩,⟨10,.q []⟩,⟨11,.q []⟩,⟨12,.q []⟩,⟨13,.q []⟩,⟨14,.q []⟩,⟨2,.e 0 []⟩] mixed uC uC O O O<|zQ O<|zQ O<|zQ O<|zQ O<|zQ O<|zQ O<|zQ O<|zQ O<|zQ O<|zQ O<|zQ O<|zQ O<|zQ O<|zQ O<|zQ O<|wS<|zX O uA O O (zLo O el31 zr50)<|zX O uA O O (zP O O)<|zX O uA O O (zP O O)<|zX O uA O O (zP O O)<|zX O uA O O (qN O L O O zC (zCq uD))<|zX O uA O O (qQ O zDg O)<|zX O uA O O (zK O one9 O qD O)<|zX O uA O O (zP O O)<|zX O uA O O (zP O O)<|zX O uA O O (qN O L O O zC (zCq uD))<|zX O uA O O (qQ O zQa O)<|zX O uA O O (zK O one3 O qD O)<|zX O uA O O (zAz O zr50 pl50 O)<|zX O uA O O (wL O el31 zr50 O O O O)<|zGj O O uA O O (zLl O el31 O O uB uB) ?_
    rintro _ _ ⟨sv7,rfl,rfl⟩
    refine ⟨_,O,?_⟩
    refine wR O<|zY O O (yH 0 O el31 O O O uB uB) ?_
    rintro _ _ ⟨sv8,rfl,rfl⟩
    refine G O<|zA<|zH<|zU _ (Weak.vecEq 1 O (rows':=(u++[s.Name]).map fun s=>[cS s]) uK)<|zU _ (yO 1 O (regs':=[(2,_),(57,_)]) (μ':=[_,_,_]) ⟨FLe.sl,FLe.sl,T⟩ ⟨EFle.refl _,EFle.refl _,EFle.refl _,T⟩)<|zU _ (Weak.vecEq 0 O (rows':=(bd++[(⟨s.Name,s.Many⟩:Bd)]).map Bd.cells) (by rw [List.map_append];rfl))<|zU _ (yO 0 O (regs':=[(14,_),(73,_)]) (μ':=[_,_]) ⟨FLe.sl,FLe.sl,T⟩ ⟨EFle.refl _,EFle.refl _,T⟩)<|yS 11 1 [⟨0,.q [2]⟩,⟨1,.q []⟩,⟨2,.q []⟩,⟨3,.q []⟩,⟨4,.q []⟩,⟨5,.q []⟩,⟨6,.q []⟩,⟨7,.q []⟩,⟨8,.q []⟩,⟨9,.q []⟩,⟨10,.f 0⟩] mixed uC uC O O O<|zQ O<|zQ O<|zQ O<|zQ O<|zQ O<|zQ O<|zQ O<|zQ O<|zQ O<|zQ O<|zHn O O (zAf (qG [some 1,some 1,none] O zr111 O)) ⟨_,_,0,O,O⟩<|wS<|zX O uA O O (qA O zBm O (J 0 O) O)<|zX O uA O O (zP O O)<|zX O uA O O (zP O O)<|zX O uA O O (zP O O)<|zX O uA O O (zP O O)<|zX O uA O O (qN O L O O zC (zCq uD))<|zX O uA O O (qQ O zCy O)<|zX O uA O O (zK O zBg O qD O)<|zX O uA O O (zP O O)<|zX O uA O O (qS O ok51 (ih s (qC hs) (bd++[(⟨s.Name,s.Many⟩:Bd)]) (u++[s.Name]) (W++[(k:Int)]) (by first|omega|(simp;omega)) (by first|omega|(simp;omega)) uF) ⟨zB,O,zB,O,zB,O,zB,O,zB,O,T⟩)<|zHc O O ?_
    rintro _ _ ⟨b9,rfl,rfl⟩
    exact o7
   ·try simp only [sx] at c3
    rw [zQy c3,zQy c3] at hin
    refine zI<|zH<|yS 11 1 [⟨0,.q [2]⟩,⟨1,.q []⟩,⟨2,.q []⟩,⟨3,.q []⟩,⟨4,.q []⟩,⟨5,.q []⟩,⟨6,.q []⟩,⟨7,.q []⟩,⟨8,.q []⟩,⟨9,.q []⟩,⟨10,.f 0⟩] mixed uC uC O O O<|zQ O<|zQ O<|zQ O<|zQ O<|zQ O<|zQ O<|zQ O<|zQ O<|zQ O<|zQ O<|zHn O O (zAf (qG [some 1,some 1,none] O zr111 O)) ⟨_,_,0,O,O⟩<|wS<|zX O uA O O (qA O zBm O (J 0 O) O)<|zX O uA O O (zP O O)<|zX O uA O O (zP O O)<|zX O uA O O (zP O O)<|zX O uA O O (zP O O)<|zX O uA O O (qN O L O O zC (zCq uD))<|zX O uA O O (qQ O zCy O)<|zX O uA O O (zK O zBg O qD O)<|zX O uA O O (zP O O)<|zX O uA O O (qS O ok51 (ih s (qC hs) bd u (W++[(k:Int)]) (by first|omega|(simp;omega)) (by first|omega|(simp;omega)) uF) ⟨zB,O,zB,O,zB,O,zB,O,zB,O,T⟩)<|zHc O O ?_
    rintro _ _ ⟨b10,rfl,rfl⟩
    exact o7
 ·try simp only [sx] at c1
  refine qM<|Y O<|G O<|yZ [none,some 1,none] O zr111 pl111<|D 0 sz111 O<|zA<|zJ<|fin1 (zZ agg111 O (J 0 O) O) ?_
  rw [zRj hp zC];rfl
theorem zSk (n:Ns) (hn:n.Ok) (s:St) (hl:bI s.Body<=900000):∀(bd:List Bd) (U:List ByteArray) (W:List Int),U.length+dN s.Body<=1000000->bd.length+dN s.Body<=1000000->W.length+dN s.Body<=1000000->Pur cfg 51 [vNs n,jT bd,vSs U,fP s.Body,vIs W] (ckC (fL n.Bufs U (bd.map Bd.Name) W 0 s.Body)):=by
  induction s using St.ind with
  |_ s ih=>
    intro bd U W hU hb hW
    refine zIv n bd U s.Body W hn hU hb hW hl fun a ha=>ih a ha ?_
    have:=zAb ha;have:=St.body_wt a;omega
theorem ref30_body (n:Ns) (bd:List Bd) (U:List ByteArray) (l:List St) (W:List Int)  (hn:n.Ok) (hU:U.length+dN l<=1000000) (hb:bd.length+dN l<=1000000) (hW:W.length+dN l<=1000000) (hl:bI l<=900000):Pur cfg 51 [vNs n,jT bd,vSs U,fP l,vIs W] (ckC (fL n.Bufs U (bd.map Bd.Name) W 0 l)):=
  zIv n bd U l W hn hU hb hW hl fun s hs=>zSk n hn s (by have:=zAb hs;have:=St.body_wt s;omega)
theorem ref30_Validate (n:Ns) (hn:n.Ok) (hw:bI n.Body<=900000):
    Pur cfg 17 [vNs n] (.tup [vIs (gL n).1,vI (gL n).2]):=by
 refine zV Tryz.func17 O Tryz.ntmps17 Tryz.results17 O ?_
 intro z hz
 refine Y O<|zY O O (qL O O) ?_
 rintro _ _ ⟨b1,rfl,rfl⟩
 refine qX 1 O<|G O<|zA<|zH<|Y O<|zD O zBt<|zG zBg (J 0 O) O<|qJ O ok48 (ref30_depth 41 n.Body 41 zC zC O) ⟨zB,O,zB,O,T⟩<|zW O (yF O O O)<|zA<|zE O (fun c1=>?_) (fun c1=>?_)
 ·try simp only [sx] at c1
  have hwi:=within_f c1
  refine Y O<|qX 1 O<|G O<|zA<|zJ<|fin2 (rs_c O) (rs_c O) ?_
  rw [validN_13 hwi];rfl
 ·try simp only [sx] at c1
  have hwi:=within_t c1
  refine zI<|zH<|Y O<|zD O zBt<|zG zBg (J 0 O) O<|qJ O ok49 (ref30_size n.Body 2000 2000 zC zC O) ⟨zB,O,zB,O,T⟩<|zW O (yF O O O)<|G O<|rL0 O (fun g3_4=>zF O zAx O) O<|rL1 15 O (fun g3_4=>zK O zFg O (J 0 O) O) O<|rL1 16 O (fun g3_4=>qT O el39 O) O<|rL1 17 O (fun g3_4=>yF O O O) O<|r_or O (fun h=>(lzf h))<|zA<|zE O (fun c2=>?_) (fun c2=>?_)
  ·try simp only [sx] at c2
   refine Y O<|qX 1 O<|G O<|zA<|zJ<|fin2 (rs_c O) (rs_c O) ?_
   rw [validN_2 hwi zC];rfl
  ·try simp only [sx] at c2
   have hnum:=numB_ok (l:=n.Body) (m:=2000) zC
   refine zI<|zH<|Y O<|zM zBm (J 0 O) O<|qJ O ok50 (ref30_bufs n hn) ⟨zB,O,T⟩<|G O<|zA<|Y O<|G O<|yN O<|zA<|zE O (fun c3=>?_) (fun c3=>?_)
   ·try simp only [sx] at c3
    refine Y O<|G O<|qX 1 O<|G O<|zA<|zJ<|fin2 (rs_c O) (rs_c O) ?_
    rw [validN_b hwi zC c3];rfl
   ·try simp only [sx] at c3
    refine zI<|Y O<|zM zBm (J 0 O) O<|zD O zBt<|zG zBg (J 0 O) O<|qJ O ok51 (ref30_body n [] [] n.Body [] hn uF uF uF hw) ⟨zB,O,VLe.nil,O,VLe.nil,O,zB,O,VLe.nil,O,T⟩<|zY O O (qG [some 1,some 1,none] O zr111 O) ?_
    rintro _ _ ⟨b2,rfl,rfl⟩
    refine D 0 sz111 O<|zA<|zH<|yE 6 mixed uC O O<|zN O O (zF O fd111_1 O)<|zN O O (zK O zMf O (J 0 O) O)<|zN O O (zF O fd111_2 O)<|zN O O (zK O zIz O (J 0 O) O)<|zN O O (yL O O)<|zN O O (yL O O)<|kE<|zA<|zJ<|fin2 (rs_c O) (rs_c O) ?_
    rw [validN_c hwi zC c3];rfl
end Go.W
