/-
  What functions compute.
  Conditions: none.
-/
import Derived.Test.YtlfjpejkoccibaaGreatDoorNB
import Derived.Test.YtlfjpejkoccibaaGreatDoorPlain2
import Derived.Test.YtlfjpejkoccibaaGreatDoorEngZ
set_option linter.unusedSimpArgs false
set_option linter.unusedVariables false
set_option maxRecDepth 10000
namespace Go.W
open Go Go.Eng Go.Proofs Go.L41 Go.Br
attribute [local irreducible] AWP RWP TD fH
abbrev sH (l:List Bd):V:=.c (.sl 2 (l.map Bd.cells))
abbrev ckC (x:Ck):V:=.agg [.sl 1 (x.U.map fun s=>[cS s]),.sl 1 (x.W.map fun i=>[cI i]),cI x.E]
theorem bd_get {l:List Bd} {k:Nat} {x:Bd} (h:l[k]? =some x):(l.map Bd.cells)[k]? =some [cS x.Name,cI x.Val]:=by rw [Q h];rfl
theorem agg148:nG Tryz.prog 148=some 3:=by kernel_rfl
theorem el73:dY Tryz.prog 73=some (80,2,24):=by kernel_rfl
theorem fd80_0:bY Tryz.prog 80 0=some (0,9):=by kernel_rfl
theorem fd148_0:bY Tryz.prog 148 0=some (0,105):=by kernel_rfl
theorem fd148_1:bY Tryz.prog 148 1=some (1,26):=by kernel_rfl
theorem fd148_2:bY Tryz.prog 148 2=some (2,51):=by kernel_rfl
theorem ok111:bA Tryz.prog 111=true:=by kernel_rfl
theorem ok112:bA Tryz.prog 112=true:=by kernel_rfl
theorem ok115:bA Tryz.prog 115=true:=by kernel_rfl
theorem ok150:bA Tryz.prog 150=true:=by kernel_rfl
theorem ok179:bA Tryz.prog 179=true:=by kernel_rfl
theorem ok180:bA Tryz.prog 180=true:=by kernel_rfl
theorem ok182:bA Tryz.prog 182=true:=by kernel_rfl
theorem ok200:bA Tryz.prog 200=true:=by kernel_rfl
theorem ok202:bA Tryz.prog 202=true:=by kernel_rfl
theorem ok203:bA Tryz.prog 203=true:=by kernel_rfl
theorem ok231:bA Tryz.prog 231=true:=by kernel_rfl
theorem ok232:bA Tryz.prog 232=true:=by kernel_rfl
theorem pl80:gG Tryz.prog 80=some [(0,1),(1,1)]:=by kernel_rfl
theorem pl148:gG Tryz.prog 148=some [(0,1),(1,1),(2,1)]:=by kernel_rfl
theorem sz148:(Tryz.prog.info? 148).map (·.size)=some 3:=by kernel_rfl
theorem zr80:fS Tryz.prog 80=some [(Value.string (ByteArray.mk #[])),(Value.int IntKind.i64 0)]:=by kernel_rfl
theorem zr148:fS Tryz.prog 148=some [(Value.slice none 0 0),(Value.slice none 0 0),(Value.int IntKind.i64 0)]:=by kernel_rfl
theorem zUo (l:List Lf) (bd:List Bd) (hl:l.length<=4294967296) (hx:∀x,x∈l->x.L.length<=4294967296) (hb:bd.length<=4294967296):
    Pur cfg 231 [rZ l,sH bd] (vB (l.all (gS (bd.map Bd.Name)))):=by
 refine zT Tryz.func231 O Tryz.ntmps231 Tryz.results231 O ?_
 intro z hz
 have hl0:=hx
 clear hx
 refine F O<|A O<|H<|zK<|F O<|A O<|H<|zR<|zY ⟨[(5,.c _),(0,.c _),(1,.c _)],[]⟩ (Weak.mk [] ⟨G,G,G,T⟩ O)<|qK 1 0 O O (Nat) (fun k=>[(5,vI k)]) (fun k=>[]) (fun k=>k<=l.length/\((l.take k).all (gS (bd.map Bd.Name))=true)) (fun k=>l.length-k) ⟨0,⟨by omega,O⟩,Weak.mk [] ⟨G,G,G,T⟩ O⟩ ?_
 rintro k ⟨hk,hp⟩
 refine zK<|F O<|A O<|A O<|qC O el70<|yD O<|H<|zD O (fun c1=>?_) (fun c1=>?_)
 ·try simp only [I] at c1
  obtain ⟨x,hx⟩:=qY l k (by omega)
  have hxl:=hl0 x (zZ hx)
  refine zM<|zK<|zR<|F O<|A O<|H<|zR<|zY ⟨[(6,.c _),(0,.c _),(1,.c _),(5,.c _)],[]⟩ (Weak.mk [] ⟨G,G,G,G,T⟩ O)<|qK 1 0 O O (Nat) (fun j=>[(6,vI j)]) (fun j=>[]) (fun j=>j<=x.L.length/\(x.L.take j).all (fun m=>bK (bd.map Bd.Name) m.Name)=true) (fun j=>x.L.length-j) ⟨0,⟨by omega,O⟩,Weak.mk [] ⟨G,G,G,G,T⟩ O⟩ ?_
  rintro j ⟨hj,hq⟩
  refine zK<|F O<|A O<|A O<|A O<|qD O el70 (by omega) (Q hx)<|qO O kC<|zJ wN qA O<|qC O P<|yD O<|H<|zD O (fun c2=>?_) (fun c2=>?_)
  ·try simp only [I] at c2
   obtain ⟨m,hm⟩:=qY x.L j (by omega)
   refine zM<|zK<|zR<|F O<|A O<|H<|zK<|F O<|A O<|H<|zR<|zY ⟨[(8,.c _),(7,.c _),(0,.c _),(1,.c _),(5,.c _),(6,.c _)],[]⟩ (Weak.mk [] ⟨G,G,G,G,G,G,T⟩ O)<|qK 2 0 O O (Nat) (fun i=>[(8,vI i),(7,vB ((bd.take i).any fun d=>decide (d.Name=m.Name)))]) (fun i=>[]) (fun i=>i<=bd.length) (fun i=>bd.length-i) ⟨0,(by omega),Weak.mk [] ⟨G,VLe.of_eq (O),G,G,G,G,T⟩ O⟩ ?_
   rintro i hi
   refine zK<|F O<|A O<|A O<|qC O el73<|yD O<|H<|zD O (fun c3=>?_) (fun c3=>?_)
   ·try simp only [I] at c3
    obtain ⟨d,hd⟩:=qY bd i (by omega)
    refine zM<|zK<|zR<|qZ 19 mixed (by kernel_rfl) O O<|M O O (zN O O)<|M O O (zN O O)<|f [] O O O O gv1 T (fun g11_1=>zN O O) O<|f [] O O O O gv1 T (fun g11_1=>zN O O) O<|f [(33,_),(34,_)] O O O O gv1 ⟨O,O,O,O,T⟩ (fun g11_1=>qF O el73 O O (by omega) (bd_get hd)) O<|f [(35,_)] O O O O gv1 ⟨O,O,T⟩ (fun g11_1=>qL O fd80_0 O) O<|f [(36,_)] O O O O gv1 ⟨O,O,T⟩ (fun g11_1=>zF O one9 O qA O) O<|f [] O O O O gv1 T (fun g11_1=>zN O O) O<|f [] O O O O gv1 T (fun g11_1=>zN O O) O<|f [(38,_),(39,_)] O O O O gv1 ⟨O,O,O,O,T⟩ (fun g11_1=>qF O el70 O O (by omega) (Q hx)) O<|f [(40,_)] O O O O gv1 ⟨O,O,T⟩ (fun g11_1=>qL O kC O) O<|f [(41,_)] O O O O gv1 ⟨O,O,T⟩ (fun g11_1=>zF O wN O qA O) O<|f [] O O O O gv1 T (fun g11_1=>zN O O) O<|f [(42,_),(43,_)] O O O O gv1 ⟨O,O,O,O,T⟩ (fun g11_1=>qF O P O O (by omega) (Q hm)) O<|f [(44,_)] O O O O gv1 ⟨O,O,T⟩ (fun g11_1=>qL O zAn O) O<|f [(45,_)] O O O O gv1 ⟨O,O,T⟩ (fun g11_1=>zF O one9 O qA O) O<|f [(37,_),(46,_)] O O O O gv1 ⟨O,O,O,O,T⟩ (fun g11_1=>yR O O O) O<|M O O (zAu O O O O (fun h=>(lzf h)))<|M O O (yA O O)<|kE<|H<|zQ O<|A O<|qJ O ⟨by omega,by omega⟩<|A O<|H ?_
    refine ⟨i+1,(by omega),(by omega),Weak.mk [] ⟨G,VLe.of_eq (congrArg vB (any_step hd)),G,G,G,G,T⟩ O⟩
   ·try simp only [I] at c3
    rw [yU (l:=bd) (k:=i) (by omega),any_hasB]
    refine qQ<|F O<|A O<|kQ O<|H<|zD O (fun c4=>?_) (fun c4=>?_)
    ·try simp only [I] at c4
     have hno:=bound_no hx hm c4
     refine F O<|A O<|H<|o<|X O ?_
     rw [hno]
    ·try simp only [I] at c4
     refine zM<|zQ O<|A O<|qJ O ⟨by omega,by omega⟩<|A O<|H ?_
     refine ⟨j+1,⟨by omega,zLa hm hq c4⟩,(by omega),Weak.mk [] ⟨G,G,G,G,T⟩ O⟩
  ·try simp only [I] at c2
   rw [yU (l:=x.L) (k:=j) (by omega)] at hq
   refine qQ<|zQ O<|A O<|qJ O ⟨by omega,by omega⟩<|A O<|H ?_
   refine ⟨k+1,⟨by omega,zLa hx hp (show gS _ x=true from hq)⟩,(by omega),Weak.mk [] ⟨G,G,G,T⟩ O⟩
 ·try simp only [I] at c1
  refine qQ<|F O<|A O<|H<|o<|X O ?_
  rw [yU (by omega)] at hp;rw [hp]
theorem ref30_lins (l:List Ix) (hl:l.length<=4294967296) (hw:dH l<=4294967296):
    OwnR cfg 232 [gM l] 41 2 ((l.flatMap ixF).map Lf.cells):=by
 refine zT Tryz.func232 O Tryz.ntmps232 Tryz.results232 O ?_
 intro z hz
 refine F O<|A O<|H<|F O<|A O<|yI _ (kR 41 2)<|H<|zK<|F O<|A O<|H<|zR<|zY ⟨[(4,.c _),(3,.c _),(0,.c _)],[_]⟩ (Weak.mk [true] ⟨G,G,G,T⟩ O)<|qK 2 1 O O (Nat×Value) (fun ⟨k,sv⟩=>[(4,vI k),(3,.c (.lit sv))]) (fun ⟨k,sv⟩=>[E.vec sv 41 2 (((l.take k).flatMap ixF).map Lf.cells)]) (fun ⟨k,sv⟩=>k<=l.length) (fun ⟨k,sv⟩=>l.length-k) ⟨⟨0,(.slice none 0 0)⟩,(by omega),Weak.mk [true] ⟨G,G,G,T⟩ O⟩ ?_
 rintro ⟨k,sv⟩ hk
 show AWP _ _ _ _ _ ⟨[(4,vI k),(3,.c (.lit sv))]++_,[E.vec sv 41 2 (((l.take k).flatMap ixF).map Lf.cells)]++_⟩
 refine zK<|F O<|A O<|A O<|qC O d<|yD O<|H<|zD O (fun c1=>?_) (fun c1=>?_)
 ·try simp only [I] at c1
  obtain ⟨x,hx⟩:=qY l k (by omega)
  have hfl:=ixs_len l k
  have hxw:=zAq (zZ hx)
  unfold Ix.wt at hxw
  refine zM<|zK<|zR<|F O<|A O<|A O<|A O<|qD O d (by omega) (Q (by assumption))<|qO O zEp<|zP yX qA O<|yV O el70 v<|zV O O (qV 0 O el70 O O O (by simp only [List.length_map,List.length_append,List.length_cons,List.length_nil];omega) (by simp only [List.length_map,List.length_append,List.length_cons,List.length_nil];omega)) ?_
  rintro _ _ ⟨sv2,rfl,rfl⟩
  refine A O<|H<|zQ O<|A O<|A O<|A O<|qD O d (by omega) (Q (by assumption))<|qO O zAr<|zJ zDw qA O<|zV O O (qV 0 O el70 O O O (by simp only [List.length_map,List.length_append,List.length_cons,List.length_nil];omega) (by simp only [List.length_map,List.length_append,List.length_cons,List.length_nil];omega)) ?_
  rintro _ _ ⟨sv3,rfl,rfl⟩
  refine A O<|H<|zQ O<|A O<|qJ O ⟨by omega,by omega⟩<|A O<|H ?_
  refine ⟨⟨k+1,sv3⟩,(by omega),(by show l.length-(k+1)<l.length-k;omega),Weak.mk [true] ⟨G,G,G,T⟩ (by exact zCv (by rw [yL hx,List.flatMap_append,List.map_append];simp [ixF];rfl))⟩
 ·try simp only [I] at c1
  refine qQ<|F O<|A O<|A O<|H<|o<|X O ?_
  exact ⟨_,O,by rw [yU (by omega)];rfl⟩
theorem ref30_node (n:Ns) (bd:List Bd) (e:Ex) (hn:n.Ok) (hb:bd.length<=1000000) (he:e.wt<=1073741824):
    Pur cfg 202 [vNs n,sH bd,vE e] (vI (gP n.Bufs (bd.map Bd.Name) e)):=by
 refine zT Tryz.func202 O Tryz.ntmps202 Tryz.results202 O ?_
 intro z hz
 obtain ⟨hL,hI,hA⟩:=e.parts he
 have hwt:=Ex.wt_eq e
 refine F O<|zV O O (qN O O) ?_
 rintro _ _ ⟨b1,rfl,rfl⟩
 refine zV O O (qN O O) ?_
 rintro _ _ ⟨b2,rfl,rfl⟩
 refine A O<|H<|zK<|F O<|zG O zDe<|zP yX (R 0 O) O<|yV O el70 v<|A O<|qI O ok231 (zUo [e.Lin] bd (by simp) (by simp;omega) (by omega)) ⟨G,O,G,O,T⟩<|kQ O<|A O<|rL0 O (fun g1_6=>zE O kX O) O<|B 19 O (fun g1_6=>zF O wO O (R 0 O) O) O<|B 20 O (fun g1_6=>qM O ok232 (OwnR.pur (ref30_lins e.Idx (by omega) (by omega))) ⟨G,O,T⟩) O<|rL0 O (fun g1_6=>zN O O) O<|rLz [(21,_),(22,_)] O gv1 ⟨O,O,O,O,T⟩ (fun g1_6=>qM O ok231 (zUo (e.Idx.flatMap ixF) bd (by have:=ixs_len e.Idx e.Idx.length;rw [List.take_length] at this;omega) (fun x hx=>by have:=forms_wt he (show x∈bQ e by unfold bQ;exact List.mem_cons_of_mem _ hx);omega) (by omega)) ⟨G,O,G,O,T⟩) O<|B 23 O (fun g1_6=>kW O O) O<|r_or O (fun h=>(lzf h))<|H<|zD O (fun c1=>?_) (fun c1=>?_)
 ·have h9:=node_sc_f c1
  refine F O<|A O<|H<|o<|X O ?_
  rw [nodeN_9 h9]
 ·have h9:=node_sc_t c1
  refine zM<|zK<|F O<|zG O wF<|zJ one3 (R 0 O) O<|yM O<|H<|zD O (fun c2=>?_) (fun c2=>?_)
  ·try simp only [I] at c2
   refine F O<|A O<|H<|o<|X O ?_
   rw [nodeN_o h9 c2]
  ·try simp only [I] at c2
   refine zM<|F O<|zP yY (R 1 O) O<|zG O zFu<|zJ one9 (R 0 O) O<|qI O ok115 (zBy n e.Name hn) ⟨G,O,G,O,T⟩<|qP O<|yJ O<|qU O<|zV O O (qE [none,none,none,none,none,none,some 1,none] O zr65 O) ?_
   rintro _ _ ⟨b3,rfl,rfl⟩
   refine Y 0 sz65 O<|A O<|H<|zK<|F O<|A O<|kQ O<|H<|zD O (fun c3=>?_) (fun c3=>?_)
   ·try simp only [I] at c3
    refine F O<|A O<|H<|o<|X O ?_
    rw [nodeN_n h9 (by omega) c3]
   ·try simp only [I] at c3
    refine zM<|zK<|F O<|zG O zMh<|zJ zGy (R 0 O) O<|qC O K<|zG O kX<|zJ wO (R 1 O) O<|qC O d<|yM O<|H<|zD O (fun c4=>?_) (fun c4=>?_)
    ·try simp only [I] at c4
     refine F O<|A O<|H<|o<|X O ?_
     rw [nodeN_r h9 (by omega) c3 (by omega)]
    ·try simp only [I] at c4
     refine zM<|zK<|F O<|A O<|H<|zR<|zY ⟨[(9,.c _),(3,.c _),(5,.c _)],[_,_]⟩ (Weak.mk [false,true,true] ⟨G,G,G,T⟩ O)<|qK 1 0 O O (Nat) (fun j=>[(9,vI j)]) (fun j=>[]) (fun j=>j<=e.Idx.length/\(lE n.Bufs e.Idx=lE n.Bufs (e.Idx.drop j))) (fun j=>e.Idx.length-j) ⟨0,⟨by omega,O⟩,Weak.mk [true,true] ⟨G,G,G,T⟩ O⟩ ?_
     rintro j ⟨hk,hq⟩
     refine zK<|F O<|A O<|zG O kX<|zJ wO (R 0 O) O<|qC O d<|yD O<|H<|zD O (fun c5=>?_) (fun c5=>?_)
     ·try simp only [I] at c5
      obtain ⟨y,hy⟩:=qY e.Idx j (by omega)
      refine zM<|zK<|zR<|zK<|F O<|zG O kX<|zJ wO (R 0 O) O<|A O<|qD O d (by omega) (Q (by assumption))<|qO O zEw<|zJ one9 qA O<|zU O (yR O O O)<|H<|zD O (fun c6=>?_) (fun c6=>?_)
      ·try simp only [I] at c6
       refine qQ<|zQ O<|A O<|qJ O ⟨by omega,by omega⟩<|A O<|H ?_
       refine ⟨j+1,⟨by omega,hq.trans (zLp hy (by first|exact gathE_0 c6|exact zSl c6 c7 (by omega) (by omega)))⟩,(by omega),Weak.mk [true,true] ⟨G,G,G,T⟩ O⟩
      ·try simp only [I] at c6
       refine zM<|zK<|kL 13 1 [⟨0,.q [2]⟩,⟨1,.q []⟩,⟨2,.q [1]⟩,⟨3,.q []⟩,⟨4,.q []⟩,⟨5,.q []⟩,⟨6,.q []⟩,⟨7,.q []⟩,⟨8,.q []⟩,⟨9,.q []⟩,⟨10,.q []⟩,⟨11,.e 0 []⟩,⟨12,.e 0 []⟩] mixed (by kernel_rfl) (by kernel_rfl) O O O<|p O<|p O<|p O<|p O<|p O<|p O<|p O<|p O<|p O<|p O<|p O<|p O<|p O<|zBo<|t O (by decide) O O (qB O yY O (R 0 O) O)<|t O (by decide) O O (zE O kX O)<|t O (by decide) O O (zF O wO O (R 0 O) O)<|t O (by decide) O O (zN O O)<|t O (by decide) O O (qF O d O O (by omega) (Q (by assumption)))<|t O (by decide) O O (qL O zEw O)<|t O (by decide) O O (zF O one9 O qA O)<|t O (by decide) O O (qM O ok115 (zBy n y.From hn) ⟨G,O,G,O,T⟩)<|t O (by decide) O O (kI O O)<|t O (by decide) O O (wH O O O)<|t O (by decide) O O (wG O O O)<|zHr O O (by decide) O O (qE [none,none,none,none,none,none,some 1,none] O zr65 O) ?_
       rintro _ _ ⟨b4,rfl,rfl⟩
       refine ⟨_,O,?_⟩
       refine zFm O O (by decide) O O (kB O sz65 O O O (zFl 0 O O)) ?_
       rintro _ _ ⟨rfl,rfl⟩
       refine ⟨_,O,?_⟩
       refine zBl O<|A O<|H<|zR<|F O<|A O<|kQ O<|A O<|H<|zD O (fun c7=>?_) (fun c7=>?_)
       ·try simp only [I] at c7
        refine F O<|A O<|H<|o<|X O ?_
        rw [zKe h9 (by omega) c3 (by omega),hq,zLo hy (by rw [gathE_9 c6 c7];decide),gathE_9 c6 c7]
       ·try simp only [I] at c7
        refine F O<|zG O zKm<|zG O zHh<|zJ one3 (R 0 O) O<|yM O<|A O<|H<|zD O (fun c8=>?_) (fun c8=>?_)
        ·try simp only [I] at c8
         refine F O<|A O<|H<|o<|X O ?_
         rw [zKe h9 (by omega) c3 (by omega),hq,zLo hy (by rw [zSn c6 c7 c8];decide),zSn c6 c7 c8]
        ·try simp only [I] at c8
         refine zK<|qZ 12 mixed (by kernel_rfl) O O<|M O O (zE O zMh O)<|M O O (zF O zGy O (R 0 O) O)<|M O O (yB O K O)<|M O O (zE O kX O)<|M O O (zF O wO O (R 1 O) O)<|M O O (zN O O)<|M O O (qF O d O O (by omega) (Q (by assumption)))<|M O O (qL O zAr O)<|M O O (zF O zDw O qA O)<|M O O (yB O el70 O)<|M O O (kN O O O)<|M O O (yA O O)<|kE<|H<|zD O (fun c9=>?_) (fun c9=>?_)
         ·try simp only [I] at c9
          refine F O<|A O<|H<|o<|X O ?_
          rw [zKe h9 (by omega) c3 (by omega),hq,zLo hy (by rw [zSm c6 c7 c8 (by omega)];decide),zSm c6 c7 c8 (by omega)]
         ·try simp only [I] at c9
          refine zM<|zQ O<|A O<|qJ O ⟨by omega,by omega⟩<|A O<|H ?_
          refine ⟨j+1,⟨by omega,hq.trans (zLp hy (by first|exact gathE_0 c6|exact zSl c6 c7 (by omega) (by omega)))⟩,(by omega),Weak.mk [false,true,true] ⟨G,G,G,T⟩ O⟩
     ·try simp only [I] at c5
      refine qQ<|F O<|A O<|H<|o<|X O ?_
      rw [zKe h9 (by omega) c3 (by omega),hq,yW (by omega)];rfl
theorem zUq (n:Ns) (hn:n.Ok) (e:Ex) (ih:∀a,a∈e.Args->fZ a=0->a.wt<=1073741824->Pur cfg 203 [vNs n,vE a] (.tup [vTy (dT (kiN n.Bufs) a).1,vI (dT (kiN n.Bufs) a).2])) (hpart:fZ e=0) (he:e.wt<=1073741824):
    Pur cfg 203 [vNs n,vE e] (.tup [vTy (dT (kiN n.Bufs) e).1,vI (dT (kiN n.Bufs) e).2]):=by
 refine zT Tryz.func203 O Tryz.ntmps203 Tryz.results203 O ?_
 intro z hz
 obtain ⟨hLl,hIl,hAl⟩:=e.parts he
 have hwt:=Ex.wt_eq e
 refine F O<|zV O O (qN O O) ?_
 rintro _ _ ⟨b1,rfl,rfl⟩
 refine zV O O (qN O O) ?_
 rintro _ _ ⟨b2,rfl,rfl⟩
 refine zV O O (yT O m) ?_
 rintro _ _ ⟨b3,rfl,rfl⟩
 refine A O<|H<|F O<|A O<|yI _ (kR 38 5)<|H<|zK<|F O<|A O<|H<|zR<|zY ⟨[(7,.c _),(6,.c _),(2,.c _),(3,.c _),(4,.c _)],[_,_,_,_]⟩ (Weak.mk [true,true,true,true] ⟨G,G,G,G,G,T⟩ O)<|qK 2 1 O O (Nat×Value) (fun ⟨k,sv⟩=>[(7,vI k),(6,.c (.lit sv))]) (fun ⟨k,sv⟩=>[E.vec sv 38 5 ((gW (e.Args.take k) (bT (kiN n.Bufs) (e.Args.take k)).1).map tyC)]) (fun ⟨k,sv⟩=>k<=e.Args.length/\((bT (kiN n.Bufs) (e.Args.take k)).2=0)) (fun ⟨k,sv⟩=>e.Args.length-k) ⟨⟨0,(.slice none 0 0)⟩,⟨by omega,O⟩,Weak.mk [true,true,true,true] ⟨G,G,G,G,G,T⟩ O⟩ ?_
 rintro ⟨k,sv⟩ ⟨hk,hp⟩
 show AWP _ _ _ _ _ ⟨[(7,vI k),(6,.c (.lit sv))]++_,[E.vec sv 38 5 ((gW (e.Args.take k) (bT (kiN n.Bufs) (e.Args.take k)).1).map tyC)]++_⟩
 refine zK<|F O<|A O<|zG O wL<|zJ zBa (R 2 O) O<|qC O g<|yD O<|H<|zD O (fun c1=>?_) (fun c1=>?_)
 ·try simp only [I] at c1
  obtain ⟨x,hx⟩:=qY e.Args k (by omega)
  have hll:=zGz _ _ hp
  have hcl:=nonC_len (e.Args.take k) (bT (kiN n.Bufs) (e.Args.take k)).1
  have htk:=List.length_take_le' k e.Args
  refine zM<|zK<|zR<|zK<|kL 12 1 [⟨0,.q [4]⟩,⟨1,.q []⟩,⟨2,.q [3]⟩,⟨3,.q []⟩,⟨4,.q []⟩,⟨5,.q []⟩,⟨6,.q []⟩,⟨7,.q []⟩,⟨8,.q []⟩,⟨9,.q []⟩,⟨10,.e 0 []⟩,⟨11,.e 0 []⟩] mixed (by kernel_rfl) (by kernel_rfl) O O O<|p O<|p O<|p O<|p O<|p O<|p O<|p O<|p O<|p O<|p O<|p O<|p O<|zBo<|t O (by decide) O O (qB O yY O (R 0 O) O)<|t O (by decide) O O (zE O wL O)<|t O (by decide) O O (zF O zBa O (R 0 O) O)<|t O (by decide) O O (zN O O)<|t O (by decide) O O (qF O g O O (by omega) (zEn (by assumption)))<|t O (by decide) O O (qB O kA O qA O)<|t O (by decide) O O (qM O ok203 (ih x (zZ hx) (zUv hpart (zZ hx)) (by have:=Ex.arg_wt (zZ hx);omega)) ⟨G,O,G,O,T⟩)<|t O (by decide) O O (kI O O)<|t O (by decide) O O (wH O O O)<|t O (by decide) O O (wG O O O)<|zHr O O (by decide) O O (yT O m) ?_
  rintro _ _ ⟨b5,rfl,rfl⟩
  refine ⟨_,O,?_⟩
  refine zFm O O (by decide) O O (kB O L O O O (zFl 0 O O)) ?_
  rintro _ _ ⟨rfl,rfl⟩
  refine ⟨_,O,?_⟩
  refine zBl O<|A O<|H<|zK<|F O<|A O<|yM O<|H<|zD O (fun c2=>?_) (fun c2=>?_)
  ·try simp only [I] at c2
   refine F O<|yP O m pl38<|A O<|Y 2 L O<|A O<|H<|o<|w (y yN O (R 2 O) O) (J O) ?_
   rw [nodeT_no hx hp c2];rfl
  ·try simp only [I] at c2
   refine zM<|F O<|zG O wL<|zJ zBa (R 3 O) O<|A O<|qD O g (by omega) (zEn (by assumption))<|zP kA qA O<|qI O ok181 (wA x) ⟨G,O,T⟩<|kQ O<|H<|zD O (fun c3=>?_) (fun c3=>?_)
   ·try simp only [I] at c3
    refine zQ O<|A O<|zP yN (R 0 O) O<|yV O zAo m<|zV O O (qV 1 O zAo O O O (by simp only [List.length_map,List.length_append,List.length_cons,List.length_nil,hll,List.length_take];omega) (by simp only [List.length_map,List.length_append,List.length_cons,List.length_nil,hll,List.length_take];omega)) ?_
    rintro _ _ ⟨sv6,rfl,rfl⟩
    refine A O<|H<|zQ O<|A O<|qJ O ⟨by omega,by omega⟩<|A O<|H ?_
    refine ⟨⟨k+1,_⟩,⟨by omega,by rw [zFf hx hp c2]⟩,(by show e.Args.length-(k+1)<e.Args.length-k;omega),Weak.mk [false,true,true,true,true] ⟨G,G,G,G,G,T⟩ (by exact zCv (by rw [zFf hx hp c2,yL hx,zUy hll.symm];first|(rw [if_pos c3,List.append_nil])|(rw [if_neg (by rw [c3];simp),List.map_append];rfl)))⟩
   ·try simp only [I] at c3
    refine zM<|zQ O<|A O<|qJ O ⟨by omega,by omega⟩<|A O<|H ?_
    refine ⟨⟨k+1,_⟩,⟨by omega,by rw [zFf hx hp c2]⟩,(by show e.Args.length-(k+1)<e.Args.length-k;omega),Weak.mk [false,true,true,true,true] ⟨G,G,G,G,G,T⟩ (by exact zCv (by rw [zFf hx hp c2,yL hx,zUy hll.symm];first|(rw [if_pos c3,List.append_nil])|(rw [if_neg (by rw [c3];simp),List.map_append];rfl)))⟩
 ·try simp only [I] at c1
  have hll:=zGz _ _ hp
  have hta:e.Args.take k=e.Args:=yU (by omega)
  have hT:dT (kiN n.Bufs) e=kiF n.Bufs e (gW (e.Args.take k) (bT (kiN n.Bufs) (e.Args.take k)).1):=by have h:=nodeT_ok (N:=kiN n.Bufs) hta hp;rw [h];show kiF n.Bufs e (gW e.Args _)=_;rw [hta]
  refine qQ<|zK<|zK<|qZ 12 mixed (by kernel_rfl) O O<|M O O (zN O O)<|M O O (kJ 0 O zAo O O)<|M O O (yH O O O)<|M O O (zN O O)<|f [] O O O O gv1 T (fun g10_3=>zN O O) O<|f [(48,_)] O O O O gv1 ⟨O,O,T⟩ (fun g10_3=>qS 0 O zAo O O O (by omega) (by simp only [Lz,cond_true,decide_eq_true_eq,List.length_map] at g10_3⊢;omega)) O<|f [(49,_)] O O O O gv1 ⟨O,O,T⟩ (fun g10_3=>qB O yN O (wV 0 O (zLf (by simp only [Lz,cond_true,decide_eq_true_eq,List.length_map] at g10_3⊢;omega))) O) O<|f [] O O O O gv1 T (fun g10_3=>zN O O) O<|f [(51,_)] O O O O gv1 ⟨O,O,T⟩ (fun g10_3=>qS 0 O zAo O O O (by omega) (by simp only [Lz,cond_true,decide_eq_true_eq,List.length_map] at g10_3⊢;omega)) O<|f [(52,_)] O O O O gv1 ⟨O,O,T⟩ (fun g10_3=>qB O yN O (wV 0 O (zLf (by simp only [Lz,cond_true,decide_eq_true_eq,List.length_map] at g10_3⊢;omega))) O) O<|f [(50,_),(53,_)] O O O O gv1 ⟨O,O,O,O,T⟩ (fun g10_3=>zBk O fl38 O O O) O<|M O O (kZ O O O (fun h=>h) O)<|kE<|H<|zD O (fun c4=>?_) (fun c4=>?_)
  ·obtain ⟨q1,q2⟩:=ki10_t c4
   refine F O<|yP O m pl38<|Y 1 L O<|A O<|H<|o<|w (y yN O (R 1 O) O) (J O) ?_
   rw [hT];first|(rw [zHd q1 q2];rfl)|(rw [zQi hq (by omega)];rfl)|(rw [zRr hq (by omega)];rfl)|(rw [zRq hq (by omega)];rfl)|(rw [zOn hq c9];rfl)|(rw [zOm hq (by omega) c9];rfl)
  ·have hq:=ki10_f c4
   refine zM<|zK<|F O<|zG O wF<|zJ one3 (R 2 O) O<|H<|zR<|zK<|F O<|yF O<|A O<|H<|zD O (fun c5=>?_) (fun c5=>?_)
   ·try simp only [I] at c5
    refine zM<|zD O (fun c6=>?_) (fun c6=>?_)
    ·try simp only [I] at c6
     refine F O<|zG O zFt<|zP yN (R 2 O) O<|Y 1 L O<|A O<|H<|o<|w (y yN O (R 1 O) O) (J O) ?_
     rw [hT];first|(rw [zHd q1 q2];rfl)|(rw [zQi hq (by omega)];rfl)|(rw [zRr hq (by omega)];rfl)|(rw [zRq hq (by omega)];rfl)|(rw [zOn hq c9];rfl)|(rw [zOm hq (by omega) c9];rfl)
    ·try simp only [I] at c6
     refine F O<|yF O<|A O<|H<|zD O (fun c7=>?_) (fun c7=>?_)
     ·try simp only [I] at c7
      refine F O<|yP O m pl38<|Y 1 L O<|A O<|H<|o<|w (y yN O (R 1 O) O) (J O) ?_
      rw [hT];first|(rw [zHd q1 q2];rfl)|(rw [zQi hq (by omega)];rfl)|(rw [zRr hq (by omega)];rfl)|(rw [zRq hq (by omega)];rfl)|(rw [zOn hq c9];rfl)|(rw [zOm hq (by omega) c9];rfl)
     ·try simp only [I] at c7
      refine F O<|yF O<|A O<|H<|zD O (fun c8=>?_) (fun c8=>?_)
      ·try simp only [I] at c8
       refine F O<|zP yY (R 3 O) O<|zG O zFu<|zJ one9 (R 2 O) O<|qI O ok115 (zBy n e.Name hn) ⟨G,O,G,O,T⟩<|qP O<|yJ O<|qU O<|zV O O (qE [none,none,none,none,none,none,some 1,none] O zr65 O) ?_
       rintro _ _ ⟨b7,rfl,rfl⟩
       refine Y 0 sz65 O<|A O<|H<|F O<|zG O zKm<|zP yN (R 0 O) O<|Y 2 L O<|A O<|H<|o<|w (y yN O (R 2 O) O) (J O) ?_
       rw [hT];first|(rw [zHd q1 q2];rfl)|(rw [zQi hq (by omega)];rfl)|(rw [zRr hq (by omega)];rfl)|(rw [zRq hq (by omega)];rfl)|(rw [zOn hq c9];rfl)|(rw [zOm hq (by omega) c9];rfl)
      ·try simp only [I] at c8
       refine zM<|zK<|F O<|zP kA (R 2 O) O<|qI O ok181 (wA e) ⟨G,O,T⟩<|H<|zD O (fun c9=>?_) (fun c9=>?_)
       ·try simp only [I] at c9
        refine F O<|yP O m pl38<|Y 1 L O<|A O<|H<|o<|w (y yN O (R 1 O) O) (J O) ?_
        rw [hT];first|(rw [zHd q1 q2];rfl)|(rw [zQi hq (by omega)];rfl)|(rw [zRr hq (by omega)];rfl)|(rw [zRq hq (by omega)];rfl)|(rw [zOn hq c9];rfl)|(rw [zOm hq (by omega) c9];rfl)
       ·try simp only [I] at c9
        have hq1:1<=(gW (e.Args.take k) (bT (kiN n.Bufs) (e.Args.take k)).1).length:=by have h:=ki_one hpart (l:=(bT (kiN n.Bufs) (e.Args.take k)).1) (by rw [hll,hta]) (by omega) c9;rw [hta];rw [hta] at h;exact h
        refine zM<|F O<|A O<|zU O (qS 0 O zAo O O O (by omega) (by simp only [List.length_map];omega))<|zP yN (wV 0 O (zLf (by omega))) O<|Y 1 L O<|A O<|H<|o<|w (y yN O (R 1 O) O) (J O) ?_
        rw [hT];first|(rw [zHd q1 q2];rfl)|(rw [zQi hq (by omega)];rfl)|(rw [zRr hq (by omega)];rfl)|(rw [zRq hq (by omega)];rfl)|(rw [zOn hq c9];rfl)|(rw [zOm hq (by omega) c9];rfl)
   ·try simp only [I] at c5
    refine zQ O<|yF O<|A O<|H<|zD O (fun c6=>?_) (fun c6=>?_)
    ·try simp only [I] at c6
     refine F O<|zG O zFt<|zP yN (R 2 O) O<|Y 1 L O<|A O<|H<|o<|w (y yN O (R 1 O) O) (J O) ?_
     rw [hT];first|(rw [zHd q1 q2];rfl)|(rw [zQi hq (by omega)];rfl)|(rw [zRr hq (by omega)];rfl)|(rw [zRq hq (by omega)];rfl)|(rw [zOn hq c9];rfl)|(rw [zOm hq (by omega) c9];rfl)
    ·try simp only [I] at c6
     refine F O<|yF O<|A O<|H<|zD O (fun c7=>?_) (fun c7=>?_)
     ·try simp only [I] at c7
      refine F O<|yP O m pl38<|Y 1 L O<|A O<|H<|o<|w (y yN O (R 1 O) O) (J O) ?_
      rw [hT];first|(rw [zHd q1 q2];rfl)|(rw [zQi hq (by omega)];rfl)|(rw [zRr hq (by omega)];rfl)|(rw [zRq hq (by omega)];rfl)|(rw [zOn hq c9];rfl)|(rw [zOm hq (by omega) c9];rfl)
     ·try simp only [I] at c7
      refine F O<|yF O<|A O<|H<|zD O (fun c8=>?_) (fun c8=>?_)
      ·try simp only [I] at c8
       refine F O<|zP yY (R 3 O) O<|zG O zFu<|zJ one9 (R 2 O) O<|qI O ok115 (zBy n e.Name hn) ⟨G,O,G,O,T⟩<|qP O<|yJ O<|qU O<|zV O O (qE [none,none,none,none,none,none,some 1,none] O zr65 O) ?_
       rintro _ _ ⟨b8,rfl,rfl⟩
       refine Y 0 sz65 O<|A O<|H<|F O<|zG O zKm<|zP yN (R 0 O) O<|Y 2 L O<|A O<|H<|o<|w (y yN O (R 2 O) O) (J O) ?_
       rw [hT];first|(rw [zHd q1 q2];rfl)|(rw [zQi hq (by omega)];rfl)|(rw [zRr hq (by omega)];rfl)|(rw [zRq hq (by omega)];rfl)|(rw [zOn hq c9];rfl)|(rw [zOm hq (by omega) c9];rfl)
      ·try simp only [I] at c8
       refine zM<|zK<|F O<|zP kA (R 2 O) O<|qI O ok181 (wA e) ⟨G,O,T⟩<|H<|zD O (fun c9=>?_) (fun c9=>?_)
       ·try simp only [I] at c9
        refine F O<|yP O m pl38<|Y 1 L O<|A O<|H<|o<|w (y yN O (R 1 O) O) (J O) ?_
        rw [hT];first|(rw [zHd q1 q2];rfl)|(rw [zQi hq (by omega)];rfl)|(rw [zRr hq (by omega)];rfl)|(rw [zRq hq (by omega)];rfl)|(rw [zOn hq c9];rfl)|(rw [zOm hq (by omega) c9];rfl)
       ·try simp only [I] at c9
        have hq1:1<=(gW (e.Args.take k) (bT (kiN n.Bufs) (e.Args.take k)).1).length:=by have h:=ki_one hpart (l:=(bT (kiN n.Bufs) (e.Args.take k)).1) (by rw [hll,hta]) (by omega) c9;rw [hta];rw [hta] at h;exact h
        refine zM<|F O<|A O<|zU O (qS 0 O zAo O O O (by omega) (by simp only [List.length_map];omega))<|zP yN (wV 0 O (zLf (by omega))) O<|Y 1 L O<|A O<|H<|o<|w (y yN O (R 1 O) O) (J O) ?_
        rw [hT];first|(rw [zHd q1 q2];rfl)|(rw [zQi hq (by omega)];rfl)|(rw [zRr hq (by omega)];rfl)|(rw [zRq hq (by omega)];rfl)|(rw [zOn hq c9];rfl)|(rw [zOm hq (by omega) c9];rfl)
theorem ref30_Kind (n:Ns) (e:Ex) (hn:n.Ok) (hpart:fZ e=0) (he:e.wt<=1073741824):Pur cfg 203 [vNs n,vE e] (.tup [vTy (dT (kiN n.Bufs) e).1,vI (dT (kiN n.Bufs) e).2]):=by
  induction e using Ex.ind with
  |_ e ih=>exact zUq n hn e (fun a ha h1 h2=>ih a ha h1 h2) hpart he
theorem zHw (n:Ns) (bd:List Bd) (e:Ex) (hn:n.Ok) (hb:bd.length<=1000000) (he:e.wt<=1000000):
    Pur cfg 180 [vNs n,sH bd,vE e] (.tup [vTy (bW n.Bufs (bd.map Bd.Name) e).1,vI (bW n.Bufs (bd.map Bd.Name) e).2]):=by
 refine zT Tryz.func180 O Tryz.ntmps180 Tryz.results180 O ?_
 intro z hz
 have hnl:=nodes_wt e
 refine F O<|zV O O (qN O O) ?_
 rintro _ _ ⟨b1,rfl,rfl⟩
 refine zV O O (qN O O) ?_
 rintro _ _ ⟨b2,rfl,rfl⟩
 refine zV O O (yT O m) ?_
 rintro _ _ ⟨b3,rfl,rfl⟩
 refine A O<|H<|zK<|F O<|zP kA (R 1 O) O<|qI O ok200 (ref14_Validate e (by omega)) ⟨G,O,T⟩<|A O<|H<|F O<|A O<|yM O<|H<|zD O (fun c1=>?_) (fun c1=>?_)
 ·try simp only [I] at c1
  refine F O<|yP O m pl38<|A O<|Y 0 L O<|A O<|H<|o<|w (y yN O (R 0 O) O) (J O) ?_
  rw [exprT_1 c1];rfl
 ·try simp only [I] at c1
  refine zM<|F O<|zP kA (R 1 O) O<|qI O ok201 (OwnR.pur (ref14_All e (by omega))) ⟨G,O,T⟩<|A O<|H<|zK<|F O<|A O<|H<|zR<|zY ⟨[(10,.c _),(1,.c _),(3,.c _),(5,.c _),(6,.c _),(9,.c _)],[_,_,_]⟩ (Weak.mk [true,true,true] ⟨G,G,G,G,G,G,T⟩ O)<|qK 1 0 O O (Nat) (fun k=>[(10,vI k)]) (fun k=>[]) (fun k=>k<=(dG e).length/\(dK n.Bufs (bd.map Bd.Name) (dG e)=dK n.Bufs (bd.map Bd.Name) ((dG e).drop k))) (fun k=>(dG e).length-k) ⟨0,⟨by omega,O⟩,Weak.mk [true,true,true] ⟨G,G,G,G,G,G,T⟩ O⟩ ?_
  rintro k ⟨hk,hp⟩
  refine zK<|F O<|A O<|A O<|qC O g<|yD O<|H<|zD O (fun c2=>?_) (fun c2=>?_)
  ·try simp only [I] at c2
   obtain ⟨x,hx⟩:=qY (dG e) k (by omega)
   refine zM<|zK<|zR<|zK<|qZ 8 mixed (by kernel_rfl) O O<|M O O (qB O yY O (R 2 O) O)<|M O O (zN O O)<|M O O (zN O O)<|M O O (zN O O)<|M O O (qF O g O O (by omega) (zEn (by assumption)))<|M O O (qB O kA O qA O)<|M O O (qM O ok202 (ref30_node n bd x hn hb (by have:=zFp e x (zZ hx);omega)) ⟨G,O,G,O,G,O,T⟩)<|M O O (yA O O)<|kE<|H<|F O<|A O<|yM O<|H<|zD O (fun c3=>?_) (fun c3=>?_)
   ·try simp only [I] at c3
    refine F O<|yP O m pl38<|A O<|Y 0 L O<|A O<|H<|o<|w (y yN O (R 0 O) O) (J O) ?_
    rw [exprT_2 c1 (by rw [hp,nodesN_no hx c3];exact c3),hp,nodesN_no hx c3];rfl
   ·try simp only [I] at c3
    refine zM<|zQ O<|A O<|qJ O ⟨by omega,by omega⟩<|A O<|H ?_
    refine ⟨k+1,⟨by omega,hp.trans (nodesN_at hx c3)⟩,(by omega),Weak.mk [true,true,true] ⟨G,G,G,G,G,G,T⟩ O⟩
  ·try simp only [I] at c2
   refine qQ<|F O<|zP yY (R 2 O) O<|zP kA (R 1 O) O<|qI O ok203 (ref30_Kind n e hn (zGq c1) (by omega)) ⟨G,O,G,O,T⟩<|yJ O<|qU O<|Y 0 L O<|A O<|H<|o<|w (y yN O (R 0 O) O) (J O) ?_
   rw [exprT_k c1 (by rw [hp,yW (by omega)];rfl)];rfl
theorem ref30_plain (s:St) (hs:s.wt<=900000000):
    Pur cfg 179 [vSt s] (vB (dN s)):=by
 refine zT Tryz.func179 O Tryz.ntmps179 Tryz.results179 O ?_
 intro z hz
 obtain ⟨hE,hI,hIw,hB,hBw⟩:=St.parts hs
 refine F O<|zV O O (qN O O) ?_
 rintro _ _ ⟨b1,rfl,rfl⟩
 refine A O<|H<|zK<|qZ 8 mixed (by kernel_rfl) O O<|M O O (zE O zAp O)<|M O O (zF O one3 O (R 0 O) O)<|M O O (yH O O O)<|M O O (zE O zAp O)<|M O O (zF O one3 O (R 0 O) O)<|M O O (yH O O O)<|M O O (yA O O)<|M O O (yA O O)<|kE<|H<|F O<|zG O zAp<|zJ one3 (R 0 O) O<|yF O<|A O<|rL0 O (fun g2_3=>zE O zAp O) O<|B 16 O (fun g2_3=>zF O one3 O (R 0 O) O) O<|B 17 O (fun g2_3=>yH O O O) O<|r_or O (fun h=>(lzf h))<|A O<|H<|zK<|F O<|A O<|kQ O<|A O<|rL0 O (fun g3_2=>zN O O) O<|B 23 O (fun g3_2=>kW O O) O<|yQ O (fun h=>h)<|A O<|rL0 O (fun g3_6=>zN O O) O<|B 27 O (fun g3_6=>kW O O) O<|yQ O (fun h=>h)<|H<|zD O (fun c1=>?_) (fun c1=>?_)
 ·refine F O<|A O<|H<|o<|X O ?_
  exact congrArg vB (pln_1 c1)
 ·refine zM<|zK<|F O<|A O<|kQ O<|A O<|rL0 O (fun g5_2=>zE O zAc O) O<|B 33 O (fun g5_2=>zF O one3 O (R 0 O) O) O<|B 34 O (fun g5_2=>kN O O O) O<|B 35 O (fun g5_2=>zN O O) O<|rLz [] O N T (fun g5_6=>zE O zHg O) O<|rLz [(37,_)] O N ⟨O,O,T⟩ (fun g5_6=>zF O one3 O (R 0 O) O) O<|rLz [(38,_)] O N ⟨O,O,T⟩ (fun g5_6=>kN O O O) O<|B 36 O (fun g5_2=>zAu O O O O (fun h=>kD (by assumption) (lzf h))) O<|yQ O (fun h=>h)<|A O<|rL0 O (fun g5_12=>zE O zAp O) O<|B 43 O (fun g5_12=>zF O one3 O (R 0 O) O) O<|B 44 O (fun g5_12=>kN O O O) O<|B 45 O (fun g5_12=>zN O O) O<|rLz [] O N T (fun g5_16=>zE O zRe O) O<|rLz [(47,_)] O N ⟨O,O,T⟩ (fun g5_16=>zF O one3 O (R 0 O) O) O<|rLz [(48,_)] O N ⟨O,O,T⟩ (fun g5_16=>kN O O O) O<|B 46 O (fun g5_12=>kZ O O O (fun h=>kD (by assumption) h) O) O<|r_or O (fun h=>(lzf h))<|A O<|rL0 O (fun g5_22=>zN O O) O<|B 53 O (fun g5_22=>zN O O) O<|rLz [] O N T (fun g5_24=>zE O zAj O) O<|rLz [(55,_)] O N ⟨O,O,T⟩ (fun g5_24=>zF O one9 O (R 0 O) O) O<|rLz [(56,_)] O N ⟨O,O,T⟩ (fun g5_24=>zBu O O O) O<|B 54 O (fun g5_22=>kZ O O O (fun h=>kD (by assumption) h) O) O<|r_or O (fun h=>(lzf h))<|H<|zD O (fun c2=>?_) (fun c2=>?_)
  ·refine F O<|A O<|H<|o<|X O ?_
   exact congrArg vB (pln_2 c2)
  ·refine zM<|zK<|F O<|A O<|kQ O<|A O<|rL0 O (fun g7_2=>zE O zDo O) O<|B 63 O (fun g7_2=>zF O wO O (R 0 O) O) O<|B 64 O (fun g7_2=>yB O d O) O<|B 65 O (fun g7_2=>yG O O O) O<|yQ O (fun h=>h)<|A O<|rL0 O (fun g7_8=>zN O O) O<|B 69 O (fun g7_8=>zN O O) O<|rLz [] O N T (fun g7_10=>zE O kK O) O<|rLz [(71,_)] O N ⟨O,O,T⟩ (fun g7_10=>zF O kP O (R 0 O) O) O<|rLz [(72,_)] O N ⟨O,O,T⟩ (fun g7_10=>yB O D O) O<|rLz [(73,_)] O N ⟨O,O,T⟩ (fun g7_10=>yG O O O) O<|B 70 O (fun g7_8=>kZ O O O (fun h=>kD (by assumption) h) O) O<|r_or O (fun h=>(lzf h))<|H<|zD O (fun c3=>?_) (fun c3=>?_)
   ·refine F O<|A O<|H<|o<|X O ?_
    exact congrArg vB (pln_3 c3)
   ·refine zM<|F O<|A O<|kQ O<|A O<|rL0 O (fun g9_2=>zE O zAz O) O<|B 80 O (fun g9_2=>qB O kA O (R 0 O) O) O<|rL0 O (fun g9_2=>zFh [none,none,none,none,none,none,none,none,none,none,some 2,some 4,some 13] O zr44 pl44 O O) O<|rLz [(81,_),(82,_)] O gv1 ⟨O,O,O,O,T⟩ (fun g9_2=>qM O ok141 (base_Expr s.E zEx (by omega)) ⟨G,O,G,O,T⟩) O<|r_or O (fun h=>(lzf h))<|A O<|H<|o<|X O ?_
    exact congrArg vB (pln_4 c1 c2 c3)
theorem ref30_store (n:Ns) (bd:List Bd) (s:St) (hn:n.Ok) (hb:bd.length<=1000000) (hs:s.wt<=900000):
    Pur cfg 182 [vNs n,sH bd,vSt s] (vI (jL n.Bufs (bd.map Bd.Name) s)):=by
 refine zT Tryz.func182 O Tryz.ntmps182 Tryz.results182 O ?_
 intro z hz
 obtain ⟨hE,hI,hIw,hB,hBw⟩:=St.parts hs
 have hrd:=rdE_wt s
 refine F O<|zV O O (qN O O) ?_
 rintro _ _ ⟨b1,rfl,rfl⟩
 refine zV O O (qN O O) ?_
 rintro _ _ ⟨b2,rfl,rfl⟩
 refine A O<|H<|zK<|F O<|zP yY (R 1 O) O<|A O<|zG O zAj<|zJ one9 (R 0 O) O<|zG O zDo<|zJ wO (R 0 O) O<|qT [none,none,none,none,none,none,none,none,none,none,some 2,none,some 13] O zr44 pl44<|qI O ok180 (zHw n bd (rdE s) hn hb (by omega)) ⟨G,O,G,O,G,O,T⟩<|qP O<|yJ O<|qU O<|zV O O (yT O m) ?_
 rintro _ _ ⟨b3,rfl,rfl⟩
 refine Y 0 L O<|A O<|H<|F O<|A O<|yM O<|H<|zD O (fun c1=>?_) (fun c1=>?_)
 ·try simp only [I] at c1
  refine F O<|A O<|A O<|H<|o<|X O ?_
  rw [zNl c1]
 ·try simp only [I] at c1
  refine zM<|F O<|zP yY (R 2 O) O<|zG O zAj<|zJ one9 (R 1 O) O<|qI O ok115 (zBy n s.Name hn) ⟨G,O,G,O,T⟩<|qP O<|yJ O<|qU O<|zV O O (qE [none,none,none,none,none,none,some 1,none] O zr65 O) ?_
  rintro _ _ ⟨b4,rfl,rfl⟩
  refine Y 0 sz65 O<|A O<|H<|zK<|F O<|zG O zRd<|zJ one3 (R 0 O) O<|yF O<|A O<|rL0 O (fun g5_3=>zE O zAp O) O<|B 38 O (fun g5_3=>zF O one3 O (R 2 O) O) O<|B 39 O (fun g5_3=>yH O O O) O<|B 40 O (fun g5_3=>zN O O) O<|rLz [] O N T (fun g5_7=>zE O zRe O) O<|rLz [(42,_)] O N ⟨O,O,T⟩ (fun g5_7=>zF O one3 O (R 2 O) O) O<|rLz [(43,_)] O N ⟨O,O,T⟩ (fun g5_7=>zBr O O O) O<|rLz [(44,_)] O N ⟨O,O,T⟩ (fun g5_7=>zN O O) O<|rLz [] O N T (fun g5_11=>zE O zRe O) O<|rLz [(46,_)] O N ⟨O,O,T⟩ (fun g5_11=>zF O one3 O (R 2 O) O) O<|rLz [(47,_)] O N ⟨O,O,T⟩ (fun g5_11=>yG O O O) O<|rLz [(45,_)] O N ⟨O,O,T⟩ (fun g5_7=>zAu O O O O (fun h=>kD (by assumption) (lzf h))) O<|B 41 O (fun g5_3=>kZ O O O (fun h=>kD (by assumption) h) O) O<|r_or O (fun h=>(lzf h))<|H<|zD O (fun c2=>?_) (fun c2=>?_)
  ·try simp only [I] at c2
   refine F O<|A O<|H<|o<|X O ?_
   rw [zLh c1 c2]
  ·try simp only [I] at c2
   refine zM<|F O<|zP yY (R 3 O) O<|A O<|zG O zAz<|zP kA (R 2 O) O<|qI O ok180 (zHw n bd s.E hn hb (by omega)) ⟨G,O,G,O,G,O,T⟩<|qP O<|yJ O<|qU O<|zV O O (yT O m) ?_
   rintro _ _ ⟨b5,rfl,rfl⟩
   refine Y 0 L O<|A O<|H<|zK<|F O<|A O<|yF O<|A O<|rL0 O (fun g8_2=>zE O zAz O) O<|B 63 O (fun g8_2=>qB O kA O (R 3 O) O) O<|B 64 O (fun g8_2=>qM O ok181 (wA _) ⟨G,O,T⟩) O<|B 65 O (fun g8_2=>zN O O) O<|rLz [] O N T (fun g8_6=>qB O yN O (R 0 O) O) O<|rLz [] O N T (fun g8_6=>zE O zKm O) O<|rLz [(68,_)] O N ⟨O,O,T⟩ (fun g8_6=>qB O yN O (R 1 O) O) O<|rLz [(67,_),(69,_)] O N ⟨O,O,O,O,T⟩ (fun g8_6=>zBk O fl38 O O O) O<|B 66 O (fun g8_2=>zAu O O O O (fun h=>kD (by assumption) (lzf h))) O<|yQ O (fun h=>h)<|H<|zD O (fun c3=>?_) (fun c3=>?_)
   ·obtain ⟨h0,h10⟩:=st3_t c3
    refine F O<|A O<|H<|o<|X O ?_
    rw [zTw c1 (by omega) h0 h10]
   ·have h3:=st3_f c3
    refine zM<|F O<|A O<|A O<|H<|o<|X O ?_
    rw [st_fin c1 (by omega) h3]
theorem ref30_one (n:Ns) (bd:List Bd) (U:List ByteArray) (s:St) (hn:n.Ok) (hb:bd.length<=1000000) (hs:s.wt<=900000) (hU:U.length<=1000000):
    Pur cfg 150 [vNs n,sH bd,vSs U,vSt s] (vI (stE n.Bufs U (bd.map Bd.Name) s)):=by
 refine zT Tryz.func150 O Tryz.ntmps150 Tryz.results150 O ?_
 intro z hz
 obtain ⟨hE,hI,hIw,hB,hBw⟩:=St.parts hs
 refine F O<|zV O O (qN O O) ?_
 rintro _ _ ⟨b1,rfl,rfl⟩
 refine zV O O (qN O O) ?_
 rintro _ _ ⟨b2,rfl,rfl⟩
 refine A O<|H<|zK<|F O<|zP zAv (R 0 O) O<|qI O ok179 (ref30_plain s (by omega)) ⟨G,O,T⟩<|kQ O<|H<|zD O (fun c1=>?_) (fun c1=>?_)
 ·try simp only [I] at c1
  refine F O<|A O<|H<|o<|X O ?_
  rw [stE_5 c1]
 ·try simp only [I] at c1
  refine zM<|zK<|F O<|zG O zAp<|zJ one3 (R 0 O) O<|H<|zR<|F O<|yF O<|A O<|H<|zD O (fun c2=>?_) (fun c2=>?_)
  ·try simp only [I] at c2
   refine F O<|zP yY (R 1 O) O<|zG O zAj<|zJ one9 (R 0 O) O<|qI O ok115 (zBy n s.Name hn) ⟨G,O,G,O,T⟩<|qP O<|yJ O<|qU O<|zV O O (qE [none,none,none,none,none,none,some 1,none] O zr65 O) ?_
   rintro _ _ ⟨b3,rfl,rfl⟩
   refine Y 0 sz65 O<|A O<|H<|zK<|zR<|F O<|zG O zAj<|zJ one9 (R 1 O) O<|qI O ok60 (zEq s.Name) ⟨G,O,T⟩<|kQ O<|A O<|H<|zD O (fun c3=>?_) (fun c3=>?_)
   ·try simp only [I] at c3
    refine F O<|A O<|H<|o<|X O ?_
    rw [zPr c1 c2,loopE_7 c3]
   ·try simp only [I] at c3
    refine F O<|A O<|A O<|rL0 O (fun g8_1=>zN O O) O<|rL0 O (fun g8_1=>zE O zAj O) O<|B 36 O (fun g8_1=>zF O one9 O (R 1 O) O) O<|rLz [(35,_),(37,_)] O gv1 ⟨O,O,O,O,T⟩ (fun g8_1=>qM O ok113 (zTf U s.Name (by omega)) ⟨G,O,G,O,T⟩) O<|r_or O (fun h=>(lzf h))<|A O<|H<|zD O (fun c4=>?_) (fun c4=>?_)
    ·try simp only [I] at c4
     refine F O<|A O<|H<|o<|X O ?_
     rw [zPr c1 c2,loopE_8 c3 c4]
    ·try simp only [I] at c4
     have h8:¬(dM n.Bufs s.Name=true∨bK U s.Name=true):=by rw [c4.1,c4.2];simp
     refine F O<|zG O zAc<|zJ one3 (R 1 O) O<|yD O<|A O<|rL0 O (fun g10_3=>zE O zAc O) O<|B 45 O (fun g10_3=>zF O one3 O (R 1 O) O) O<|B 46 O (fun g10_3=>yG O O O) O<|r_or O (fun h=>(lzf h))<|A O<|rL0 O (fun g10_8=>zE O zHg O) O<|B 50 O (fun g10_8=>zF O one3 O (R 1 O) O) O<|B 51 O (fun g10_8=>zBr O O O) O<|r_or O (fun h=>(lzf h))<|A O<|rL0 O (fun g10_13=>zE O zHg O) O<|B 55 O (fun g10_13=>zF O one3 O (R 1 O) O) O<|B 56 O (fun g10_13=>yG O O O) O<|r_or O (fun h=>(lzf h))<|A O<|H<|zD O (fun c5=>?_) (fun c5=>?_)
     ·try simp only [I] at c5
      refine F O<|A O<|H<|o<|X O ?_
      rw [zPr c1 c2,loopE_1 c3 h8 (by omega)]
     ·try simp only [I] at c5
      refine zM<|F O<|A O<|H<|o<|X O ?_
      rw [zPr c1 c2,loopE_0 c3 h8 (by omega)]
  ·try simp only [I] at c2
   refine F O<|yF O<|A O<|H<|zD O (fun c6=>?_) (fun c6=>?_)
   ·try simp only [I] at c6
    refine F O<|zP yY (R 1 O) O<|A O<|zG O zAz<|zP kA (R 0 O) O<|qI O ok180 (zHw n bd s.E hn hb (by omega)) ⟨G,O,G,O,G,O,T⟩<|qP O<|yJ O<|qU O<|zV O O (yT O m) ?_
    rintro _ _ ⟨b4,rfl,rfl⟩
    refine Y 0 L O<|A O<|H<|zK<|F O<|A O<|yF O<|A O<|rL0 O (fun g15_2=>zE O zAz O) O<|B 72 O (fun g15_2=>qB O kA O (R 1 O) O) O<|B 73 O (fun g15_2=>qM O ok181 (wA _) ⟨G,O,T⟩) O<|B 74 O (fun g15_2=>kW O O) O<|yQ O (fun h=>h)<|H<|zD O (fun c7=>?_) (fun c7=>?_)
    ·refine F O<|A O<|H<|o<|X O ?_
     rw [zTx c1 c6,if_t c7]
    ·refine zM<|F O<|A O<|A O<|H<|o<|X O ?_
     rw [zTx c1 c6,if_fin c7]
   ·try simp only [I] at c6
    refine zM<|F O<|zP yY (R 1 O) O<|A O<|zP zAv (R 0 O) O<|qI O ok182 (ref30_store n bd s hn hb hs) ⟨G,O,G,O,G,O,T⟩<|A O<|H<|o<|X O ?_
    rw [stE_s c1 c2 c6]
set_option maxHeartbeats 2000000 in
theorem zJx (n:Ns) (bd:List Bd) (U:List ByteArray) (l:List St) (W:List Int) (hn:n.Ok) (hU:U.length+bN l<=1000000) (hb:bd.length+bN l<=1000000) (hW:W.length+bN l<=1000000) (hl:bC l<=900000) (ih:∀s,s∈l->∀(bd:List Bd) (U:List ByteArray) (W:List Int),U.length+bN s.Body<=1000000->bd.length+bN s.Body<=1000000->W.length+bN s.Body<=1000000->Pur cfg 112 [vNs n,sH bd,vSs U,bM s.Body,vIs W] (ckC (bR n.Bufs U (bd.map Bd.Name) W 0 s.Body))):
    Pur cfg 112 [vNs n,sH bd,vSs U,bM l,vIs W] (ckC (bR n.Bufs U (bd.map Bd.Name) W 0 l)):=by
 refine zT Tryz.func112 O Tryz.ntmps112 Tryz.results112 O ?_
 intro z hz
 have hll:=kO l
 have hlN:=zBt l
 refine F O<|zV O O (qN O O) ?_
 rintro _ _ ⟨b1,rfl,rfl⟩
 refine zV O O (qE [some 1,some 1,none] O zr148 O) ?_
 rintro _ _ ⟨b2,rfl,rfl⟩
 refine H<|zK<|F O<|A O<|H<|zR<|zY ⟨[(11,.c _),(2,.c _),(1,.c _),(3,.c _),(4,.c _),(5,.c _),(10,.c _)],[_,_]⟩ (Weak.mk [true,true] ⟨G,G,G,G,G,G,G,T⟩ O)<|qK 2 0 O O (Nat×List ByteArray) (fun ⟨k,u⟩=>[(11,vI k),(2,vSs u)]) (fun ⟨k,u⟩=>[]) (fun ⟨k,u⟩=>k<=l.length/\(u.length+bN (l.drop k)<=1000000)/\((bR n.Bufs U (bd.map Bd.Name) W 0 l)=bR n.Bufs u (bd.map Bd.Name) W k (l.drop k))) (fun ⟨k,u⟩=>l.length-k) ⟨⟨0,U⟩,⟨by omega,by simpa using hU,O⟩,Weak.mk [true,true] ⟨G,VLe.of_eq (O),G,G,G,G,G,T⟩ O⟩ ?_
 rintro ⟨k,u⟩ ⟨hk,hub,hp⟩
 show AWP _ _ _ _ _ ⟨[(11,vI k),(2,vSs u)]++_,[]++_⟩
 refine zK<|F O<|A O<|A O<|qC O D<|yD O<|H<|zD O (fun c1=>?_) (fun c1=>?_)
 ·try simp only [I] at c1
  obtain ⟨s,hs⟩:=qY l k (by omega)
  have hsw:=yC (zZ hs)
  have hsb:=St.body_wt s
  have hsn:=stsN_drop hs
  have hse:=zDi s
  have hsm:=zHq (zZ hs)
  have hcl:=chkS_len n.Bufs s u (bd.map Bd.Name) (W++[(k:Int)])
  refine zM<|zK<|zR<|F O<|zU O (zMx O K zr3)<|A O<|zV O O (zMs O K O O (by simp only [List.length_map,List.length_append,List.length_cons,List.length_nil];omega) (by simp only [List.length_map,List.length_append,List.length_cons,List.length_nil];omega)) ?_
  rintro _ _ ⟨sv3,rfl,rfl⟩
  refine A O<|yV O K zr3<|zV O O (qV 0 O K O O O (by simp only [List.length_map,List.length_append,List.length_cons,List.length_nil];omega) (by simp only [List.length_map,List.length_append,List.length_cons,List.length_nil];omega)) ?_
  rintro _ _ ⟨sv4,rfl,rfl⟩
  refine A O<|H<|zK<|zK<|zY _ (Weak.vecEq 0 O (rows':=(W++[(k:Int)]).map fun i=>[cI i]) (by first|rfl|simp|rw [List.take_of_length_le (by simp)]))<|zY _ (yK 0 O (regs':=[(27,_),(12,_)]) (μ':=[_,_]) ⟨FLe.sl,FLe.sl,T⟩ ⟨EFle.refl _,EFle.refl _,T⟩)<|qZ 9 mixed (by kernel_rfl) O O<|M O O (qB O yY O (R 1 O) O)<|M O O (zN O O)<|M O O (zN O O)<|M O O (zN O O)<|M O O (zN O O)<|M O O (qF O D O O (by omega) (wD (by assumption)))<|M O O (qB O zAv O qA O)<|M O O (qM O ok150 (ref30_one n bd u s hn (by omega) (by have:=yC (zZ hs);omega) (by omega)) ⟨G,O,G,O,G,O,G,O,T⟩)<|M O O (yA O O)<|kE<|H<|F O<|A O<|yM O<|H<|zD O (fun c2=>?_) (fun c2=>?_)
  ·try simp only [I] at c2
   have hx0:=chkS_no (here:=W++[(k:Int)]) (B:=n.Bufs) (U:=u) (sc:=(bd.map Bd.Name)) (s:=s) c2
   refine F O<|A O<|A O<|qT [some 1,none,none] O zr148 pl148<|Y 0 sz148 O<|H<|o<|fin1 (y agg148 O (R 0 O) O) ?_
   rw [zEt hs hp (by rw [hx0];exact c2),hx0];rfl
  ·try simp only [I] at c2
   have hin:=zKx (here:=W++[(k:Int)]) (B:=n.Bufs) (U:=u) (sc:=(bd.map Bd.Name)) (s:=s) c2
   refine zM<|F O<|A O<|A O<|H<|zK<|F O<|A O<|A O<|qD O D (by omega) (wD (by assumption))<|qO O zAp<|zJ one3 qA O<|yF O<|H<|zD O (fun c3=>?_) (fun c3=>?_)
   ·try simp only [I] at c3
    rw [wW c3,wW c3,←map_bd] at hin
    refine zK<|kL 9 1 [⟨0,.q []⟩,⟨1,.q []⟩,⟨3,.q []⟩,⟨4,.q []⟩,⟨5,.q []⟩,⟨6,.q []⟩,⟨7,.q []⟩,⟨8,.q []⟩,⟨2,.e 0 []⟩] mixed (by kernel_rfl) (by kernel_rfl) O O O<|p O<|p O<|p O<|p O<|p O<|p O<|p O<|p O<|p O<|zBo<|t O (by decide) O O (zMx O zGn zr9)<|t O (by decide) O O (zN O O)<|t O (by decide) O O (zN O O)<|t O (by decide) O O (zN O O)<|t O (by decide) O O (qF O D O O (by omega) (wD (by assumption)))<|t O (by decide) O O (qL O zAj O)<|t O (by decide) O O (zF O one9 O qA O)<|t O (by decide) O O (wQ O zGn zr9 O O O O)<|zHr O O (by decide) O O (zMs O zGn O O (by simp only [List.length_map,List.length_append,List.length_cons,List.length_nil];omega) (by simp only [List.length_map,List.length_append,List.length_cons,List.length_nil];omega)) ?_
    rintro _ _ ⟨sv5,rfl,rfl⟩
    refine ⟨_,O,?_⟩
    refine zBl O<|zV O O (qV 0 O zGn O O O (by simp only [List.length_map,List.length_append,List.length_cons,List.length_nil];omega) (by simp only [List.length_map,List.length_append,List.length_cons,List.length_nil];omega)) ?_
    rintro _ _ ⟨sv6,rfl,rfl⟩
    refine A O<|H<|kL 15 1 [⟨0,.q []⟩,⟨1,.q []⟩,⟨3,.q []⟩,⟨4,.q []⟩,⟨5,.q []⟩,⟨6,.q []⟩,⟨7,.q []⟩,⟨8,.q []⟩,⟨9,.q []⟩,⟨10,.q []⟩,⟨11,.q []⟩,⟨12,.q []⟩,⟨13,.q []⟩,⟨14,.q []⟩,⟨2,.e 0 []⟩] mixed (by kernel_rfl) (by kernel_rfl) O O O<|p O<|p O<|p O<|p O<|p O<|p O<|p O<|p O<|p O<|p O<|p O<|p O<|p O<|p O<|p O<|zBo<|t O (by decide) O O (zMx O el73 zr80)<|t O (by decide) O O (zN O O)<|t O (by decide) O O (zN O O)<|t O (by decide) O O (zN O O)<|t O (by decide) O O (qF O D O O (by omega) (wD (by assumption)))<|t O (by decide) O O (qL O zAj O)<|t O (by decide) O O (zF O one9 O qA O)<|t O (by decide) O O (zN O O)<|t O (by decide) O O (zN O O)<|t O (by decide) O O (qF O D O O (by omega) (wD (by assumption)))<|t O (by decide) O O (qL O zAc O)<|t O (by decide) O O (zF O one3 O qA O)<|t O (by decide) O O (zDq O zr80 pl80 O)<|t O (by decide) O O (wQ O el73 zr80 O O O O)<|zHr O O (by decide) O O (zMs O el73 O O (by simp only [List.length_map,List.length_append,List.length_cons,List.length_nil];omega) (by simp only [List.length_map,List.length_append,List.length_cons,List.length_nil];omega)) ?_
    rintro _ _ ⟨sv7,rfl,rfl⟩
    refine ⟨_,O,?_⟩
    refine zBl O<|zV O O (qV 0 O el73 O O O (by simp only [List.length_map,List.length_append,List.length_cons,List.length_nil];omega) (by simp only [List.length_map,List.length_append,List.length_cons,List.length_nil];omega)) ?_
    rintro _ _ ⟨sv8,rfl,rfl⟩
    refine A O<|H<|zK<|zY _ (Weak.vecEq 1 O (rows':=(u++[s.Name]).map fun s=>[cS s]) (by first|rfl|simp|rw [List.take_of_length_le (by simp)]))<|zY _ (yK 1 O (regs':=[(2,_),(57,_)]) (μ':=[_,_,_]) ⟨FLe.sl,FLe.sl,T⟩ ⟨EFle.refl _,EFle.refl _,EFle.refl _,T⟩)<|zY _ (Weak.vecEq 0 O (rows':=(bd++[(⟨s.Name,s.Many⟩:Bd)]).map Bd.cells) (by rw [List.map_append];rfl))<|zY _ (yK 0 O (regs':=[(14,_),(73,_)]) (μ':=[_,_]) ⟨FLe.sl,FLe.sl,T⟩ ⟨EFle.refl _,EFle.refl _,T⟩)<|kL 11 1 [⟨0,.q [2]⟩,⟨1,.q []⟩,⟨2,.q []⟩,⟨3,.q []⟩,⟨4,.q []⟩,⟨5,.q []⟩,⟨6,.q []⟩,⟨7,.q []⟩,⟨8,.q []⟩,⟨9,.q []⟩,⟨10,.f 0⟩] mixed (by kernel_rfl) (by kernel_rfl) O O O<|p O<|p O<|p O<|p O<|p O<|p O<|p O<|p O<|p O<|p O<|zOq O O (zEo (qE [some 1,some 1,none] O zr148 O)) ⟨_,_,0,O,O⟩<|zBo<|t O (by decide) O O (qB O yY O (R 0 O) O)<|t O (by decide) O O (zN O O)<|t O (by decide) O O (zN O O)<|t O (by decide) O O (zN O O)<|t O (by decide) O O (zN O O)<|t O (by decide) O O (qF O D O O (by omega) (wD (by assumption)))<|t O (by decide) O O (qL O kK O)<|t O (by decide) O O (zF O kP O qA O)<|t O (by decide) O O (zN O O)<|t O (by decide) O O (qM O ok112 (ih s (zZ hs) (bd++[(⟨s.Name,s.Many⟩:Bd)]) (u++[s.Name]) (W++[(k:Int)]) (by first|omega|(simp;omega)) (by first|omega|(simp;omega)) (by simp;omega)) ⟨G,O,G,O,G,O,G,O,G,O,T⟩)<|zNn O O ?_
    rintro _ _ ⟨b9,rfl,rfl⟩
    refine zBl O<|Y 0 sz148 O<|H<|zK<|F O<|zG O fd148_2<|zJ zKc (R 0 O) O<|yM O<|H<|zD O (fun c4=>?_) (fun c4=>?_)
    ·try simp only [I] at c4
     rw [←hin] at c4
     refine F O<|zP agg148 (R 0 O) O<|Y 1 sz148 O<|H<|o<|fin1 (y agg148 O (R 1 O) O) ?_
     rw [zEt hs hp c4,hin];rfl
    ·try simp only [I] at c4
     rw [←hin] at c4
     refine zM<|zQ O<|zG O fd148_0<|zJ zOc (R 0 O) O<|A O<|H<|zQ O<|A O<|qJ O ⟨by omega,by omega⟩<|A O<|H ?_
     refine ⟨⟨k+1,(fC n.Bufs u (bd.map Bd.Name) (W++[(k:Int)]) s).U⟩,⟨by omega,by omega,zPd hs hp c4⟩,(by show l.length-(k+1)<l.length-k;omega),Weak.mk [false,true,true] ⟨G,VLe.of_eq (congrArg vSs (by rw [hin])),G,G,G,G,G,T⟩ O⟩
   ·try simp only [I] at c3
    rw [zGg c3,zGg c3] at hin
    refine zM<|zK<|kL 11 1 [⟨0,.q [2]⟩,⟨1,.q []⟩,⟨2,.q []⟩,⟨3,.q []⟩,⟨4,.q []⟩,⟨5,.q []⟩,⟨6,.q []⟩,⟨7,.q []⟩,⟨8,.q []⟩,⟨9,.q []⟩,⟨10,.f 0⟩] mixed (by kernel_rfl) (by kernel_rfl) O O O<|p O<|p O<|p O<|p O<|p O<|p O<|p O<|p O<|p O<|p O<|zOq O O (zEo (qE [some 1,some 1,none] O zr148 O)) ⟨_,_,0,O,O⟩<|zBo<|t O (by decide) O O (qB O yY O (R 0 O) O)<|t O (by decide) O O (zN O O)<|t O (by decide) O O (zN O O)<|t O (by decide) O O (zN O O)<|t O (by decide) O O (zN O O)<|t O (by decide) O O (qF O D O O (by omega) (wD (by assumption)))<|t O (by decide) O O (qL O kK O)<|t O (by decide) O O (zF O kP O qA O)<|t O (by decide) O O (zN O O)<|t O (by decide) O O (qM O ok112 (ih s (zZ hs) bd u (W++[(k:Int)]) (by first|omega|(simp;omega)) (by first|omega|(simp;omega)) (by simp;omega)) ⟨G,O,G,O,G,O,G,O,G,O,T⟩)<|zNn O O ?_
    rintro _ _ ⟨b10,rfl,rfl⟩
    refine zBl O<|Y 0 sz148 O<|H<|zK<|F O<|zG O fd148_2<|zJ zKc (R 0 O) O<|yM O<|H<|zD O (fun c4=>?_) (fun c4=>?_)
    ·try simp only [I] at c4
     rw [←hin] at c4
     refine F O<|zP agg148 (R 0 O) O<|Y 1 sz148 O<|H<|o<|fin1 (y agg148 O (R 1 O) O) ?_
     rw [zEt hs hp c4,hin];rfl
    ·try simp only [I] at c4
     rw [←hin] at c4
     refine zM<|zQ O<|zG O fd148_0<|zJ zOc (R 0 O) O<|A O<|H<|zQ O<|A O<|qJ O ⟨by omega,by omega⟩<|A O<|H ?_
     refine ⟨⟨k+1,(fC n.Bufs u (bd.map Bd.Name) (W++[(k:Int)]) s).U⟩,⟨by omega,by omega,zPd hs hp c4⟩,(by show l.length-(k+1)<l.length-k;omega),Weak.mk [false,true,true] ⟨G,VLe.of_eq (congrArg vSs (by rw [hin])),G,G,G,G,G,T⟩ O⟩
 ·try simp only [I] at c1
  refine qQ<|F O<|A O<|qT [none,some 1,none] O zr148 pl148<|Y 0 sz148 O<|H<|o<|fin1 (y agg148 O (R 0 O) O) ?_
  rw [zTa hp (by omega)];rfl
theorem zUp (n:Ns) (hn:n.Ok) (s:St) (hl:bC s.Body<=900000):∀(bd:List Bd) (U:List ByteArray) (W:List Int),U.length+bN s.Body<=1000000->bd.length+bN s.Body<=1000000->W.length+bN s.Body<=1000000->Pur cfg 112 [vNs n,sH bd,vSs U,bM s.Body,vIs W] (ckC (bR n.Bufs U (bd.map Bd.Name) W 0 s.Body)):=by
  induction s using St.ind with
  |_ s ih=>
    intro bd U W hU hb hW
    refine zJx n bd U s.Body W hn hU hb hW hl fun a ha=>ih a ha ?_
    have:=yC ha;have:=St.body_wt a;omega
theorem ref30_body (n:Ns) (bd:List Bd) (U:List ByteArray) (l:List St) (W:List Int)  (hn:n.Ok) (hU:U.length+bN l<=1000000) (hb:bd.length+bN l<=1000000) (hW:W.length+bN l<=1000000) (hl:bC l<=900000):Pur cfg 112 [vNs n,sH bd,vSs U,bM l,vIs W] (ckC (bR n.Bufs U (bd.map Bd.Name) W 0 l)):=
  zJx n bd U l W hn hU hb hW hl fun s hs=>zUp n hn s (by have:=yC hs;have:=St.body_wt s;omega)
theorem ref30_Validate (n:Ns) (hn:n.Ok) (hw:bC n.Body<=900000):
    Pur cfg 58 [vNs n] (.tup [vIs (dO n).1,vI (dO n).2]):=by
 refine zT Tryz.func58 O Tryz.ntmps58 Tryz.results58 O ?_
 intro z hz
 refine F O<|zV O O (qN O O) ?_
 rintro _ _ ⟨b1,rfl,rfl⟩
 refine qX 1 O<|A O<|H<|zK<|F O<|zG O zAd<|zJ kP (R 0 O) O<|qI O ok110 (ref30_depth 41 n.Body 41 (by omega) (by omega) O) ⟨G,O,G,O,T⟩<|zU O (yG O O O)<|H<|zD O (fun c1=>?_) (fun c1=>?_)
 ·try simp only [I] at c1
  have hwi:=within_f c1
  refine F O<|qX 1 O<|A O<|H<|o<|w (J O) (J O) ?_
  rw [zTr hwi];rfl
 ·try simp only [I] at c1
  have hwi:=within_t c1
  refine zM<|zK<|F O<|zG O zAd<|zJ kP (R 0 O) O<|qI O ok46 (ref30_size n.Body 2000 2000 (by omega) (by omega) O) ⟨G,O,G,O,T⟩<|zU O (yG O O O)<|A O<|rL0 O (fun g3_4=>zE O zAt O) O<|B 15 O (fun g3_4=>zF O zEk O (R 0 O) O) O<|B 16 O (fun g3_4=>yB O el22 O) O<|B 17 O (fun g3_4=>yG O O O) O<|r_or O (fun h=>(lzf h))<|H<|zD O (fun c2=>?_) (fun c2=>?_)
  ·try simp only [I] at c2
   refine F O<|qX 1 O<|A O<|H<|o<|w (J O) (J O) ?_
   rw [validN_2 hwi (by omega)];rfl
  ·try simp only [I] at c2
   have hnum:=numB_ok (l:=n.Body) (m:=2000) (by omega)
   refine zM<|zK<|F O<|zP yY (R 0 O) O<|qI O ok111 (ref30_bufs n hn) ⟨G,O,T⟩<|A O<|H<|F O<|A O<|yM O<|H<|zD O (fun c3=>?_) (fun c3=>?_)
   ·try simp only [I] at c3
    refine F O<|A O<|qX 1 O<|A O<|H<|o<|w (J O) (J O) ?_
    rw [validN_b hwi (by omega) c3];rfl
   ·try simp only [I] at c3
    refine zM<|F O<|zP yY (R 0 O) O<|zG O zAd<|zJ kP (R 0 O) O<|qI O ok112 (ref30_body n [] [] n.Body [] hn (by simp;omega) (by simp;omega) (by simp;omega) hw) ⟨G,O,VLe.nil,O,VLe.nil,O,G,O,VLe.nil,O,T⟩<|zV O O (qE [some 1,some 1,none] O zr148 O) ?_
    rintro _ _ ⟨b2,rfl,rfl⟩
    refine Y 0 sz148 O<|H<|zK<|qZ 6 mixed (by kernel_rfl) O O<|M O O (zE O fd148_1 O)<|M O O (zF O zGy O (R 0 O) O)<|M O O (zE O fd148_2 O)<|M O O (zF O zKc O (R 0 O) O)<|M O O (yA O O)<|M O O (yA O O)<|kE<|H<|o<|w (J O) (J O) ?_
    rw [zNg hwi (by omega) c3];rfl
end Go.W
