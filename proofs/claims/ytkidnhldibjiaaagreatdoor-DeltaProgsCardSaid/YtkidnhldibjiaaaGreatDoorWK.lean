/-
  What functions compute.
  Conditions: none.
-/
import Derived.Test.YtkidnhldibjiaaaGreatDoorGC
import Derived.Test.YtkidnhldibjiaaaGreatDoorPlain
set_option linter.unusedSimpArgs false
set_option linter.unusedVariables false
set_option maxRecDepth 10000
namespace Go.W
open Go Go.Eng Go.Proofs Go.L41 Go.Br
attribute [local irreducible] AWP RWP TD fL
theorem zMf:mY Tryz.prog 111=some 3:=by kernel_rfl
theorem el23:dM Tryz.prog 23=some (101,3,40):=by kernel_rfl
theorem el24:dM Tryz.prog 24=some (67,7,80):=by kernel_rfl
theorem N:dM Tryz.prog 61=some (111,3,48):=by kernel_rfl
theorem el185:dM Tryz.prog 185=some (61,1,24):=by kernel_rfl
theorem el214:dM Tryz.prog 214=some (3,1,8):=by kernel_rfl
theorem zCl:bM Tryz.prog 27 0=some (0,22):=by kernel_rfl
theorem zBu:bM Tryz.prog 27 1=some (1,23):=by kernel_rfl
theorem wM:bM Tryz.prog 27 2=some (2,24):=by kernel_rfl
theorem zFh:bM Tryz.prog 27 4=some (4,22):=by kernel_rfl
theorem zAt:bM Tryz.prog 63 2=some (6,61):=by kernel_rfl
theorem kU:bM Tryz.prog 63 3=some (7,61):=by kernel_rfl
theorem zGg:bM Tryz.prog 63 4=some (8,3):=by kernel_rfl
theorem zGw:bM Tryz.prog 101 0=some (0,40):=by kernel_rfl
theorem zAm:bM Tryz.prog 111 0=some (0,9):=by kernel_rfl
theorem ik3:rX Tryz.prog 3=some .i64:=by kernel_rfl
theorem ok157:bA Tryz.prog 157=true:=by kernel_rfl
theorem ok192:bA Tryz.prog 192=true:=by kernel_rfl
theorem ok210:bA Tryz.prog 210=true:=by kernel_rfl
theorem zBn:lS Tryz.prog 22=true:=by kernel_rfl
theorem zHj:lS Tryz.prog 23=true:=by kernel_rfl
theorem zBm:lS Tryz.prog 24=true:=by kernel_rfl
theorem kY:lS Tryz.prog 61=true:=by kernel_rfl
theorem sz111:(Tryz.prog.info? 111).map (·.size)=some 3:=by kernel_rfl
theorem zr61:fD Tryz.prog 61=some [(Value.slice none 0 0)]:=by kernel_rfl
theorem zJb:fD Tryz.prog 111=some [(Value.string (ByteArray.mk #[])),(Value.int IntKind.i64 0),(Value.slice none 0 0)]:=by kernel_rfl
theorem slices_Grow_ax (n:Nat) (hn:n<=4294967296):
    OwnR cfg 210 [.c (.lit (.slice none 0 0)),vI n] 111 3 ([]):=by
 refine zW Tryz.func210 O Tryz.ntmps210 Tryz.results210 O ?_
 intro z hz
 refine Y O<|qA O (yQ 3 O O)<|W<|zM<|Y O<|G O<|yI O<|W<|zH O (fun c1=>?_) (fun c1=>?_)
 ·try simp only [sx] at c1
  exact absurd c1 (by omega)
 ·try simp only [sx] at c1
  refine zN<|zM<|Y O<|G O<|G O<|qA O (zSk O N O)<|G O<|qA O (zSj O N O)<|qA O (kP O O O ⟨by omega,by omega⟩)<|qA O (kP O O O ⟨by omega,by omega⟩)<|G O<|W<|Y O<|G O<|qA O (yL O O O)<|W<|zH O (fun c2=>?_) (fun c2=>?_)
  ·try simp only [sx] at c2
   refine zT O<|G O<|G O<|qA O (zSk O N O)<|qA O (det_cut_nil O N O O)<|G O<|zY O O (ope_grow n O N ik3 O O (by omega) (by omega) (by omega) (by omega)) ?_
   rintro _ _ ⟨b1,cap1,rfl,hcap1,rfl⟩
   refine G O<|qA O (zSj O N O)<|qA O (det_cut_row 0 O N O O O ⟨by omega,hcap1⟩)<|G O<|W<|Y O<|G O<|G O<|W<|zO<|zV O ?_
   exact ⟨_,O,O⟩
  ·refine zN<|Y O<|G O<|yE _ (yU 111 3)<|G O<|W<|zO<|zV O ?_
   exact ⟨_,O,O⟩
theorem zOo (ls:List (List Ax)) (hl:ls.length<=4294967296) (ht:lG ls<=4294967296):
    OwnR cfg 157 [.c (.sl 1 (ls.map fun l=>[.sl 3 (l.map Ax.cells)]))] 111 3 (ls.flatten.map Ax.cells):=by
 refine zW Tryz.func157 O Tryz.ntmps157 Tryz.results157 O ?_
 intro z hz
 refine Y O<|qA O (yQ 3 O O)<|W<|Y O<|G O<|W<|zM<|Y O<|G O<|qB O el185<|G O<|W<|zR<|qC ⟨[(11,.c _),(3,.c _),(0,.c _),(9,.c _),(10,.c _)],[]⟩ (Weak.mk [] ⟨U,U,U,U,U,T⟩ O)<|qG 2 0 O O (Nat) (fun k=>[(11,vI k),(3,vI (lG (ls.take k)))]) (fun k=>[]) (fun k=>k<=ls.length) (fun k=>ls.length-k) ⟨0,(by omega),Weak.mk [] ⟨U,U,U,U,U,T⟩ O⟩ ?_
 rintro k hk
 refine Y O<|yI O<|W<|zM<|zH O (fun c1=>?_) (fun c1=>?_)
 ·try simp only [sx] at c1
  obtain ⟨x,hx⟩:=qU ls k (by omega)
  have hb1:=tot_get hx
  refine zN<|zM<|zR<|Y O<|qJ O el185 (by omega) (getm (by assumption))<|zK kY qE O<|G O<|W<|Y O<|G O<|G O<|qB O N<|qK O ⟨by omega,by omega⟩<|G O<|W<|Y O<|G O<|yI O<|W<|zH O (fun c2=>?_) (fun c2=>?_)
  ·try simp only [sx] at c2
   exact absurd c2 (by omega)
  ·try simp only [sx] at c2
   refine zN<|zT O<|qK O ⟨by omega,by omega⟩<|G O<|W ?_
   refine ⟨k+1,(by omega),(by omega),Weak.mk [] ⟨U,VLe.of_eq (congrArg vI (by rw [tot_next hx];simp)),U,U,U,T⟩ O⟩
 ·try simp only [sx] at c1
  have hT:lG (ls.take k)=lG ls:=by rw [qY (by omega)]
  refine qO<|Y O<|G O<|zY O O (zCf O ok210 (slices_Grow_ax (lG (ls.take k)) (by omega)) ⟨U,O,U,O,T⟩) ?_
  rintro _ _ ⟨sv1,rfl,rfl⟩
  refine G O<|W<|zM<|Y O<|G O<|qB O el185<|G O<|W<|zR<|qC ⟨[(27,.c _),(6,.c _),(25,.c _),(26,.c _)],[_]⟩ (Weak.mk [true] ⟨U,U,U,U,T⟩ O)<|qG 2 1 O O (Nat×Value) (fun ⟨k,sv⟩=>[(27,vI k),(6,.c (.lit sv))]) (fun ⟨k,sv⟩=>[E.vec sv 111 3 ((ls.take k).flatten.map Ax.cells)]) (fun ⟨k,sv⟩=>k<=ls.length) (fun ⟨k,sv⟩=>ls.length-k) ⟨⟨0,_⟩,(by omega),Weak.mk [true] ⟨U,U,U,U,T⟩ O⟩ ?_
  rintro ⟨k,sv⟩ hk
  show AWP _ _ _ _ _ ⟨[(27,vI k),(6,.c (.lit sv))]++_,[E.vec sv 111 3 ((ls.take k).flatten.map Ax.cells)]++_⟩
  refine Y O<|yI O<|W<|zM<|zH O (fun c3=>?_) (fun c3=>?_)
  ·try simp only [sx] at c3
   obtain ⟨x,hx⟩:=qU ls k (by omega)
   refine zN<|zM<|zR<|Y O<|qJ O el185 (by omega) (getm (by assumption))<|zK kY qE O<|G O<|W<|zT O<|G O<|G O<|zY O O (qV 0 O N O O O (by have:=tot_flat hx;simp only [List.length_map];omega) (by have:=tot_flat hx;simp only [List.length_map];omega)) ?_
   rintro _ _ ⟨sv2,rfl,rfl⟩
   refine G O<|W<|zT O<|qK O ⟨by omega,by omega⟩<|G O<|W ?_
   refine ⟨⟨k+1,sv2⟩,(by omega),(by show ls.length-(k+1)<ls.length-k;omega),Weak.mk [true] ⟨U,U,U,U,T⟩ (by show _=[E.vec sv2 _ 3 ((ls.take (k+1)).flatten.map Ax.cells)]++_;rw [qT hx,List.flatten_append,List.map_append];simp only [List.flatten_cons,List.flatten_nil,List.append_nil];rfl)⟩
  ·try simp only [sx] at c3
   refine qO<|Y O<|G O<|G O<|W<|zO<|zV O ?_
   exact ⟨_,O,by rw [qY (by omega)];rfl⟩
theorem zFu (x y:List Ax) (hx:x.length<=1073741824) (hy:y.length<=1073741824):OwnR cfg 157 [.c (.sl 1 [[.sl 3 (x.map Ax.cells)],[.sl 3 (y.map Ax.cells)]])] 111 3 ((x++y).map Ax.cells):=by
  have h:=zOo [x,y] (by simp) (by simp only [lG];omega)
  simpa using h
theorem zLd (d:Df) (hD:d.Dims.length<=1073741824) (hR:d.Red.length<=1073741824):
    OwnR cfg 89 [vDf d] 9 1 ((bQ d).map fun s=>[cS s]):=by
 refine zW Tryz.func89 O Tryz.ntmps89 Tryz.results89 O ?_
 intro z hz
 refine Y O<|zY O O (qN O O) ?_
 rintro _ _ ⟨b1,rfl,rfl⟩
 refine qA O (yQ 1 O O)<|W<|Y O<|G O<|yE _ (yU 9 1)<|W<|zM<|Y O<|zF O zAt<|zK kY (J 1 O) O<|zF O kU<|zK kY (J 1 O) O<|yV O el185 zr61<|qQ O ok157 (OwnR.pur (zFu d.Dims d.Red hD hR)) ⟨U,O,T⟩<|qB O N<|G O<|W<|zR<|qC ⟨[(13,.c _),(3,.c _),(11,.c _),(12,.c _)],[_]⟩ (Weak.mk [true,false] ⟨U,U,U,U,T⟩ O)<|qG 2 1 O O (Nat×Value) (fun ⟨k,sv⟩=>[(13,vI k),(3,.c (.lit sv))]) (fun ⟨k,sv⟩=>[E.vec sv 9 1 (((d.Dims++d.Red).take k).map fun a=>[cS a.Name])]) (fun ⟨k,sv⟩=>k<=(d.Dims++d.Red).length) (fun ⟨k,sv⟩=>(d.Dims++d.Red).length-k) ⟨⟨0,(.slice none 0 0)⟩,(by omega),Weak.mk [true] ⟨U,U,U,U,T⟩ O⟩ ?_
 rintro ⟨k,sv⟩ hk
 show AWP _ _ _ _ _ ⟨[(13,vI k),(3,.c (.lit sv))]++_,[E.vec sv 9 1 (((d.Dims++d.Red).take k).map fun a=>[cS a.Name])]++_⟩
 refine Y O<|yI O<|W<|zM<|zH O (fun c1=>?_) (fun c1=>?_)
 ·try simp only [sx] at c1
  obtain ⟨x,hx⟩:=qU (d.Dims++d.Red) k (by omega)
  have hlen:(d.Dims++d.Red).length<=2147483648:=by rw [List.length_append];omega
  refine zN<|zM<|zR<|Y O<|qJ O N (by omega) (getm (by assumption))<|zP zMf qE O<|zY O O (qF [none,none,some 2] O zJb O) ?_
  rintro _ _ ⟨b3,rfl,rfl⟩
  refine rStR 0 sz111 O<|W<|zT O<|G O<|zF O zAm<|zK one9 (J 0 O) O<|yV O el22 zr9<|zY O O (qV 1 O el22 O O O (by simp only [List.length_take,List.length_map,List.length_cons,List.length_nil];omega) (by simp only [List.length_take,List.length_map,List.length_cons,List.length_nil];omega)) ?_
  rintro _ _ ⟨sv4,rfl,rfl⟩
  refine G O<|W<|zT O<|qK O ⟨by omega,by omega⟩<|G O<|W ?_
  refine ⟨⟨k+1,sv4⟩,(by omega),(by show (d.Dims++d.Red).length-(k+1)<(d.Dims++d.Red).length-k;omega),Weak.mk [false,true] ⟨U,U,U,U,T⟩ (by show _=[E.vec sv4 _ 1 (((d.Dims++d.Red).take (k+1)).map fun a=>[cS a.Name])]++_;rw [qT hx,List.map_append (f:=fun a:Ax=>[cS a.Name])];rfl)⟩
 ·try simp only [sx] at c1
  refine qO<|Y O<|G O<|G O<|W<|zO<|zV O ?_
  exact ⟨_,O,by rw [qY (by omega),names_rows];rfl⟩
theorem program_limits (p:Pg):
    Pur cfg 66 [vPg p] (vB (decide (dG p))):=by
 refine zW Tryz.func66 O Tryz.ntmps66 Tryz.results66 O ?_
 intro z hz
 refine Y O<|zY O O (qN O O) ?_
 rintro _ _ ⟨b1,rfl,rfl⟩
 refine G O<|W<|Y O<|zF O zCl<|zK zBn (J 0 O) O<|qB O el22<|zF O wM<|zK zBm (J 0 O) O<|qB O el24<|zF O kV<|zK zAq (J 0 O) O<|qB O el25<|zF O zFh<|zK zBn (J 0 O) O<|qB O el22<|qA O (det_max4 O O O O O)<|qA O (wU O O O)<|G O<|rL0 O (fun g1_14=>zE O zBu O) O<|rL1 18 O (fun g1_14=>zJ O zHj O (J 0 O) O) O<|rL1 19 O (fun g1_14=>qX O el23 O) O<|rL1 20 O (fun g1_14=>wU O O O) O<|yZ O (fun h=>h)<|G O<|W<|zO<|zV O ?_
 exact congrArg vB (limit_eq p)
theorem slices_Max_int (l:List Int) (x0:Int) (h0:l[0]? =some x0) (hl:l.length<=4294967296):
    Pur cfg 192 [.c (.sl 1 (l.map fun n=>[cI n]))] (vI (rK l l.length)):=by
 refine zW Tryz.func192 O Tryz.ntmps192 Tryz.results192 O ?_
 intro z hz
 have hlen:=zNl h0
 refine Y O<|G O<|W<|zM<|Y O<|G O<|qB O el214<|yI O<|W<|zH O (fun c1=>?_) (fun c1=>?_)
 ·try simp only [sx] at c1
  exact absurd c1 (by omega)
 ·try simp only [sx] at c1
  refine zN<|Y O<|G O<|qJ O el214 (by omega) (getm h0)<|zK one3 qE O<|G O<|W<|zM<|Y O<|G O<|W<|zR<|qC ⟨[(4,.c _),(3,.c _),(0,.c _)],[]⟩ (Weak.mk [] ⟨U,U,U,T⟩ O) ?_
  refine qG 2 0 O O (Nat) (fun k=>[(4,vI k),(3,vI (rK l k))]) (fun k=>[]) (fun k=>1<=k/\k<=l.length) (fun k=>l.length-k) ⟨1,⟨by omega,by omega⟩,Weak.mk [] ⟨U,VLe.of_eq (congrArg vI (maxT_one h0)),U,T⟩ O⟩ ?_
  rintro k ⟨hk1,hk⟩
  refine zM<|Y O<|G O<|G O<|qB O el214<|yI O<|W<|zH O (fun c2=>?_) (fun c2=>?_)
  ·try simp only [sx] at c2
   obtain ⟨x,hx⟩:=qU l k (by omega)
   refine zN<|zM<|zR<|zT O<|G O<|G O<|G O<|qJ O el214 (by omega) (getm (by assumption))<|zK one3 qE O<|qA O (det_max O O O)<|G O<|W<|zT O<|G O<|qK O ⟨by omega,by omega⟩<|G O<|W ?_
   refine ⟨k+1,⟨by omega,by omega⟩,(by omega),Weak.mk [] ⟨U,VLe.of_eq (congrArg vI (maxT_next hx)),U,T⟩ O⟩
  ·try simp only [sx] at c2
   refine qO<|Y O<|G O<|G O<|W<|zO<|zV O ?_
   exact congrArg vI (by rw [show k=l.length by omega])
theorem zHd (t:Ty) (l:List Int) (x0:Int) (h0:l[0]? =some x0) (hl:l.length<=4294967296):
    Pur cfg 141 [vTy t,.c (.sl 1 (l.map fun n=>[cI n]))] (vI (mB t l)):=by
 refine zW Tryz.func141 O Tryz.ntmps141 Tryz.results141 O ?_
 intro z hz
 refine Y O<|zY O O (qN O O) ?_
 rintro _ _ ⟨b1,rfl,rfl⟩
 refine G O<|W<|zM<|Y O<|zP yO (J 0 O) O<|qQ O ok191 (zBf _) ⟨U,O,T⟩<|yW O<|W<|zH O (fun c1=>?_) (fun c1=>?_)
 ·try simp only [sx] at c1
  refine Y O<|G O<|W<|zO<|zV O ?_
  exact congrArg vI (by rw [mB,if_neg (by rw [tyErr_no c1];simp)])
 ·try simp only [sx] at c1
  refine zN<|zM<|Y O<|G O<|qQ O ok192 (slices_Max_int l x0 h0 hl) ⟨U,O,T⟩<|qA O (yL O O O)<|W<|zH O (fun c2=>?_) (fun c2=>?_)
  ·try simp only [sx] at c2
   refine Y O<|G O<|W<|zO<|zV O ?_
   exact congrArg vI (by rw [mB,if_pos (tyErr_yes c1),if_pos c2])
  ·try simp only [sx] at c2
   refine zN<|Y O<|G O<|W<|zO<|zV O ?_
   exact congrArg vI (by rw [mB,if_pos (tyErr_yes c1),if_neg (by omega)])
theorem zKi (x:Cn) (hl:x.Lin.L.length<=5864062014805):
    Pur cfg 139 [vCn x] (vI (fZ x.Lin)):=by
 refine zW Tryz.func139 O Tryz.ntmps139 Tryz.results139 O ?_
 intro z hz
 refine Y O<|zY O O (qN O O) ?_
 rintro _ _ ⟨b1,rfl,rfl⟩
 refine G O<|W<|Y O<|zF O zGw<|zP yB (J 0 O) O<|qQ O ok190 (zAx x.Lin (by omega)) ⟨U,O,T⟩<|G O<|W<|zO<|zV O ?_
 exact O
theorem program_fold (d:Df):
    Pur cfg 143 [vDf d] (vI (fT d)):=by
 refine zW Tryz.func143 O Tryz.ntmps143 Tryz.results143 O ?_
 intro z hz
 refine Y O<|zY O O (qN O O) ?_
 rintro _ _ ⟨b1,rfl,rfl⟩
 refine G O<|W<|zM<|Y O<|zF O zGg<|zK one3 (J 0 O) O<|W<|zR<|Y O<|yK O<|G O<|W<|zH O (fun c1=>?_) (fun c1=>?_)
 ·try simp only [sx] at c1
  refine Y O<|zF O kU<|zK kY (J 0 O) O<|qB O N<|qA O (yL O O O)<|W<|zH O (fun c2=>?_) (fun c2=>?_)
  ·try simp only [sx] at c2
   refine Y O<|G O<|W<|zO<|zV O ?_
   exact congrArg vI (by unfold fT;(repeat' split)<;>first|rfl|(exfalso;(try simp only [Lz,cond_true,cond_false,Bool.and_eq_true,Bool.or_eq_true,Bool.not_eq_true,Bool.or_eq_false_iff,decide_eq_true_eq,decide_eq_false_iff_not] at *);omega))
  ·try simp only [sx] at c2
   refine zN<|Y O<|G O<|W<|zO<|zV O ?_
   exact congrArg vI (by unfold fT;(repeat' split)<;>first|rfl|(exfalso;(try simp only [Lz,cond_true,cond_false,Bool.and_eq_true,Bool.or_eq_true,Bool.not_eq_true,Bool.or_eq_false_iff,decide_eq_true_eq,decide_eq_false_iff_not] at *);omega))
 ·try simp only [sx] at c1
  refine zM<|Y O<|yK O<|G O<|W<|zH O (fun c3=>?_) (fun c3=>?_)
  ·try simp only [sx] at c3
   refine zN<|zH O (fun c6=>?_) (fun c6=>?_)
   ·try simp only [sx] at c6
    refine Y O<|zF O kU<|zK kY (J 0 O) O<|qB O N<|yK O<|W<|zH O (fun c7=>?_) (fun c7=>?_)
    ·try simp only [sx] at c7
     refine Y O<|G O<|W<|zO<|zV O ?_
     exact congrArg vI (by unfold fT;(repeat' split)<;>first|rfl|(exfalso;(try simp only [Lz,cond_true,cond_false,Bool.and_eq_true,Bool.or_eq_true,Bool.not_eq_true,Bool.or_eq_false_iff,decide_eq_true_eq,decide_eq_false_iff_not] at *);omega))
    ·try simp only [sx] at c7
     refine zN<|Y O<|G O<|W<|zO<|zV O ?_
     exact congrArg vI (by unfold fT;(repeat' split)<;>first|rfl|(exfalso;(try simp only [Lz,cond_true,cond_false,Bool.and_eq_true,Bool.or_eq_true,Bool.not_eq_true,Bool.or_eq_false_iff,decide_eq_true_eq,decide_eq_false_iff_not] at *);omega))
   ·try simp only [sx] at c6
    refine Y O<|yK O<|G O<|W<|zH O (fun c8=>?_) (fun c8=>?_)
    ·try simp only [sx] at c8
     refine Y O<|zF O kU<|zK kY (J 0 O) O<|qB O N<|qA O (yL O O O)<|G O<|rL0 O (fun g13_4=>zE O zAt O) O<|rL1 27 O (fun g13_4=>zJ O kY O (J 0 O) O) O<|rL1 28 O (fun g13_4=>qX O N O) O<|rL1 29 O (fun g13_4=>yM O O O) O<|r_or O (fun h=>(lzf h))<|W<|zH O (fun c9=>?_) (fun c9=>?_)
     ·try simp only [sx] at c9
      refine Y O<|G O<|W<|zO<|zV O ?_
      exact congrArg vI (by unfold fT;(repeat' split)<;>first|rfl|(exfalso;(try simp only [Lz,cond_true,cond_false,Bool.and_eq_true,Bool.or_eq_true,Bool.not_eq_true,Bool.or_eq_false_iff,decide_eq_true_eq,decide_eq_false_iff_not] at *);omega))
     ·try simp only [sx] at c9
      refine zN<|Y O<|G O<|W<|zO<|zV O ?_
      exact congrArg vI (by unfold fT;(repeat' split)<;>first|rfl|(exfalso;(try simp only [Lz,cond_true,cond_false,Bool.and_eq_true,Bool.or_eq_true,Bool.not_eq_true,Bool.or_eq_false_iff,decide_eq_true_eq,decide_eq_false_iff_not] at *);omega))
    ·try simp only [sx] at c8
     refine Y O<|G O<|W<|zO<|zV O ?_
     exact congrArg vI (by unfold fT;(repeat' split)<;>first|rfl|(exfalso;(try simp only [Lz,cond_true,cond_false,Bool.and_eq_true,Bool.or_eq_true,Bool.not_eq_true,Bool.or_eq_false_iff,decide_eq_true_eq,decide_eq_false_iff_not] at *);omega))
  ·try simp only [sx] at c3
   refine Y O<|yK O<|G O<|W<|zH O (fun c4=>?_) (fun c4=>?_)
   ·try simp only [sx] at c4
    refine zN<|zH O (fun c6=>?_) (fun c6=>?_)
    ·try simp only [sx] at c6
     refine Y O<|zF O kU<|zK kY (J 0 O) O<|qB O N<|yK O<|W<|zH O (fun c7=>?_) (fun c7=>?_)
     ·try simp only [sx] at c7
      refine Y O<|G O<|W<|zO<|zV O ?_
      exact congrArg vI (by unfold fT;(repeat' split)<;>first|rfl|(exfalso;(try simp only [Lz,cond_true,cond_false,Bool.and_eq_true,Bool.or_eq_true,Bool.not_eq_true,Bool.or_eq_false_iff,decide_eq_true_eq,decide_eq_false_iff_not] at *);omega))
     ·try simp only [sx] at c7
      refine zN<|Y O<|G O<|W<|zO<|zV O ?_
      exact congrArg vI (by unfold fT;(repeat' split)<;>first|rfl|(exfalso;(try simp only [Lz,cond_true,cond_false,Bool.and_eq_true,Bool.or_eq_true,Bool.not_eq_true,Bool.or_eq_false_iff,decide_eq_true_eq,decide_eq_false_iff_not] at *);omega))
    ·try simp only [sx] at c6
     refine Y O<|yK O<|G O<|W<|zH O (fun c8=>?_) (fun c8=>?_)
     ·try simp only [sx] at c8
      refine Y O<|zF O kU<|zK kY (J 0 O) O<|qB O N<|qA O (yL O O O)<|G O<|rL0 O (fun g13_4=>zE O zAt O) O<|rL1 27 O (fun g13_4=>zJ O kY O (J 0 O) O) O<|rL1 28 O (fun g13_4=>qX O N O) O<|rL1 29 O (fun g13_4=>yM O O O) O<|r_or O (fun h=>(lzf h))<|W<|zH O (fun c9=>?_) (fun c9=>?_)
      ·try simp only [sx] at c9
       refine Y O<|G O<|W<|zO<|zV O ?_
       exact congrArg vI (by unfold fT;(repeat' split)<;>first|rfl|(exfalso;(try simp only [Lz,cond_true,cond_false,Bool.and_eq_true,Bool.or_eq_true,Bool.not_eq_true,Bool.or_eq_false_iff,decide_eq_true_eq,decide_eq_false_iff_not] at *);omega))
      ·try simp only [sx] at c9
       refine zN<|Y O<|G O<|W<|zO<|zV O ?_
       exact congrArg vI (by unfold fT;(repeat' split)<;>first|rfl|(exfalso;(try simp only [Lz,cond_true,cond_false,Bool.and_eq_true,Bool.or_eq_true,Bool.not_eq_true,Bool.or_eq_false_iff,decide_eq_true_eq,decide_eq_false_iff_not] at *);omega))
     ·try simp only [sx] at c8
      refine Y O<|G O<|W<|zO<|zV O ?_
      exact congrArg vI (by unfold fT;(repeat' split)<;>first|rfl|(exfalso;(try simp only [Lz,cond_true,cond_false,Bool.and_eq_true,Bool.or_eq_true,Bool.not_eq_true,Bool.or_eq_false_iff,decide_eq_true_eq,decide_eq_false_iff_not] at *);omega))
   ·try simp only [sx] at c4
    refine Y O<|yK O<|G O<|W<|zH O (fun c5=>?_) (fun c5=>?_)
    ·try simp only [sx] at c5
     refine zN<|zH O (fun c6=>?_) (fun c6=>?_)
     ·try simp only [sx] at c6
      refine Y O<|zF O kU<|zK kY (J 0 O) O<|qB O N<|yK O<|W<|zH O (fun c7=>?_) (fun c7=>?_)
      ·try simp only [sx] at c7
       refine Y O<|G O<|W<|zO<|zV O ?_
       exact congrArg vI (by unfold fT;(repeat' split)<;>first|rfl|(exfalso;(try simp only [Lz,cond_true,cond_false,Bool.and_eq_true,Bool.or_eq_true,Bool.not_eq_true,Bool.or_eq_false_iff,decide_eq_true_eq,decide_eq_false_iff_not] at *);omega))
      ·try simp only [sx] at c7
       refine zN<|Y O<|G O<|W<|zO<|zV O ?_
       exact congrArg vI (by unfold fT;(repeat' split)<;>first|rfl|(exfalso;(try simp only [Lz,cond_true,cond_false,Bool.and_eq_true,Bool.or_eq_true,Bool.not_eq_true,Bool.or_eq_false_iff,decide_eq_true_eq,decide_eq_false_iff_not] at *);omega))
     ·try simp only [sx] at c6
      refine Y O<|yK O<|G O<|W<|zH O (fun c8=>?_) (fun c8=>?_)
      ·try simp only [sx] at c8
       refine Y O<|zF O kU<|zK kY (J 0 O) O<|qB O N<|qA O (yL O O O)<|G O<|rL0 O (fun g13_4=>zE O zAt O) O<|rL1 27 O (fun g13_4=>zJ O kY O (J 0 O) O) O<|rL1 28 O (fun g13_4=>qX O N O) O<|rL1 29 O (fun g13_4=>yM O O O) O<|r_or O (fun h=>(lzf h))<|W<|zH O (fun c9=>?_) (fun c9=>?_)
       ·try simp only [sx] at c9
        refine Y O<|G O<|W<|zO<|zV O ?_
        exact congrArg vI (by unfold fT;(repeat' split)<;>first|rfl|(exfalso;(try simp only [Lz,cond_true,cond_false,Bool.and_eq_true,Bool.or_eq_true,Bool.not_eq_true,Bool.or_eq_false_iff,decide_eq_true_eq,decide_eq_false_iff_not] at *);omega))
       ·try simp only [sx] at c9
        refine zN<|Y O<|G O<|W<|zO<|zV O ?_
        exact congrArg vI (by unfold fT;(repeat' split)<;>first|rfl|(exfalso;(try simp only [Lz,cond_true,cond_false,Bool.and_eq_true,Bool.or_eq_true,Bool.not_eq_true,Bool.or_eq_false_iff,decide_eq_true_eq,decide_eq_false_iff_not] at *);omega))
      ·try simp only [sx] at c8
       refine Y O<|G O<|W<|zO<|zV O ?_
       exact congrArg vI (by unfold fT;(repeat' split)<;>first|rfl|(exfalso;(try simp only [Lz,cond_true,cond_false,Bool.and_eq_true,Bool.or_eq_true,Bool.not_eq_true,Bool.or_eq_false_iff,decide_eq_true_eq,decide_eq_false_iff_not] at *);omega))
    ·try simp only [sx] at c5
     refine zT O<|yK O<|G O<|W<|zH O (fun c6=>?_) (fun c6=>?_)
     ·try simp only [sx] at c6
      refine Y O<|zF O kU<|zK kY (J 0 O) O<|qB O N<|yK O<|W<|zH O (fun c7=>?_) (fun c7=>?_)
      ·try simp only [sx] at c7
       refine Y O<|G O<|W<|zO<|zV O ?_
       exact congrArg vI (by unfold fT;(repeat' split)<;>first|rfl|(exfalso;(try simp only [Lz,cond_true,cond_false,Bool.and_eq_true,Bool.or_eq_true,Bool.not_eq_true,Bool.or_eq_false_iff,decide_eq_true_eq,decide_eq_false_iff_not] at *);omega))
      ·try simp only [sx] at c7
       refine zN<|Y O<|G O<|W<|zO<|zV O ?_
       exact congrArg vI (by unfold fT;(repeat' split)<;>first|rfl|(exfalso;(try simp only [Lz,cond_true,cond_false,Bool.and_eq_true,Bool.or_eq_true,Bool.not_eq_true,Bool.or_eq_false_iff,decide_eq_true_eq,decide_eq_false_iff_not] at *);omega))
     ·try simp only [sx] at c6
      refine Y O<|yK O<|G O<|W<|zH O (fun c8=>?_) (fun c8=>?_)
      ·try simp only [sx] at c8
       refine Y O<|zF O kU<|zK kY (J 0 O) O<|qB O N<|qA O (yL O O O)<|G O<|rL0 O (fun g13_4=>zE O zAt O) O<|rL1 27 O (fun g13_4=>zJ O kY O (J 0 O) O) O<|rL1 28 O (fun g13_4=>qX O N O) O<|rL1 29 O (fun g13_4=>yM O O O) O<|r_or O (fun h=>(lzf h))<|W<|zH O (fun c9=>?_) (fun c9=>?_)
       ·try simp only [sx] at c9
        refine Y O<|G O<|W<|zO<|zV O ?_
        exact congrArg vI (by unfold fT;(repeat' split)<;>first|rfl|(exfalso;(try simp only [Lz,cond_true,cond_false,Bool.and_eq_true,Bool.or_eq_true,Bool.not_eq_true,Bool.or_eq_false_iff,decide_eq_true_eq,decide_eq_false_iff_not] at *);omega))
       ·try simp only [sx] at c9
        refine zN<|Y O<|G O<|W<|zO<|zV O ?_
        exact congrArg vI (by unfold fT;(repeat' split)<;>first|rfl|(exfalso;(try simp only [Lz,cond_true,cond_false,Bool.and_eq_true,Bool.or_eq_true,Bool.not_eq_true,Bool.or_eq_false_iff,decide_eq_true_eq,decide_eq_false_iff_not] at *);omega))
      ·try simp only [sx] at c8
       refine Y O<|G O<|W<|zO<|zV O ?_
       exact congrArg vI (by unfold fT;(repeat' split)<;>first|rfl|(exfalso;(try simp only [Lz,cond_true,cond_false,Bool.and_eq_true,Bool.or_eq_true,Bool.not_eq_true,Bool.or_eq_false_iff,decide_eq_true_eq,decide_eq_false_iff_not] at *);omega))
end Go.W
