/-
  Walks: what functions of the program compute. Printed by wip/gen/mk2.py.
  Conditions: none.
-/
import Derived.Test.YtkidnhldibjiaaaGreatDoorGC
import Derived.Test.YtkidnhldibjiaaaGreatDoorPlain
set_option linter.unusedSimpArgs false
set_option linter.unusedVariables false
set_option maxRecDepth 10000
namespace Go.W
open Go Go.Eng Go.Proofs Go.L41 Go.Br
attribute [local irreducible] AWP RWP TD finQ
theorem zEr:aggT Tryz.prog 111=some 3:=by kernel_rfl
theorem el23:elemT Tryz.prog 23=some (101,3,40):=by kernel_rfl
theorem el24:elemT Tryz.prog 24=some (67,7,80):=by kernel_rfl
theorem D:elemT Tryz.prog 61=some (111,3,48):=by kernel_rfl
theorem el185:elemT Tryz.prog 185=some (61,1,24):=by kernel_rfl
theorem el214:elemT Tryz.prog 214=some (3,1,8):=by kernel_rfl
theorem zCp:fieldT Tryz.prog 27 0=some (0,22):=by kernel_rfl
theorem zJl:fieldT Tryz.prog 27 1=some (1,23):=by kernel_rfl
theorem zBu:fieldT Tryz.prog 27 2=some (2,24):=by kernel_rfl
theorem zGg:fieldT Tryz.prog 27 4=some (4,22):=by kernel_rfl
theorem zAl:fieldT Tryz.prog 63 2=some (6,61):=by kernel_rfl
theorem zAc:fieldT Tryz.prog 63 3=some (7,61):=by kernel_rfl
theorem zLw:fieldT Tryz.prog 63 4=some (8,3):=by kernel_rfl
theorem fd101_0:fieldT Tryz.prog 101 0=some (0,40):=by kernel_rfl
theorem zAj:fieldT Tryz.prog 111 0=some (0,9):=by kernel_rfl
theorem ik3:intT Tryz.prog 3=some .i64:=by kernel_rfl
theorem ok157:callOk Tryz.prog 157=true:=by kernel_rfl
theorem ok192:callOk Tryz.prog 192=true:=by kernel_rfl
theorem ok210:callOk Tryz.prog 210=true:=by kernel_rfl
theorem zBq:oneT Tryz.prog 22=true:=by kernel_rfl
theorem one23:oneT Tryz.prog 23=true:=by kernel_rfl
theorem zFp:oneT Tryz.prog 24=true:=by kernel_rfl
theorem kQ:oneT Tryz.prog 61=true:=by kernel_rfl
theorem sz111:(Tryz.prog.info? 111).map (·.size)=some 3:=by kernel_rfl
theorem zr61:zeroT Tryz.prog 61=some [(Value.slice none 0 0)]:=by kernel_rfl
theorem zHg:zeroT Tryz.prog 111=some [(Value.string (ByteArray.mk #[])),(Value.int IntKind.i64 0),(Value.slice none 0 0)]:=by kernel_rfl
theorem slices_Grow_ax (n:Nat) (hn:n<=4294967296):
    OwnR cfg 210 [.c (.lit (.slice none 0 0)),vI n] 111 3 ([]):=by
 refine zR Tryz.func210 O Tryz.ntmps210 Tryz.results210 O ?_
 intro z hz
 refine G O<|zX O (yA 3 O O)<|W<|zG<|G O<|Y O<|qW O<|W<|zE O (fun c1=>?_) (fun c1=>?_)
 ·try simp only [sx] at c1
  exact absurd c1 (by omega)
 ·try simp only [sx] at c1
  refine zI<|zG<|G O<|Y O<|Y O<|zX O (zPv O D O)<|Y O<|zX O (zPu O D O)<|zX O (wY O O O ⟨by omega,by omega⟩)<|zX O (wY O O O ⟨by omega,by omega⟩)<|Y O<|W<|G O<|Y O<|zX O (yF O O O)<|W<|zE O (fun c2=>?_) (fun c2=>?_)
  ·try simp only [sx] at c2
   refine zO O<|Y O<|Y O<|zX O (zPv O D O)<|zX O (det_cut_nil O D O O)<|Y O<|zS O O (ope_grow n O D ik3 O O (by omega) (by omega) (by omega) (by omega)) ?_
   rintro _ _ ⟨b1,cap1,rfl,hcap1,rfl⟩
   refine Y O<|zX O (zPu O D O)<|zX O (det_cut_row 0 O D O O O ⟨by omega,hcap1⟩)<|Y O<|W<|G O<|Y O<|Y O<|W<|zJ<|zP O ?_
   exact ⟨_,O,O⟩
  ·try simp only [sx] at c2
   refine zI<|G O<|Y O<|qV _ (yH 111 3)<|Y O<|W<|zJ<|zP O ?_
   exact ⟨_,O,O⟩
theorem zMe (ls:List (List Ax)) (hl:ls.length<=4294967296) (ht:totL ls<=4294967296):
    OwnR cfg 157 [.c (.sl 1 (ls.map fun l=>[.sl 3 (l.map Ax.cells)]))] 111 3 (ls.flatten.map Ax.cells):=by
 refine zR Tryz.func157 O Tryz.ntmps157 Tryz.results157 O ?_
 intro z hz
 refine G O<|zX O (yA 3 O O)<|W<|G O<|Y O<|W<|zG<|G O<|Y O<|zV O el185<|Y O<|W<|zN<|zU ⟨[(11,.c _),(3,.c _),(0,.c _),(9,.c _),(10,.c _)],[]⟩ (Weak.mk [] ⟨U,U,U,U,U,T⟩ O)<|qA 2 0 O O (Nat) (fun k=>[(11,vI k),(3,vI (totL (ls.take k)))]) (fun k=>[]) (fun k=>k<=ls.length) (fun k=>ls.length-k) ⟨0,(by omega),Weak.mk [] ⟨U,U,U,U,U,T⟩ O⟩ ?_
 rintro k hk
 refine G O<|qW O<|W<|zG<|zE O (fun c1=>?_) (fun c1=>?_)
 ·try simp only [sx] at c1
  obtain ⟨x,hx⟩:=qP ls k (by omega)
  have hb1:=tot_get hx
  refine zI<|zG<|zN<|G O<|zZ O el185 (by omega) (getm (by assumption))<|zH kQ zY O<|Y O<|W<|G O<|Y O<|Y O<|zV O D<|qB O ⟨by omega,by omega⟩<|Y O<|W<|G O<|Y O<|qW O<|W<|zE O (fun c2=>?_) (fun c2=>?_)
  ·try simp only [sx] at c2
   exact absurd c2 (by omega)
  ·try simp only [sx] at c2
   refine zI<|zO O<|qB O ⟨by omega,by omega⟩<|Y O<|W ?_
   refine ⟨k+1,(by omega),(by omega),Weak.mk [] ⟨U,VLe.of_eq (congrArg vI (by rw [tot_next hx];simp)),U,U,U,T⟩ O⟩
 ·try simp only [sx] at c1
  have hT:totL (ls.take k)=totL ls:=by rw [qS (by omega)]
  refine qE<|G O<|Y O<|zS O O (zCm O ok210 (slices_Grow_ax (totL (ls.take k)) (by omega)) ⟨U,O,U,O,T⟩) ?_
  rintro _ _ ⟨sv1,rfl,rfl⟩
  refine Y O<|W<|zG<|G O<|Y O<|zV O el185<|Y O<|W<|zN<|zU ⟨[(27,.c _),(6,.c _),(25,.c _),(26,.c _)],[_]⟩ (Weak.mk [true] ⟨U,U,U,U,T⟩ O)<|qA 2 1 O O (Nat×Value) (fun ⟨k,sv⟩=>[(27,vI k),(6,.c (.lit sv))]) (fun ⟨k,sv⟩=>[E.vec sv 111 3 ((ls.take k).flatten.map Ax.cells)]) (fun ⟨k,sv⟩=>k<=ls.length) (fun ⟨k,sv⟩=>ls.length-k) ⟨⟨0,_⟩,(by omega),Weak.mk [true] ⟨U,U,U,U,T⟩ O⟩ ?_
  rintro ⟨k,sv⟩ hk
  show AWP _ _ _ _ _ ⟨[(27,vI k),(6,.c (.lit sv))]++_,[E.vec sv 111 3 ((ls.take k).flatten.map Ax.cells)]++_⟩
  refine G O<|qW O<|W<|zG<|zE O (fun c3=>?_) (fun c3=>?_)
  ·try simp only [sx] at c3
   obtain ⟨x,hx⟩:=qP ls k (by omega)
   refine zI<|zG<|zN<|G O<|zZ O el185 (by omega) (getm (by assumption))<|zH kQ zY O<|Y O<|W<|zO O<|Y O<|Y O<|zS O O (qO 0 O D O O O (by have:=tot_flat hx;simp only [List.length_map];omega) (by have:=tot_flat hx;simp only [List.length_map];omega)) ?_
   rintro _ _ ⟨sv2,rfl,rfl⟩
   refine Y O<|W<|zO O<|qB O ⟨by omega,by omega⟩<|Y O<|W ?_
   refine ⟨⟨k+1,sv2⟩,(by omega),(by show ls.length-(k+1)<ls.length-k;omega),Weak.mk [true] ⟨U,U,U,U,T⟩ (by show _=[E.vec sv2 _ 3 ((ls.take (k+1)).flatten.map Ax.cells)]++_;rw [qM hx,List.flatten_append,List.map_append];simp only [List.flatten_cons,List.flatten_nil,List.append_nil];rfl)⟩
  ·try simp only [sx] at c3
   refine qE<|G O<|Y O<|Y O<|W<|zJ<|zP O ?_
   exact ⟨_,O,by rw [qS (by omega)];rfl⟩
theorem zEd (x y:List Ax) (hx:x.length<=1073741824) (hy:y.length<=1073741824):OwnR cfg 157 [.c (.sl 1 [[.sl 3 (x.map Ax.cells)],[.sl 3 (y.map Ax.cells)]])] 111 3 ((x++y).map Ax.cells):=by
  have h:=zMe [x,y] (by simp) (by simp only [totL];omega)
  simpa using h
theorem wP (d:Df) (hD:d.Dims.length<=1073741824) (hR:d.Red.length<=1073741824):
    OwnR cfg 89 [vDf d] 9 1 ((namesD d).map fun s=>[cS s]):=by
 refine zR Tryz.func89 O Tryz.ntmps89 Tryz.results89 O ?_
 intro z hz
 refine G O<|zS O O (qG O O) ?_
 rintro _ _ ⟨b1,rfl,rfl⟩
 refine zX O (yA 1 O O)<|W<|G O<|Y O<|qV _ (yH 9 1)<|W<|zG<|G O<|zD O zAl<|zH kQ (J 1 O) O<|zD O zAc<|zH kQ (J 1 O) O<|qX O el185 zr61<|qK O ok157 (OwnR.pur (zEd d.Dims d.Red hD hR)) ⟨U,O,T⟩<|zV O D<|Y O<|W<|zN<|zU ⟨[(13,.c _),(3,.c _),(11,.c _),(12,.c _)],[_]⟩ (Weak.mk [true,false] ⟨U,U,U,U,T⟩ O)<|qA 2 1 O O (Nat×Value) (fun ⟨k,sv⟩=>[(13,vI k),(3,.c (.lit sv))]) (fun ⟨k,sv⟩=>[E.vec sv 9 1 (((d.Dims++d.Red).take k).map fun a=>[cS a.Name])]) (fun ⟨k,sv⟩=>k<=(d.Dims++d.Red).length) (fun ⟨k,sv⟩=>(d.Dims++d.Red).length-k) ⟨⟨0,(.slice none 0 0)⟩,(by omega),Weak.mk [true] ⟨U,U,U,U,T⟩ O⟩ ?_
 rintro ⟨k,sv⟩ hk
 show AWP _ _ _ _ _ ⟨[(13,vI k),(3,.c (.lit sv))]++_,[E.vec sv 9 1 (((d.Dims++d.Red).take k).map fun a=>[cS a.Name])]++_⟩
 refine G O<|qW O<|W<|zG<|zE O (fun c1=>?_) (fun c1=>?_)
 ·try simp only [sx] at c1
  obtain ⟨x,hx⟩:=qP (d.Dims++d.Red) k (by omega)
  have hlen:(d.Dims++d.Red).length<=2147483648:=by rw [List.length_append];omega
  refine zI<|zG<|zN<|G O<|zZ O D (by omega) (getm (by assumption))<|zL zEr zY O<|zS O O (qD [none,none,some 2] O zHg O) ?_
  rintro _ _ ⟨b3,rfl,rfl⟩
  refine N 0 sz111 O<|W<|zO O<|Y O<|zD O zAj<|zH one9 (J 0 O) O<|qX O r zr9<|zS O O (qO 1 O r O O O (by simp only [List.length_take,List.length_map,List.length_cons,List.length_nil];omega) (by simp only [List.length_take,List.length_map,List.length_cons,List.length_nil];omega)) ?_
  rintro _ _ ⟨sv4,rfl,rfl⟩
  refine Y O<|W<|zO O<|qB O ⟨by omega,by omega⟩<|Y O<|W ?_
  refine ⟨⟨k+1,sv4⟩,(by omega),(by show (d.Dims++d.Red).length-(k+1)<(d.Dims++d.Red).length-k;omega),Weak.mk [false,true] ⟨U,U,U,U,T⟩ (by show _=[E.vec sv4 _ 1 (((d.Dims++d.Red).take (k+1)).map fun a=>[cS a.Name])]++_;rw [qM hx,List.map_append (f:=fun a:Ax=>[cS a.Name])];rfl)⟩
 ·try simp only [sx] at c1
  refine qE<|G O<|Y O<|Y O<|W<|zJ<|zP O ?_
  exact ⟨_,O,by rw [qS (by omega),names_rows];rfl⟩
theorem program_limits (p:Pg):
    Pur cfg 66 [vPg p] (vB (decide (limitOk p))):=by
 refine zR Tryz.func66 O Tryz.ntmps66 Tryz.results66 O ?_
 intro z hz
 refine G O<|zS O O (qG O O) ?_
 rintro _ _ ⟨b1,rfl,rfl⟩
 refine Y O<|W<|G O<|zD O zCp<|zH zBq (J 0 O) O<|zV O r<|zD O zBu<|zH zFp (J 0 O) O<|zV O el24<|zD O yZ<|zH wL (J 0 O) O<|zV O el25<|zD O zGg<|zH zBq (J 0 O) O<|zV O r<|zX O (det_max4 O O O O O)<|zX O (kO O O O)<|Y O<|rL0 O (fun g1_14=>zF O zJl O) O<|rL1 18 O (fun g1_14=>zK O one23 O (J 0 O) O) O<|rL1 19 O (fun g1_14=>qU O el23 O) O<|rL1 20 O (fun g1_14=>kO O O O) O<|kD O (fun h=>h)<|Y O<|W<|zJ<|zP O ?_
 exact congrArg vB (limit_eq p)
theorem slices_Max_int (l:List Int) (x0:Int) (h0:l[0]? =some x0) (hl:l.length<=4294967296):
    Pur cfg 192 [.c (.sl 1 (l.map fun n=>[cI n]))] (vI (maxT l l.length)):=by
 refine zR Tryz.func192 O Tryz.ntmps192 Tryz.results192 O ?_
 intro z hz
 have hlen:=zLc h0
 refine G O<|Y O<|W<|zG<|G O<|Y O<|zV O el214<|qW O<|W<|zE O (fun c1=>?_) (fun c1=>?_)
 ·try simp only [sx] at c1
  exact absurd c1 (by omega)
 ·try simp only [sx] at c1
  refine zI<|G O<|Y O<|zZ O el214 (by omega) (getm h0)<|zH one3 zY O<|Y O<|W<|zG<|G O<|Y O<|W<|zN<|zU ⟨[(4,.c _),(3,.c _),(0,.c _)],[]⟩ (Weak.mk [] ⟨U,U,U,T⟩ O) ?_
  refine qA 2 0 O O (Nat) (fun k=>[(4,vI k),(3,vI (maxT l k))]) (fun k=>[]) (fun k=>1<=k/\k<=l.length) (fun k=>l.length-k) ⟨1,⟨by omega,by omega⟩,Weak.mk [] ⟨U,VLe.of_eq (congrArg vI (maxT_one h0)),U,T⟩ O⟩ ?_
  rintro k ⟨hk1,hk⟩
  refine zG<|G O<|Y O<|Y O<|zV O el214<|qW O<|W<|zE O (fun c2=>?_) (fun c2=>?_)
  ·try simp only [sx] at c2
   obtain ⟨x,hx⟩:=qP l k (by omega)
   refine zI<|zG<|zN<|zO O<|Y O<|Y O<|Y O<|zZ O el214 (by omega) (getm (by assumption))<|zH one3 zY O<|zX O (det_max O O O)<|Y O<|W<|zO O<|Y O<|qB O ⟨by omega,by omega⟩<|Y O<|W ?_
   refine ⟨k+1,⟨by omega,by omega⟩,(by omega),Weak.mk [] ⟨U,VLe.of_eq (congrArg vI (maxT_next hx)),U,T⟩ O⟩
  ·try simp only [sx] at c2
   refine qE<|G O<|Y O<|Y O<|W<|zJ<|zP O ?_
   exact congrArg vI (by rw [show k=l.length by omega])
theorem zFj (t:Ty) (l:List Int) (x0:Int) (h0:l[0]? =some x0) (hl:l.length<=4294967296):
    Pur cfg 141 [vTy t,.c (.sl 1 (l.map fun n=>[cI n]))] (vI (declE t l)):=by
 refine zR Tryz.func141 O Tryz.ntmps141 Tryz.results141 O ?_
 intro z hz
 refine G O<|zS O O (qG O O) ?_
 rintro _ _ ⟨b1,rfl,rfl⟩
 refine Y O<|W<|zG<|G O<|zL yD (J 0 O) O<|qK O ok191 (zBs _) ⟨U,O,T⟩<|yR O<|W<|zE O (fun c1=>?_) (fun c1=>?_)
 ·try simp only [sx] at c1
  refine G O<|Y O<|W<|zJ<|zP O ?_
  exact congrArg vI (by rw [declE,if_neg (by rw [tyErr_no c1];simp)])
 ·try simp only [sx] at c1
  refine zI<|zG<|G O<|Y O<|qK O ok192 (slices_Max_int l x0 h0 hl) ⟨U,O,T⟩<|zX O (yF O O O)<|W<|zE O (fun c2=>?_) (fun c2=>?_)
  ·try simp only [sx] at c2
   refine G O<|Y O<|W<|zJ<|zP O ?_
   exact congrArg vI (by rw [declE,if_pos (tyErr_yes c1),if_pos c2])
  ·try simp only [sx] at c2
   refine zI<|G O<|Y O<|W<|zJ<|zP O ?_
   exact congrArg vI (by rw [declE,if_pos (tyErr_yes c1),if_neg (by omega)])
theorem zIk (x:Cn) (hl:x.Lin.L.length<=5864062014805):
    Pur cfg 139 [vCn x] (vI (linErr x.Lin)):=by
 refine zR Tryz.func139 O Tryz.ntmps139 Tryz.results139 O ?_
 intro z hz
 refine G O<|zS O O (qG O O) ?_
 rintro _ _ ⟨b1,rfl,rfl⟩
 refine Y O<|W<|G O<|zD O fd101_0<|zL kF (J 0 O) O<|qK O ok190 (zGd x.Lin (by omega)) ⟨U,O,T⟩<|Y O<|W<|zJ<|zP O ?_
 exact O
theorem program_fold (d:Df):
    Pur cfg 143 [vDf d] (vI (foldM d)):=by
 refine zR Tryz.func143 O Tryz.ntmps143 Tryz.results143 O ?_
 intro z hz
 refine G O<|zS O O (qG O O) ?_
 rintro _ _ ⟨b1,rfl,rfl⟩
 refine Y O<|W<|zG<|G O<|zD O zLw<|zH one3 (J 0 O) O<|W<|zN<|G O<|yG O<|Y O<|W<|zE O (fun c1=>?_) (fun c1=>?_)
 ·try simp only [sx] at c1
  refine G O<|zD O zAc<|zH kQ (J 0 O) O<|zV O D<|zX O (yF O O O)<|W<|zE O (fun c2=>?_) (fun c2=>?_)
  ·try simp only [sx] at c2
   refine G O<|Y O<|W<|zJ<|zP O ?_
   exact congrArg vI (by unfold foldM;(repeat' split)<;>first|rfl|(exfalso;(try simp only [Lz,cond_true,cond_false,Bool.and_eq_true,Bool.or_eq_true,Bool.not_eq_true,Bool.or_eq_false_iff,decide_eq_true_eq,decide_eq_false_iff_not] at *);omega))
  ·try simp only [sx] at c2
   refine zI<|G O<|Y O<|W<|zJ<|zP O ?_
   exact congrArg vI (by unfold foldM;(repeat' split)<;>first|rfl|(exfalso;(try simp only [Lz,cond_true,cond_false,Bool.and_eq_true,Bool.or_eq_true,Bool.not_eq_true,Bool.or_eq_false_iff,decide_eq_true_eq,decide_eq_false_iff_not] at *);omega))
 ·try simp only [sx] at c1
  refine zG<|G O<|yG O<|Y O<|W<|zE O (fun c3=>?_) (fun c3=>?_)
  ·try simp only [sx] at c3
   refine zI<|zE O (fun c6=>?_) (fun c6=>?_)
   ·try simp only [sx] at c6
    refine G O<|zD O zAc<|zH kQ (J 0 O) O<|zV O D<|yG O<|W<|zE O (fun c7=>?_) (fun c7=>?_)
    ·try simp only [sx] at c7
     refine G O<|Y O<|W<|zJ<|zP O ?_
     exact congrArg vI (by unfold foldM;(repeat' split)<;>first|rfl|(exfalso;(try simp only [Lz,cond_true,cond_false,Bool.and_eq_true,Bool.or_eq_true,Bool.not_eq_true,Bool.or_eq_false_iff,decide_eq_true_eq,decide_eq_false_iff_not] at *);omega))
    ·try simp only [sx] at c7
     refine zI<|G O<|Y O<|W<|zJ<|zP O ?_
     exact congrArg vI (by unfold foldM;(repeat' split)<;>first|rfl|(exfalso;(try simp only [Lz,cond_true,cond_false,Bool.and_eq_true,Bool.or_eq_true,Bool.not_eq_true,Bool.or_eq_false_iff,decide_eq_true_eq,decide_eq_false_iff_not] at *);omega))
   ·try simp only [sx] at c6
    refine G O<|yG O<|Y O<|W<|zE O (fun c8=>?_) (fun c8=>?_)
    ·try simp only [sx] at c8
     refine G O<|zD O zAc<|zH kQ (J 0 O) O<|zV O D<|zX O (yF O O O)<|Y O<|rL0 O (fun g13_4=>zF O zAl O) O<|rL1 27 O (fun g13_4=>zK O kQ O (J 0 O) O) O<|rL1 28 O (fun g13_4=>qU O D O) O<|rL1 29 O (fun g13_4=>yL O O O) O<|r_or O (fun h=>(lzf h))<|W<|zE O (fun c9=>?_) (fun c9=>?_)
     ·try simp only [sx] at c9
      refine G O<|Y O<|W<|zJ<|zP O ?_
      exact congrArg vI (by unfold foldM;(repeat' split)<;>first|rfl|(exfalso;(try simp only [Lz,cond_true,cond_false,Bool.and_eq_true,Bool.or_eq_true,Bool.not_eq_true,Bool.or_eq_false_iff,decide_eq_true_eq,decide_eq_false_iff_not] at *);omega))
     ·try simp only [sx] at c9
      refine zI<|G O<|Y O<|W<|zJ<|zP O ?_
      exact congrArg vI (by unfold foldM;(repeat' split)<;>first|rfl|(exfalso;(try simp only [Lz,cond_true,cond_false,Bool.and_eq_true,Bool.or_eq_true,Bool.not_eq_true,Bool.or_eq_false_iff,decide_eq_true_eq,decide_eq_false_iff_not] at *);omega))
    ·try simp only [sx] at c8
     refine G O<|Y O<|W<|zJ<|zP O ?_
     exact congrArg vI (by unfold foldM;(repeat' split)<;>first|rfl|(exfalso;(try simp only [Lz,cond_true,cond_false,Bool.and_eq_true,Bool.or_eq_true,Bool.not_eq_true,Bool.or_eq_false_iff,decide_eq_true_eq,decide_eq_false_iff_not] at *);omega))
  ·try simp only [sx] at c3
   refine G O<|yG O<|Y O<|W<|zE O (fun c4=>?_) (fun c4=>?_)
   ·try simp only [sx] at c4
    refine zI<|zE O (fun c6=>?_) (fun c6=>?_)
    ·try simp only [sx] at c6
     refine G O<|zD O zAc<|zH kQ (J 0 O) O<|zV O D<|yG O<|W<|zE O (fun c7=>?_) (fun c7=>?_)
     ·try simp only [sx] at c7
      refine G O<|Y O<|W<|zJ<|zP O ?_
      exact congrArg vI (by unfold foldM;(repeat' split)<;>first|rfl|(exfalso;(try simp only [Lz,cond_true,cond_false,Bool.and_eq_true,Bool.or_eq_true,Bool.not_eq_true,Bool.or_eq_false_iff,decide_eq_true_eq,decide_eq_false_iff_not] at *);omega))
     ·try simp only [sx] at c7
      refine zI<|G O<|Y O<|W<|zJ<|zP O ?_
      exact congrArg vI (by unfold foldM;(repeat' split)<;>first|rfl|(exfalso;(try simp only [Lz,cond_true,cond_false,Bool.and_eq_true,Bool.or_eq_true,Bool.not_eq_true,Bool.or_eq_false_iff,decide_eq_true_eq,decide_eq_false_iff_not] at *);omega))
    ·try simp only [sx] at c6
     refine G O<|yG O<|Y O<|W<|zE O (fun c8=>?_) (fun c8=>?_)
     ·try simp only [sx] at c8
      refine G O<|zD O zAc<|zH kQ (J 0 O) O<|zV O D<|zX O (yF O O O)<|Y O<|rL0 O (fun g13_4=>zF O zAl O) O<|rL1 27 O (fun g13_4=>zK O kQ O (J 0 O) O) O<|rL1 28 O (fun g13_4=>qU O D O) O<|rL1 29 O (fun g13_4=>yL O O O) O<|r_or O (fun h=>(lzf h))<|W<|zE O (fun c9=>?_) (fun c9=>?_)
      ·try simp only [sx] at c9
       refine G O<|Y O<|W<|zJ<|zP O ?_
       exact congrArg vI (by unfold foldM;(repeat' split)<;>first|rfl|(exfalso;(try simp only [Lz,cond_true,cond_false,Bool.and_eq_true,Bool.or_eq_true,Bool.not_eq_true,Bool.or_eq_false_iff,decide_eq_true_eq,decide_eq_false_iff_not] at *);omega))
      ·try simp only [sx] at c9
       refine zI<|G O<|Y O<|W<|zJ<|zP O ?_
       exact congrArg vI (by unfold foldM;(repeat' split)<;>first|rfl|(exfalso;(try simp only [Lz,cond_true,cond_false,Bool.and_eq_true,Bool.or_eq_true,Bool.not_eq_true,Bool.or_eq_false_iff,decide_eq_true_eq,decide_eq_false_iff_not] at *);omega))
     ·try simp only [sx] at c8
      refine G O<|Y O<|W<|zJ<|zP O ?_
      exact congrArg vI (by unfold foldM;(repeat' split)<;>first|rfl|(exfalso;(try simp only [Lz,cond_true,cond_false,Bool.and_eq_true,Bool.or_eq_true,Bool.not_eq_true,Bool.or_eq_false_iff,decide_eq_true_eq,decide_eq_false_iff_not] at *);omega))
   ·try simp only [sx] at c4
    refine G O<|yG O<|Y O<|W<|zE O (fun c5=>?_) (fun c5=>?_)
    ·try simp only [sx] at c5
     refine zI<|zE O (fun c6=>?_) (fun c6=>?_)
     ·try simp only [sx] at c6
      refine G O<|zD O zAc<|zH kQ (J 0 O) O<|zV O D<|yG O<|W<|zE O (fun c7=>?_) (fun c7=>?_)
      ·try simp only [sx] at c7
       refine G O<|Y O<|W<|zJ<|zP O ?_
       exact congrArg vI (by unfold foldM;(repeat' split)<;>first|rfl|(exfalso;(try simp only [Lz,cond_true,cond_false,Bool.and_eq_true,Bool.or_eq_true,Bool.not_eq_true,Bool.or_eq_false_iff,decide_eq_true_eq,decide_eq_false_iff_not] at *);omega))
      ·try simp only [sx] at c7
       refine zI<|G O<|Y O<|W<|zJ<|zP O ?_
       exact congrArg vI (by unfold foldM;(repeat' split)<;>first|rfl|(exfalso;(try simp only [Lz,cond_true,cond_false,Bool.and_eq_true,Bool.or_eq_true,Bool.not_eq_true,Bool.or_eq_false_iff,decide_eq_true_eq,decide_eq_false_iff_not] at *);omega))
     ·try simp only [sx] at c6
      refine G O<|yG O<|Y O<|W<|zE O (fun c8=>?_) (fun c8=>?_)
      ·try simp only [sx] at c8
       refine G O<|zD O zAc<|zH kQ (J 0 O) O<|zV O D<|zX O (yF O O O)<|Y O<|rL0 O (fun g13_4=>zF O zAl O) O<|rL1 27 O (fun g13_4=>zK O kQ O (J 0 O) O) O<|rL1 28 O (fun g13_4=>qU O D O) O<|rL1 29 O (fun g13_4=>yL O O O) O<|r_or O (fun h=>(lzf h))<|W<|zE O (fun c9=>?_) (fun c9=>?_)
       ·try simp only [sx] at c9
        refine G O<|Y O<|W<|zJ<|zP O ?_
        exact congrArg vI (by unfold foldM;(repeat' split)<;>first|rfl|(exfalso;(try simp only [Lz,cond_true,cond_false,Bool.and_eq_true,Bool.or_eq_true,Bool.not_eq_true,Bool.or_eq_false_iff,decide_eq_true_eq,decide_eq_false_iff_not] at *);omega))
       ·try simp only [sx] at c9
        refine zI<|G O<|Y O<|W<|zJ<|zP O ?_
        exact congrArg vI (by unfold foldM;(repeat' split)<;>first|rfl|(exfalso;(try simp only [Lz,cond_true,cond_false,Bool.and_eq_true,Bool.or_eq_true,Bool.not_eq_true,Bool.or_eq_false_iff,decide_eq_true_eq,decide_eq_false_iff_not] at *);omega))
      ·try simp only [sx] at c8
       refine G O<|Y O<|W<|zJ<|zP O ?_
       exact congrArg vI (by unfold foldM;(repeat' split)<;>first|rfl|(exfalso;(try simp only [Lz,cond_true,cond_false,Bool.and_eq_true,Bool.or_eq_true,Bool.not_eq_true,Bool.or_eq_false_iff,decide_eq_true_eq,decide_eq_false_iff_not] at *);omega))
    ·try simp only [sx] at c5
     refine zO O<|yG O<|Y O<|W<|zE O (fun c6=>?_) (fun c6=>?_)
     ·try simp only [sx] at c6
      refine G O<|zD O zAc<|zH kQ (J 0 O) O<|zV O D<|yG O<|W<|zE O (fun c7=>?_) (fun c7=>?_)
      ·try simp only [sx] at c7
       refine G O<|Y O<|W<|zJ<|zP O ?_
       exact congrArg vI (by unfold foldM;(repeat' split)<;>first|rfl|(exfalso;(try simp only [Lz,cond_true,cond_false,Bool.and_eq_true,Bool.or_eq_true,Bool.not_eq_true,Bool.or_eq_false_iff,decide_eq_true_eq,decide_eq_false_iff_not] at *);omega))
      ·try simp only [sx] at c7
       refine zI<|G O<|Y O<|W<|zJ<|zP O ?_
       exact congrArg vI (by unfold foldM;(repeat' split)<;>first|rfl|(exfalso;(try simp only [Lz,cond_true,cond_false,Bool.and_eq_true,Bool.or_eq_true,Bool.not_eq_true,Bool.or_eq_false_iff,decide_eq_true_eq,decide_eq_false_iff_not] at *);omega))
     ·try simp only [sx] at c6
      refine G O<|yG O<|Y O<|W<|zE O (fun c8=>?_) (fun c8=>?_)
      ·try simp only [sx] at c8
       refine G O<|zD O zAc<|zH kQ (J 0 O) O<|zV O D<|zX O (yF O O O)<|Y O<|rL0 O (fun g13_4=>zF O zAl O) O<|rL1 27 O (fun g13_4=>zK O kQ O (J 0 O) O) O<|rL1 28 O (fun g13_4=>qU O D O) O<|rL1 29 O (fun g13_4=>yL O O O) O<|r_or O (fun h=>(lzf h))<|W<|zE O (fun c9=>?_) (fun c9=>?_)
       ·try simp only [sx] at c9
        refine G O<|Y O<|W<|zJ<|zP O ?_
        exact congrArg vI (by unfold foldM;(repeat' split)<;>first|rfl|(exfalso;(try simp only [Lz,cond_true,cond_false,Bool.and_eq_true,Bool.or_eq_true,Bool.not_eq_true,Bool.or_eq_false_iff,decide_eq_true_eq,decide_eq_false_iff_not] at *);omega))
       ·try simp only [sx] at c9
        refine zI<|G O<|Y O<|W<|zJ<|zP O ?_
        exact congrArg vI (by unfold foldM;(repeat' split)<;>first|rfl|(exfalso;(try simp only [Lz,cond_true,cond_false,Bool.and_eq_true,Bool.or_eq_true,Bool.not_eq_true,Bool.or_eq_false_iff,decide_eq_true_eq,decide_eq_false_iff_not] at *);omega))
      ·try simp only [sx] at c8
       refine G O<|Y O<|W<|zJ<|zP O ?_
       exact congrArg vI (by unfold foldM;(repeat' split)<;>first|rfl|(exfalso;(try simp only [Lz,cond_true,cond_false,Bool.and_eq_true,Bool.or_eq_true,Bool.not_eq_true,Bool.or_eq_false_iff,decide_eq_true_eq,decide_eq_false_iff_not] at *);omega))
end Go.W
