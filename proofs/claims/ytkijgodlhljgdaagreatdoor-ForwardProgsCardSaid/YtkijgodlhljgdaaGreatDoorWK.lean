/-
  Walks: what functions of the program compute. Printed by wip/gen/mk2.py.
  Conditions: none.
-/
import Derived.Test.YtkijgodlhljgdaaGreatDoorWJ
import Derived.Test.YtkijgodlhljgdaaGreatDoorPlain
set_option linter.unusedSimpArgs false
set_option linter.unusedVariables false
set_option maxRecDepth 10000
namespace Go.W
open Go Go.Eng Go.Proofs Go.L41 Go.Br
attribute [local irreducible] AWP RWP TD finQ
theorem agg105:aggT Tryz.prog 105=some 3:=by kernel_rfl
theorem el23:elemT Tryz.prog 23=some (93,3,40):=by kernel_rfl
theorem el24:elemT Tryz.prog 24=some (65,7,80):=by kernel_rfl
theorem el57:elemT Tryz.prog 57=some (105,3,48):=by kernel_rfl
theorem el209:elemT Tryz.prog 209=some (3,1,8):=by kernel_rfl
theorem el245:elemT Tryz.prog 245=some (57,1,24):=by kernel_rfl
theorem zBy:fieldT Tryz.prog 27 0=some (0,22):=by kernel_rfl
theorem zDz:fieldT Tryz.prog 27 1=some (1,23):=by kernel_rfl
theorem kM:fieldT Tryz.prog 27 2=some (2,24):=by kernel_rfl
theorem zAt:fieldT Tryz.prog 27 4=some (4,22):=by kernel_rfl
theorem zBi:fieldT Tryz.prog 59 2=some (6,57):=by kernel_rfl
theorem zAx:fieldT Tryz.prog 59 3=some (7,57):=by kernel_rfl
theorem zDx:fieldT Tryz.prog 59 4=some (8,3):=by kernel_rfl
theorem zPb:fieldT Tryz.prog 93 0=some (0,34):=by kernel_rfl
theorem zCx:fieldT Tryz.prog 105 0=some (0,9):=by kernel_rfl
theorem ik3:intT Tryz.prog 3=some .i64:=by kernel_rfl
theorem ok226:callOk Tryz.prog 226=true:=by kernel_rfl
theorem ok227:callOk Tryz.prog 227=true:=by kernel_rfl
theorem ok268:callOk Tryz.prog 268=true:=by kernel_rfl
theorem wT:oneT Tryz.prog 22=true:=by kernel_rfl
theorem zKv:oneT Tryz.prog 23=true:=by kernel_rfl
theorem zAl:oneT Tryz.prog 24=true:=by kernel_rfl
theorem wW:oneT Tryz.prog 57=true:=by kernel_rfl
theorem sz105:(Tryz.prog.info? 105).map (·.size)=some 3:=by kernel_rfl
theorem zr57:zeroT Tryz.prog 57=some [(Value.slice none 0 0)]:=by kernel_rfl
theorem zr105:zeroT Tryz.prog 105=some [(Value.string (ByteArray.mk #[])),(Value.int IntKind.i64 0),(Value.slice none 0 0)]:=by kernel_rfl
theorem slices_Grow_ax (n:Nat) (hn:n<=4294967296):
    OwnR cfg 268 [.c (.lit (.slice none 0 0)),vI n] 105 3 ([]):=by
 refine zV Tryz.func268 O Tryz.ntmps268 Tryz.results268 O ?_
 intro z hz
 refine B O<|qB O (yJ 3 O O)<|H<|U<|B O<|F O<|yB O<|H<|g O (fun c1=>?_) (fun c1=>?_)
 ·try simp only [I] at c1
  exact absurd c1 (by omega)
 ·try simp only [I] at c1
  refine zJ<|U<|B O<|F O<|F O<|qB O (zPl O el57 O)<|F O<|qB O (zPk O el57 O)<|qB O (zAk O O O ⟨by omega,by omega⟩)<|qB O (zAk O O O ⟨by omega,by omega⟩)<|F O<|H<|B O<|F O<|qB O (yM O O O)<|H<|g O (fun c2=>?_) (fun c2=>?_)
  ·try simp only [I] at c2
   refine zU O<|F O<|F O<|qB O (zPl O el57 O)<|qB O (det_cut_nil O el57 O O)<|F O<|zW O O (ope_grow n O el57 ik3 O O (by omega) (by omega) (by omega) (by omega)) ?_
   rintro _ _ ⟨b1,cap1,rfl,hcap1,rfl⟩
   refine F O<|qB O (zPk O el57 O)<|qB O (det_cut_row 0 O el57 O O O ⟨by omega,hcap1⟩)<|F O<|H<|B O<|F O<|F O<|H<|W<|R O ?_
   exact ⟨_,O,O⟩
  ·try simp only [I] at c2
   refine zJ<|B O<|F O<|yV _ (kG 105 3)<|F O<|H<|W<|R O ?_
   exact ⟨_,O,O⟩
theorem zMi (ls:List (List Ax)) (hl:ls.length<=4294967296) (ht:totL ls<=4294967296):
    OwnR cfg 227 [.c (.sl 1 (ls.map fun l=>[.sl 3 (l.map Ax.cells)]))] 105 3 (ls.flatten.map Ax.cells):=by
 refine zV Tryz.func227 O Tryz.ntmps227 Tryz.results227 O ?_
 intro z hz
 refine B O<|qB O (yJ 3 O O)<|H<|B O<|F O<|H<|U<|B O<|F O<|zZ O el245<|F O<|H<|zP<|zT ⟨[(11,.c _),(3,.c _),(0,.c _),(9,.c _),(10,.c _)],[]⟩ (Weak.mk [] ⟨G,G,G,G,G,T⟩ O)<|qG 2 0 O O (Nat) (fun k=>[(11,vI k),(3,vI (totL (ls.take k)))]) (fun k=>[]) (fun k=>k<=ls.length) (fun k=>ls.length-k) ⟨0,(by omega),Weak.mk [] ⟨G,G,G,G,G,T⟩ O⟩ ?_
 rintro k hk
 refine B O<|yB O<|H<|U<|g O (fun c1=>?_) (fun c1=>?_)
 ·try simp only [I] at c1
  obtain ⟨x,hx⟩:=qP ls k (by omega)
  have hb1:=tot_get hx
  refine zJ<|U<|zP<|B O<|qE O el245 (by omega) (Q (by assumption))<|zK wW qA O<|F O<|H<|B O<|F O<|F O<|zZ O el57<|qL O ⟨by omega,by omega⟩<|F O<|H<|B O<|F O<|yB O<|H<|g O (fun c2=>?_) (fun c2=>?_)
  ·try simp only [I] at c2
   exact absurd c2 (by omega)
  ·try simp only [I] at c2
   refine zJ<|zU O<|qL O ⟨by omega,by omega⟩<|F O<|H ?_
   refine ⟨k+1,(by omega),(by omega),Weak.mk [] ⟨G,VLe.of_eq (congrArg vI (by rw [tot_next hx];simp)),G,G,G,T⟩ O⟩
 ·try simp only [I] at c1
  have hT:totL (ls.take k)=totL ls:=by rw [qY (by omega)]
  refine qM<|B O<|F O<|zW O O (zCu O ok268 (slices_Grow_ax (totL (ls.take k)) (by omega)) ⟨G,O,G,O,T⟩) ?_
  rintro _ _ ⟨sv1,rfl,rfl⟩
  refine F O<|H<|U<|B O<|F O<|zZ O el245<|F O<|H<|zP<|zT ⟨[(27,.c _),(6,.c _),(25,.c _),(26,.c _)],[_]⟩ (Weak.mk [true] ⟨G,G,G,G,T⟩ O)<|qG 2 1 O O (Nat×Value) (fun ⟨k,sv⟩=>[(27,vI k),(6,.c (.lit sv))]) (fun ⟨k,sv⟩=>[E.vec sv 105 3 ((ls.take k).flatten.map Ax.cells)]) (fun ⟨k,sv⟩=>k<=ls.length) (fun ⟨k,sv⟩=>ls.length-k) ⟨⟨0,_⟩,(by omega),Weak.mk [true] ⟨G,G,G,G,T⟩ O⟩ ?_
  rintro ⟨k,sv⟩ hk
  show AWP _ _ _ _ _ ⟨[(27,vI k),(6,.c (.lit sv))]++_,[E.vec sv 105 3 ((ls.take k).flatten.map Ax.cells)]++_⟩
  refine B O<|yB O<|H<|U<|g O (fun c3=>?_) (fun c3=>?_)
  ·try simp only [I] at c3
   obtain ⟨x,hx⟩:=qP ls k (by omega)
   refine zJ<|U<|zP<|B O<|qE O el245 (by omega) (Q (by assumption))<|zK wW qA O<|F O<|H<|zU O<|F O<|F O<|zW O O (qS 0 O el57 O O O (by have:=tot_flat hx;simp only [List.length_map];omega) (by have:=tot_flat hx;simp only [List.length_map];omega)) ?_
   rintro _ _ ⟨sv2,rfl,rfl⟩
   refine F O<|H<|zU O<|qL O ⟨by omega,by omega⟩<|F O<|H ?_
   refine ⟨⟨k+1,sv2⟩,(by omega),(by show ls.length-(k+1)<ls.length-k;omega),Weak.mk [true] ⟨G,G,G,G,T⟩ (by show _=[E.vec sv2 _ 3 ((ls.take (k+1)).flatten.map Ax.cells)]++_;rw [qQ hx,List.flatten_append,List.map_append];simp only [List.flatten_cons,List.flatten_nil,List.append_nil];rfl)⟩
  ·try simp only [I] at c3
   refine qM<|B O<|F O<|F O<|H<|W<|R O ?_
   exact ⟨_,O,by rw [qY (by omega)];rfl⟩
theorem zEs (x y:List Ax) (hx:x.length<=1073741824) (hy:y.length<=1073741824):OwnR cfg 227 [.c (.sl 1 [[.sl 3 (x.map Ax.cells)],[.sl 3 (y.map Ax.cells)]])] 105 3 ((x++y).map Ax.cells):=by
  have h:=zMi [x,y] (by simp) (by simp only [totL];omega)
  simpa using h
theorem zJl (d:Df) (hD:d.Dims.length<=1073741824) (hR:d.Red.length<=1073741824):
    OwnR cfg 182 [vDf d] 9 1 ((namesD d).map fun s=>[cS s]):=by
 refine zV Tryz.func182 O Tryz.ntmps182 Tryz.results182 O ?_
 intro z hz
 refine B O<|zW O O (qJ O O) ?_
 rintro _ _ ⟨b1,rfl,rfl⟩
 refine qB O (yJ 1 O O)<|H<|B O<|F O<|yV _ (kG 9 1)<|H<|U<|B O<|zG O zBi<|zK wW (K 1 O) O<|zG O zAx<|zK wW (K 1 O) O<|qZ O el245 zr57<|qK O ok227 (OwnR.pur (zEs d.Dims d.Red hD hR)) ⟨G,O,T⟩<|zZ O el57<|F O<|H<|zP<|zT ⟨[(13,.c _),(3,.c _),(11,.c _),(12,.c _)],[_]⟩ (Weak.mk [true,false] ⟨G,G,G,G,T⟩ O)<|qG 2 1 O O (Nat×Value) (fun ⟨k,sv⟩=>[(13,vI k),(3,.c (.lit sv))]) (fun ⟨k,sv⟩=>[E.vec sv 9 1 (((d.Dims++d.Red).take k).map fun a=>[cS a.Name])]) (fun ⟨k,sv⟩=>k<=(d.Dims++d.Red).length) (fun ⟨k,sv⟩=>(d.Dims++d.Red).length-k) ⟨⟨0,(.slice none 0 0)⟩,(by omega),Weak.mk [true] ⟨G,G,G,G,T⟩ O⟩ ?_
 rintro ⟨k,sv⟩ hk
 show AWP _ _ _ _ _ ⟨[(13,vI k),(3,.c (.lit sv))]++_,[E.vec sv 9 1 (((d.Dims++d.Red).take k).map fun a=>[cS a.Name])]++_⟩
 refine B O<|yB O<|H<|U<|g O (fun c1=>?_) (fun c1=>?_)
 ·try simp only [I] at c1
  obtain ⟨x,hx⟩:=qP (d.Dims++d.Red) k (by omega)
  have hlen:(d.Dims++d.Red).length<=2147483648:=by rw [List.length_append];omega
  refine zJ<|U<|zP<|B O<|qE O el57 (by omega) (Q (by assumption))<|zL agg105 qA O<|zW O O (qI [none,none,some 2] O zr105 O) ?_
  rintro _ _ ⟨b3,rfl,rfl⟩
  refine N 0 sz105 O<|H<|zU O<|F O<|zG O zCx<|zK i (K 0 O) O<|qZ O el22 zr9<|zW O O (qS 1 O el22 O O O (by simp only [List.length_take,List.length_map,List.length_cons,List.length_nil];omega) (by simp only [List.length_take,List.length_map,List.length_cons,List.length_nil];omega)) ?_
  rintro _ _ ⟨sv4,rfl,rfl⟩
  refine F O<|H<|zU O<|qL O ⟨by omega,by omega⟩<|F O<|H ?_
  refine ⟨⟨k+1,sv4⟩,(by omega),(by show (d.Dims++d.Red).length-(k+1)<(d.Dims++d.Red).length-k;omega),Weak.mk [false,true] ⟨G,G,G,G,T⟩ (by show _=[E.vec sv4 _ 1 (((d.Dims++d.Red).take (k+1)).map fun a=>[cS a.Name])]++_;rw [qQ hx,List.map_append (f:=fun a:Ax=>[cS a.Name])];rfl)⟩
 ·try simp only [I] at c1
  refine qM<|B O<|F O<|F O<|H<|W<|R O ?_
  exact ⟨_,O,by rw [qY (by omega),names_rows];rfl⟩
theorem program_limits (p:Pg):
    Pur cfg 102 [vPg p] (vB (decide (limitOk p))):=by
 refine zV Tryz.func102 O Tryz.ntmps102 Tryz.results102 O ?_
 intro z hz
 refine B O<|zW O O (qJ O O) ?_
 rintro _ _ ⟨b1,rfl,rfl⟩
 refine F O<|H<|B O<|zG O zBy<|zK wT (K 0 O) O<|zZ O el22<|zG O kM<|zK zAl (K 0 O) O<|zZ O el24<|zG O kE<|zK zAc (K 0 O) O<|zZ O el25<|zG O zAt<|zK wT (K 0 O) O<|zZ O el22<|qB O (det_max4 O O O O O)<|qB O (wA O O O)<|F O<|u O (fun g1_14=>zD O zDz O) O<|J 18 O (fun g1_14=>zF O zKv O (K 0 O) O) O<|J 19 O (fun g1_14=>qV O el23 O) O<|J 20 O (fun g1_14=>wA O O O) O<|yZ O (fun h=>h)<|F O<|H<|W<|R O ?_
 exact congrArg vB (limit_eq p)
theorem slices_Max_int (l:List Int) (x0:Int) (h0:l[0]? =some x0) (hl:l.length<=4294967296):
    Pur cfg 226 [.c (.sl 1 (l.map fun n=>[cI n]))] (vI (maxT l l.length)):=by
 refine zV Tryz.func226 O Tryz.ntmps226 Tryz.results226 O ?_
 intro z hz
 have hlen:=zHf h0
 refine B O<|F O<|H<|U<|B O<|F O<|zZ O el209<|yB O<|H<|g O (fun c1=>?_) (fun c1=>?_)
 ·try simp only [I] at c1
  exact absurd c1 (by omega)
 ·try simp only [I] at c1
  refine zJ<|B O<|F O<|qE O el209 (by omega) (Q h0)<|zK w qA O<|F O<|H<|U<|B O<|F O<|H<|zP<|zT ⟨[(4,.c _),(3,.c _),(0,.c _)],[]⟩ (Weak.mk [] ⟨G,G,G,T⟩ O) ?_
  refine qG 2 0 O O (Nat) (fun k=>[(4,vI k),(3,vI (maxT l k))]) (fun k=>[]) (fun k=>1<=k/\k<=l.length) (fun k=>l.length-k) ⟨1,⟨by omega,by omega⟩,Weak.mk [] ⟨G,VLe.of_eq (congrArg vI (maxT_one h0)),G,T⟩ O⟩ ?_
  rintro k ⟨hk1,hk⟩
  refine U<|B O<|F O<|F O<|zZ O el209<|yB O<|H<|g O (fun c2=>?_) (fun c2=>?_)
  ·try simp only [I] at c2
   obtain ⟨x,hx⟩:=qP l k (by omega)
   refine zJ<|U<|zP<|zU O<|F O<|F O<|F O<|qE O el209 (by omega) (Q (by assumption))<|zK w qA O<|qB O (det_max O O O)<|F O<|H<|zU O<|F O<|qL O ⟨by omega,by omega⟩<|F O<|H ?_
   refine ⟨k+1,⟨by omega,by omega⟩,(by omega),Weak.mk [] ⟨G,VLe.of_eq (congrArg vI (maxT_next hx)),G,T⟩ O⟩
  ·try simp only [I] at c2
   refine qM<|B O<|F O<|F O<|H<|W<|R O ?_
   exact congrArg vI (by rw [show k=l.length by omega])
theorem zFu (t:Ty) (l:List Int) (x0:Int) (h0:l[0]? =some x0) (hl:l.length<=4294967296):
    Pur cfg 179 [vTy t,.c (.sl 1 (l.map fun n=>[cI n]))] (vI (declE t l)):=by
 refine zV Tryz.func179 O Tryz.ntmps179 Tryz.results179 O ?_
 intro z hz
 refine B O<|zW O O (qJ O O) ?_
 rintro _ _ ⟨b1,rfl,rfl⟩
 refine F O<|H<|U<|B O<|zL yF (K 0 O) O<|qK O ok214 (zCc _) ⟨G,O,T⟩<|yP O<|H<|g O (fun c1=>?_) (fun c1=>?_)
 ·try simp only [I] at c1
  refine B O<|F O<|H<|W<|R O ?_
  exact congrArg vI (by rw [declE,if_neg (by rw [tyErr_no c1];simp)])
 ·try simp only [I] at c1
  refine zJ<|U<|B O<|F O<|qK O ok226 (slices_Max_int l x0 h0 hl) ⟨G,O,T⟩<|qB O (yM O O O)<|H<|g O (fun c2=>?_) (fun c2=>?_)
  ·try simp only [I] at c2
   refine B O<|F O<|H<|W<|R O ?_
   exact congrArg vI (by rw [declE,if_pos (tyErr_yes c1),if_pos c2])
  ·try simp only [I] at c2
   refine zJ<|B O<|F O<|H<|W<|R O ?_
   exact congrArg vI (by rw [declE,if_pos (tyErr_yes c1),if_neg (by omega)])
theorem zIu (x:Cn) (hl:x.Lin.L.length<=5864062014805):
    Pur cfg 177 [vCn x] (vI (linErr x.Lin)):=by
 refine zV Tryz.func177 O Tryz.ntmps177 Tryz.results177 O ?_
 intro z hz
 refine B O<|zW O O (qJ O O) ?_
 rintro _ _ ⟨b1,rfl,rfl⟩
 refine F O<|H<|B O<|zG O zPb<|zL kP (K 0 O) O<|qK O ok162 (zGn x.Lin (by omega)) ⟨G,O,T⟩<|F O<|H<|W<|R O ?_
 exact O
theorem program_fold (d:Df):
    Pur cfg 181 [vDf d] (vI (foldM d)):=by
 refine zV Tryz.func181 O Tryz.ntmps181 Tryz.results181 O ?_
 intro z hz
 refine B O<|zW O O (qJ O O) ?_
 rintro _ _ ⟨b1,rfl,rfl⟩
 refine F O<|H<|U<|B O<|zG O zDx<|zK w (K 0 O) O<|H<|zP<|B O<|qX O<|F O<|H<|g O (fun c1=>?_) (fun c1=>?_)
 ·try simp only [I] at c1
  refine B O<|zG O zAx<|zK wW (K 0 O) O<|zZ O el57<|qB O (yM O O O)<|H<|g O (fun c2=>?_) (fun c2=>?_)
  ·try simp only [I] at c2
   refine B O<|F O<|H<|W<|R O ?_
   exact congrArg vI (by unfold foldM;(repeat' split)<;>first|rfl|(exfalso;(try simp only [Lz,cond_true,cond_false,Bool.and_eq_true,Bool.or_eq_true,Bool.not_eq_true,Bool.or_eq_false_iff,decide_eq_true_eq,decide_eq_false_iff_not] at *);omega))
  ·try simp only [I] at c2
   refine zJ<|B O<|F O<|H<|W<|R O ?_
   exact congrArg vI (by unfold foldM;(repeat' split)<;>first|rfl|(exfalso;(try simp only [Lz,cond_true,cond_false,Bool.and_eq_true,Bool.or_eq_true,Bool.not_eq_true,Bool.or_eq_false_iff,decide_eq_true_eq,decide_eq_false_iff_not] at *);omega))
 ·try simp only [I] at c1
  refine U<|B O<|qX O<|F O<|H<|g O (fun c3=>?_) (fun c3=>?_)
  ·try simp only [I] at c3
   refine zJ<|g O (fun c6=>?_) (fun c6=>?_)
   ·try simp only [I] at c6
    refine B O<|zG O zAx<|zK wW (K 0 O) O<|zZ O el57<|qX O<|H<|g O (fun c7=>?_) (fun c7=>?_)
    ·try simp only [I] at c7
     refine B O<|F O<|H<|W<|R O ?_
     exact congrArg vI (by unfold foldM;(repeat' split)<;>first|rfl|(exfalso;(try simp only [Lz,cond_true,cond_false,Bool.and_eq_true,Bool.or_eq_true,Bool.not_eq_true,Bool.or_eq_false_iff,decide_eq_true_eq,decide_eq_false_iff_not] at *);omega))
    ·try simp only [I] at c7
     refine zJ<|B O<|F O<|H<|W<|R O ?_
     exact congrArg vI (by unfold foldM;(repeat' split)<;>first|rfl|(exfalso;(try simp only [Lz,cond_true,cond_false,Bool.and_eq_true,Bool.or_eq_true,Bool.not_eq_true,Bool.or_eq_false_iff,decide_eq_true_eq,decide_eq_false_iff_not] at *);omega))
   ·try simp only [I] at c6
    refine B O<|qX O<|F O<|H<|g O (fun c8=>?_) (fun c8=>?_)
    ·try simp only [I] at c8
     refine B O<|zG O zAx<|zK wW (K 0 O) O<|zZ O el57<|qB O (yM O O O)<|F O<|u O (fun g13_4=>zD O zBi O) O<|J 27 O (fun g13_4=>zF O wW O (K 0 O) O) O<|J 28 O (fun g13_4=>qV O el57 O) O<|J 29 O (fun g13_4=>yL O O O) O<|r_or O (fun h=>(lzf h))<|H<|g O (fun c9=>?_) (fun c9=>?_)
     ·try simp only [I] at c9
      refine B O<|F O<|H<|W<|R O ?_
      exact congrArg vI (by unfold foldM;(repeat' split)<;>first|rfl|(exfalso;(try simp only [Lz,cond_true,cond_false,Bool.and_eq_true,Bool.or_eq_true,Bool.not_eq_true,Bool.or_eq_false_iff,decide_eq_true_eq,decide_eq_false_iff_not] at *);omega))
     ·try simp only [I] at c9
      refine zJ<|B O<|F O<|H<|W<|R O ?_
      exact congrArg vI (by unfold foldM;(repeat' split)<;>first|rfl|(exfalso;(try simp only [Lz,cond_true,cond_false,Bool.and_eq_true,Bool.or_eq_true,Bool.not_eq_true,Bool.or_eq_false_iff,decide_eq_true_eq,decide_eq_false_iff_not] at *);omega))
    ·try simp only [I] at c8
     refine B O<|F O<|H<|W<|R O ?_
     exact congrArg vI (by unfold foldM;(repeat' split)<;>first|rfl|(exfalso;(try simp only [Lz,cond_true,cond_false,Bool.and_eq_true,Bool.or_eq_true,Bool.not_eq_true,Bool.or_eq_false_iff,decide_eq_true_eq,decide_eq_false_iff_not] at *);omega))
  ·try simp only [I] at c3
   refine B O<|qX O<|F O<|H<|g O (fun c4=>?_) (fun c4=>?_)
   ·try simp only [I] at c4
    refine zJ<|g O (fun c6=>?_) (fun c6=>?_)
    ·try simp only [I] at c6
     refine B O<|zG O zAx<|zK wW (K 0 O) O<|zZ O el57<|qX O<|H<|g O (fun c7=>?_) (fun c7=>?_)
     ·try simp only [I] at c7
      refine B O<|F O<|H<|W<|R O ?_
      exact congrArg vI (by unfold foldM;(repeat' split)<;>first|rfl|(exfalso;(try simp only [Lz,cond_true,cond_false,Bool.and_eq_true,Bool.or_eq_true,Bool.not_eq_true,Bool.or_eq_false_iff,decide_eq_true_eq,decide_eq_false_iff_not] at *);omega))
     ·try simp only [I] at c7
      refine zJ<|B O<|F O<|H<|W<|R O ?_
      exact congrArg vI (by unfold foldM;(repeat' split)<;>first|rfl|(exfalso;(try simp only [Lz,cond_true,cond_false,Bool.and_eq_true,Bool.or_eq_true,Bool.not_eq_true,Bool.or_eq_false_iff,decide_eq_true_eq,decide_eq_false_iff_not] at *);omega))
    ·try simp only [I] at c6
     refine B O<|qX O<|F O<|H<|g O (fun c8=>?_) (fun c8=>?_)
     ·try simp only [I] at c8
      refine B O<|zG O zAx<|zK wW (K 0 O) O<|zZ O el57<|qB O (yM O O O)<|F O<|u O (fun g13_4=>zD O zBi O) O<|J 27 O (fun g13_4=>zF O wW O (K 0 O) O) O<|J 28 O (fun g13_4=>qV O el57 O) O<|J 29 O (fun g13_4=>yL O O O) O<|r_or O (fun h=>(lzf h))<|H<|g O (fun c9=>?_) (fun c9=>?_)
      ·try simp only [I] at c9
       refine B O<|F O<|H<|W<|R O ?_
       exact congrArg vI (by unfold foldM;(repeat' split)<;>first|rfl|(exfalso;(try simp only [Lz,cond_true,cond_false,Bool.and_eq_true,Bool.or_eq_true,Bool.not_eq_true,Bool.or_eq_false_iff,decide_eq_true_eq,decide_eq_false_iff_not] at *);omega))
      ·try simp only [I] at c9
       refine zJ<|B O<|F O<|H<|W<|R O ?_
       exact congrArg vI (by unfold foldM;(repeat' split)<;>first|rfl|(exfalso;(try simp only [Lz,cond_true,cond_false,Bool.and_eq_true,Bool.or_eq_true,Bool.not_eq_true,Bool.or_eq_false_iff,decide_eq_true_eq,decide_eq_false_iff_not] at *);omega))
     ·try simp only [I] at c8
      refine B O<|F O<|H<|W<|R O ?_
      exact congrArg vI (by unfold foldM;(repeat' split)<;>first|rfl|(exfalso;(try simp only [Lz,cond_true,cond_false,Bool.and_eq_true,Bool.or_eq_true,Bool.not_eq_true,Bool.or_eq_false_iff,decide_eq_true_eq,decide_eq_false_iff_not] at *);omega))
   ·try simp only [I] at c4
    refine B O<|qX O<|F O<|H<|g O (fun c5=>?_) (fun c5=>?_)
    ·try simp only [I] at c5
     refine zJ<|g O (fun c6=>?_) (fun c6=>?_)
     ·try simp only [I] at c6
      refine B O<|zG O zAx<|zK wW (K 0 O) O<|zZ O el57<|qX O<|H<|g O (fun c7=>?_) (fun c7=>?_)
      ·try simp only [I] at c7
       refine B O<|F O<|H<|W<|R O ?_
       exact congrArg vI (by unfold foldM;(repeat' split)<;>first|rfl|(exfalso;(try simp only [Lz,cond_true,cond_false,Bool.and_eq_true,Bool.or_eq_true,Bool.not_eq_true,Bool.or_eq_false_iff,decide_eq_true_eq,decide_eq_false_iff_not] at *);omega))
      ·try simp only [I] at c7
       refine zJ<|B O<|F O<|H<|W<|R O ?_
       exact congrArg vI (by unfold foldM;(repeat' split)<;>first|rfl|(exfalso;(try simp only [Lz,cond_true,cond_false,Bool.and_eq_true,Bool.or_eq_true,Bool.not_eq_true,Bool.or_eq_false_iff,decide_eq_true_eq,decide_eq_false_iff_not] at *);omega))
     ·try simp only [I] at c6
      refine B O<|qX O<|F O<|H<|g O (fun c8=>?_) (fun c8=>?_)
      ·try simp only [I] at c8
       refine B O<|zG O zAx<|zK wW (K 0 O) O<|zZ O el57<|qB O (yM O O O)<|F O<|u O (fun g13_4=>zD O zBi O) O<|J 27 O (fun g13_4=>zF O wW O (K 0 O) O) O<|J 28 O (fun g13_4=>qV O el57 O) O<|J 29 O (fun g13_4=>yL O O O) O<|r_or O (fun h=>(lzf h))<|H<|g O (fun c9=>?_) (fun c9=>?_)
       ·try simp only [I] at c9
        refine B O<|F O<|H<|W<|R O ?_
        exact congrArg vI (by unfold foldM;(repeat' split)<;>first|rfl|(exfalso;(try simp only [Lz,cond_true,cond_false,Bool.and_eq_true,Bool.or_eq_true,Bool.not_eq_true,Bool.or_eq_false_iff,decide_eq_true_eq,decide_eq_false_iff_not] at *);omega))
       ·try simp only [I] at c9
        refine zJ<|B O<|F O<|H<|W<|R O ?_
        exact congrArg vI (by unfold foldM;(repeat' split)<;>first|rfl|(exfalso;(try simp only [Lz,cond_true,cond_false,Bool.and_eq_true,Bool.or_eq_true,Bool.not_eq_true,Bool.or_eq_false_iff,decide_eq_true_eq,decide_eq_false_iff_not] at *);omega))
      ·try simp only [I] at c8
       refine B O<|F O<|H<|W<|R O ?_
       exact congrArg vI (by unfold foldM;(repeat' split)<;>first|rfl|(exfalso;(try simp only [Lz,cond_true,cond_false,Bool.and_eq_true,Bool.or_eq_true,Bool.not_eq_true,Bool.or_eq_false_iff,decide_eq_true_eq,decide_eq_false_iff_not] at *);omega))
    ·try simp only [I] at c5
     refine zU O<|qX O<|F O<|H<|g O (fun c6=>?_) (fun c6=>?_)
     ·try simp only [I] at c6
      refine B O<|zG O zAx<|zK wW (K 0 O) O<|zZ O el57<|qX O<|H<|g O (fun c7=>?_) (fun c7=>?_)
      ·try simp only [I] at c7
       refine B O<|F O<|H<|W<|R O ?_
       exact congrArg vI (by unfold foldM;(repeat' split)<;>first|rfl|(exfalso;(try simp only [Lz,cond_true,cond_false,Bool.and_eq_true,Bool.or_eq_true,Bool.not_eq_true,Bool.or_eq_false_iff,decide_eq_true_eq,decide_eq_false_iff_not] at *);omega))
      ·try simp only [I] at c7
       refine zJ<|B O<|F O<|H<|W<|R O ?_
       exact congrArg vI (by unfold foldM;(repeat' split)<;>first|rfl|(exfalso;(try simp only [Lz,cond_true,cond_false,Bool.and_eq_true,Bool.or_eq_true,Bool.not_eq_true,Bool.or_eq_false_iff,decide_eq_true_eq,decide_eq_false_iff_not] at *);omega))
     ·try simp only [I] at c6
      refine B O<|qX O<|F O<|H<|g O (fun c8=>?_) (fun c8=>?_)
      ·try simp only [I] at c8
       refine B O<|zG O zAx<|zK wW (K 0 O) O<|zZ O el57<|qB O (yM O O O)<|F O<|u O (fun g13_4=>zD O zBi O) O<|J 27 O (fun g13_4=>zF O wW O (K 0 O) O) O<|J 28 O (fun g13_4=>qV O el57 O) O<|J 29 O (fun g13_4=>yL O O O) O<|r_or O (fun h=>(lzf h))<|H<|g O (fun c9=>?_) (fun c9=>?_)
       ·try simp only [I] at c9
        refine B O<|F O<|H<|W<|R O ?_
        exact congrArg vI (by unfold foldM;(repeat' split)<;>first|rfl|(exfalso;(try simp only [Lz,cond_true,cond_false,Bool.and_eq_true,Bool.or_eq_true,Bool.not_eq_true,Bool.or_eq_false_iff,decide_eq_true_eq,decide_eq_false_iff_not] at *);omega))
       ·try simp only [I] at c9
        refine zJ<|B O<|F O<|H<|W<|R O ?_
        exact congrArg vI (by unfold foldM;(repeat' split)<;>first|rfl|(exfalso;(try simp only [Lz,cond_true,cond_false,Bool.and_eq_true,Bool.or_eq_true,Bool.not_eq_true,Bool.or_eq_false_iff,decide_eq_true_eq,decide_eq_false_iff_not] at *);omega))
      ·try simp only [I] at c8
       refine B O<|F O<|H<|W<|R O ?_
       exact congrArg vI (by unfold foldM;(repeat' split)<;>first|rfl|(exfalso;(try simp only [Lz,cond_true,cond_false,Bool.and_eq_true,Bool.or_eq_true,Bool.not_eq_true,Bool.or_eq_false_iff,decide_eq_true_eq,decide_eq_false_iff_not] at *);omega))
end Go.W
