/-
  Walks: what functions of the program compute. Printed by wip/gen/mk2.py.
  Conditions: none.
-/
import Derived.Test.YtkijgodlhljgdaaGreatDoorWJ
import Derived.Test.YtkijgodlhljgdaaGreatDoorPlain
set_option linter.unusedSimpArgs false
set_option linter.unusedVariables false
set_option maxRecDepth 10000
namespace Go.W
open Go Go.Eng Go.Proofs Go.L41 Go.Br
attribute [local irreducible] AWP RWP TD finQ
theorem agg105:aggT Tryz.prog 105=some 3:=by kernel_rfl
theorem el23:elemT Tryz.prog 23=some (93,3,40):=by kernel_rfl
theorem el24:elemT Tryz.prog 24=some (65,7,80):=by kernel_rfl
theorem el57:elemT Tryz.prog 57=some (105,3,48):=by kernel_rfl
theorem el209:elemT Tryz.prog 209=some (3,1,8):=by kernel_rfl
theorem el245:elemT Tryz.prog 245=some (57,1,24):=by kernel_rfl
theorem zCm:fieldT Tryz.prog 27 0=some (0,22):=by kernel_rfl
theorem zFg:fieldT Tryz.prog 27 1=some (1,23):=by kernel_rfl
theorem wN:fieldT Tryz.prog 27 2=some (2,24):=by kernel_rfl
theorem zBb:fieldT Tryz.prog 27 4=some (4,22):=by kernel_rfl
theorem zAv:fieldT Tryz.prog 59 2=some (6,57):=by kernel_rfl
theorem zAm:fieldT Tryz.prog 59 3=some (7,57):=by kernel_rfl
theorem zFe:fieldT Tryz.prog 59 4=some (8,3):=by kernel_rfl
theorem fd93_0:fieldT Tryz.prog 93 0=some (0,34):=by kernel_rfl
theorem zCo:fieldT Tryz.prog 105 0=some (0,9):=by kernel_rfl
theorem ik3:intT Tryz.prog 3=some .i64:=by kernel_rfl
theorem ok226:callOk Tryz.prog 226=true:=by kernel_rfl
theorem ok227:callOk Tryz.prog 227=true:=by kernel_rfl
theorem ok268:callOk Tryz.prog 268=true:=by kernel_rfl
theorem wY:oneT Tryz.prog 22=true:=by kernel_rfl
theorem one23:oneT Tryz.prog 23=true:=by kernel_rfl
theorem zCk:oneT Tryz.prog 24=true:=by kernel_rfl
theorem wK:oneT Tryz.prog 57=true:=by kernel_rfl
theorem sz105:(Tryz.prog.info? 105).map (·.size)=some 3:=by kernel_rfl
theorem zr57:zeroT Tryz.prog 57=some [(Value.slice none 0 0)]:=by kernel_rfl
theorem zr105:zeroT Tryz.prog 105=some [(Value.string (ByteArray.mk #[])),(Value.int IntKind.i64 0),(Value.slice none 0 0)]:=by kernel_rfl
theorem slices_Grow_ax (n:Nat) (hn:n<=4294967296):
    OwnR cfg 268 [.c (.lit (.slice none 0 0)),vI n] 105 3 ([]):=by
 refine zT Tryz.func268 O Tryz.ntmps268 Tryz.results268 O ?_
 intro z hz
 refine B O<|zX O (yU 3 O O)<|U<|zI<|B O<|G O<|yA O<|U<|zE O (fun c1=>?_) (fun c1=>?_)
 ·try simp only [W] at c1
  exact absurd c1 (by omega)
 ·try simp only [W] at c1
  refine zJ<|zI<|B O<|G O<|G O<|zX O (zNz O el57 O)<|G O<|zX O (zNy O el57 O)<|zX O (zAa O O O ⟨by omega,by omega⟩)<|zX O (zAa O O O ⟨by omega,by omega⟩)<|G O<|U<|B O<|G O<|zX O (yD O O O)<|U<|zE O (fun c2=>?_) (fun c2=>?_)
  ·try simp only [W] at c2
   refine zS O<|G O<|G O<|zX O (zNz O el57 O)<|zX O (det_cut_nil O el57 O O)<|G O<|zZ O O (ope_grow n O el57 ik3 O O (by omega) (by omega) (by omega) (by omega)) ?_
   rintro _ _ ⟨b1,cap1,rfl,hcap1,rfl⟩
   refine G O<|zX O (zNy O el57 O)<|zX O (det_cut_row 0 O el57 O O O ⟨by omega,hcap1⟩)<|G O<|U<|B O<|G O<|G O<|U<|zH<|zQ O ?_
   exact ⟨_,O,O⟩
  ·try simp only [W] at c2
   refine zJ<|B O<|G O<|yY _ (kM 105 3)<|G O<|U<|zH<|zQ O ?_
   exact ⟨_,O,O⟩
theorem zKz (ls:List (List Ax)) (hl:ls.length<=4294967296) (ht:totL ls<=4294967296):
    OwnR cfg 227 [.c (.sl 1 (ls.map fun l=>[.sl 3 (l.map Ax.cells)]))] 105 3 (ls.flatten.map Ax.cells):=by
 refine zT Tryz.func227 O Tryz.ntmps227 Tryz.results227 O ?_
 intro z hz
 refine B O<|zX O (yU 3 O O)<|U<|B O<|G O<|U<|zI<|B O<|G O<|zY O el245<|G O<|U<|zP<|zU ⟨[(11,.c _),(3,.c _),(0,.c _),(9,.c _),(10,.c _)],[]⟩ (Weak.mk [] ⟨Y,Y,Y,Y,Y,T⟩ O)<|qF 2 0 O O (Nat) (fun k=>[(11,vI k),(3,vI (totL (ls.take k)))]) (fun k=>[]) (fun k=>k<=ls.length) (fun k=>ls.length-k) ⟨0,(by omega),Weak.mk [] ⟨Y,Y,Y,Y,Y,T⟩ O⟩ ?_
 rintro k hk
 refine B O<|yA O<|U<|zI<|zE O (fun c1=>?_) (fun c1=>?_)
 ·try simp only [W] at c1
  obtain ⟨x,hx⟩:=qQ ls k (by omega)
  have hb1:=tot_get hx
  refine zJ<|zI<|zP<|B O<|qE O el245 (by omega) (getm (by assumption))<|zK wK qB O<|G O<|U<|B O<|G O<|G O<|zY O el57<|qJ O ⟨by omega,by omega⟩<|G O<|U<|B O<|G O<|yA O<|U<|zE O (fun c2=>?_) (fun c2=>?_)
  ·try simp only [W] at c2
   exact absurd c2 (by omega)
  ·try simp only [W] at c2
   refine zJ<|zS O<|qJ O ⟨by omega,by omega⟩<|G O<|U ?_
   refine ⟨k+1,(by omega),(by omega),Weak.mk [] ⟨Y,VLe.of_eq (congrArg vI (by rw [tot_next hx];simp)),Y,Y,Y,T⟩ O⟩
 ·try simp only [W] at c1
  have hT:totL (ls.take k)=totL ls:=by rw [qX (by omega)]
  refine qO<|B O<|G O<|zZ O O (zCj O ok268 (slices_Grow_ax (totL (ls.take k)) (by omega)) ⟨Y,O,Y,O,T⟩) ?_
  rintro _ _ ⟨sv1,rfl,rfl⟩
  refine G O<|U<|zI<|B O<|G O<|zY O el245<|G O<|U<|zP<|zU ⟨[(27,.c _),(6,.c _),(25,.c _),(26,.c _)],[_]⟩ (Weak.mk [true] ⟨Y,Y,Y,Y,T⟩ O)<|qF 2 1 O O (Nat×Value) (fun ⟨k,sv⟩=>[(27,vI k),(6,.c (.lit sv))]) (fun ⟨k,sv⟩=>[E.vec sv 105 3 ((ls.take k).flatten.map Ax.cells)]) (fun ⟨k,sv⟩=>k<=ls.length) (fun ⟨k,sv⟩=>ls.length-k) ⟨⟨0,_⟩,(by omega),Weak.mk [true] ⟨Y,Y,Y,Y,T⟩ O⟩ ?_
  rintro ⟨k,sv⟩ hk
  show AWP _ _ _ _ _ ⟨[(27,vI k),(6,.c (.lit sv))]++_,[E.vec sv 105 3 ((ls.take k).flatten.map Ax.cells)]++_⟩
  refine B O<|yA O<|U<|zI<|zE O (fun c3=>?_) (fun c3=>?_)
  ·try simp only [W] at c3
   obtain ⟨x,hx⟩:=qQ ls k (by omega)
   refine zJ<|zI<|zP<|B O<|qE O el245 (by omega) (getm (by assumption))<|zK wK qB O<|G O<|U<|zS O<|G O<|G O<|zZ O O (qY 0 O el57 O O O (by have:=tot_flat hx;simp only [List.length_map];omega) (by have:=tot_flat hx;simp only [List.length_map];omega)) ?_
   rintro _ _ ⟨sv2,rfl,rfl⟩
   refine G O<|U<|zS O<|qJ O ⟨by omega,by omega⟩<|G O<|U ?_
   refine ⟨⟨k+1,sv2⟩,(by omega),(by show ls.length-(k+1)<ls.length-k;omega),Weak.mk [true] ⟨Y,Y,Y,Y,T⟩ (by show _=[E.vec sv2 _ 3 ((ls.take (k+1)).flatten.map Ax.cells)]++_;rw [qR hx,List.flatten_append,List.map_append];simp only [List.flatten_cons,List.flatten_nil,List.append_nil];rfl)⟩
  ·try simp only [W] at c3
   refine qO<|B O<|G O<|G O<|U<|zH<|zQ O ?_
   exact ⟨_,O,by rw [qX (by omega)];rfl⟩
theorem zEf (x y:List Ax) (hx:x.length<=1073741824) (hy:y.length<=1073741824):OwnR cfg 227 [.c (.sl 1 [[.sl 3 (x.map Ax.cells)],[.sl 3 (y.map Ax.cells)]])] 105 3 ((x++y).map Ax.cells):=by
  have h:=zKz [x,y] (by simp) (by simp only [totL];omega)
  simpa using h
theorem zIi (d:Df) (hD:d.Dims.length<=1073741824) (hR:d.Red.length<=1073741824):
    OwnR cfg 182 [vDf d] 9 1 ((namesD d).map fun s=>[cS s]):=by
 refine zT Tryz.func182 O Tryz.ntmps182 Tryz.results182 O ?_
 intro z hz
 refine B O<|zZ O O (qI O O) ?_
 rintro _ _ ⟨b1,rfl,rfl⟩
 refine zX O (yU 1 O O)<|U<|B O<|G O<|yY _ (kM 9 1)<|U<|zI<|B O<|zG O zAv<|zK wK (J 1 O) O<|zG O zAm<|zK wK (J 1 O) O<|yE O el245 zr57<|qK O ok227 (OwnR.pur (zEf d.Dims d.Red hD hR)) ⟨Y,O,T⟩<|zY O el57<|G O<|U<|zP<|zU ⟨[(13,.c _),(3,.c _),(11,.c _),(12,.c _)],[_]⟩ (Weak.mk [true,false] ⟨Y,Y,Y,Y,T⟩ O)<|qF 2 1 O O (Nat×Value) (fun ⟨k,sv⟩=>[(13,vI k),(3,.c (.lit sv))]) (fun ⟨k,sv⟩=>[E.vec sv 9 1 (((d.Dims++d.Red).take k).map fun a=>[cS a.Name])]) (fun ⟨k,sv⟩=>k<=(d.Dims++d.Red).length) (fun ⟨k,sv⟩=>(d.Dims++d.Red).length-k) ⟨⟨0,(.slice none 0 0)⟩,(by omega),Weak.mk [true] ⟨Y,Y,Y,Y,T⟩ O⟩ ?_
 rintro ⟨k,sv⟩ hk
 show AWP _ _ _ _ _ ⟨[(13,vI k),(3,.c (.lit sv))]++_,[E.vec sv 9 1 (((d.Dims++d.Red).take k).map fun a=>[cS a.Name])]++_⟩
 refine B O<|yA O<|U<|zI<|zE O (fun c1=>?_) (fun c1=>?_)
 ·try simp only [W] at c1
  obtain ⟨x,hx⟩:=qQ (d.Dims++d.Red) k (by omega)
  have hlen:(d.Dims++d.Red).length<=2147483648:=by rw [List.length_append];omega
  refine zJ<|zI<|zP<|B O<|qE O el57 (by omega) (getm (by assumption))<|zL agg105 qB O<|zZ O O (qH [none,none,some 2] O zr105 O) ?_
  rintro _ _ ⟨b3,rfl,rfl⟩
  refine N 0 sz105 O<|U<|zS O<|G O<|zG O zCo<|zK one9 (J 0 O) O<|yE O el22 zr9<|zZ O O (qY 1 O el22 O O O (by simp only [List.length_take,List.length_map,List.length_cons,List.length_nil];omega) (by simp only [List.length_take,List.length_map,List.length_cons,List.length_nil];omega)) ?_
  rintro _ _ ⟨sv4,rfl,rfl⟩
  refine G O<|U<|zS O<|qJ O ⟨by omega,by omega⟩<|G O<|U ?_
  refine ⟨⟨k+1,sv4⟩,(by omega),(by show (d.Dims++d.Red).length-(k+1)<(d.Dims++d.Red).length-k;omega),Weak.mk [false,true] ⟨Y,Y,Y,Y,T⟩ (by show _=[E.vec sv4 _ 1 (((d.Dims++d.Red).take (k+1)).map fun a=>[cS a.Name])]++_;rw [qR hx,List.map_append (f:=fun a:Ax=>[cS a.Name])];rfl)⟩
 ·try simp only [W] at c1
  refine qO<|B O<|G O<|G O<|U<|zH<|zQ O ?_
  exact ⟨_,O,by rw [qX (by omega),names_rows];rfl⟩
theorem program_limits (p:Pg):
    Pur cfg 102 [vPg p] (vB (decide (limitOk p))):=by
 refine zT Tryz.func102 O Tryz.ntmps102 Tryz.results102 O ?_
 intro z hz
 refine B O<|zZ O O (qI O O) ?_
 rintro _ _ ⟨b1,rfl,rfl⟩
 refine G O<|U<|B O<|zG O zCm<|zK wY (J 0 O) O<|zY O el22<|zG O wN<|zK zCk (J 0 O) O<|zY O el24<|zG O kE<|zK wX (J 0 O) O<|zY O el25<|zG O zBb<|zK wY (J 0 O) O<|zY O el22<|zX O (det_max4 O O O O O)<|zX O (kQ O O O)<|G O<|rL0 O (fun g1_14=>zD O zFg O) O<|rL1 18 O (fun g1_14=>zF O one23 O (J 0 O) O) O<|rL1 19 O (fun g1_14=>qP O el23 O) O<|rL1 20 O (fun g1_14=>kQ O O O) O<|yW O (fun h=>h)<|G O<|U<|zH<|zQ O ?_
 exact congrArg vB (limit_eq p)
theorem slices_Max_int (l:List Int) (x0:Int) (h0:l[0]? =some x0) (hl:l.length<=4294967296):
    Pur cfg 226 [.c (.sl 1 (l.map fun n=>[cI n]))] (vI (maxT l l.length)):=by
 refine zT Tryz.func226 O Tryz.ntmps226 Tryz.results226 O ?_
 intro z hz
 have hlen:=zKc h0
 refine B O<|G O<|U<|zI<|B O<|G O<|zY O el209<|yA O<|U<|zE O (fun c1=>?_) (fun c1=>?_)
 ·try simp only [W] at c1
  exact absurd c1 (by omega)
 ·try simp only [W] at c1
  refine zJ<|B O<|G O<|qE O el209 (by omega) (getm h0)<|zK one3 qB O<|G O<|U<|zI<|B O<|G O<|U<|zP<|zU ⟨[(4,.c _),(3,.c _),(0,.c _)],[]⟩ (Weak.mk [] ⟨Y,Y,Y,T⟩ O) ?_
  refine qF 2 0 O O (Nat) (fun k=>[(4,vI k),(3,vI (maxT l k))]) (fun k=>[]) (fun k=>1<=k/\k<=l.length) (fun k=>l.length-k) ⟨1,⟨by omega,by omega⟩,Weak.mk [] ⟨Y,VLe.of_eq (congrArg vI (maxT_one h0)),Y,T⟩ O⟩ ?_
  rintro k ⟨hk1,hk⟩
  refine zI<|B O<|G O<|G O<|zY O el209<|yA O<|U<|zE O (fun c2=>?_) (fun c2=>?_)
  ·try simp only [W] at c2
   obtain ⟨x,hx⟩:=qQ l k (by omega)
   refine zJ<|zI<|zP<|zS O<|G O<|G O<|G O<|qE O el209 (by omega) (getm (by assumption))<|zK one3 qB O<|zX O (det_max O O O)<|G O<|U<|zS O<|G O<|qJ O ⟨by omega,by omega⟩<|G O<|U ?_
   refine ⟨k+1,⟨by omega,by omega⟩,(by omega),Weak.mk [] ⟨Y,VLe.of_eq (congrArg vI (maxT_next hx)),Y,T⟩ O⟩
  ·try simp only [W] at c2
   refine qO<|B O<|G O<|G O<|U<|zH<|zQ O ?_
   exact congrArg vI (by rw [show k=l.length by omega])
theorem zFc (t:Ty) (l:List Int) (x0:Int) (h0:l[0]? =some x0) (hl:l.length<=4294967296):
    Pur cfg 179 [vTy t,.c (.sl 1 (l.map fun n=>[cI n]))] (vI (declE t l)):=by
 refine zT Tryz.func179 O Tryz.ntmps179 Tryz.results179 O ?_
 intro z hz
 refine B O<|zZ O O (qI O O) ?_
 rintro _ _ ⟨b1,rfl,rfl⟩
 refine G O<|U<|zI<|B O<|zL qZ (J 0 O) O<|qK O ok214 (zBs _) ⟨Y,O,T⟩<|yN O<|U<|zE O (fun c1=>?_) (fun c1=>?_)
 ·try simp only [W] at c1
  refine B O<|G O<|U<|zH<|zQ O ?_
  exact congrArg vI (by rw [declE,if_neg (by rw [tyErr_no c1];simp)])
 ·try simp only [W] at c1
  refine zJ<|zI<|B O<|G O<|qK O ok226 (slices_Max_int l x0 h0 hl) ⟨Y,O,T⟩<|zX O (yD O O O)<|U<|zE O (fun c2=>?_) (fun c2=>?_)
  ·try simp only [W] at c2
   refine B O<|G O<|U<|zH<|zQ O ?_
   exact congrArg vI (by rw [declE,if_pos (tyErr_yes c1),if_pos c2])
  ·try simp only [W] at c2
   refine zJ<|B O<|G O<|U<|zH<|zQ O ?_
   exact congrArg vI (by rw [declE,if_pos (tyErr_yes c1),if_neg (by omega)])
theorem zHq (x:Cn) (hl:x.Lin.L.length<=5864062014805):
    Pur cfg 177 [vCn x] (vI (linErr x.Lin)):=by
 refine zT Tryz.func177 O Tryz.ntmps177 Tryz.results177 O ?_
 intro z hz
 refine B O<|zZ O O (qI O O) ?_
 rintro _ _ ⟨b1,rfl,rfl⟩
 refine G O<|U<|B O<|zG O fd93_0<|zL kK (J 0 O) O<|qK O ok162 (zFv x.Lin (by omega)) ⟨Y,O,T⟩<|G O<|U<|zH<|zQ O ?_
 exact O
theorem program_fold (d:Df):
    Pur cfg 181 [vDf d] (vI (foldM d)):=by
 refine zT Tryz.func181 O Tryz.ntmps181 Tryz.results181 O ?_
 intro z hz
 refine B O<|zZ O O (qI O O) ?_
 rintro _ _ ⟨b1,rfl,rfl⟩
 refine G O<|U<|zI<|B O<|zG O zFe<|zK one3 (J 0 O) O<|U<|zP<|B O<|L O<|G O<|U<|zE O (fun c1=>?_) (fun c1=>?_)
 ·try simp only [W] at c1
  refine B O<|zG O zAm<|zK wK (J 0 O) O<|zY O el57<|zX O (yD O O O)<|U<|zE O (fun c2=>?_) (fun c2=>?_)
  ·try simp only [W] at c2
   refine B O<|G O<|U<|zH<|zQ O ?_
   exact congrArg vI (by unfold foldM;(repeat' split)<;>first|rfl|(exfalso;(try simp only [Lz,cond_true,cond_false,Bool.and_eq_true,Bool.or_eq_true,Bool.not_eq_true,Bool.or_eq_false_iff,decide_eq_true_eq,decide_eq_false_iff_not] at *);omega))
  ·try simp only [W] at c2
   refine zJ<|B O<|G O<|U<|zH<|zQ O ?_
   exact congrArg vI (by unfold foldM;(repeat' split)<;>first|rfl|(exfalso;(try simp only [Lz,cond_true,cond_false,Bool.and_eq_true,Bool.or_eq_true,Bool.not_eq_true,Bool.or_eq_false_iff,decide_eq_true_eq,decide_eq_false_iff_not] at *);omega))
 ·try simp only [W] at c1
  refine zI<|B O<|L O<|G O<|U<|zE O (fun c3=>?_) (fun c3=>?_)
  ·try simp only [W] at c3
   refine zJ<|zE O (fun c6=>?_) (fun c6=>?_)
   ·try simp only [W] at c6
    refine B O<|zG O zAm<|zK wK (J 0 O) O<|zY O el57<|L O<|U<|zE O (fun c7=>?_) (fun c7=>?_)
    ·try simp only [W] at c7
     refine B O<|G O<|U<|zH<|zQ O ?_
     exact congrArg vI (by unfold foldM;(repeat' split)<;>first|rfl|(exfalso;(try simp only [Lz,cond_true,cond_false,Bool.and_eq_true,Bool.or_eq_true,Bool.not_eq_true,Bool.or_eq_false_iff,decide_eq_true_eq,decide_eq_false_iff_not] at *);omega))
    ·try simp only [W] at c7
     refine zJ<|B O<|G O<|U<|zH<|zQ O ?_
     exact congrArg vI (by unfold foldM;(repeat' split)<;>first|rfl|(exfalso;(try simp only [Lz,cond_true,cond_false,Bool.and_eq_true,Bool.or_eq_true,Bool.not_eq_true,Bool.or_eq_false_iff,decide_eq_true_eq,decide_eq_false_iff_not] at *);omega))
   ·try simp only [W] at c6
    refine B O<|L O<|G O<|U<|zE O (fun c8=>?_) (fun c8=>?_)
    ·try simp only [W] at c8
     refine B O<|zG O zAm<|zK wK (J 0 O) O<|zY O el57<|zX O (yD O O O)<|G O<|rL0 O (fun g13_4=>zD O zAv O) O<|rL1 27 O (fun g13_4=>zF O wK O (J 0 O) O) O<|rL1 28 O (fun g13_4=>qP O el57 O) O<|rL1 29 O (fun g13_4=>yF O O O) O<|r_or O (fun h=>(lzf h))<|U<|zE O (fun c9=>?_) (fun c9=>?_)
     ·try simp only [W] at c9
      refine B O<|G O<|U<|zH<|zQ O ?_
      exact congrArg vI (by unfold foldM;(repeat' split)<;>first|rfl|(exfalso;(try simp only [Lz,cond_true,cond_false,Bool.and_eq_true,Bool.or_eq_true,Bool.not_eq_true,Bool.or_eq_false_iff,decide_eq_true_eq,decide_eq_false_iff_not] at *);omega))
     ·try simp only [W] at c9
      refine zJ<|B O<|G O<|U<|zH<|zQ O ?_
      exact congrArg vI (by unfold foldM;(repeat' split)<;>first|rfl|(exfalso;(try simp only [Lz,cond_true,cond_false,Bool.and_eq_true,Bool.or_eq_true,Bool.not_eq_true,Bool.or_eq_false_iff,decide_eq_true_eq,decide_eq_false_iff_not] at *);omega))
    ·try simp only [W] at c8
     refine B O<|G O<|U<|zH<|zQ O ?_
     exact congrArg vI (by unfold foldM;(repeat' split)<;>first|rfl|(exfalso;(try simp only [Lz,cond_true,cond_false,Bool.and_eq_true,Bool.or_eq_true,Bool.not_eq_true,Bool.or_eq_false_iff,decide_eq_true_eq,decide_eq_false_iff_not] at *);omega))
  ·try simp only [W] at c3
   refine B O<|L O<|G O<|U<|zE O (fun c4=>?_) (fun c4=>?_)
   ·try simp only [W] at c4
    refine zJ<|zE O (fun c6=>?_) (fun c6=>?_)
    ·try simp only [W] at c6
     refine B O<|zG O zAm<|zK wK (J 0 O) O<|zY O el57<|L O<|U<|zE O (fun c7=>?_) (fun c7=>?_)
     ·try simp only [W] at c7
      refine B O<|G O<|U<|zH<|zQ O ?_
      exact congrArg vI (by unfold foldM;(repeat' split)<;>first|rfl|(exfalso;(try simp only [Lz,cond_true,cond_false,Bool.and_eq_true,Bool.or_eq_true,Bool.not_eq_true,Bool.or_eq_false_iff,decide_eq_true_eq,decide_eq_false_iff_not] at *);omega))
     ·try simp only [W] at c7
      refine zJ<|B O<|G O<|U<|zH<|zQ O ?_
      exact congrArg vI (by unfold foldM;(repeat' split)<;>first|rfl|(exfalso;(try simp only [Lz,cond_true,cond_false,Bool.and_eq_true,Bool.or_eq_true,Bool.not_eq_true,Bool.or_eq_false_iff,decide_eq_true_eq,decide_eq_false_iff_not] at *);omega))
    ·try simp only [W] at c6
     refine B O<|L O<|G O<|U<|zE O (fun c8=>?_) (fun c8=>?_)
     ·try simp only [W] at c8
      refine B O<|zG O zAm<|zK wK (J 0 O) O<|zY O el57<|zX O (yD O O O)<|G O<|rL0 O (fun g13_4=>zD O zAv O) O<|rL1 27 O (fun g13_4=>zF O wK O (J 0 O) O) O<|rL1 28 O (fun g13_4=>qP O el57 O) O<|rL1 29 O (fun g13_4=>yF O O O) O<|r_or O (fun h=>(lzf h))<|U<|zE O (fun c9=>?_) (fun c9=>?_)
      ·try simp only [W] at c9
       refine B O<|G O<|U<|zH<|zQ O ?_
       exact congrArg vI (by unfold foldM;(repeat' split)<;>first|rfl|(exfalso;(try simp only [Lz,cond_true,cond_false,Bool.and_eq_true,Bool.or_eq_true,Bool.not_eq_true,Bool.or_eq_false_iff,decide_eq_true_eq,decide_eq_false_iff_not] at *);omega))
      ·try simp only [W] at c9
       refine zJ<|B O<|G O<|U<|zH<|zQ O ?_
       exact congrArg vI (by unfold foldM;(repeat' split)<;>first|rfl|(exfalso;(try simp only [Lz,cond_true,cond_false,Bool.and_eq_true,Bool.or_eq_true,Bool.not_eq_true,Bool.or_eq_false_iff,decide_eq_true_eq,decide_eq_false_iff_not] at *);omega))
     ·try simp only [W] at c8
      refine B O<|G O<|U<|zH<|zQ O ?_
      exact congrArg vI (by unfold foldM;(repeat' split)<;>first|rfl|(exfalso;(try simp only [Lz,cond_true,cond_false,Bool.and_eq_true,Bool.or_eq_true,Bool.not_eq_true,Bool.or_eq_false_iff,decide_eq_true_eq,decide_eq_false_iff_not] at *);omega))
   ·try simp only [W] at c4
    refine B O<|L O<|G O<|U<|zE O (fun c5=>?_) (fun c5=>?_)
    ·try simp only [W] at c5
     refine zJ<|zE O (fun c6=>?_) (fun c6=>?_)
     ·try simp only [W] at c6
      refine B O<|zG O zAm<|zK wK (J 0 O) O<|zY O el57<|L O<|U<|zE O (fun c7=>?_) (fun c7=>?_)
      ·try simp only [W] at c7
       refine B O<|G O<|U<|zH<|zQ O ?_
       exact congrArg vI (by unfold foldM;(repeat' split)<;>first|rfl|(exfalso;(try simp only [Lz,cond_true,cond_false,Bool.and_eq_true,Bool.or_eq_true,Bool.not_eq_true,Bool.or_eq_false_iff,decide_eq_true_eq,decide_eq_false_iff_not] at *);omega))
      ·try simp only [W] at c7
       refine zJ<|B O<|G O<|U<|zH<|zQ O ?_
       exact congrArg vI (by unfold foldM;(repeat' split)<;>first|rfl|(exfalso;(try simp only [Lz,cond_true,cond_false,Bool.and_eq_true,Bool.or_eq_true,Bool.not_eq_true,Bool.or_eq_false_iff,decide_eq_true_eq,decide_eq_false_iff_not] at *);omega))
     ·try simp only [W] at c6
      refine B O<|L O<|G O<|U<|zE O (fun c8=>?_) (fun c8=>?_)
      ·try simp only [W] at c8
       refine B O<|zG O zAm<|zK wK (J 0 O) O<|zY O el57<|zX O (yD O O O)<|G O<|rL0 O (fun g13_4=>zD O zAv O) O<|rL1 27 O (fun g13_4=>zF O wK O (J 0 O) O) O<|rL1 28 O (fun g13_4=>qP O el57 O) O<|rL1 29 O (fun g13_4=>yF O O O) O<|r_or O (fun h=>(lzf h))<|U<|zE O (fun c9=>?_) (fun c9=>?_)
       ·try simp only [W] at c9
        refine B O<|G O<|U<|zH<|zQ O ?_
        exact congrArg vI (by unfold foldM;(repeat' split)<;>first|rfl|(exfalso;(try simp only [Lz,cond_true,cond_false,Bool.and_eq_true,Bool.or_eq_true,Bool.not_eq_true,Bool.or_eq_false_iff,decide_eq_true_eq,decide_eq_false_iff_not] at *);omega))
       ·try simp only [W] at c9
        refine zJ<|B O<|G O<|U<|zH<|zQ O ?_
        exact congrArg vI (by unfold foldM;(repeat' split)<;>first|rfl|(exfalso;(try simp only [Lz,cond_true,cond_false,Bool.and_eq_true,Bool.or_eq_true,Bool.not_eq_true,Bool.or_eq_false_iff,decide_eq_true_eq,decide_eq_false_iff_not] at *);omega))
      ·try simp only [W] at c8
       refine B O<|G O<|U<|zH<|zQ O ?_
       exact congrArg vI (by unfold foldM;(repeat' split)<;>first|rfl|(exfalso;(try simp only [Lz,cond_true,cond_false,Bool.and_eq_true,Bool.or_eq_true,Bool.not_eq_true,Bool.or_eq_false_iff,decide_eq_true_eq,decide_eq_false_iff_not] at *);omega))
    ·try simp only [W] at c5
     refine zS O<|L O<|G O<|U<|zE O (fun c6=>?_) (fun c6=>?_)
     ·try simp only [W] at c6
      refine B O<|zG O zAm<|zK wK (J 0 O) O<|zY O el57<|L O<|U<|zE O (fun c7=>?_) (fun c7=>?_)
      ·try simp only [W] at c7
       refine B O<|G O<|U<|zH<|zQ O ?_
       exact congrArg vI (by unfold foldM;(repeat' split)<;>first|rfl|(exfalso;(try simp only [Lz,cond_true,cond_false,Bool.and_eq_true,Bool.or_eq_true,Bool.not_eq_true,Bool.or_eq_false_iff,decide_eq_true_eq,decide_eq_false_iff_not] at *);omega))
      ·try simp only [W] at c7
       refine zJ<|B O<|G O<|U<|zH<|zQ O ?_
       exact congrArg vI (by unfold foldM;(repeat' split)<;>first|rfl|(exfalso;(try simp only [Lz,cond_true,cond_false,Bool.and_eq_true,Bool.or_eq_true,Bool.not_eq_true,Bool.or_eq_false_iff,decide_eq_true_eq,decide_eq_false_iff_not] at *);omega))
     ·try simp only [W] at c6
      refine B O<|L O<|G O<|U<|zE O (fun c8=>?_) (fun c8=>?_)
      ·try simp only [W] at c8
       refine B O<|zG O zAm<|zK wK (J 0 O) O<|zY O el57<|zX O (yD O O O)<|G O<|rL0 O (fun g13_4=>zD O zAv O) O<|rL1 27 O (fun g13_4=>zF O wK O (J 0 O) O) O<|rL1 28 O (fun g13_4=>qP O el57 O) O<|rL1 29 O (fun g13_4=>yF O O O) O<|r_or O (fun h=>(lzf h))<|U<|zE O (fun c9=>?_) (fun c9=>?_)
       ·try simp only [W] at c9
        refine B O<|G O<|U<|zH<|zQ O ?_
        exact congrArg vI (by unfold foldM;(repeat' split)<;>first|rfl|(exfalso;(try simp only [Lz,cond_true,cond_false,Bool.and_eq_true,Bool.or_eq_true,Bool.not_eq_true,Bool.or_eq_false_iff,decide_eq_true_eq,decide_eq_false_iff_not] at *);omega))
       ·try simp only [W] at c9
        refine zJ<|B O<|G O<|U<|zH<|zQ O ?_
        exact congrArg vI (by unfold foldM;(repeat' split)<;>first|rfl|(exfalso;(try simp only [Lz,cond_true,cond_false,Bool.and_eq_true,Bool.or_eq_true,Bool.not_eq_true,Bool.or_eq_false_iff,decide_eq_true_eq,decide_eq_false_iff_not] at *);omega))
      ·try simp only [W] at c8
       refine B O<|G O<|U<|zH<|zQ O ?_
       exact congrArg vI (by unfold foldM;(repeat' split)<;>first|rfl|(exfalso;(try simp only [Lz,cond_true,cond_false,Bool.and_eq_true,Bool.or_eq_true,Bool.not_eq_true,Bool.or_eq_false_iff,decide_eq_true_eq,decide_eq_false_iff_not] at *);omega))
end Go.W
