/-
  Walks: what functions of the program compute. Printed by wip/gen/mk2.py.
  Conditions: none.
-/
import Derived.Test.YtkijgodlhljgdaaGreatDoorWJ
import Derived.Test.YtkijgodlhljgdaaGreatDoorPlain
set_option linter.unusedSimpArgs false
set_option linter.unusedVariables false
set_option maxRecDepth 10000
namespace Go.W
open Go Go.Eng Go.Proofs Go.L41 Go.Br
attribute [local irreducible] AWP RWP TD finQ
theorem agg105:aggT Tryz.prog 105=some 3:=by kernel_rfl
theorem el23:elemT Tryz.prog 23=some (93,3,40):=by kernel_rfl
theorem el24:elemT Tryz.prog 24=some (65,7,80):=by kernel_rfl
theorem el57:elemT Tryz.prog 57=some (105,3,48):=by kernel_rfl
theorem el209:elemT Tryz.prog 209=some (3,1,8):=by kernel_rfl
theorem el245:elemT Tryz.prog 245=some (57,1,24):=by kernel_rfl
theorem zLe:fieldT Tryz.prog 27 0=some (0,22):=by kernel_rfl
theorem zIy:fieldT Tryz.prog 27 1=some (1,23):=by kernel_rfl
theorem zAx:fieldT Tryz.prog 27 2=some (2,24):=by kernel_rfl
theorem zHi:fieldT Tryz.prog 27 4=some (4,22):=by kernel_rfl
theorem zDe:fieldT Tryz.prog 59 2=some (6,57):=by kernel_rfl
theorem zCf:fieldT Tryz.prog 59 3=some (7,57):=by kernel_rfl
theorem fd59_4:fieldT Tryz.prog 59 4=some (8,3):=by kernel_rfl
theorem fd93_0:fieldT Tryz.prog 93 0=some (0,34):=by kernel_rfl
theorem zKm:fieldT Tryz.prog 105 0=some (0,9):=by kernel_rfl
theorem ik3:intT Tryz.prog 3=some .i64:=by kernel_rfl
theorem ok226:callOk Tryz.prog 226=true:=by kernel_rfl
theorem ok227:callOk Tryz.prog 227=true:=by kernel_rfl
theorem ok268:callOk Tryz.prog 268=true:=by kernel_rfl
theorem zDv:oneT Tryz.prog 22=true:=by kernel_rfl
theorem one23:oneT Tryz.prog 23=true:=by kernel_rfl
theorem zFl:oneT Tryz.prog 24=true:=by kernel_rfl
theorem zBm:oneT Tryz.prog 57=true:=by kernel_rfl
theorem sz105:(Tryz.prog.info? 105).map (·.size)=some 3:=by kernel_rfl
theorem zr57:zeroT Tryz.prog 57=some [(Value.slice none 0 0)]:=by kernel_rfl
theorem zr105:zeroT Tryz.prog 105=some [(Value.string (ByteArray.mk #[])),(Value.int IntKind.i64 0),(Value.slice none 0 0)]:=by kernel_rfl
theorem slices_Grow_ax (n:Nat) (hn:n<=4294967296):
    OwnR cfg 268 [.c (.lit (.slice none 0 0)),vI n] 105 3 ([]):=by
 refine zT Tryz.func268 O Tryz.ntmps268 Tryz.results268 O ?_
 intro z hz
 refine B O<|zX O (yN 3 O O)<|H<|W<|B O<|F O<|yD O<|H<|g O (fun c1=>?_) (fun c1=>?_)
 ·try simp only [I] at c1
  exact absurd c1 (by omega)
 ·try simp only [I] at c1
  refine zJ<|W<|B O<|F O<|F O<|zX O (zOm O el57 O)<|F O<|zX O (zOl O el57 O)<|zX O (zAb O O O ⟨by omega,by omega⟩)<|zX O (zAb O O O ⟨by omega,by omega⟩)<|F O<|H<|B O<|F O<|zX O (yM O O O)<|H<|g O (fun c2=>?_) (fun c2=>?_)
  ·try simp only [I] at c2
   refine zU O<|F O<|F O<|zX O (zOm O el57 O)<|zX O (det_cut_nil O el57 O O)<|F O<|zV O O (ope_grow n O el57 ik3 O O (by omega) (by omega) (by omega) (by omega)) ?_
   rintro _ _ ⟨b1,cap1,rfl,hcap1,rfl⟩
   refine F O<|zX O (zOl O el57 O)<|zX O (det_cut_row 0 O el57 O O O ⟨by omega,hcap1⟩)<|F O<|H<|B O<|F O<|F O<|H<|U<|M O ?_
   exact ⟨_,O,O⟩
  ·try simp only [I] at c2
   refine zJ<|B O<|F O<|yZ _ (kN 105 3)<|F O<|H<|U<|M O ?_
   exact ⟨_,O,O⟩
theorem zLk (ls:List (List Ax)) (hl:ls.length<=4294967296) (ht:totL ls<=4294967296):
    OwnR cfg 227 [.c (.sl 1 (ls.map fun l=>[.sl 3 (l.map Ax.cells)]))] 105 3 (ls.flatten.map Ax.cells):=by
 refine zT Tryz.func227 O Tryz.ntmps227 Tryz.results227 O ?_
 intro z hz
 refine B O<|zX O (yN 3 O O)<|H<|B O<|F O<|H<|W<|B O<|F O<|zZ O el245<|F O<|H<|zP<|zW ⟨[(11,.c _),(3,.c _),(0,.c _),(9,.c _),(10,.c _)],[]⟩ (Weak.mk [] ⟨G,G,G,G,G,T⟩ O)<|qJ 2 0 O O (Nat) (fun k=>[(11,vI k),(3,vI (totL (ls.take k)))]) (fun k=>[]) (fun k=>k<=ls.length) (fun k=>ls.length-k) ⟨0,(by omega),Weak.mk [] ⟨G,G,G,G,G,T⟩ O⟩ ?_
 rintro k hk
 refine B O<|yD O<|H<|W<|g O (fun c1=>?_) (fun c1=>?_)
 ·try simp only [I] at c1
  obtain ⟨x,hx⟩:=qQ ls k (by omega)
  have hb1:=tot_get hx
  refine zJ<|W<|zP<|B O<|qH O el245 (by omega) (X (by assumption))<|zL zBm qB O<|F O<|H<|B O<|F O<|F O<|zZ O el57<|qL O ⟨by omega,by omega⟩<|F O<|H<|B O<|F O<|yD O<|H<|g O (fun c2=>?_) (fun c2=>?_)
  ·try simp only [I] at c2
   exact absurd c2 (by omega)
  ·try simp only [I] at c2
   refine zJ<|zU O<|qL O ⟨by omega,by omega⟩<|F O<|H ?_
   refine ⟨k+1,(by omega),(by omega),Weak.mk [] ⟨G,VLe.of_eq (congrArg vI (by rw [tot_next hx];simp)),G,G,G,T⟩ O⟩
 ·try simp only [I] at c1
  have hT:totL (ls.take k)=totL ls:=by rw [qW (by omega)]
  refine qN<|B O<|F O<|zV O O (zCd O ok268 (slices_Grow_ax (totL (ls.take k)) (by omega)) ⟨G,O,G,O,T⟩) ?_
  rintro _ _ ⟨sv1,rfl,rfl⟩
  refine F O<|H<|W<|B O<|F O<|zZ O el245<|F O<|H<|zP<|zW ⟨[(27,.c _),(6,.c _),(25,.c _),(26,.c _)],[_]⟩ (Weak.mk [true] ⟨G,G,G,G,T⟩ O)<|qJ 2 1 O O (Nat×Value) (fun ⟨k,sv⟩=>[(27,vI k),(6,.c (.lit sv))]) (fun ⟨k,sv⟩=>[E.vec sv 105 3 ((ls.take k).flatten.map Ax.cells)]) (fun ⟨k,sv⟩=>k<=ls.length) (fun ⟨k,sv⟩=>ls.length-k) ⟨⟨0,_⟩,(by omega),Weak.mk [true] ⟨G,G,G,G,T⟩ O⟩ ?_
  rintro ⟨k,sv⟩ hk
  show AWP _ _ _ _ _ ⟨[(27,vI k),(6,.c (.lit sv))]++_,[E.vec sv 105 3 ((ls.take k).flatten.map Ax.cells)]++_⟩
  refine B O<|yD O<|H<|W<|g O (fun c3=>?_) (fun c3=>?_)
  ·try simp only [I] at c3
   obtain ⟨x,hx⟩:=qQ ls k (by omega)
   refine zJ<|W<|zP<|B O<|qH O el245 (by omega) (X (by assumption))<|zL zBm qB O<|F O<|H<|zU O<|F O<|F O<|zV O O (yE 0 O el57 O O O (by have:=tot_flat hx;simp only [List.length_map];omega) (by have:=tot_flat hx;simp only [List.length_map];omega)) ?_
   rintro _ _ ⟨sv2,rfl,rfl⟩
   refine F O<|H<|zU O<|qL O ⟨by omega,by omega⟩<|F O<|H ?_
   refine ⟨⟨k+1,sv2⟩,(by omega),(by show ls.length-(k+1)<ls.length-k;omega),Weak.mk [true] ⟨G,G,G,G,T⟩ (by show _=[E.vec sv2 _ 3 ((ls.take (k+1)).flatten.map Ax.cells)]++_;rw [qS hx,List.flatten_append,List.map_append];simp only [List.flatten_cons,List.flatten_nil,List.append_nil];rfl)⟩
  ·try simp only [I] at c3
   refine qN<|B O<|F O<|F O<|H<|U<|M O ?_
   exact ⟨_,O,by rw [qW (by omega)];rfl⟩
theorem zEa (x y:List Ax) (hx:x.length<=1073741824) (hy:y.length<=1073741824):OwnR cfg 227 [.c (.sl 1 [[.sl 3 (x.map Ax.cells)],[.sl 3 (y.map Ax.cells)]])] 105 3 ((x++y).map Ax.cells):=by
  have h:=zLk [x,y] (by simp) (by simp only [totL];omega)
  simpa using h
theorem zIr (d:Df) (hD:d.Dims.length<=1073741824) (hR:d.Red.length<=1073741824):
    OwnR cfg 182 [vDf d] 9 1 ((namesD d).map fun s=>[cS s]):=by
 refine zT Tryz.func182 O Tryz.ntmps182 Tryz.results182 O ?_
 intro z hz
 refine B O<|zV O O (qI O O) ?_
 rintro _ _ ⟨b1,rfl,rfl⟩
 refine zX O (yN 1 O O)<|H<|B O<|F O<|yZ _ (kN 9 1)<|H<|W<|B O<|zH O zDe<|zL zBm (K 1 O) O<|zH O zCf<|zL zBm (K 1 O) O<|yB O el245 zr57<|qK O ok227 (OwnR.pur (zEa d.Dims d.Red hD hR)) ⟨G,O,T⟩<|zZ O el57<|F O<|H<|zP<|zW ⟨[(13,.c _),(3,.c _),(11,.c _),(12,.c _)],[_]⟩ (Weak.mk [true,false] ⟨G,G,G,G,T⟩ O)<|qJ 2 1 O O (Nat×Value) (fun ⟨k,sv⟩=>[(13,vI k),(3,.c (.lit sv))]) (fun ⟨k,sv⟩=>[E.vec sv 9 1 (((d.Dims++d.Red).take k).map fun a=>[cS a.Name])]) (fun ⟨k,sv⟩=>k<=(d.Dims++d.Red).length) (fun ⟨k,sv⟩=>(d.Dims++d.Red).length-k) ⟨⟨0,(.slice none 0 0)⟩,(by omega),Weak.mk [true] ⟨G,G,G,G,T⟩ O⟩ ?_
 rintro ⟨k,sv⟩ hk
 show AWP _ _ _ _ _ ⟨[(13,vI k),(3,.c (.lit sv))]++_,[E.vec sv 9 1 (((d.Dims++d.Red).take k).map fun a=>[cS a.Name])]++_⟩
 refine B O<|yD O<|H<|W<|g O (fun c1=>?_) (fun c1=>?_)
 ·try simp only [I] at c1
  obtain ⟨x,hx⟩:=qQ (d.Dims++d.Red) k (by omega)
  have hlen:(d.Dims++d.Red).length<=2147483648:=by rw [List.length_append];omega
  refine zJ<|W<|zP<|B O<|qH O el57 (by omega) (X (by assumption))<|zK agg105 qB O<|zV O O (qG [none,none,some 2] O zr105 O) ?_
  rintro _ _ ⟨b3,rfl,rfl⟩
  refine N 0 sz105 O<|H<|zU O<|F O<|zH O zKm<|zL i (K 0 O) O<|yB O el22 zr9<|zV O O (yE 1 O el22 O O O (by simp only [List.length_take,List.length_map,List.length_cons,List.length_nil];omega) (by simp only [List.length_take,List.length_map,List.length_cons,List.length_nil];omega)) ?_
  rintro _ _ ⟨sv4,rfl,rfl⟩
  refine F O<|H<|zU O<|qL O ⟨by omega,by omega⟩<|F O<|H ?_
  refine ⟨⟨k+1,sv4⟩,(by omega),(by show (d.Dims++d.Red).length-(k+1)<(d.Dims++d.Red).length-k;omega),Weak.mk [false,true] ⟨G,G,G,G,T⟩ (by show _=[E.vec sv4 _ 1 (((d.Dims++d.Red).take (k+1)).map fun a=>[cS a.Name])]++_;rw [qS hx,List.map_append (f:=fun a:Ax=>[cS a.Name])];rfl)⟩
 ·try simp only [I] at c1
  refine qN<|B O<|F O<|F O<|H<|U<|M O ?_
  exact ⟨_,O,by rw [qW (by omega),names_rows];rfl⟩
theorem program_limits (p:Pg):
    Pur cfg 102 [vPg p] (vB (decide (limitOk p))):=by
 refine zT Tryz.func102 O Tryz.ntmps102 Tryz.results102 O ?_
 intro z hz
 refine B O<|zV O O (qI O O) ?_
 rintro _ _ ⟨b1,rfl,rfl⟩
 refine F O<|H<|B O<|zH O zLe<|zL zDv (K 0 O) O<|zZ O el22<|zH O zAx<|zL zFl (K 0 O) O<|zZ O el24<|zH O kW<|zL zBp (K 0 O) O<|zZ O el25<|zH O zHi<|zL zDv (K 0 O) O<|zZ O el22<|zX O (det_max4 O O O O O)<|zX O (kS O O O)<|F O<|w O (fun g1_14=>zE O zIy O) O<|R 18 O (fun g1_14=>zG O one23 O (K 0 O) O) O<|R 19 O (fun g1_14=>qZ O el23 O) O<|R 20 O (fun g1_14=>kS O O O) O<|yY O (fun h=>h)<|F O<|H<|U<|M O ?_
 exact congrArg vB (limit_eq p)
theorem slices_Max_int (l:List Int) (x0:Int) (h0:l[0]? =some x0) (hl:l.length<=4294967296):
    Pur cfg 226 [.c (.sl 1 (l.map fun n=>[cI n]))] (vI (maxT l l.length)):=by
 refine zT Tryz.func226 O Tryz.ntmps226 Tryz.results226 O ?_
 intro z hz
 have hlen:=zKj h0
 refine B O<|F O<|H<|W<|B O<|F O<|zZ O el209<|yD O<|H<|g O (fun c1=>?_) (fun c1=>?_)
 ·try simp only [I] at c1
  exact absurd c1 (by omega)
 ·try simp only [I] at c1
  refine zJ<|B O<|F O<|qH O el209 (by omega) (X h0)<|zL P qB O<|F O<|H<|W<|B O<|F O<|H<|zP<|zW ⟨[(4,.c _),(3,.c _),(0,.c _)],[]⟩ (Weak.mk [] ⟨G,G,G,T⟩ O) ?_
  refine qJ 2 0 O O (Nat) (fun k=>[(4,vI k),(3,vI (maxT l k))]) (fun k=>[]) (fun k=>1<=k/\k<=l.length) (fun k=>l.length-k) ⟨1,⟨by omega,by omega⟩,Weak.mk [] ⟨G,VLe.of_eq (congrArg vI (maxT_one h0)),G,T⟩ O⟩ ?_
  rintro k ⟨hk1,hk⟩
  refine W<|B O<|F O<|F O<|zZ O el209<|yD O<|H<|g O (fun c2=>?_) (fun c2=>?_)
  ·try simp only [I] at c2
   obtain ⟨x,hx⟩:=qQ l k (by omega)
   refine zJ<|W<|zP<|zU O<|F O<|F O<|F O<|qH O el209 (by omega) (X (by assumption))<|zL P qB O<|zX O (det_max O O O)<|F O<|H<|zU O<|F O<|qL O ⟨by omega,by omega⟩<|F O<|H ?_
   refine ⟨k+1,⟨by omega,by omega⟩,(by omega),Weak.mk [] ⟨G,VLe.of_eq (congrArg vI (maxT_next hx)),G,T⟩ O⟩
  ·try simp only [I] at c2
   refine qN<|B O<|F O<|F O<|H<|U<|M O ?_
   exact congrArg vI (by rw [show k=l.length by omega])
theorem zFe (t:Ty) (l:List Int) (x0:Int) (h0:l[0]? =some x0) (hl:l.length<=4294967296):
    Pur cfg 179 [vTy t,.c (.sl 1 (l.map fun n=>[cI n]))] (vI (declE t l)):=by
 refine zT Tryz.func179 O Tryz.ntmps179 Tryz.results179 O ?_
 intro z hz
 refine B O<|zV O O (qI O O) ?_
 rintro _ _ ⟨b1,rfl,rfl⟩
 refine F O<|H<|W<|B O<|zK yC (K 0 O) O<|qK O ok214 (zBo _) ⟨G,O,T⟩<|yU O<|H<|g O (fun c1=>?_) (fun c1=>?_)
 ·try simp only [I] at c1
  refine B O<|F O<|H<|U<|M O ?_
  exact congrArg vI (by rw [declE,if_neg (by rw [tyErr_no c1];simp)])
 ·try simp only [I] at c1
  refine zJ<|W<|B O<|F O<|qK O ok226 (slices_Max_int l x0 h0 hl) ⟨G,O,T⟩<|zX O (yM O O O)<|H<|g O (fun c2=>?_) (fun c2=>?_)
  ·try simp only [I] at c2
   refine B O<|F O<|H<|U<|M O ?_
   exact congrArg vI (by rw [declE,if_pos (tyErr_yes c1),if_pos c2])
  ·try simp only [I] at c2
   refine zJ<|B O<|F O<|H<|U<|M O ?_
   exact congrArg vI (by rw [declE,if_pos (tyErr_yes c1),if_neg (by omega)])
theorem zHz (x:Cn) (hl:x.Lin.L.length<=5864062014805):
    Pur cfg 177 [vCn x] (vI (linErr x.Lin)):=by
 refine zT Tryz.func177 O Tryz.ntmps177 Tryz.results177 O ?_
 intro z hz
 refine B O<|zV O O (qI O O) ?_
 rintro _ _ ⟨b1,rfl,rfl⟩
 refine F O<|H<|B O<|zH O fd93_0<|zK kQ (K 0 O) O<|qK O ok162 (zFz x.Lin (by omega)) ⟨G,O,T⟩<|F O<|H<|U<|M O ?_
 exact O
theorem program_fold (d:Df):
    Pur cfg 181 [vDf d] (vI (foldM d)):=by
 refine zT Tryz.func181 O Tryz.ntmps181 Tryz.results181 O ?_
 intro z hz
 refine B O<|zV O O (qI O O) ?_
 rintro _ _ ⟨b1,rfl,rfl⟩
 refine F O<|H<|W<|B O<|zH O fd59_4<|zL P (K 0 O) O<|H<|zP<|B O<|n O<|F O<|H<|g O (fun c1=>?_) (fun c1=>?_)
 ·try simp only [I] at c1
  refine B O<|zH O zCf<|zL zBm (K 0 O) O<|zZ O el57<|zX O (yM O O O)<|H<|g O (fun c2=>?_) (fun c2=>?_)
  ·try simp only [I] at c2
   refine B O<|F O<|H<|U<|M O ?_
   exact congrArg vI (by unfold foldM;(repeat' split)<;>first|rfl|(exfalso;(try simp only [Lz,cond_true,cond_false,Bool.and_eq_true,Bool.or_eq_true,Bool.not_eq_true,Bool.or_eq_false_iff,decide_eq_true_eq,decide_eq_false_iff_not] at *);omega))
  ·try simp only [I] at c2
   refine zJ<|B O<|F O<|H<|U<|M O ?_
   exact congrArg vI (by unfold foldM;(repeat' split)<;>first|rfl|(exfalso;(try simp only [Lz,cond_true,cond_false,Bool.and_eq_true,Bool.or_eq_true,Bool.not_eq_true,Bool.or_eq_false_iff,decide_eq_true_eq,decide_eq_false_iff_not] at *);omega))
 ·try simp only [I] at c1
  refine W<|B O<|n O<|F O<|H<|g O (fun c3=>?_) (fun c3=>?_)
  ·try simp only [I] at c3
   refine zJ<|g O (fun c6=>?_) (fun c6=>?_)
   ·try simp only [I] at c6
    refine B O<|zH O zCf<|zL zBm (K 0 O) O<|zZ O el57<|n O<|H<|g O (fun c7=>?_) (fun c7=>?_)
    ·try simp only [I] at c7
     refine B O<|F O<|H<|U<|M O ?_
     exact congrArg vI (by unfold foldM;(repeat' split)<;>first|rfl|(exfalso;(try simp only [Lz,cond_true,cond_false,Bool.and_eq_true,Bool.or_eq_true,Bool.not_eq_true,Bool.or_eq_false_iff,decide_eq_true_eq,decide_eq_false_iff_not] at *);omega))
    ·try simp only [I] at c7
     refine zJ<|B O<|F O<|H<|U<|M O ?_
     exact congrArg vI (by unfold foldM;(repeat' split)<;>first|rfl|(exfalso;(try simp only [Lz,cond_true,cond_false,Bool.and_eq_true,Bool.or_eq_true,Bool.not_eq_true,Bool.or_eq_false_iff,decide_eq_true_eq,decide_eq_false_iff_not] at *);omega))
   ·try simp only [I] at c6
    refine B O<|n O<|F O<|H<|g O (fun c8=>?_) (fun c8=>?_)
    ·try simp only [I] at c8
     refine B O<|zH O zCf<|zL zBm (K 0 O) O<|zZ O el57<|zX O (yM O O O)<|F O<|w O (fun g13_4=>zE O zDe O) O<|R 27 O (fun g13_4=>zG O zBm O (K 0 O) O) O<|R 28 O (fun g13_4=>qZ O el57 O) O<|R 29 O (fun g13_4=>yG O O O) O<|r_or O (fun h=>(lzf h))<|H<|g O (fun c9=>?_) (fun c9=>?_)
     ·try simp only [I] at c9
      refine B O<|F O<|H<|U<|M O ?_
      exact congrArg vI (by unfold foldM;(repeat' split)<;>first|rfl|(exfalso;(try simp only [Lz,cond_true,cond_false,Bool.and_eq_true,Bool.or_eq_true,Bool.not_eq_true,Bool.or_eq_false_iff,decide_eq_true_eq,decide_eq_false_iff_not] at *);omega))
     ·try simp only [I] at c9
      refine zJ<|B O<|F O<|H<|U<|M O ?_
      exact congrArg vI (by unfold foldM;(repeat' split)<;>first|rfl|(exfalso;(try simp only [Lz,cond_true,cond_false,Bool.and_eq_true,Bool.or_eq_true,Bool.not_eq_true,Bool.or_eq_false_iff,decide_eq_true_eq,decide_eq_false_iff_not] at *);omega))
    ·try simp only [I] at c8
     refine B O<|F O<|H<|U<|M O ?_
     exact congrArg vI (by unfold foldM;(repeat' split)<;>first|rfl|(exfalso;(try simp only [Lz,cond_true,cond_false,Bool.and_eq_true,Bool.or_eq_true,Bool.not_eq_true,Bool.or_eq_false_iff,decide_eq_true_eq,decide_eq_false_iff_not] at *);omega))
  ·try simp only [I] at c3
   refine B O<|n O<|F O<|H<|g O (fun c4=>?_) (fun c4=>?_)
   ·try simp only [I] at c4
    refine zJ<|g O (fun c6=>?_) (fun c6=>?_)
    ·try simp only [I] at c6
     refine B O<|zH O zCf<|zL zBm (K 0 O) O<|zZ O el57<|n O<|H<|g O (fun c7=>?_) (fun c7=>?_)
     ·try simp only [I] at c7
      refine B O<|F O<|H<|U<|M O ?_
      exact congrArg vI (by unfold foldM;(repeat' split)<;>first|rfl|(exfalso;(try simp only [Lz,cond_true,cond_false,Bool.and_eq_true,Bool.or_eq_true,Bool.not_eq_true,Bool.or_eq_false_iff,decide_eq_true_eq,decide_eq_false_iff_not] at *);omega))
     ·try simp only [I] at c7
      refine zJ<|B O<|F O<|H<|U<|M O ?_
      exact congrArg vI (by unfold foldM;(repeat' split)<;>first|rfl|(exfalso;(try simp only [Lz,cond_true,cond_false,Bool.and_eq_true,Bool.or_eq_true,Bool.not_eq_true,Bool.or_eq_false_iff,decide_eq_true_eq,decide_eq_false_iff_not] at *);omega))
    ·try simp only [I] at c6
     refine B O<|n O<|F O<|H<|g O (fun c8=>?_) (fun c8=>?_)
     ·try simp only [I] at c8
      refine B O<|zH O zCf<|zL zBm (K 0 O) O<|zZ O el57<|zX O (yM O O O)<|F O<|w O (fun g13_4=>zE O zDe O) O<|R 27 O (fun g13_4=>zG O zBm O (K 0 O) O) O<|R 28 O (fun g13_4=>qZ O el57 O) O<|R 29 O (fun g13_4=>yG O O O) O<|r_or O (fun h=>(lzf h))<|H<|g O (fun c9=>?_) (fun c9=>?_)
      ·try simp only [I] at c9
       refine B O<|F O<|H<|U<|M O ?_
       exact congrArg vI (by unfold foldM;(repeat' split)<;>first|rfl|(exfalso;(try simp only [Lz,cond_true,cond_false,Bool.and_eq_true,Bool.or_eq_true,Bool.not_eq_true,Bool.or_eq_false_iff,decide_eq_true_eq,decide_eq_false_iff_not] at *);omega))
      ·try simp only [I] at c9
       refine zJ<|B O<|F O<|H<|U<|M O ?_
       exact congrArg vI (by unfold foldM;(repeat' split)<;>first|rfl|(exfalso;(try simp only [Lz,cond_true,cond_false,Bool.and_eq_true,Bool.or_eq_true,Bool.not_eq_true,Bool.or_eq_false_iff,decide_eq_true_eq,decide_eq_false_iff_not] at *);omega))
     ·try simp only [I] at c8
      refine B O<|F O<|H<|U<|M O ?_
      exact congrArg vI (by unfold foldM;(repeat' split)<;>first|rfl|(exfalso;(try simp only [Lz,cond_true,cond_false,Bool.and_eq_true,Bool.or_eq_true,Bool.not_eq_true,Bool.or_eq_false_iff,decide_eq_true_eq,decide_eq_false_iff_not] at *);omega))
   ·try simp only [I] at c4
    refine B O<|n O<|F O<|H<|g O (fun c5=>?_) (fun c5=>?_)
    ·try simp only [I] at c5
     refine zJ<|g O (fun c6=>?_) (fun c6=>?_)
     ·try simp only [I] at c6
      refine B O<|zH O zCf<|zL zBm (K 0 O) O<|zZ O el57<|n O<|H<|g O (fun c7=>?_) (fun c7=>?_)
      ·try simp only [I] at c7
       refine B O<|F O<|H<|U<|M O ?_
       exact congrArg vI (by unfold foldM;(repeat' split)<;>first|rfl|(exfalso;(try simp only [Lz,cond_true,cond_false,Bool.and_eq_true,Bool.or_eq_true,Bool.not_eq_true,Bool.or_eq_false_iff,decide_eq_true_eq,decide_eq_false_iff_not] at *);omega))
      ·try simp only [I] at c7
       refine zJ<|B O<|F O<|H<|U<|M O ?_
       exact congrArg vI (by unfold foldM;(repeat' split)<;>first|rfl|(exfalso;(try simp only [Lz,cond_true,cond_false,Bool.and_eq_true,Bool.or_eq_true,Bool.not_eq_true,Bool.or_eq_false_iff,decide_eq_true_eq,decide_eq_false_iff_not] at *);omega))
     ·try simp only [I] at c6
      refine B O<|n O<|F O<|H<|g O (fun c8=>?_) (fun c8=>?_)
      ·try simp only [I] at c8
       refine B O<|zH O zCf<|zL zBm (K 0 O) O<|zZ O el57<|zX O (yM O O O)<|F O<|w O (fun g13_4=>zE O zDe O) O<|R 27 O (fun g13_4=>zG O zBm O (K 0 O) O) O<|R 28 O (fun g13_4=>qZ O el57 O) O<|R 29 O (fun g13_4=>yG O O O) O<|r_or O (fun h=>(lzf h))<|H<|g O (fun c9=>?_) (fun c9=>?_)
       ·try simp only [I] at c9
        refine B O<|F O<|H<|U<|M O ?_
        exact congrArg vI (by unfold foldM;(repeat' split)<;>first|rfl|(exfalso;(try simp only [Lz,cond_true,cond_false,Bool.and_eq_true,Bool.or_eq_true,Bool.not_eq_true,Bool.or_eq_false_iff,decide_eq_true_eq,decide_eq_false_iff_not] at *);omega))
       ·try simp only [I] at c9
        refine zJ<|B O<|F O<|H<|U<|M O ?_
        exact congrArg vI (by unfold foldM;(repeat' split)<;>first|rfl|(exfalso;(try simp only [Lz,cond_true,cond_false,Bool.and_eq_true,Bool.or_eq_true,Bool.not_eq_true,Bool.or_eq_false_iff,decide_eq_true_eq,decide_eq_false_iff_not] at *);omega))
      ·try simp only [I] at c8
       refine B O<|F O<|H<|U<|M O ?_
       exact congrArg vI (by unfold foldM;(repeat' split)<;>first|rfl|(exfalso;(try simp only [Lz,cond_true,cond_false,Bool.and_eq_true,Bool.or_eq_true,Bool.not_eq_true,Bool.or_eq_false_iff,decide_eq_true_eq,decide_eq_false_iff_not] at *);omega))
    ·try simp only [I] at c5
     refine zU O<|n O<|F O<|H<|g O (fun c6=>?_) (fun c6=>?_)
     ·try simp only [I] at c6
      refine B O<|zH O zCf<|zL zBm (K 0 O) O<|zZ O el57<|n O<|H<|g O (fun c7=>?_) (fun c7=>?_)
      ·try simp only [I] at c7
       refine B O<|F O<|H<|U<|M O ?_
       exact congrArg vI (by unfold foldM;(repeat' split)<;>first|rfl|(exfalso;(try simp only [Lz,cond_true,cond_false,Bool.and_eq_true,Bool.or_eq_true,Bool.not_eq_true,Bool.or_eq_false_iff,decide_eq_true_eq,decide_eq_false_iff_not] at *);omega))
      ·try simp only [I] at c7
       refine zJ<|B O<|F O<|H<|U<|M O ?_
       exact congrArg vI (by unfold foldM;(repeat' split)<;>first|rfl|(exfalso;(try simp only [Lz,cond_true,cond_false,Bool.and_eq_true,Bool.or_eq_true,Bool.not_eq_true,Bool.or_eq_false_iff,decide_eq_true_eq,decide_eq_false_iff_not] at *);omega))
     ·try simp only [I] at c6
      refine B O<|n O<|F O<|H<|g O (fun c8=>?_) (fun c8=>?_)
      ·try simp only [I] at c8
       refine B O<|zH O zCf<|zL zBm (K 0 O) O<|zZ O el57<|zX O (yM O O O)<|F O<|w O (fun g13_4=>zE O zDe O) O<|R 27 O (fun g13_4=>zG O zBm O (K 0 O) O) O<|R 28 O (fun g13_4=>qZ O el57 O) O<|R 29 O (fun g13_4=>yG O O O) O<|r_or O (fun h=>(lzf h))<|H<|g O (fun c9=>?_) (fun c9=>?_)
       ·try simp only [I] at c9
        refine B O<|F O<|H<|U<|M O ?_
        exact congrArg vI (by unfold foldM;(repeat' split)<;>first|rfl|(exfalso;(try simp only [Lz,cond_true,cond_false,Bool.and_eq_true,Bool.or_eq_true,Bool.not_eq_true,Bool.or_eq_false_iff,decide_eq_true_eq,decide_eq_false_iff_not] at *);omega))
       ·try simp only [I] at c9
        refine zJ<|B O<|F O<|H<|U<|M O ?_
        exact congrArg vI (by unfold foldM;(repeat' split)<;>first|rfl|(exfalso;(try simp only [Lz,cond_true,cond_false,Bool.and_eq_true,Bool.or_eq_true,Bool.not_eq_true,Bool.or_eq_false_iff,decide_eq_true_eq,decide_eq_false_iff_not] at *);omega))
      ·try simp only [I] at c8
       refine B O<|F O<|H<|U<|M O ?_
       exact congrArg vI (by unfold foldM;(repeat' split)<;>first|rfl|(exfalso;(try simp only [Lz,cond_true,cond_false,Bool.and_eq_true,Bool.or_eq_true,Bool.not_eq_true,Bool.or_eq_false_iff,decide_eq_true_eq,decide_eq_false_iff_not] at *);omega))
end Go.W
