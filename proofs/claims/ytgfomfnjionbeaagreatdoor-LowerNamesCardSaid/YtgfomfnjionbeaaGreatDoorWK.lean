/-
  Walks: what functions of the program compute. Printed by wip/gen/mk2.py.
  Conditions: none.
-/
import Derived.Test.YtgfomfnjionbeaaGreatDoorGC
import Derived.Test.YtgfomfnjionbeaaGreatDoorPlain
set_option linter.unusedSimpArgs false
set_option linter.unusedVariables false
set_option maxRecDepth 10000
namespace Go.W
open Go Go.Eng Go.Proofs Go.L41 Go.Br
attribute [local irreducible] AWP RWP TD finQ
theorem agg99:aggT Tryz.prog 99=some 3:=by kernel_rfl
theorem el26:elemT Tryz.prog 26=some (123,3,40):=by kernel_rfl
theorem el27:elemT Tryz.prog 27=some (74,7,80):=by kernel_rfl
theorem el46:elemT Tryz.prog 46=some (3,1,8):=by kernel_rfl
theorem el68:elemT Tryz.prog 68=some (99,3,48):=by kernel_rfl
theorem el260:elemT Tryz.prog 260=some (68,1,24):=by kernel_rfl
theorem fd30_0:fieldT Tryz.prog 30 0=some (0,25):=by kernel_rfl
theorem fd30_1:fieldT Tryz.prog 30 1=some (1,26):=by kernel_rfl
theorem fd30_2:fieldT Tryz.prog 30 2=some (2,27):=by kernel_rfl
theorem fd30_4:fieldT Tryz.prog 30 4=some (4,25):=by kernel_rfl
theorem zKu:fieldT Tryz.prog 70 2=some (6,68):=by kernel_rfl
theorem zEm:fieldT Tryz.prog 70 3=some (7,68):=by kernel_rfl
theorem fd70_4:fieldT Tryz.prog 70 4=some (8,3):=by kernel_rfl
theorem zPv:fieldT Tryz.prog 99 0=some (0,9):=by kernel_rfl
theorem fd123_0:fieldT Tryz.prog 123 0=some (0,59):=by kernel_rfl
theorem ik3:intT Tryz.prog 3=some .i64:=by kernel_rfl
theorem ok176:callOk Tryz.prog 176=true:=by kernel_rfl
theorem ok177:callOk Tryz.prog 177=true:=by kernel_rfl
theorem ok217:callOk Tryz.prog 217=true:=by kernel_rfl
theorem zGt:oneT Tryz.prog 25=true:=by kernel_rfl
theorem one26:oneT Tryz.prog 26=true:=by kernel_rfl
theorem one27:oneT Tryz.prog 27=true:=by kernel_rfl
theorem zDe:oneT Tryz.prog 68=true:=by kernel_rfl
theorem sz99:(Tryz.prog.info? 99).map (·.size)=some 3:=by kernel_rfl
theorem zr68:zeroT Tryz.prog 68=some [(Value.slice none 0 0)]:=by kernel_rfl
theorem zr99:zeroT Tryz.prog 99=some [(Value.string (ByteArray.mk #[])),(Value.int IntKind.i64 0),(Value.slice none 0 0)]:=by kernel_rfl
theorem slices_Grow_ax (n:Nat) (hn:n<=4294967296):
    OwnR cfg 217 [.c (.lit (.slice none 0 0)),vI n] 99 3 ([]):=by
 refine zW Tryz.func217 O Tryz.ntmps217 Tryz.results217 O ?_
 intro z hz
 refine Y O<|qT 3 O<|zA<|zH<|Y O<|G O<|yB O<|zA<|zE O (fun c1=>?_) (fun c1=>?_)
 ·try simp only [sx] at c1
  exact absurd c1 (by omega)
 ·try simp only [sx] at c1
  refine zF<|zH<|Y O<|G O<|G O<|zR O (zQg O el68 O)<|G O<|zR O (zQf O el68 O)<|zR O (yO O O O ⟨by omega,by omega⟩)<|zR O (yO O O O ⟨by omega,by omega⟩)<|G O<|zA<|Y O<|G O<|zR O (yU O O O)<|zA<|zE O (fun c2=>?_) (fun c2=>?_)
  ·try simp only [sx] at c2
   refine zP O<|G O<|G O<|zR O (zQg O el68 O)<|zR O (det_cut_nil O el68 O O)<|G O<|zZ O O (ope_grow n O el68 ik3 O O (by omega) (by omega) (by omega) (by omega)) ?_
   rintro _ _ ⟨b1,cap1,rfl,hcap1,rfl⟩
   refine G O<|zR O (zQf O el68 O)<|zR O (det_cut_row 0 O el68 O O O ⟨by omega,hcap1⟩)<|G O<|zA<|Y O<|G O<|G O<|zA<|zG<|zV O ?_
   exact ⟨_,O,O⟩
  ·try simp only [sx] at c2
   refine zF<|Y O<|G O<|yK _ (kI 99 3)<|G O<|zA<|zG<|zV O ?_
   exact ⟨_,O,O⟩
theorem zNn (ls:List (List Ax)) (hl:ls.length<=4294967296) (ht:totL ls<=4294967296):
    OwnR cfg 177 [.c (.sl 1 (ls.map fun l=>[.sl 3 (l.map Ax.cells)]))] 99 3 (ls.flatten.map Ax.cells):=by
 refine zW Tryz.func177 O Tryz.ntmps177 Tryz.results177 O ?_
 intro z hz
 refine Y O<|qT 3 O<|zA<|Y O<|G O<|zA<|zH<|Y O<|G O<|qB O el260<|G O<|zA<|zT<|zU ⟨[(11,.c _),(3,.c _),(0,.c _),(9,.c _),(10,.c _)],[]⟩ (Weak.mk [] ⟨zB,zB,zB,zB,zB,T⟩ O)<|qJ 2 0 O O (Nat) (fun k=>[(11,vI k),(3,vI (totL (ls.take k)))]) (fun k=>[]) (fun k=>k<=ls.length) (fun k=>ls.length-k) ⟨0,(by omega),Weak.mk [] ⟨zB,zB,zB,zB,zB,T⟩ O⟩ ?_
 rintro k hk
 refine Y O<|yB O<|zA<|zH<|zE O (fun c1=>?_) (fun c1=>?_)
 ·try simp only [sx] at c1
  obtain ⟨x,hx⟩:=yD ls k (by omega)
  have hb1:=tot_get hx
  refine zF<|zH<|zT<|Y O<|qD O el260 (by omega) (getm (by assumption))<|zI zDe qH O<|G O<|zA<|Y O<|G O<|G O<|qB O el68<|qM O ⟨by omega,by omega⟩<|G O<|zA<|Y O<|G O<|yB O<|zA<|zE O (fun c2=>?_) (fun c2=>?_)
  ·try simp only [sx] at c2
   exact absurd c2 (by omega)
  ·try simp only [sx] at c2
   refine zF<|zP O<|qM O ⟨by omega,by omega⟩<|G O<|zA ?_
   refine ⟨k+1,(by omega),(by omega),Weak.mk [] ⟨zB,VLe.of_eq (congrArg vI (by rw [tot_next hx];simp)),zB,zB,zB,T⟩ O⟩
 ·try simp only [sx] at c1
  have hT:totL (ls.take k)=totL ls:=by rw [yC (by omega)]
  refine qP<|Y O<|G O<|zZ O O (zAg O ok217 (slices_Grow_ax (totL (ls.take k)) (by omega)) ⟨zB,O,zB,O,T⟩) ?_
  rintro _ _ ⟨sv1,rfl,rfl⟩
  refine G O<|zA<|zH<|Y O<|G O<|qB O el260<|G O<|zA<|zT<|zU ⟨[(27,.c _),(6,.c _),(25,.c _),(26,.c _)],[_]⟩ (Weak.mk [true] ⟨zB,zB,zB,zB,T⟩ O)<|qJ 2 1 O O (Nat×Value) (fun ⟨k,sv⟩=>[(27,vI k),(6,.c (.lit sv))]) (fun ⟨k,sv⟩=>[E.vec sv 99 3 ((ls.take k).flatten.map Ax.cells)]) (fun ⟨k,sv⟩=>k<=ls.length) (fun ⟨k,sv⟩=>ls.length-k) ⟨⟨0,_⟩,(by omega),Weak.mk [true] ⟨zB,zB,zB,zB,T⟩ O⟩ ?_
  rintro ⟨k,sv⟩ hk
  show AWP _ _ _ _ _ ⟨[(27,vI k),(6,.c (.lit sv))]++_,[E.vec sv 99 3 ((ls.take k).flatten.map Ax.cells)]++_⟩
  refine Y O<|yB O<|zA<|zH<|zE O (fun c3=>?_) (fun c3=>?_)
  ·try simp only [sx] at c3
   obtain ⟨x,hx⟩:=yD ls k (by omega)
   refine zF<|zH<|zT<|Y O<|qD O el260 (by omega) (getm (by assumption))<|zI zDe qH O<|G O<|zA<|zP O<|G O<|G O<|zZ O O (yH 0 O el68 O O O (by have:=tot_flat hx;simp only [List.length_map];omega) (by have:=tot_flat hx;simp only [List.length_map];omega)) ?_
   rintro _ _ ⟨sv2,rfl,rfl⟩
   refine G O<|zA<|zP O<|qM O ⟨by omega,by omega⟩<|G O<|zA ?_
   refine ⟨⟨k+1,sv2⟩,(by omega),(by show ls.length-(k+1)<ls.length-k;omega),Weak.mk [true] ⟨zB,zB,zB,zB,T⟩ (by show _=[E.vec sv2 _ 3 ((ls.take (k+1)).flatten.map Ax.cells)]++_;rw [qW hx,List.flatten_append,List.map_append];simp only [List.flatten_cons,List.flatten_nil,List.append_nil];rfl)⟩
  ·try simp only [sx] at c3
   refine qP<|Y O<|G O<|G O<|zA<|zG<|zV O ?_
   exact ⟨_,O,by rw [yC (by omega)];rfl⟩
theorem zFa (x y:List Ax) (hx:x.length<=1073741824) (hy:y.length<=1073741824):OwnR cfg 177 [.c (.sl 1 [[.sl 3 (x.map Ax.cells)],[.sl 3 (y.map Ax.cells)]])] 99 3 ((x++y).map Ax.cells):=by
  have h:=zNn [x,y] (by simp) (by simp only [totL];omega)
  simpa using h
theorem zKd (d:Df) (hD:d.Dims.length<=1073741824) (hR:d.Red.length<=1073741824):
    OwnR cfg 118 [vDf d] 9 1 ((namesD d).map fun s=>[cS s]):=by
 refine zW Tryz.func118 O Tryz.ntmps118 Tryz.results118 O ?_
 intro z hz
 refine Y O<|zZ O O (qO O O) ?_
 rintro _ _ ⟨b1,rfl,rfl⟩
 refine qT 1 O<|zA<|Y O<|G O<|yK _ (kI 9 1)<|zA<|zH<|Y O<|zD O zKu<|zI zDe (J 1 O) O<|zD O zEm<|zI zDe (J 1 O) O<|zR O (qS O el260 zr68 O O O O)<|qK O ok177 (OwnR.pur (zFa d.Dims d.Red hD hR)) ⟨zB,O,T⟩<|qB O el68<|G O<|zA<|zT<|zU ⟨[(13,.c _),(3,.c _),(11,.c _),(12,.c _)],[_]⟩ (Weak.mk [true,false] ⟨zB,zB,zB,zB,T⟩ O)<|qJ 2 1 O O (Nat×Value) (fun ⟨k,sv⟩=>[(13,vI k),(3,.c (.lit sv))]) (fun ⟨k,sv⟩=>[E.vec sv 9 1 (((d.Dims++d.Red).take k).map fun a=>[cS a.Name])]) (fun ⟨k,sv⟩=>k<=(d.Dims++d.Red).length) (fun ⟨k,sv⟩=>(d.Dims++d.Red).length-k) ⟨⟨0,(.slice none 0 0)⟩,(by omega),Weak.mk [true] ⟨zB,zB,zB,zB,T⟩ O⟩ ?_
 rintro ⟨k,sv⟩ hk
 show AWP _ _ _ _ _ ⟨[(13,vI k),(3,.c (.lit sv))]++_,[E.vec sv 9 1 (((d.Dims++d.Red).take k).map fun a=>[cS a.Name])]++_⟩
 refine Y O<|yB O<|zA<|zH<|zE O (fun c1=>?_) (fun c1=>?_)
 ·try simp only [sx] at c1
  obtain ⟨x,hx⟩:=yD (d.Dims++d.Red) k (by omega)
  have hlen:(d.Dims++d.Red).length<=2147483648:=by rw [List.length_append];omega
  refine zF<|zH<|zT<|Y O<|qD O el68 (by omega) (getm (by assumption))<|zM agg99 qH O<|zZ O O (qF [none,none,some 2] O zr99 O) ?_
  rintro _ _ ⟨b3,rfl,rfl⟩
  refine D 0 sz99 O<|zA<|zP O<|G O<|zD O zPv<|zI one9 (J 0 O) O<|zR O (qS O el25 zr9 O O O O)<|zZ O O (yH 1 O el25 O O O (by simp only [List.length_take,List.length_map,List.length_cons,List.length_nil];omega) (by simp only [List.length_take,List.length_map,List.length_cons,List.length_nil];omega)) ?_
  rintro _ _ ⟨sv4,rfl,rfl⟩
  refine G O<|zA<|zP O<|qM O ⟨by omega,by omega⟩<|G O<|zA ?_
  refine ⟨⟨k+1,sv4⟩,(by omega),(by show (d.Dims++d.Red).length-(k+1)<(d.Dims++d.Red).length-k;omega),Weak.mk [false,true] ⟨zB,zB,zB,zB,T⟩ (by show _=[E.vec sv4 _ 1 (((d.Dims++d.Red).take (k+1)).map fun a=>[cS a.Name])]++_;rw [qW hx,List.map_append (f:=fun a:Ax=>[cS a.Name])];rfl)⟩
 ·try simp only [sx] at c1
  refine qP<|Y O<|G O<|G O<|zA<|zG<|zV O ?_
  exact ⟨_,O,by rw [yC (by omega),names_rows];rfl⟩
theorem program_limits (p:Pg):
    Pur cfg 58 [vPg p] (vB (decide (limitOk p))):=by
 refine zW Tryz.func58 O Tryz.ntmps58 Tryz.results58 O ?_
 intro z hz
 refine Y O<|zZ O O (qO O O) ?_
 rintro _ _ ⟨b1,rfl,rfl⟩
 refine G O<|zA<|Y O<|zD O fd30_0<|zI zGt (J 0 O) O<|qB O el25<|zD O fd30_2<|zI one27 (J 0 O) O<|qB O el27<|zD O zIa<|zI one28 (J 0 O) O<|qB O el28<|zD O fd30_4<|zI zGt (J 0 O) O<|qB O el25<|zR O (det_max4 O O O O O)<|zR O (zBb O O O)<|G O<|rL0 O (fun g1_14=>zJ O fd30_1 O) O<|rL1 18 O (fun g1_14=>zK O one26 O (J 0 O) O) O<|rL1 19 O (fun g1_14=>yW O el26 O) O<|rL1 20 O (fun g1_14=>zBb O O O) O<|wC O (fun h=>h)<|G O<|zA<|zG<|zV O ?_
 exact congrArg vB (limit_eq p)
theorem slices_Max_int (l:List Int) (x0:Int) (h0:l[0]? =some x0) (hl:l.length<=4294967296):
    Pur cfg 176 [.c (.sl 1 (l.map fun n=>[cI n]))] (vI (maxT l l.length)):=by
 refine zW Tryz.func176 O Tryz.ntmps176 Tryz.results176 O ?_
 intro z hz
 have hlen:=len_of_get h0
 refine Y O<|G O<|zA<|zH<|Y O<|G O<|qB O el46<|yB O<|zA<|zE O (fun c1=>?_) (fun c1=>?_)
 ·try simp only [sx] at c1
  exact absurd c1 (by omega)
 ·try simp only [sx] at c1
  refine zF<|Y O<|G O<|qD O el46 (by omega) (getm h0)<|zI one3 qH O<|G O<|zA<|zH<|Y O<|G O<|zA<|zT<|zU ⟨[(4,.c _),(3,.c _),(0,.c _)],[]⟩ (Weak.mk [] ⟨zB,zB,zB,T⟩ O) ?_
  refine qJ 2 0 O O (Nat) (fun k=>[(4,vI k),(3,vI (maxT l k))]) (fun k=>[]) (fun k=>1<=k/\k<=l.length) (fun k=>l.length-k) ⟨1,⟨by omega,by omega⟩,Weak.mk [] ⟨zB,VLe.of_eq (congrArg vI (maxT_one h0)),zB,T⟩ O⟩ ?_
  rintro k ⟨hk1,hk⟩
  refine zH<|Y O<|G O<|G O<|qB O el46<|yB O<|zA<|zE O (fun c2=>?_) (fun c2=>?_)
  ·try simp only [sx] at c2
   obtain ⟨x,hx⟩:=yD l k (by omega)
   refine zF<|zH<|zT<|zP O<|G O<|G O<|G O<|qD O el46 (by omega) (getm (by assumption))<|zI one3 qH O<|zR O (det_max O O O)<|G O<|zA<|zP O<|G O<|qM O ⟨by omega,by omega⟩<|G O<|zA ?_
   refine ⟨k+1,⟨by omega,by omega⟩,(by omega),Weak.mk [] ⟨zB,VLe.of_eq (congrArg vI (maxT_next hx)),zB,T⟩ O⟩
  ·try simp only [sx] at c2
   refine qP<|Y O<|G O<|G O<|zA<|zG<|zV O ?_
   exact congrArg vI (by rw [show k=l.length by omega])
theorem zGm (t:Ty) (l:List Int) (x0:Int) (h0:l[0]? =some x0) (hl:l.length<=4294967296):
    Pur cfg 114 [vTy t,.c (.sl 1 (l.map fun n=>[cI n]))] (vI (declE t l)):=by
 refine zW Tryz.func114 O Tryz.ntmps114 Tryz.results114 O ?_
 intro z hz
 refine Y O<|zZ O O (qO O O) ?_
 rintro _ _ ⟨b1,rfl,rfl⟩
 refine G O<|zA<|zH<|Y O<|zM qZ (J 0 O) O<|qK O ok167 (kW _) ⟨zB,O,T⟩<|yM O<|zA<|zE O (fun c1=>?_) (fun c1=>?_)
 ·try simp only [sx] at c1
  refine Y O<|G O<|zA<|zG<|zV O ?_
  exact congrArg vI (by rw [declE,if_neg (by rw [tyErr_no c1];simp)])
 ·try simp only [sx] at c1
  refine zF<|zH<|Y O<|G O<|qK O ok176 (slices_Max_int l x0 h0 hl) ⟨zB,O,T⟩<|zR O (yU O O O)<|zA<|zE O (fun c2=>?_) (fun c2=>?_)
  ·try simp only [sx] at c2
   refine Y O<|G O<|zA<|zG<|zV O ?_
   exact congrArg vI (by rw [declE,if_pos (tyErr_yes c1),if_pos c2])
  ·try simp only [sx] at c2
   refine zF<|Y O<|G O<|zA<|zG<|zV O ?_
   exact congrArg vI (by rw [declE,if_pos (tyErr_yes c1),if_neg (by omega)])
theorem zJq (x:Cn) (hl:x.Lin.L.length<=5864062014805):
    Pur cfg 112 [vCn x] (vI (linErr x.Lin)):=by
 refine zW Tryz.func112 O Tryz.ntmps112 Tryz.results112 O ?_
 intro z hz
 refine Y O<|zZ O O (qO O O) ?_
 rintro _ _ ⟨b1,rfl,rfl⟩
 refine G O<|zA<|Y O<|zD O fd123_0<|zM kE (J 0 O) O<|qK O ok122 (wW x.Lin (by omega)) ⟨zB,O,T⟩<|G O<|zA<|zG<|zV O ?_
 exact O
theorem program_fold (d:Df):
    Pur cfg 116 [vDf d] (vI (foldM d)):=by
 refine zW Tryz.func116 O Tryz.ntmps116 Tryz.results116 O ?_
 intro z hz
 refine Y O<|zZ O O (qO O O) ?_
 rintro _ _ ⟨b1,rfl,rfl⟩
 refine G O<|zA<|zH<|Y O<|zD O fd70_4<|zI one3 (J 0 O) O<|zA<|zT<|Y O<|yX O<|G O<|zA<|zE O (fun c1=>?_) (fun c1=>?_)
 ·try simp only [sx] at c1
  refine Y O<|zD O zEm<|zI zDe (J 0 O) O<|qB O el68<|zR O (yU O O O)<|zA<|zE O (fun c2=>?_) (fun c2=>?_)
  ·try simp only [sx] at c2
   refine Y O<|G O<|zA<|zG<|zV O ?_
   exact q8
  ·try simp only [sx] at c2
   refine zF<|Y O<|G O<|zA<|zG<|zV O ?_
   exact q8
 ·try simp only [sx] at c1
  refine zH<|Y O<|yX O<|G O<|zA<|zE O (fun c3=>?_) (fun c3=>?_)
  ·try simp only [sx] at c3
   exact v2
  ·try simp only [sx] at c3
   refine Y O<|yX O<|G O<|zA<|zE O (fun c4=>?_) (fun c4=>?_)
   ·try simp only [sx] at c4
    exact v2
   ·try simp only [sx] at c4
    refine Y O<|yX O<|G O<|zA<|zE O (fun c5=>?_) (fun c5=>?_)
    ·try simp only [sx] at c5
     exact v2
    ·try simp only [sx] at c5
     refine zP O<|yX O<|G O<|zA<|zE O (fun c6=>?_) (fun c6=>?_)
     ·exact v12
     ·exact o5
end Go.W
