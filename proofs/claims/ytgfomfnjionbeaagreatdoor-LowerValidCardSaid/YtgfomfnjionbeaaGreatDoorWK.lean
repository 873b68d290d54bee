/-
  What functions compute.
  Conditions: none.
-/
import Derived.Test.YtgfomfnjionbeaaGreatDoorGC
import Derived.Test.YtgfomfnjionbeaaGreatDoorPlain
set_option linter.unusedSimpArgs false
set_option linter.unusedVariables false
set_option maxRecDepth 10000
namespace Go.W
open Go Go.Eng Go.Proofs Go.L41 Go.Br
attribute [local irreducible] AWP RWP TD fQ
theorem agg99:mJ Tryz.prog 99=some 3:=by kernel_rfl
theorem el26:dG Tryz.prog 26=some (123,3,40):=by kernel_rfl
theorem el27:dG Tryz.prog 27=some (74,7,80):=by kernel_rfl
theorem el46:dG Tryz.prog 46=some (3,1,8):=by kernel_rfl
theorem el68:dG Tryz.prog 68=some (99,3,48):=by kernel_rfl
theorem el260:dG Tryz.prog 260=some (68,1,24):=by kernel_rfl
theorem zTq:bD Tryz.prog 30 0=some (0,25):=by kernel_rfl
theorem fd30_1:bD Tryz.prog 30 1=some (1,26):=by kernel_rfl
theorem zMy:bD Tryz.prog 30 2=some (2,27):=by kernel_rfl
theorem fd30_4:bD Tryz.prog 30 4=some (4,25):=by kernel_rfl
theorem zKz:bD Tryz.prog 70 2=some (6,68):=by kernel_rfl
theorem zFo:bD Tryz.prog 70 3=some (7,68):=by kernel_rfl
theorem fd70_4:bD Tryz.prog 70 4=some (8,3):=by kernel_rfl
theorem zTn:bD Tryz.prog 99 0=some (0,9):=by kernel_rfl
theorem fd123_0:bD Tryz.prog 123 0=some (0,59):=by kernel_rfl
theorem ik3:sZ Tryz.prog 3=some .i64:=by kernel_rfl
theorem ok176:bA Tryz.prog 176=true:=by kernel_rfl
theorem ok177:bA Tryz.prog 177=true:=by kernel_rfl
theorem ok217:bA Tryz.prog 217=true:=by kernel_rfl
theorem zFu:gB Tryz.prog 25=true:=by kernel_rfl
theorem one26:gB Tryz.prog 26=true:=by kernel_rfl
theorem one27:gB Tryz.prog 27=true:=by kernel_rfl
theorem zDp:gB Tryz.prog 68=true:=by kernel_rfl
theorem sz99:(Tryz.prog.info? 99).map (·.size)=some 3:=by kernel_rfl
theorem zr68:dO Tryz.prog 68=some [(Value.slice none 0 0)]:=by kernel_rfl
theorem zr99:dO Tryz.prog 99=some [(Value.string (ByteArray.mk #[])),(Value.int IntKind.i64 0),(Value.slice none 0 0)]:=by kernel_rfl
theorem slices_Grow_ax (n:Nat) (hn:n<=4294967296):
    OwnR cfg 217 [.c (.lit (.slice none 0 0)),vI n] 99 3 ([]):=by
 refine zV Tryz.func217 O Tryz.ntmps217 Tryz.results217 O ?_
 intro z hz
 refine Y O<|qX 3 O<|zA<|zH<|Y O<|G O<|yA O<|zA<|zE O (fun c1=>?_) (fun c1=>?_)
 ·try simp only [sx] at c1
  exact absurd c1 zC
 ·try simp only [sx] at c1
  refine zI<|zH<|Y O<|G O<|G O<|zW O (zUa O el68 O)<|G O<|zW O (zTz O el68 O)<|zW O (yM O O O ⟨zC,zC⟩)<|zW O (yM O O O ⟨zC,zC⟩)<|G O<|zA<|Y O<|G O<|zW O (yF O O O)<|zA<|zE O (fun c2=>?_) (fun c2=>?_)
  ·try simp only [sx] at c2
   refine zO O<|G O<|G O<|zW O (zUa O el68 O)<|zW O (det_cut_nil O el68 O O)<|G O<|zY O O (ope_grow n O el68 ik3 O O zC zC zC zC) ?_
   rintro _ _ ⟨b1,cap1,rfl,hcap1,rfl⟩
   refine G O<|zW O (zTz O el68 O)<|zW O (det_cut_row 0 O el68 O O O ⟨zC,hcap1⟩)<|G O<|zA<|Y O<|G O<|G O<|zA<|zJ<|zT O ?_
   exact ⟨_,O,O⟩
  ·refine zI<|Y O<|G O<|yT _ (kO 99 3)<|G O<|zA<|zJ<|zT O ?_
   exact ⟨_,O,O⟩
theorem zQi (ls:List (List Ax)) (hl:ls.length<=4294967296) (ht:lS ls<=4294967296):
    OwnR cfg 177 [.c (.sl 1 (ls.map fun l=>[.sl 3 (l.map Ax.cells)]))] 99 3 (ls.flatten.map Ax.cells):=by
 refine zV Tryz.func177 O Tryz.ntmps177 Tryz.results177 O ?_
 intro z hz
 refine Y O<|qX 3 O<|zA<|Y O<|G O<|zA<|zH<|Y O<|G O<|qB O el260<|G O<|zA<|zR<|zU ⟨[(11,.c _),(3,.c _),(0,.c _),(9,.c _),(10,.c _)],[]⟩ (Weak.mk [] ⟨zB,zB,zB,zB,zB,T⟩ O)<|qF 2 0 O O (Nat) (fun k=>[(11,vI k),(3,vI (lS (ls.take k)))]) (fun k=>[]) (fun k=>k<=ls.length) (fun k=>ls.length-k) ⟨0,zC,Weak.mk [] ⟨zB,zB,zB,zB,zB,T⟩ O⟩ ?_
 rintro k hk
 refine Y O<|yA O<|zA<|zH<|zE O (fun c1=>?_) (fun c1=>?_)
 ·try simp only [sx] at c1
  obtain ⟨x,hx⟩:=qV ls k zC
  have hb1:=tot_get hx
  refine zI<|zH<|zR<|Y O<|qE O el260 zC (getm uD)<|zG zDp qD O<|G O<|zA<|Y O<|G O<|G O<|qB O el68<|qH O ⟨zC,zC⟩<|G O<|zA<|Y O<|G O<|yA O<|zA<|zE O (fun c2=>?_) (fun c2=>?_)
  ·try simp only [sx] at c2
   exact absurd c2 zC
  ·try simp only [sx] at c2
   refine zI<|zO O<|qH O ⟨zC,zC⟩<|G O<|zA ?_
   refine ⟨k+1,zC,zC,Weak.mk [] ⟨zB,VLe.of_eq (congrArg vI (by rw [tot_next hx];simp)),zB,zB,zB,T⟩ O⟩
 ·try simp only [sx] at c1
  have hT:lS (ls.take k)=lS ls:=by rw [yD zC]
  refine qM<|Y O<|G O<|zY O O (zBb O ok217 (slices_Grow_ax (lS (ls.take k)) zC) ⟨zB,O,zB,O,T⟩) ?_
  rintro _ _ ⟨sv1,rfl,rfl⟩
  refine G O<|zA<|zH<|Y O<|G O<|qB O el260<|G O<|zA<|zR<|zU ⟨[(27,.c _),(6,.c _),(25,.c _),(26,.c _)],[_]⟩ (Weak.mk [true] ⟨zB,zB,zB,zB,T⟩ O)<|qF 2 1 O O (Nat×Value) (fun ⟨k,sv⟩=>[(27,vI k),(6,.c (.lit sv))]) (fun ⟨k,sv⟩=>[E.vec sv 99 3 ((ls.take k).flatten.map Ax.cells)]) (fun ⟨k,sv⟩=>k<=ls.length) (fun ⟨k,sv⟩=>ls.length-k) ⟨⟨0,_⟩,zC,Weak.mk [true] ⟨zB,zB,zB,zB,T⟩ O⟩ ?_
  rintro ⟨k,sv⟩ hk
  show AWP _ _ _ _ _ ⟨[(27,vI k),(6,.c (.lit sv))]++_,[E.vec sv 99 3 ((ls.take k).flatten.map Ax.cells)]++_⟩
  refine Y O<|yA O<|zA<|zH<|zE O (fun c3=>?_) (fun c3=>?_)
  ·try simp only [sx] at c3
   obtain ⟨x,hx⟩:=qV ls k zC
   refine zI<|zH<|zR<|Y O<|qE O el260 zC (getm uD)<|zG zDp qD O<|G O<|zA<|zO O<|G O<|G O<|zY O O (yH 0 O el68 O O O (by have:=tot_flat hx;simp only [List.length_map];omega) (by have:=tot_flat hx;simp only [List.length_map];omega)) ?_
   rintro _ _ ⟨sv2,rfl,rfl⟩
   refine G O<|zA<|zO O<|qH O ⟨zC,zC⟩<|G O<|zA ?_
   refine ⟨⟨k+1,sv2⟩,zC,(by show ls.length-(k+1)<ls.length-k;omega),Weak.mk [true] ⟨zB,zB,zB,zB,T⟩ (by show _=[E.vec sv2 _ 3 ((ls.take (k+1)).flatten.map Ax.cells)]++_;rw [yB hx,List.flatten_append,List.map_append];simp only [List.flatten_cons,List.flatten_nil,List.append_nil];rfl)⟩
  ·try simp only [sx] at c3
   refine qM<|Y O<|G O<|G O<|zA<|zJ<|zT O ?_
   exact ⟨_,O,by rw [yD zC];rfl⟩
theorem zGk (x y:List Ax) (hx:x.length<=1073741824) (hy:y.length<=1073741824):OwnR cfg 177 [.c (.sl 1 [[.sl 3 (x.map Ax.cells)],[.sl 3 (y.map Ax.cells)]])] 99 3 ((x++y).map Ax.cells):=by
  have h:=zQi [x,y] uG (by simp only [lS];omega)
  simpa using h
theorem zMd (d:Df) (hD:d.Dims.length<=1073741824) (hR:d.Red.length<=1073741824):
    OwnR cfg 118 [vDf d] 9 1 ((bH d).map fun s=>[cS s]):=by
 refine zV Tryz.func118 O Tryz.ntmps118 Tryz.results118 O ?_
 intro z hz
 refine Y O<|zY O O (qL O O) ?_
 rintro _ _ ⟨b1,rfl,rfl⟩
 refine qX 1 O<|zA<|Y O<|G O<|yT _ (kO 9 1)<|zA<|zH<|Y O<|zD O zKz<|zG zDp (J 1 O) O<|zD O zFo<|zG zDp (J 1 O) O<|kA O el260 zr68<|qJ O ok177 (OwnR.pur (zGk d.Dims d.Red hD hR)) ⟨zB,O,T⟩<|qB O el68<|G O<|zA<|zR<|zU ⟨[(13,.c _),(3,.c _),(11,.c _),(12,.c _)],[_]⟩ (Weak.mk [true,false] ⟨zB,zB,zB,zB,T⟩ O)<|qF 2 1 O O (Nat×Value) (fun ⟨k,sv⟩=>[(13,vI k),(3,.c (.lit sv))]) (fun ⟨k,sv⟩=>[E.vec sv 9 1 (((d.Dims++d.Red).take k).map fun a=>[cS a.Name])]) (fun ⟨k,sv⟩=>k<=(d.Dims++d.Red).length) (fun ⟨k,sv⟩=>(d.Dims++d.Red).length-k) ⟨⟨0,(.slice none 0 0)⟩,zC,Weak.mk [true] ⟨zB,zB,zB,zB,T⟩ O⟩ ?_
 rintro ⟨k,sv⟩ hk
 show AWP _ _ _ _ _ ⟨[(13,vI k),(3,.c (.lit sv))]++_,[E.vec sv 9 1 (((d.Dims++d.Red).take k).map fun a=>[cS a.Name])]++_⟩
 refine Y O<|yA O<|zA<|zH<|zE O (fun c1=>?_) (fun c1=>?_)
 ·try simp only [sx] at c1
  obtain ⟨x,hx⟩:=qV (d.Dims++d.Red) k zC
  have hlen:(d.Dims++d.Red).length<=2147483648:=by rw [List.length_append];omega
  refine zI<|zH<|zR<|Y O<|qE O el68 zC (getm uD)<|zM agg99 qD O<|zY O O (qG [none,none,some 2] O zr99 O) ?_
  rintro _ _ ⟨b3,rfl,rfl⟩
  refine D 0 sz99 O<|zA<|zO O<|G O<|zD O zTn<|zG one9 (J 0 O) O<|kA O el25 zr9<|zY O O (yH 1 O el25 O O O (by simp only [List.length_take,List.length_map,List.length_cons,List.length_nil];omega) (by simp only [List.length_take,List.length_map,List.length_cons,List.length_nil];omega)) ?_
  rintro _ _ ⟨sv4,rfl,rfl⟩
  refine G O<|zA<|zO O<|qH O ⟨zC,zC⟩<|G O<|zA ?_
  refine ⟨⟨k+1,sv4⟩,zC,(by show (d.Dims++d.Red).length-(k+1)<(d.Dims++d.Red).length-k;omega),Weak.mk [false,true] ⟨zB,zB,zB,zB,T⟩ (by show _=[E.vec sv4 _ 1 (((d.Dims++d.Red).take (k+1)).map fun a=>[cS a.Name])]++_;rw [yB hx,List.map_append (f:=fun a:Ax=>[cS a.Name])];rfl)⟩
 ·try simp only [sx] at c1
  refine qM<|Y O<|G O<|G O<|zA<|zJ<|zT O ?_
  exact ⟨_,O,by rw [yD zC,names_rows];rfl⟩
theorem program_limits (p:Pg):
    Pur cfg 58 [vPg p] (vB (decide (gF p))):=by
 refine zV Tryz.func58 O Tryz.ntmps58 Tryz.results58 O ?_
 intro z hz
 refine Y O<|zY O O (qL O O) ?_
 rintro _ _ ⟨b1,rfl,rfl⟩
 refine G O<|zA<|Y O<|zD O zTq<|zG zFu (J 0 O) O<|qB O el25<|zD O zMy<|zG one27 (J 0 O) O<|qB O el27<|zD O zEe<|zG zKr (J 0 O) O<|qB O el28<|zD O fd30_4<|zG zFu (J 0 O) O<|qB O el25<|zW O (det_max4 O O O O O)<|zW O (wN O O O)<|G O<|rL0 O (fun g1_14=>zF O fd30_1 O) O<|rL1 18 O (fun g1_14=>zK O one26 O (J 0 O) O) O<|rL1 19 O (fun g1_14=>qT O el26 O) O<|rL1 20 O (fun g1_14=>wN O O O) O<|kB O (fun h=>h)<|G O<|zA<|zJ<|zT O ?_
 exact congrArg vB (limit_eq p)
theorem slices_Max_int (l:List Int) (x0:Int) (h0:l[0]? =some x0) (hl:l.length<=4294967296):
    Pur cfg 176 [.c (.sl 1 (l.map fun n=>[cI n]))] (vI (sY l l.length)):=by
 refine zV Tryz.func176 O Tryz.ntmps176 Tryz.results176 O ?_
 intro z hz
 have hlen:=len_of_get h0
 refine Y O<|G O<|zA<|zH<|Y O<|G O<|qB O el46<|yA O<|zA<|zE O (fun c1=>?_) (fun c1=>?_)
 ·try simp only [sx] at c1
  exact absurd c1 zC
 ·try simp only [sx] at c1
  refine zI<|Y O<|G O<|qE O el46 zC (getm h0)<|zG one3 qD O<|G O<|zA<|zH<|Y O<|G O<|zA<|zR<|zU ⟨[(4,.c _),(3,.c _),(0,.c _)],[]⟩ (Weak.mk [] ⟨zB,zB,zB,T⟩ O) ?_
  refine qF 2 0 O O (Nat) (fun k=>[(4,vI k),(3,vI (sY l k))]) (fun k=>[]) (fun k=>1<=k/\k<=l.length) (fun k=>l.length-k) ⟨1,⟨zC,zC⟩,Weak.mk [] ⟨zB,VLe.of_eq (congrArg vI (maxT_one h0)),zB,T⟩ O⟩ ?_
  rintro k ⟨hk1,hk⟩
  refine zH<|Y O<|G O<|G O<|qB O el46<|yA O<|zA<|zE O (fun c2=>?_) (fun c2=>?_)
  ·try simp only [sx] at c2
   obtain ⟨x,hx⟩:=qV l k zC
   refine zI<|zH<|zR<|zO O<|G O<|G O<|G O<|qE O el46 zC (getm uD)<|zG one3 qD O<|zW O (zPe O O O)<|G O<|zA<|zO O<|G O<|qH O ⟨zC,zC⟩<|G O<|zA ?_
   refine ⟨k+1,⟨zC,zC⟩,zC,Weak.mk [] ⟨zB,VLe.of_eq (congrArg vI (maxT_next hx)),zB,T⟩ O⟩
  ·try simp only [sx] at c2
   refine qM<|Y O<|G O<|G O<|zA<|zJ<|zT O ?_
   exact congrArg vI (by rw [show k=l.length by omega])
theorem zIb (t:Ty) (l:List Int) (x0:Int) (h0:l[0]? =some x0) (hl:l.length<=4294967296):
    Pur cfg 114 [vTy t,.c (.sl 1 (l.map fun n=>[cI n]))] (vI (mP t l)):=by
 refine zV Tryz.func114 O Tryz.ntmps114 Tryz.results114 O ?_
 intro z hz
 refine Y O<|zY O O (qL O O) ?_
 rintro _ _ ⟨b1,rfl,rfl⟩
 refine G O<|zA<|zH<|Y O<|zM qZ (J 0 O) O<|qJ O ok167 (wH _) ⟨zB,O,T⟩<|yN O<|zA<|zE O (fun c1=>?_) (fun c1=>?_)
 ·try simp only [sx] at c1
  refine Y O<|G O<|zA<|zJ<|zT O ?_
  exact congrArg vI (by rw [mP,if_neg (by rw [tyErr_no c1];simp)])
 ·try simp only [sx] at c1
  refine zI<|zH<|Y O<|G O<|qJ O ok176 (slices_Max_int l x0 h0 hl) ⟨zB,O,T⟩<|zW O (yF O O O)<|zA<|zE O (fun c2=>?_) (fun c2=>?_)
  ·try simp only [sx] at c2
   refine Y O<|G O<|zA<|zJ<|zT O ?_
   exact congrArg vI (by rw [mP,if_pos (tyErr_yes c1),if_pos c2])
  ·try simp only [sx] at c2
   refine zI<|Y O<|G O<|zA<|zJ<|zT O ?_
   exact congrArg vI (by rw [mP,if_pos (tyErr_yes c1),if_neg zC])
theorem zLp (x:Cn) (hl:x.Lin.L.length<=5864062014805):
    Pur cfg 112 [vCn x] (vI (fM x.Lin)):=by
 refine zV Tryz.func112 O Tryz.ntmps112 Tryz.results112 O ?_
 intro z hz
 refine Y O<|zY O O (qL O O) ?_
 rintro _ _ ⟨b1,rfl,rfl⟩
 refine G O<|zA<|Y O<|zD O fd123_0<|zM kD (J 0 O) O<|qJ O ok122 (zAn x.Lin zC) ⟨zB,O,T⟩<|G O<|zA<|zJ<|zT O ?_
 exact O
theorem program_fold (d:Df):
    Pur cfg 116 [vDf d] (vI (fX d)):=by
 refine zV Tryz.func116 O Tryz.ntmps116 Tryz.results116 O ?_
 intro z hz
 refine Y O<|zY O O (qL O O) ?_
 rintro _ _ ⟨b1,rfl,rfl⟩
 refine G O<|zA<|zH<|Y O<|zD O fd70_4<|zG one3 (J 0 O) O<|zA<|zR<|Y O<|yJ O<|G O<|zA<|zE O (fun c1=>?_) (fun c1=>?_)
 ·try simp only [sx] at c1
  refine Y O<|zD O zFo<|zG zDp (J 0 O) O<|qB O el68<|zW O (yF O O O)<|zA<|zE O (fun c2=>?_) (fun c2=>?_)
  ·try simp only [sx] at c2
   refine Y O<|G O<|zA<|zJ<|zT O ?_
   exact w5
  ·try simp only [sx] at c2
   refine zI<|Y O<|G O<|zA<|zJ<|zT O ?_
   exact w5
 ·try simp only [sx] at c1
  refine zH<|Y O<|yJ O<|G O<|zA<|zE O (fun c3=>?_) (fun c3=>?_)
  ·try simp only [sx] at c3
   exact v6
  ·try simp only [sx] at c3
   refine Y O<|yJ O<|G O<|zA<|zE O (fun c4=>?_) (fun c4=>?_)
   ·try simp only [sx] at c4
    exact v6
   ·try simp only [sx] at c4
    refine Y O<|yJ O<|G O<|zA<|zE O (fun c5=>?_) (fun c5=>?_)
    ·try simp only [sx] at c5
     exact v6
    ·try simp only [sx] at c5
     refine zO O<|yJ O<|G O<|zA<|zE O (fun c6=>?_) (fun c6=>?_)
     ·exact v27
     ·exact n7
end Go.W
