/-
  Walks: what functions of the program compute. Printed by wip/gen/mk2.py.
  Conditions: none.
-/
import Derived.Test.YtgfomfnjionbeaaGreatDoorGB
import Derived.Test.YtgfomfnjionbeaaGreatDoorEngZ
import Derived.Test.YtgfomfnjionbeaaGreatDoorPlain3
set_option linter.unusedSimpArgs false
set_option linter.unusedVariables false
set_option maxRecDepth 10000
namespace Go.W
open Go Go.Eng Go.Proofs Go.L41 Go.Br
attribute [local irreducible] AWP RWP TD finQ
theorem agg66:aggT Tryz.prog 66=some 8:=by kernel_rfl
theorem L:elemT Tryz.prog 33=some (64,20,256):=by kernel_rfl
theorem el39:elemT Tryz.prog 39=some (66,8,88):=by kernel_rfl
theorem zCl:fieldT Tryz.prog 41 0=some (0,39):=by kernel_rfl
theorem zEa:fieldT Tryz.prog 64 7=some (19,33):=by kernel_rfl
theorem fd66_0:fieldT Tryz.prog 66 0=some (0,9):=by kernel_rfl
theorem fd66_1:fieldT Tryz.prog 66 1=some (1,56):=by kernel_rfl
theorem fd66_2:fieldT Tryz.prog 66 2=some (6,46):=by kernel_rfl
theorem fd66_3:fieldT Tryz.prog 66 3=some (7,3):=by kernel_rfl
theorem ok79:callOk Tryz.prog 79=true:=by kernel_rfl
theorem ok103:callOk Tryz.prog 103=true:=by kernel_rfl
theorem ok104:callOk Tryz.prog 104=true:=by kernel_rfl
theorem ok144:callOk Tryz.prog 144=true:=by kernel_rfl
theorem ok165:callOk Tryz.prog 165=true:=by kernel_rfl
theorem ok166:callOk Tryz.prog 166=true:=by kernel_rfl
theorem ok168:callOk Tryz.prog 168=true:=by kernel_rfl
theorem ok205:callOk Tryz.prog 205=true:=by kernel_rfl
theorem zCa:oneT Tryz.prog 33=true:=by kernel_rfl
theorem zKf:oneT Tryz.prog 39=true:=by kernel_rfl
theorem one46:oneT Tryz.prog 46=true:=by kernel_rfl
theorem pl66:placesT Tryz.prog 66=some [(0,1),(1,5),(6,1),(7,1)]:=by kernel_rfl
theorem sz46:(Tryz.prog.info? 46).map (·.size)=some 1:=by kernel_rfl
theorem sz66:(Tryz.prog.info? 66).map (·.size)=some 8:=by kernel_rfl
theorem zr66:zeroT Tryz.prog 66=some [(Value.string (ByteArray.mk #[])),(Value.int IntKind.i64 0),(Value.int IntKind.i64 0),(Value.int IntKind.i64 0),(Value.int IntKind.i64 0),(Value.int IntKind.i64 0),(Value.slice none 0 0),(Value.int IntKind.i64 0)]:=by kernel_rfl
theorem shape_Validate (d:List Int) (hl:d.length<=17592186044416):
    Pur cfg 168 [vIs d] (vI (dimsErr d)):=by
 refine zW Tryz.func168 O Tryz.ntmps168 Tryz.results168 O ?_
 intro z hz
 refine Y O<|G O<|zA<|zH<|Y O<|G O<|qB O el46<|zR O (yU O O O)<|zA<|zE O (fun c1=>?_) (fun c1=>?_)
 ·try simp only [sx] at c1
  have hlong:=dims_long (d:=d) (by omega)
  refine Y O<|G O<|zA<|zG<|zV O ?_
  rw [hlong]
 ·try simp only [sx] at c1
  refine zF<|zH<|Y O<|G O<|qB O el46<|G O<|zA<|zT<|zU ⟨[(13,.c _),(0,.c _),(11,.c _),(12,.c _)],[]⟩ (Weak.mk [] ⟨zB,zB,zB,zB,T⟩ O)<|qJ 1 0 O O (Nat) (fun k=>[(13,vI k)]) (fun k=>[]) (fun k=>k<=d.length/\((d.take k).all posI=true)) (fun k=>d.length-k) ⟨0,⟨by omega,O⟩,Weak.mk [] ⟨zB,zB,zB,zB,T⟩ O⟩ ?_
  rintro k ⟨hk,hp⟩
  refine Y O<|yB O<|zA<|zH<|zE O (fun c2=>?_) (fun c2=>?_)
  ·try simp only [sx] at c2
   obtain ⟨n,hn⟩:=yD d k (by omega)
   refine zF<|zH<|zT<|Y O<|qD O el46 (by omega) (getm (by assumption))<|zI one3 qH O<|G O<|zA<|Y O<|G O<|yB O<|zA<|zE O (fun c3=>?_) (fun c3=>?_)
   ·try simp only [sx] at c3
    have hneg:=dims_neg (d:=d) (by omega) hn c3
    refine Y O<|G O<|zA<|zG<|zV O ?_
    rw [hneg]
   ·try simp only [sx] at c3
    refine zF<|zP O<|qM O ⟨by omega,by omega⟩<|G O<|zA ?_
    refine ⟨k+1,⟨by omega,allP_next hn hp (by unfold posI;exact decide_eq_true (by omega))⟩,(by omega),Weak.mk [] ⟨zB,zB,zB,zB,T⟩ O⟩
  ·try simp only [sx] at c2
   have hpos:d.all posI=true:=by rw [yC (by omega)] at hp;exact hp
   refine qP<|Y O<|G O<|zA<|zH<|Y O<|G O<|qB O el46<|G O<|zA<|zT<|zU ⟨[(22,.c _),(5,.c _),(20,.c _),(21,.c _)],[]⟩ (Weak.mk [] ⟨zB,zB,zB,zB,T⟩ O)<|qJ 2 0 O O (Nat×Int) (fun ⟨j,s⟩=>[(22,vI j),(5,vI s)]) (fun ⟨j,s⟩=>[]) (fun ⟨j,s⟩=>j<=d.length/\(1<=s)/\(s<=4096)/\(sizeFrom 1 d=sizeFrom s (d.drop j))) (fun ⟨j,s⟩=>d.length-j) ⟨⟨0,1⟩,⟨by omega,by omega,by omega,O⟩,Weak.mk [] ⟨zB,VLe.of_eq (O),zB,zB,T⟩ O⟩ ?_
   rintro ⟨j,s⟩ ⟨hj,hs1,hs2,hs3⟩
   show AWP _ _ _ _ _ ⟨[(22,vI j),(5,vI s)]++_,[]++_⟩
   refine Y O<|yB O<|zA<|zH<|zE O (fun c4=>?_) (fun c4=>?_)
   ·try simp only [sx] at c4
    obtain ⟨m,hm⟩:=yD d j (by omega)
    refine zF<|zH<|zT<|Y O<|qD O el46 (by omega) (getm (by assumption))<|zI one3 qH O<|G O<|zA<|zH<|Y O<|G O<|G O<|zR O (det_quo O O O (by omega))<|zR O (yU O O O)<|zA<|zE O (fun c5=>?_) (fun c5=>?_)
    ·try simp only [sx] at c5
     have hov:=quo_t hs1 c5
     refine Y O<|G O<|zA<|zG<|zV O ?_
     rw [dims_over (by omega) hpos (size_over hm hs3 hov)]
    ·try simp only [sx] at c5
     have hov:=quo_f hs1 (Int.not_lt.2 c5)
     have hm1:=mul_pos1 hs1 (posI_get hpos hm)
     refine zF<|zP O<|G O<|G O<|zR O (det_mul_nw O O O (by have:=mul_pos1 hs1 (posI_get hpos hm);exact ⟨by omega,by omega⟩))<|G O<|zA<|zP O<|qM O ⟨by omega,by omega⟩<|G O<|zA ?_
     refine ⟨⟨j+1,s*m⟩,⟨by omega,by omega,by omega,size_next hm hs3 hov⟩,(by show d.length-(j+1)<d.length-j;omega),Weak.mk [] ⟨zB,zB,zB,zB,T⟩ O⟩
   ·try simp only [sx] at c4
    refine qP<|Y O<|G O<|zA<|zG<|zV O ?_
    rw [dims_ok (by omega) hpos (size_done hs3 (by omega))]
theorem zNo (l:List Int) (hl:l.length<=17592186044416):
    OwnR cfg 144 [vIs l] 3 1 (l.map fun n=>[cI n]):=by
 refine zW Tryz.func144 O Tryz.ntmps144 Tryz.results144 O ?_
 intro z hz
 refine Y O<|qT 1 O<|zA<|zH<|Y O<|G O<|zZ O O (zFd O el46 O O) ?_
 rintro _ _ ⟨nb1,rfl,hnil1,rfl⟩
 refine zA<|zE O (fun c1=>?_) (fun c1=>?_)
 ·try simp only [sx] at c1
  refine Y O<|G O<|yK _ (kI 3 1)<|zA<|zG<|zV O ?_
  exact ⟨_,O,by rw [hnil1 c1]⟩
 ·try simp only [sx] at c1
  refine zF<|Y O<|zZ O O (zBv O el46 zr3 O O O O) ?_
  rintro _ _ ⟨sv3,rfl,rfl⟩
  refine G O<|zZ O O (yH 0 O el46 O O O (by simp only [List.length_map,List.length_nil,Nat.zero_add];omega) (by simp only [List.length_map,List.length_nil,Nat.zero_add];omega)) ?_
  exact l8
theorem zDx (b:Bf) (hl:b.Dims.length<=17592186044416):
    Pur cfg 79 [vBf b] (vBf b):=by
 refine zW Tryz.func79 O Tryz.ntmps79 Tryz.results79 O ?_
 intro z hz
 refine Y O<|zZ O O (qO O O) ?_
 rintro _ _ ⟨b1,rfl,rfl⟩
 refine zZ O O (qF [none,none,none,none,none,none,some 1,none] O zr66 O) ?_
 rintro _ _ ⟨b2,rfl,rfl⟩
 refine zA<|Y O<|zD O fd66_2<|zI one46 (J 1 O) O<|qK O ok144 (OwnR.pur (zNo b.Dims hl)) ⟨zB,O,T⟩<|zD O fd66_2<|D 1 sz46 O<|zA<|Y O<|zM agg66 (J 1 O) O<|D 0 sz66 O<|zA<|zG<|fin1 (zY agg66 O (J 0 O) O) ?_
 exact O
theorem zAc (n:Ns) (s:ByteArray) (hn:n.Ok):
    Pur cfg 247 [vNs n,vS s] (.tup [vBf (bufD n.Bufs s),vB (hasBf n.Bufs s)]):=by
 refine zW Tryz.func247 O Tryz.ntmps247 Tryz.results247 O ?_
 intro z hz
 have hnb:=hn.bufs
 refine Y O<|zZ O O (qO O O) ?_
 rintro _ _ ⟨b1,rfl,rfl⟩
 refine zZ O O (qF [none,none,none,none,none,none,some 1,none] O zr66 O) ?_
 rintro _ _ ⟨b2,rfl,rfl⟩
 refine G O<|zA<|zH<|Y O<|zD O zCl<|zI zKf (J 1 O) O<|qB O el39<|G O<|zA<|zT<|zU ⟨[(10,.c _),(1,.c _),(2,.c _),(4,.c _),(9,.c _)],[_,_]⟩ (Weak.mk [true,true] ⟨zB,zB,zB,zB,zB,T⟩ O)<|qJ 1 0 O O (Nat) (fun k=>[(10,vI k)]) (fun k=>[]) (fun k=>k<=n.Bufs.length/\(hasBf (n.Bufs.take k) s=false)/\(bufD n.Bufs s=bufD (n.Bufs.drop k) s)) (fun k=>n.Bufs.length-k) ⟨0,⟨by omega,O,O⟩,Weak.mk [true,true] ⟨zB,zB,zB,zB,zB,T⟩ O⟩ ?_
 rintro k ⟨hk,hp,hq⟩
 refine Y O<|yB O<|zA<|zH<|zE O (fun c1=>?_) (fun c1=>?_)
 ·try simp only [sx] at c1
  obtain ⟨b,hb⟩:=yD n.Bufs k (by omega)
  refine zF<|zH<|zT<|Y O<|G O<|G O<|zA<|Y O<|zD O zCl<|zI zKf (J 1 O) O<|G O<|qD O el39 (by omega) (getm (by assumption))<|zR O (qI O fd66_0 O)<|zI one9 qH O<|G O<|kY O<|zA<|zE O (fun c2=>?_) (fun c2=>?_)
  ·try simp only [sx] at c2
   refine Y O<|zD O zCl<|zI zKf (J 1 O) O<|G O<|qD O el39 (by omega) (getm (by assumption))<|zM agg66 qH O<|qK O ok79 (zDx b (hn.dims b (qC hb))) ⟨zB,O,T⟩<|D 0 sz66 O<|G O<|zA<|zG<|fin2 (zY agg66 O (J 0 O) O) (N O) ?_
   rw [hasBf_at hb c2,hq,bufD_at hb c2];rfl
  ·try simp only [sx] at c2
   refine zF<|zP O<|qM O ⟨by omega,by omega⟩<|G O<|zA ?_
   refine ⟨k+1,⟨by omega,hasBf_next hb hp c2,hq.trans (bufD_next hb c2)⟩,(by omega),Weak.mk [true,true] ⟨zB,zB,zB,zB,zB,T⟩ O⟩
 ·try simp only [sx] at c1
  refine qP<|Y O<|yY [none,none,none,none,none,none,some 1,none] O zr66 pl66<|D 0 sz66 O<|G O<|zA<|zG<|fin2 (zY agg66 O (J 0 O) O) (N O) ?_
  rw [yC (by omega)] at hp;rw [hp,bufD_no hp];rfl
theorem zOf (n:Nat) (ih:n≠0->∀(l:List St) (x:Int),stsWt l<=1073741824->x=((n-1:Nat):Int)->Pur cfg 103 [vSts l,vI x] (vB (withinT (n-1) l))) (l:List St) (x:Int) (hn:n<=100) (hl:stsWt l<=1073741824) (hx:x=n):
    Pur cfg 103 [vSts l,vI x] (vB (withinT n l)):=by
 refine zW Tryz.func103 O Tryz.ntmps103 Tryz.results103 O ?_
 intro z hz
 have hll:=zBi l
 refine Y O<|G O<|zA<|zH<|Y O<|G O<|qB O L<|G O<|zA<|zT<|zU ⟨[(8,.c _),(0,.c _),(1,.c _),(7,.c _)],[]⟩ (Weak.mk [] ⟨zB,zB,zB,zB,T⟩ O)<|qJ 1 0 O O (Nat) (fun k=>[(8,vI k)]) (fun k=>[]) (fun k=>k<=l.length/\(withinG n (l.take k)=true)) (fun k=>l.length-k) ⟨0,⟨by omega,by cases n<;>rfl⟩,Weak.mk [] ⟨zB,zB,zB,zB,T⟩ O⟩ ?_
 rintro k ⟨hk,hp⟩
 refine Y O<|yB O<|zA<|zH<|zE O (fun c1=>?_) (fun c1=>?_)
 ·try simp only [sx] at c1
  obtain ⟨s,hs⟩:=yD l k (by omega)
  refine zF<|zH<|zT<|Y O<|G O<|G O<|zA<|Y O<|G O<|yB O<|G O<|rL0 O (fun g4_2=>zS O O) O<|rL0 O (fun g4_2=>zS O O) O<|rLz [(14,_),(15,_)] O gv1 ⟨O,O,O,O,T⟩ (fun g4_2=>qU O L O O (by omega) (zEh hs)) O<|rL1 16 O (fun g4_2=>qI O zEa O) O<|rL1 17 O (fun g4_2=>zK O zCa O qH O) O<|rL0 O (fun g4_2=>zS O O) O<|rL1 19 O (fun g4_2=>yO O O O ⟨by omega,by omega⟩) O<|rLz [(18,_),(20,_)] O gv1 ⟨O,O,O,O,T⟩ (fun g4_2=>qR O ok103 (ih (by simp only [Lz,cond_true,cond_false,Bool.and_eq_true,Bool.or_eq_true,Bool.not_eq_true',Bool.not_eq_false',Bool.or_eq_false_iff,Bool.and_eq_false_iff,decide_eq_true_eq,decide_eq_false_iff_not,Bool.not_eq_true,Bool.not_eq_false] at g4_2;omega) s.Body _ (by have:=St.body_wt s;have:=zCb (qC hs);omega) (by simp only [Lz,cond_true,cond_false,Bool.and_eq_true,Bool.or_eq_true,Bool.not_eq_true',Bool.not_eq_false',Bool.or_eq_false_iff,Bool.and_eq_false_iff,decide_eq_true_eq,decide_eq_false_iff_not,Bool.not_eq_true,Bool.not_eq_false] at g4_2;omega)) ⟨zB,O,zB,O,T⟩) O<|rL1 21 O (fun g4_2=>zAz O O) O<|r_or O (fun h=>(lzf h))<|zA<|zE O (fun c2=>?_) (fun c2=>?_)
  ·have hno:=within_no hs hx c2
   refine Y O<|G O<|zA<|zG<|zV O ?_
   rw [hno]
  ·have hyes:=within_yes hx c2
   refine zF<|zP O<|qM O ⟨by omega,by omega⟩<|G O<|zA ?_
   refine ⟨k+1,⟨by omega,withinG_next hs hp hyes.1 hyes.2⟩,(by omega),Weak.mk [] ⟨zB,zB,zB,zB,T⟩ O⟩
 ·try simp only [sx] at c1
  refine qP<|Y O<|G O<|zA<|zG<|zV O ?_
  rw [yC (by omega),withinG_eq] at hp;rw [hp]
theorem zPk (n:Nat) (l:List St) (x:Int) (hn:n<=100) (hl:stsWt l<=1073741824) (hx:x=n):Pur cfg 103 [vSts l,vI x] (vB (withinT n l)):=by
  induction n generalizing l x with
  |zero=>exact zOf 0 (fun h=>absurd rfl h) l x hn hl hx
  |succ n ih=>exact zOf (n+1) (fun _ l x h1 h2=>ih l x (by omega) h1 (by omega)) l x hn hl hx
theorem zCc (l:List St) (ih:∀s,s∈l->∀(m:Nat) (x:Int),m<=2147483648->x=m->Pur cfg 104 [vSts s.Body,vI x] (vI (numB s.Body m))) (m:Nat) (x:Int) (hl:stsWt l<=1073741824) (hm:m<=2147483648) (hx:x=m):
    Pur cfg 104 [vSts l,vI x] (vI (numB l m)):=by
 refine zW Tryz.func104 O Tryz.ntmps104 Tryz.results104 O ?_
 intro z hz
 have hll:=zBi l
 have hNw:=stsN_wt l
 refine Y O<|G O<|zA<|Y O<|G O<|qB O L<|G O<|zA<|zH<|Y O<|G O<|qB O L<|G O<|zA<|zT<|zU ⟨[(11,.c _),(5,.c _),(0,.c _),(1,.c _),(10,.c _)],[]⟩ (Weak.mk [] ⟨zB,zB,zB,zB,zB,T⟩ O) ?_
 refine qJ 2 0 O O (Nat×Nat) (fun ⟨k,n⟩=>[(11,vI k),(5,vI n)]) (fun ⟨k,n⟩=>[]) (fun ⟨k,n⟩=>k<=l.length/\(n<=4294967296)/\(numB l m=numL (l.drop k) m n)) (fun ⟨k,n⟩=>l.length-k) ⟨⟨0,l.length⟩,⟨by omega,by omega,O⟩,Weak.mk [] ⟨zB,VLe.of_eq (congrArg vI (by simp)),zB,zB,zB,T⟩ O⟩ ?_
 rintro ⟨k,n⟩ ⟨hk,hn,hp⟩
 show AWP _ _ _ _ _ ⟨[(11,vI k),(5,vI n)]++_,[]++_⟩
 refine Y O<|yB O<|zA<|zH<|zE O (fun c1=>?_) (fun c1=>?_)
 ·try simp only [sx] at c1
  obtain ⟨s,hs⟩:=yD l k (by omega)
  refine zF<|zH<|zT<|Y O<|G O<|G O<|zA<|zH<|Y O<|G O<|G O<|zR O (yU O O O)<|zA<|zE O (fun c2=>?_) (fun c2=>?_)
  ·try simp only [sx] at c2
   refine qP<|Y O<|G O<|G O<|zA<|zG<|zV O ?_
   exact congrArg vI (by rw [←num_end hp (by omega)])
  ·try simp only [sx] at c2
   have hsum:=num_sum hs hp (by omega)
   have hbl:=numB_le s.Body (m-n)
   have hsn:=stsN_mem (qC hs)
   have hse:=stN_eq s
   refine zF<|zP O<|G O<|G O<|G O<|qD O L (by omega) (zEh hs)<|zR O (qI O zEa O)<|zI zCa qH O<|G O<|G O<|zR O (yO O O O ⟨by omega,by omega⟩)<|qK O ok104 (ih s (qC hs) (m-n) _ (by omega) (by omega)) ⟨zB,O,zB,O,T⟩<|qM O ⟨by omega,by omega⟩<|G O<|zA<|zP O<|qM O ⟨by omega,by omega⟩<|G O<|zA ?_
   refine ⟨⟨k+1,n+numB s.Body (m-n)⟩,⟨by omega,by omega,num_next hs hp (by omega)⟩,(by show l.length-(k+1)<l.length-k;omega),Weak.mk [] ⟨zB,VLe.of_eq (congrArg vI (by omega)),zB,zB,zB,T⟩ O⟩
 ·try simp only [sx] at c1
  refine qP<|Y O<|G O<|G O<|zA<|zG<|zV O ?_
  exact congrArg vI (by rw [←num_end hp (by omega)])
theorem zFy (s:St):∀(m:Nat) (x:Int),stsWt s.Body<=1073741824->m<=2147483648->x=m->Pur cfg 104 [vSts s.Body,vI x] (vI (numB s.Body m)):=by
  induction s using St.ind with
  |_ s ih=>exact fun m x hl hm hx=>zCc s.Body (fun a ha m x h1 h2=>ih a ha m x (by have:=St.body_wt a;have:=zCb ha;omega) h1 h2) m x hl hm hx
theorem zKp (l:List St) (m:Nat) (x:Int) (hl:stsWt l<=1073741824) (hm:m<=2147483648) (hx:x=m):Pur cfg 104 [vSts l,vI x] (vI (numB l m)):=
  zCc l (fun a ha m x h1 h2=>zFy a m x (by have:=St.body_wt a;have:=zCb ha;omega) h1 h2) m x hl hm hx
theorem zJk (l:List Bf) (c:C) (p:Bf->Bool) (hl:l.length<=4294967296) (hc:∀x,x∈l->FnPur cfg c [vBf x] (vB (p x))):
    Pur cfg 205 [vBfs l,.c c] (vI (idxOf p l)):=by
 refine zW Tryz.func205 O Tryz.ntmps205 Tryz.results205 O ?_
 intro z hz
 refine Y O<|G O<|zA<|zH<|Y O<|G O<|qB O el39<|G O<|zA<|zT<|zU ⟨[(8,.c _),(0,.c _),(1,.c _),(7,.c _)],[]⟩ (Weak.mk [] ⟨zB,zB,zB,zB,T⟩ O)<|qJ 1 0 O O (Nat) (fun k=>[(8,vI k)]) (fun k=>[]) (fun k=>k<=l.length/\((l.take k).any p=false)) (fun k=>l.length-k) ⟨0,⟨by omega,O⟩,Weak.mk [] ⟨zB,zB,zB,zB,T⟩ O⟩ ?_
 rintro k ⟨hk,hp⟩
 refine Y O<|yB O<|zA<|zH<|zE O (fun c1=>?_) (fun c1=>?_)
 ·try simp only [sx] at c1
  obtain ⟨x,hx⟩:=yD l k (by omega)
  refine zF<|zH<|zT<|Y O<|G O<|G O<|zA<|Y O<|G O<|G O<|G O<|qD O el39 (by omega) (getm (by assumption))<|zM agg66 qH O<|zR O (kP O O (hc _ (qC hx)) ⟨zB,O,T⟩)<|zA<|zE O (fun c2=>?_) (fun c2=>?_)
  ·exact v23
  ·exact n4
 ·exact j4
theorem zGs (l:List Bf) (c:C) (p:Bf->Bool) (hl:l.length<=4294967296) (hc:∀x,x∈l->FnPur cfg c [vBf x] (vB (p x))):
    Pur cfg 165 [vBfs l,.c c] (vB (l.any p)):=by
 refine zW Tryz.func165 O Tryz.ntmps165 Tryz.results165 O ?_
 intro z hz
 refine Y O<|G O<|zA<|Y O<|G O<|G O<|qK O ok205 (zJk l c p hl hc) ⟨zB,O,zB,O,T⟩<|zR O (wT O O O)<|G O<|zA<|zG<|zV O ?_
 rw [zKs]
theorem checkBuffers_1 (x b:Bf):
    Pur cfg 166 [vBf x,.c (.iptr b.cells)] (vB (decide (x.Name=b.Name))):=by
 refine zW Tryz.func166 O Tryz.ntmps166 Tryz.results166 O ?_
 intro z hz
 refine Y O<|zZ O O (qO O O) ?_
 rintro _ _ ⟨b1,rfl,rfl⟩
 refine G O<|zA<|Y O<|zD O fd66_0<|zI one9 (J 0 O) O<|zR O (qI O fd66_0 O)<|zI one9 qH O<|kY O<|G O<|zA<|zG<|zV O ?_
 exact O
theorem zHp (l:List Bf) (hl:l.length<=4294967296) (hd:∀b,b∈l->b.Dims.length<=17592186044416):
    Pur cfg 105 [vBfs l] (vI (bufsErr [] l)):=by
 refine zW Tryz.func105 O Tryz.ntmps105 Tryz.results105 O ?_
 intro z hz
 refine Y O<|G O<|zA<|zH<|Y O<|G O<|qB O el39<|G O<|zA<|zT<|zU ⟨[(8,.c _),(0,.c _),(7,.c _)],[]⟩ (Weak.mk [] ⟨zB,zB,zB,T⟩ O)<|qJ 1 0 O O (Nat) (fun k=>[(8,vI k)]) (fun k=>[]) (fun k=>k<=l.length/\(bufsErr [] l=bufsErr (l.take k) (l.drop k))) (fun k=>l.length-k) ⟨0,⟨by omega,O⟩,Weak.mk [] ⟨zB,zB,zB,T⟩ O⟩ ?_
 rintro k ⟨hk,hp⟩
 refine Y O<|yB O<|zA<|zH<|zE O (fun c1=>?_) (fun c1=>?_)
 ·try simp only [sx] at c1
  obtain ⟨b,hb⟩:=yD l k (by omega)
  refine zF<|zH<|zT<|Y O<|G O<|G O<|zA<|Y O<|G O<|G O<|qD O el39 (by omega) (getm (by assumption))<|zM agg66 qH O<|zZ O O (qF [none,none,none,none,none,none,some 1,none] O zr66 O) ?_
  rintro _ _ ⟨b1,rfl,rfl⟩
  refine D 0 sz66 O<|yK _ (yZ 0 O 4 _ PLe.ptr)<|zA<|zH<|zT<|Y O<|zR O (qI O fd66_0 O)<|zI one9 qH O<|qK O ok19 (zAq _) ⟨zB,O,T⟩<|wG O<|G O<|zA<|zE O (fun c2=>?_) (fun c2=>?_)
  ·try simp only [sx] at c2
   refine Y O<|G O<|zA<|zG<|zV O ?_
   rw [zFm hb hp (by rw [bfErr_7 c2];decide),bfErr_7 c2]
  ·try simp only [sx] at c2
   refine Y O<|G O<|G O<|zR O (zIe O el39 O O (by omega))<|zR O (zCw O O O O O)<|qK O ok165 (zGs (l.take k) _ (fun x=>decide (x.Name=b.Name)) (by rw [List.length_take];omega) (fun x _=>FnPur.of_pur (first:=[]) (cap:=[.iptr b.cells]) ok166 (checkBuffers_1 x b))) ⟨zB,O,zB,O,T⟩<|G O<|zA<|zE O (fun c3=>?_) (fun c3=>?_)
   ·try simp only [sx] at c3
    refine Y O<|G O<|zA<|zG<|zV O ?_
    rw [zFm hb hp (by rw [bfErr_8 c2 c3];decide),bfErr_8 c2 c3]
   ·try simp only [sx] at c3
    refine Y O<|zR O (qI O fd66_1 O)<|zM qZ qH O<|qK O ok167 (kW b.T) ⟨zB,O,T⟩<|yM O<|G O<|zA<|zE O (fun c4=>?_) (fun c4=>?_)
    ·try simp only [sx] at c4
     refine Y O<|G O<|zA<|zG<|zV O ?_
     rw [zFm hb hp (by rw [bfErr_10 c2 c3 (zIi c4)];decide),bfErr_10 c2 c3 (zIi c4)]
    ·try simp only [sx] at c4
     refine zF<|zH<|Y O<|zR O (qI O fd66_2 O)<|zI one46 qH O<|qK O ok168 (shape_Validate b.Dims (hd b (qC hb))) ⟨zB,O,T⟩<|G O<|zA<|Y O<|G O<|yM O<|zA<|zE O (fun c5=>?_) (fun c5=>?_)
     ·try simp only [sx] at c5
      refine Y O<|G O<|G O<|zA<|zG<|zV O ?_
      rw [zFm hb hp (by rw [bfErr_d c2 c3 (zAi c4) c5];exact c5),bfErr_d c2 c3 (zAi c4) c5]
     ·try simp only [sx] at c5
      refine zF<|Y O<|zR O (qI O fd66_3 O)<|zI one3 qH O<|yB O<|G O<|rL0 O (fun g14_3=>qI O fd66_3 O) O<|rL1 41 O (fun g14_3=>zK O one3 O qH O) O<|rL1 42 O (fun g14_3=>yU O O O) O<|r_or O (fun h=>(lzf h))<|zA<|zE O (fun c6=>?_) (fun c6=>?_)
      ·try simp only [sx] at c6
       refine Y O<|G O<|zA<|zG<|zV O ?_
       rw [zFm hb hp (by rw [bfErr_u c2 c3 (zAi c4) c5 (by omega)];decide),bfErr_u c2 c3 (zAi c4) c5 (by omega)]
      ·try simp only [sx] at c6
       refine zF<|zP O<|qM O ⟨by omega,by omega⟩<|G O<|zA ?_
       refine ⟨k+1,⟨by omega,bufsErr_next hb hp (bfErr_0 c2 c3 (zAi c4) c5 (by omega))⟩,(by omega),Weak.mk [] ⟨zB,zB,zB,T⟩ O⟩
 ·try simp only [sx] at c1
  refine qP<|Y O<|G O<|zA<|zG<|zV O ?_
  rw [bufsErr_end hp (by omega)]
end Go.W
