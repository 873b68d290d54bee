/-
  Walks: what functions of the program compute. Printed by wip/gen/mk2.py.
  Conditions: none.
-/
import Derived.Test.YtdldhbfgfkebjaaGreatDoorVC
import Derived.Test.YtdldhbfgfkebjaaGreatDoorEngZ
import Derived.Test.YtdldhbfgfkebjaaGreatDoorPlain2
set_option linter.unusedSimpArgs false
set_option linter.unusedVariables false
set_option maxRecDepth 10000
namespace Go.W
open Go Go.Eng Go.Proofs Go.L41 Go.Br
attribute [local irreducible] AWP RWP TD finQ
theorem zPd:aggT Tryz.prog 69=some 8:=by kernel_rfl
theorem el22:elemT Tryz.prog 22=some (69,8,88):=by kernel_rfl
theorem el23:elemT Tryz.prog 23=some (59,20,256):=by kernel_rfl
theorem zFb:fieldT Tryz.prog 25 0=some (0,22):=by kernel_rfl
theorem zDx:fieldT Tryz.prog 59 7=some (19,23):=by kernel_rfl
theorem zJf:fieldT Tryz.prog 69 0=some (0,9):=by kernel_rfl
theorem zOe:fieldT Tryz.prog 69 1=some (1,31):=by kernel_rfl
theorem zCm:fieldT Tryz.prog 69 2=some (6,67):=by kernel_rfl
theorem fd69_3:fieldT Tryz.prog 69 3=some (7,3):=by kernel_rfl
theorem ok98:callOk Tryz.prog 98=true:=by kernel_rfl
theorem ok99:callOk Tryz.prog 99=true:=by kernel_rfl
theorem ok103:callOk Tryz.prog 103=true:=by kernel_rfl
theorem ok141:callOk Tryz.prog 141=true:=by kernel_rfl
theorem ok142:callOk Tryz.prog 142=true:=by kernel_rfl
theorem ok153:callOk Tryz.prog 153=true:=by kernel_rfl
theorem ok167:callOk Tryz.prog 167=true:=by kernel_rfl
theorem ok181:callOk Tryz.prog 181=true:=by kernel_rfl
theorem zLr:oneT Tryz.prog 22=true:=by kernel_rfl
theorem zDa:oneT Tryz.prog 23=true:=by kernel_rfl
theorem zCh:oneT Tryz.prog 67=true:=by kernel_rfl
theorem pl69:placesT Tryz.prog 69=some [(0,1),(1,5),(6,1),(7,1)]:=by kernel_rfl
theorem sz67:(Tryz.prog.info? 67).map (·.size)=some 1:=by kernel_rfl
theorem sz69:(Tryz.prog.info? 69).map (·.size)=some 8:=by kernel_rfl
theorem zr69:zeroT Tryz.prog 69=some [(Value.string (ByteArray.mk #[])),(Value.int IntKind.i64 0),(Value.int IntKind.i64 0),(Value.int IntKind.i64 0),(Value.int IntKind.i64 0),(Value.int IntKind.i64 0),(Value.slice none 0 0),(Value.int IntKind.i64 0)]:=by kernel_rfl
theorem zDq (d:List Int) (hl:d.length<=17592186044416):
    Pur cfg 103 [vIs d] (vI (dimsErr d)):=by
 refine zW Tryz.func103 O Tryz.ntmps103 Tryz.results103 O ?_
 intro z hz
 refine R O<|G O<|zA<|zF<|R O<|G O<|qH O el67<|v O (kA O O O)<|zA<|zC O (fun c1=>?_) (fun c1=>?_)
 ·try simp only [sx] at c1
  have hlong:=dims_long (d:=d) (by omega)
  refine R O<|G O<|zA<|zM<|zX O ?_
  rw [hlong]
 ·try simp only [sx] at c1
  refine zH<|zF<|R O<|G O<|qH O el67<|G O<|zA<|zQ<|zS ⟨[(13,.c _),(0,.c _),(11,.c _),(12,.c _)],[]⟩ (Weak.mk [] ⟨zB,zB,zB,zB,T⟩ O)<|qJ 1 0 O O (Nat) (fun k=>[(13,vI k)]) (fun k=>[]) (fun k=>k<=d.length/\((d.take k).all posI=true)) (fun k=>d.length-k) ⟨0,⟨by omega,O⟩,Weak.mk [] ⟨zB,zB,zB,zB,T⟩ O⟩ ?_
  rintro k ⟨hk,hp⟩
  refine R O<|yE O<|zA<|zF<|zC O (fun c2=>?_) (fun c2=>?_)
  ·try simp only [sx] at c2
   obtain ⟨n,hn⟩:=qX d k (by omega)
   refine zH<|zF<|zQ<|R O<|qI O el67 (by omega) (getm (by assumption))<|zL one3 Y O<|G O<|zA<|R O<|G O<|yE O<|zA<|zC O (fun c3=>?_) (fun c3=>?_)
   ·try simp only [sx] at c3
    have hneg:=dims_neg (d:=d) (by omega) hn c3
    refine R O<|G O<|zA<|zM<|zX O ?_
    rw [hneg]
   ·try simp only [sx] at c3
    refine zH<|zI O<|qD O ⟨by omega,by omega⟩<|G O<|zA ?_
    refine ⟨k+1,⟨by omega,allP_next hn hp (by unfold posI;exact decide_eq_true (by omega))⟩,(by omega),Weak.mk [] ⟨zB,zB,zB,zB,T⟩ O⟩
  ·try simp only [sx] at c2
   have hpos:d.all posI=true:=by rw [yI (by omega)] at hp;exact hp
   refine qL<|R O<|G O<|zA<|zF<|R O<|G O<|qH O el67<|G O<|zA<|zQ<|zS ⟨[(22,.c _),(5,.c _),(20,.c _),(21,.c _)],[]⟩ (Weak.mk [] ⟨zB,zB,zB,zB,T⟩ O)<|qJ 2 0 O O (Nat×Int) (fun ⟨j,s⟩=>[(22,vI j),(5,vI s)]) (fun ⟨j,s⟩=>[]) (fun ⟨j,s⟩=>j<=d.length/\(1<=s)/\(s<=4096)/\(sizeFrom 1 d=sizeFrom s (d.drop j))) (fun ⟨j,s⟩=>d.length-j) ⟨⟨0,1⟩,⟨by omega,by omega,by omega,O⟩,Weak.mk [] ⟨zB,VLe.of_eq (O),zB,zB,T⟩ O⟩ ?_
   rintro ⟨j,s⟩ ⟨hj,hs1,hs2,hs3⟩
   show AWP _ _ _ _ _ ⟨[(22,vI j),(5,vI s)]++_,[]++_⟩
   refine R O<|yE O<|zA<|zF<|zC O (fun c4=>?_) (fun c4=>?_)
   ·try simp only [sx] at c4
    obtain ⟨m,hm⟩:=qX d j (by omega)
    refine zH<|zF<|zQ<|R O<|qI O el67 (by omega) (getm (by assumption))<|zL one3 Y O<|G O<|zA<|zF<|R O<|G O<|G O<|v O (det_quo O O O (by omega))<|v O (kA O O O)<|zA<|zC O (fun c5=>?_) (fun c5=>?_)
    ·try simp only [sx] at c5
     have hov:=quo_t hs1 c5
     refine R O<|G O<|zA<|zM<|zX O ?_
     rw [dims_over (by omega) hpos (size_over hm hs3 hov)]
    ·try simp only [sx] at c5
     have hov:=quo_f hs1 (Int.not_lt.2 c5)
     have hm1:=zGt hs1 (posI_get hpos hm)
     refine zH<|zI O<|G O<|G O<|v O (zAa O O O (by have:=zGt hs1 (posI_get hpos hm);exact ⟨by omega,by omega⟩))<|G O<|zA<|zI O<|qD O ⟨by omega,by omega⟩<|G O<|zA ?_
     refine ⟨⟨j+1,s*m⟩,⟨by omega,by omega,by omega,size_next hm hs3 hov⟩,(by show d.length-(j+1)<d.length-j;omega),Weak.mk [] ⟨zB,zB,zB,zB,T⟩ O⟩
   ·try simp only [sx] at c4
    refine qL<|R O<|G O<|zA<|zM<|zX O ?_
    rw [dims_ok (by omega) hpos (size_done hs3 (by omega))]
theorem zKb (d:List Int) (hl:d.length<=17592186044416):
    Pur cfg 53 [vIs d] (vI (dimsSize d)):=by
 refine zW Tryz.func53 O Tryz.ntmps53 Tryz.results53 O ?_
 intro z hz
 refine R O<|G O<|zA<|zF<|R O<|G O<|qW O ok103 (zDq d hl) ⟨zB,O,T⟩<|wL O<|zA<|zC O (fun c1=>?_) (fun c1=>?_)
 ·try simp only [sx] at c1
  refine R O<|G O<|zA<|zM<|zX O ?_
  rw [zOq c1]
 ·try simp only [sx] at c1
  obtain ⟨q1,hpos,t,ht,q2,q3⟩:=zGi c1
  refine zH<|R O<|G O<|zA<|zF<|R O<|G O<|qH O el67<|G O<|zA<|zQ<|zS ⟨[(11,.c _),(3,.c _),(9,.c _),(10,.c _)],[]⟩ (Weak.mk [] ⟨zB,zB,zB,zB,T⟩ O)<|qJ 2 0 O O (Nat×Int) (fun ⟨k,s⟩=>[(11,vI k),(3,vI s)]) (fun ⟨k,s⟩=>[]) (fun ⟨k,s⟩=>k<=d.length/\(1<=s)/\(s<=4096)/\(sizeFrom 1 d=sizeFrom s (d.drop k))) (fun ⟨k,s⟩=>d.length-k) ⟨⟨0,1⟩,⟨by omega,by omega,by omega,O⟩,Weak.mk [] ⟨zB,VLe.of_eq (O),zB,zB,T⟩ O⟩ ?_
  rintro ⟨k,s⟩ ⟨hk,hs1,hs2,hs3⟩
  show AWP _ _ _ _ _ ⟨[(11,vI k),(3,vI s)]++_,[]++_⟩
  refine R O<|yE O<|zA<|zF<|zC O (fun c2=>?_) (fun c2=>?_)
  ·try simp only [sx] at c2
   obtain ⟨m,hm⟩:=qX d k (by omega)
   have hm1:=zGt hs1 (posI_get hpos hm)
   have hfit:=size_fit hm hs3 ht
   refine zH<|zF<|zQ<|R O<|qI O el67 (by omega) (getm (by assumption))<|zL one3 Y O<|G O<|zA<|zI O<|G O<|G O<|v O (zAa O O O ⟨by omega,by omega⟩)<|G O<|zA<|zI O<|qD O ⟨by omega,by omega⟩<|G O<|zA ?_
   refine ⟨⟨k+1,s*m⟩,⟨by omega,by omega,by omega,size_next hm hs3 hfit⟩,(by show d.length-(k+1)<d.length-k;omega),Weak.mk [] ⟨zB,zB,zB,zB,T⟩ O⟩
  ·try simp only [sx] at c2
   refine qL<|R O<|G O<|G O<|zA<|zM<|zX O ?_
   rw [zEp c1 (size_done hs3 (by omega))]
theorem zLq (l:List Int) (hl:l.length<=17592186044416):
    OwnR cfg 181 [vIs l] 3 1 (l.map fun n=>[cI n]):=by
 refine zW Tryz.func181 O Tryz.ntmps181 Tryz.results181 O ?_
 intro z hz
 refine R O<|v O (kP 1 O O)<|zA<|zF<|R O<|G O<|zU O O (ope_nileq O el67 O O) ?_
 rintro _ _ ⟨nb1,rfl,hnil1,rfl⟩
 refine zA<|zC O (fun c1=>?_) (fun c1=>?_)
 ·try simp only [sx] at c1
  refine R O<|G O<|qS _ (zAm 3 1)<|zA<|zM<|zX O ?_
  exact ⟨_,O,by rw [hnil1 c1]⟩
 ·try simp only [sx] at c1
  refine zH<|R O<|zU O O (ope_bslice O el67 zr3 O O O O) ?_
  rintro _ _ ⟨sv3,rfl,rfl⟩
  refine G O<|zU O O (kL 0 O el67 O O O (by simp only [List.length_map,List.length_nil,Nat.zero_add];omega) (by simp only [List.length_map,List.length_nil,Nat.zero_add];omega)) ?_
  rintro _ _ ⟨sv4,rfl,rfl⟩
  refine G O<|zA<|zM<|zX O ?_
  exact ⟨_,O,O⟩
theorem zIb (b:Bf) (hl:b.Dims.length<=17592186044416):
    Pur cfg 153 [vBf b] (vBf b):=by
 refine zW Tryz.func153 O Tryz.ntmps153 Tryz.results153 O ?_
 intro z hz
 refine R O<|zU O O (qT O O) ?_
 rintro _ _ ⟨b1,rfl,rfl⟩
 refine zU O O (qR [none,none,none,none,none,none,some 1,none] O zr69 O) ?_
 rintro _ _ ⟨b2,rfl,rfl⟩
 refine zA<|R O<|zN O zCm<|zL zCh (A 1 O) O<|qW O ok181 (OwnR.pur (zLq b.Dims hl)) ⟨zB,O,T⟩<|zN O zCm<|D 1 sz67 O<|zA<|R O<|zP zPd (A 1 O) O<|D 0 sz69 O<|zA<|zM<|fin1 (qQ zPd O (A 0 O) O) ?_
 exact O
theorem wE (n:Ns) (s:ByteArray) (hn:n.Ok):
    Pur cfg 112 [vNs n,vS s] (.tup [vBf (bufD n.Bufs s),vB (hasBf n.Bufs s)]):=by
 refine zW Tryz.func112 O Tryz.ntmps112 Tryz.results112 O ?_
 intro z hz
 have hnb:=hn.bufs
 refine R O<|zU O O (qT O O) ?_
 rintro _ _ ⟨b1,rfl,rfl⟩
 refine zU O O (qR [none,none,none,none,none,none,some 1,none] O zr69 O) ?_
 rintro _ _ ⟨b2,rfl,rfl⟩
 refine G O<|zA<|zF<|R O<|zN O zFb<|zL zLr (A 1 O) O<|qH O el22<|G O<|zA<|zQ<|zS ⟨[(10,.c _),(1,.c _),(2,.c _),(4,.c _),(9,.c _)],[_,_]⟩ (Weak.mk [true,true] ⟨zB,zB,zB,zB,zB,T⟩ O)<|qJ 1 0 O O (Nat) (fun k=>[(10,vI k)]) (fun k=>[]) (fun k=>k<=n.Bufs.length/\(hasBf (n.Bufs.take k) s=false)/\(bufD n.Bufs s=bufD (n.Bufs.drop k) s)) (fun k=>n.Bufs.length-k) ⟨0,⟨by omega,O,O⟩,Weak.mk [true,true] ⟨zB,zB,zB,zB,zB,T⟩ O⟩ ?_
 rintro k ⟨hk,hp,hq⟩
 refine R O<|yE O<|zA<|zF<|zC O (fun c1=>?_) (fun c1=>?_)
 ·try simp only [sx] at c1
  obtain ⟨b,hb⟩:=qX n.Bufs k (by omega)
  refine zH<|zF<|zQ<|R O<|G O<|G O<|zA<|R O<|zN O zFb<|zL zLr (A 1 O) O<|G O<|qI O el22 (by omega) (getm (by assumption))<|zZ O zJf<|zL one9 Y O<|G O<|v O (kH O O O)<|zA<|zC O (fun c2=>?_) (fun c2=>?_)
  ·try simp only [sx] at c2
   refine R O<|zN O zFb<|zL zLr (A 1 O) O<|G O<|qI O el22 (by omega) (getm (by assumption))<|zP zPd Y O<|qW O ok153 (zIb b (hn.dims b (qB hb))) ⟨zB,O,T⟩<|D 0 sz69 O<|G O<|zA<|zM<|fin2 (qQ zPd O (A 0 O) O) (L O) ?_
   rw [hasBf_at hb c2,hq,bufD_at hb c2];rfl
  ·try simp only [sx] at c2
   refine zH<|zI O<|qD O ⟨by omega,by omega⟩<|G O<|zA ?_
   refine ⟨k+1,⟨by omega,hasBf_next hb hp c2,hq.trans (bufD_next hb c2)⟩,(by omega),Weak.mk [true,true] ⟨zB,zB,zB,zB,zB,T⟩ O⟩
 ·try simp only [sx] at c1
  refine qL<|R O<|v O (wS [none,none,none,none,none,none,some 1,none] O zr69 pl69 O O)<|D 0 sz69 O<|G O<|zA<|zM<|fin2 (qQ zPd O (A 0 O) O) (L O) ?_
  rw [yI (by omega)] at hp;rw [hp,bufD_no hp];rfl
theorem zMp (n:Nat) (ih:n≠0->∀(l:List St) (x:Int),stsWt l<=1073741824->x=((n-1:Nat):Int)->Pur cfg 98 [vSts l,vI x] (vB (withinT (n-1) l))) (l:List St) (x:Int) (hn:n<=100) (hl:stsWt l<=1073741824) (hx:x=n):
    Pur cfg 98 [vSts l,vI x] (vB (withinT n l)):=by
 refine zW Tryz.func98 O Tryz.ntmps98 Tryz.results98 O ?_
 intro z hz
 have hll:=wT l
 refine R O<|G O<|zA<|zF<|R O<|G O<|qH O el23<|G O<|zA<|zQ<|zS ⟨[(8,.c _),(0,.c _),(1,.c _),(7,.c _)],[]⟩ (Weak.mk [] ⟨zB,zB,zB,zB,T⟩ O)<|qJ 1 0 O O (Nat) (fun k=>[(8,vI k)]) (fun k=>[]) (fun k=>k<=l.length/\(withinG n (l.take k)=true)) (fun k=>l.length-k) ⟨0,⟨by omega,by cases n<;>rfl⟩,Weak.mk [] ⟨zB,zB,zB,zB,T⟩ O⟩ ?_
 rintro k ⟨hk,hp⟩
 refine R O<|yE O<|zA<|zF<|zC O (fun c1=>?_) (fun c1=>?_)
 ·try simp only [sx] at c1
  obtain ⟨s,hs⟩:=qX l k (by omega)
  refine zH<|zF<|zQ<|R O<|G O<|G O<|zA<|R O<|G O<|yE O<|G O<|rL0 O (fun g4_2=>zG O O) O<|rL0 O (fun g4_2=>zG O O) O<|rLz [(14,_),(15,_)] O gv1 ⟨O,O,O,O,T⟩ (fun g4_2=>yA O el23 O O (by omega) (zLv hs)) O<|B 16 O (fun g4_2=>qA O zDx O) O<|B 17 O (fun g4_2=>zD O zDa O Y O) O<|rL0 O (fun g4_2=>zG O O) O<|B 19 O (fun g4_2=>yH O O O ⟨by omega,by omega⟩) O<|rLz [(18,_),(20,_)] O gv1 ⟨O,O,O,O,T⟩ (fun g4_2=>qY O ok98 (ih (by simp only [Lz,cond_true,cond_false,Bool.and_eq_true,Bool.or_eq_true,Bool.not_eq_true',Bool.not_eq_false',Bool.or_eq_false_iff,Bool.and_eq_false_iff,decide_eq_true_eq,decide_eq_false_iff_not,Bool.not_eq_true,Bool.not_eq_false] at g4_2;omega) s.Body _ (by have:=St.body_wt s;have:=kY (qB hs);omega) (by simp only [Lz,cond_true,cond_false,Bool.and_eq_true,Bool.or_eq_true,Bool.not_eq_true',Bool.not_eq_false',Bool.or_eq_false_iff,Bool.and_eq_false_iff,decide_eq_true_eq,decide_eq_false_iff_not,Bool.not_eq_true,Bool.not_eq_false] at g4_2;omega)) ⟨zB,O,zB,O,T⟩) O<|B 21 O (fun g4_2=>wR O O) O<|v O (kK O O O O (fun h=>(lzf h)))<|zA<|zC O (fun c2=>?_) (fun c2=>?_)
  ·have hno:=within_no hs hx c2
   refine R O<|G O<|zA<|zM<|zX O ?_
   rw [hno]
  ·have hyes:=within_yes hx c2
   refine zH<|zI O<|qD O ⟨by omega,by omega⟩<|G O<|zA ?_
   refine ⟨k+1,⟨by omega,withinG_next hs hp hyes.1 hyes.2⟩,(by omega),Weak.mk [] ⟨zB,zB,zB,zB,T⟩ O⟩
 ·try simp only [sx] at c1
  refine qL<|R O<|G O<|zA<|zM<|zX O ?_
  rw [yI (by omega),withinG_eq] at hp;rw [hp]
theorem zNr (n:Nat) (l:List St) (x:Int) (hn:n<=100) (hl:stsWt l<=1073741824) (hx:x=n):Pur cfg 98 [vSts l,vI x] (vB (withinT n l)):=by
  induction n generalizing l x with
  |zero=>exact zMp 0 (fun h=>absurd rfl h) l x hn hl hx
  |succ n ih=>exact zMp (n+1) (fun _ l x h1 h2=>ih l x (by omega) h1 (by omega)) l x hn hl hx
theorem zBt (l:List St) (ih:∀s,s∈l->∀(m:Nat) (x:Int),m<=2147483648->x=m->Pur cfg 99 [vSts s.Body,vI x] (vI (numB s.Body m))) (m:Nat) (x:Int) (hl:stsWt l<=1073741824) (hm:m<=2147483648) (hx:x=m):
    Pur cfg 99 [vSts l,vI x] (vI (numB l m)):=by
 refine zW Tryz.func99 O Tryz.ntmps99 Tryz.results99 O ?_
 intro z hz
 have hll:=wT l
 have hNw:=stsN_wt l
 refine R O<|G O<|zA<|R O<|G O<|qH O el23<|G O<|zA<|zF<|R O<|G O<|qH O el23<|G O<|zA<|zQ<|zS ⟨[(11,.c _),(5,.c _),(0,.c _),(1,.c _),(10,.c _)],[]⟩ (Weak.mk [] ⟨zB,zB,zB,zB,zB,T⟩ O) ?_
 refine qJ 2 0 O O (Nat×Nat) (fun ⟨k,n⟩=>[(11,vI k),(5,vI n)]) (fun ⟨k,n⟩=>[]) (fun ⟨k,n⟩=>k<=l.length/\(n<=4294967296)/\(numB l m=numL (l.drop k) m n)) (fun ⟨k,n⟩=>l.length-k) ⟨⟨0,l.length⟩,⟨by omega,by omega,O⟩,Weak.mk [] ⟨zB,VLe.of_eq (congrArg vI (by simp)),zB,zB,zB,T⟩ O⟩ ?_
 rintro ⟨k,n⟩ ⟨hk,hn,hp⟩
 show AWP _ _ _ _ _ ⟨[(11,vI k),(5,vI n)]++_,[]++_⟩
 refine R O<|yE O<|zA<|zF<|zC O (fun c1=>?_) (fun c1=>?_)
 ·try simp only [sx] at c1
  obtain ⟨s,hs⟩:=qX l k (by omega)
  refine zH<|zF<|zQ<|R O<|G O<|G O<|zA<|zF<|R O<|G O<|G O<|v O (kA O O O)<|zA<|zC O (fun c2=>?_) (fun c2=>?_)
  ·try simp only [sx] at c2
   refine qL<|R O<|G O<|G O<|zA<|zM<|zX O ?_
   exact congrArg vI (by rw [←num_end hp (by omega)])
  ·try simp only [sx] at c2
   have hsum:=num_sum hs hp (by omega)
   have hbl:=numB_le s.Body (m-n)
   have hsn:=stsN_mem (qB hs)
   have hse:=stN_eq s
   refine zH<|zI O<|G O<|G O<|G O<|qI O el23 (by omega) (zLv hs)<|zZ O zDx<|zL zDa Y O<|G O<|G O<|yF O ⟨by omega,by omega⟩<|qW O ok99 (ih s (qB hs) (m-n) _ (by omega) (by omega)) ⟨zB,O,zB,O,T⟩<|qD O ⟨by omega,by omega⟩<|G O<|zA<|zI O<|qD O ⟨by omega,by omega⟩<|G O<|zA ?_
   refine ⟨⟨k+1,n+numB s.Body (m-n)⟩,⟨by omega,by omega,num_next hs hp (by omega)⟩,(by show l.length-(k+1)<l.length-k;omega),Weak.mk [] ⟨zB,VLe.of_eq (congrArg vI (by omega)),zB,zB,zB,T⟩ O⟩
 ·try simp only [sx] at c1
  refine qL<|R O<|G O<|G O<|zA<|zM<|zX O ?_
  exact congrArg vI (by rw [←num_end hp (by omega)])
theorem zEj (s:St):∀(m:Nat) (x:Int),stsWt s.Body<=1073741824->m<=2147483648->x=m->Pur cfg 99 [vSts s.Body,vI x] (vI (numB s.Body m)):=by
  induction s using St.ind with
  |_ s ih=>exact fun m x hl hm hx=>zBt s.Body (fun a ha m x h1 h2=>ih a ha m x (by have:=St.body_wt a;have:=kY ha;omega) h1 h2) m x hl hm hx
theorem zJa (l:List St) (m:Nat) (x:Int) (hl:stsWt l<=1073741824) (hm:m<=2147483648) (hx:x=m):Pur cfg 99 [vSts l,vI x] (vI (numB l m)):=
  zBt l (fun a ha m x h1 h2=>zEj a m x (by have:=St.body_wt a;have:=kY ha;omega) h1 h2) m x hl hm hx
theorem zHt (l:List Bf) (c:C) (p:Bf->Bool) (hl:l.length<=4294967296) (hc:∀x,x∈l->FnPur cfg c [vBf x] (vB (p x))):
    Pur cfg 167 [vBfs l,.c c] (vI (idxOf p l)):=by
 refine zW Tryz.func167 O Tryz.ntmps167 Tryz.results167 O ?_
 intro z hz
 refine R O<|G O<|zA<|zF<|R O<|G O<|qH O el22<|G O<|zA<|zQ<|zS ⟨[(8,.c _),(0,.c _),(1,.c _),(7,.c _)],[]⟩ (Weak.mk [] ⟨zB,zB,zB,zB,T⟩ O)<|qJ 1 0 O O (Nat) (fun k=>[(8,vI k)]) (fun k=>[]) (fun k=>k<=l.length/\((l.take k).any p=false)) (fun k=>l.length-k) ⟨0,⟨by omega,O⟩,Weak.mk [] ⟨zB,zB,zB,zB,T⟩ O⟩ ?_
 rintro k ⟨hk,hp⟩
 refine R O<|yE O<|zA<|zF<|zC O (fun c1=>?_) (fun c1=>?_)
 ·try simp only [sx] at c1
  obtain ⟨x,hx⟩:=qX l k (by omega)
  refine zH<|zF<|zQ<|R O<|G O<|G O<|zA<|R O<|G O<|G O<|G O<|qI O el22 (by omega) (getm (by assumption))<|zP zPd Y O<|v O (yT O O (hc _ (qB hx)) ⟨zB,O,T⟩)<|zA<|zC O (fun c2=>?_) (fun c2=>?_)
  ·try simp only [sx] at c2
   refine R O<|G O<|G O<|zA<|zM<|zX O ?_
   rw [zCq hx c2 hp]
  ·try simp only [sx] at c2
   refine zH<|zI O<|qD O ⟨by omega,by omega⟩<|G O<|zA ?_
   refine ⟨k+1,⟨by omega,zBz hx hp c2⟩,(by omega),Weak.mk [] ⟨zB,zB,zB,zB,T⟩ O⟩
 ·try simp only [sx] at c1
  refine qL<|R O<|G O<|zA<|zM<|zX O ?_
  rw [zAx (by rw [yI (by omega)] at hp;exact hp)]
theorem zFh (l:List Bf) (c:C) (p:Bf->Bool) (hl:l.length<=4294967296) (hc:∀x,x∈l->FnPur cfg c [vBf x] (vB (p x))):
    Pur cfg 141 [vBfs l,.c c] (vB (l.any p)):=by
 refine zW Tryz.func141 O Tryz.ntmps141 Tryz.results141 O ?_
 intro z hz
 refine R O<|G O<|zA<|R O<|G O<|G O<|qW O ok167 (zHt l c p hl hc) ⟨zB,O,zB,O,T⟩<|v O (wG O O O)<|G O<|zA<|zM<|zX O ?_
 rw [zBu]
theorem checkBuffers_1 (x b:Bf):
    Pur cfg 142 [vBf x,.c (.iptr b.cells)] (vB (decide (x.Name=b.Name))):=by
 refine zW Tryz.func142 O Tryz.ntmps142 Tryz.results142 O ?_
 intro z hz
 refine R O<|zU O O (qT O O) ?_
 rintro _ _ ⟨b1,rfl,rfl⟩
 refine G O<|zA<|R O<|zN O zJf<|zL one9 (A 0 O) O<|zZ O zJf<|zL one9 Y O<|v O (kH O O O)<|G O<|zA<|zM<|zX O ?_
 exact O
theorem zFx (l:List Bf) (hl:l.length<=4294967296) (hd:∀b,b∈l->b.Dims.length<=17592186044416):
    Pur cfg 100 [vBfs l] (vI (bufsErr [] l)):=by
 refine zW Tryz.func100 O Tryz.ntmps100 Tryz.results100 O ?_
 intro z hz
 refine R O<|G O<|zA<|zF<|R O<|G O<|qH O el22<|G O<|zA<|zQ<|zS ⟨[(8,.c _),(0,.c _),(7,.c _)],[]⟩ (Weak.mk [] ⟨zB,zB,zB,T⟩ O)<|qJ 1 0 O O (Nat) (fun k=>[(8,vI k)]) (fun k=>[]) (fun k=>k<=l.length/\(bufsErr [] l=bufsErr (l.take k) (l.drop k))) (fun k=>l.length-k) ⟨0,⟨by omega,O⟩,Weak.mk [] ⟨zB,zB,zB,T⟩ O⟩ ?_
 rintro k ⟨hk,hp⟩
 refine R O<|yE O<|zA<|zF<|zC O (fun c1=>?_) (fun c1=>?_)
 ·try simp only [sx] at c1
  obtain ⟨b,hb⟩:=qX l k (by omega)
  refine zH<|zF<|zQ<|R O<|G O<|G O<|zA<|R O<|G O<|G O<|qI O el22 (by omega) (getm (by assumption))<|zP zPd Y O<|zU O O (qR [none,none,none,none,none,none,some 1,none] O zr69 O) ?_
  rintro _ _ ⟨b1,rfl,rfl⟩
  refine D 0 sz69 O<|qS _ (qK 0 O 4 _ PLe.ptr)<|zA<|zF<|zQ<|R O<|zZ O zJf<|zL one9 Y O<|qW O ok96 (zCi _) ⟨zB,O,T⟩<|wK O<|G O<|zA<|zC O (fun c2=>?_) (fun c2=>?_)
  ·try simp only [sx] at c2
   refine R O<|G O<|zA<|zM<|zX O ?_
   rw [zEa hb hp (by rw [bfErr_7 c2];decide),bfErr_7 c2]
  ·try simp only [sx] at c2
   refine R O<|G O<|G O<|v O (det_cut_take O el22 O O (by omega))<|v O (zDk O O O O O)<|qW O ok141 (zFh (l.take k) _ (fun x=>decide (x.Name=b.Name)) (by rw [List.length_take];omega) (fun x _=>FnPur.of_pur (first:=[]) (cap:=[.iptr b.cells]) ok142 (checkBuffers_1 x b))) ⟨zB,O,zB,O,T⟩<|G O<|zA<|zC O (fun c3=>?_) (fun c3=>?_)
   ·try simp only [sx] at c3
    refine R O<|G O<|zA<|zM<|zX O ?_
    rw [zEa hb hp (by rw [bfErr_8 c2 c3];decide),bfErr_8 c2 c3]
   ·try simp only [sx] at c3
    refine R O<|zZ O zOe<|zP yP Y O<|qW O ok39 (zBq b.T) ⟨zB,O,T⟩<|wL O<|G O<|zA<|zC O (fun c4=>?_) (fun c4=>?_)
    ·try simp only [sx] at c4
     refine R O<|G O<|zA<|zM<|zX O ?_
     rw [zEa hb hp (by rw [bfErr_10 c2 c3 (tyErr_ne c4)];decide),bfErr_10 c2 c3 (tyErr_ne c4)]
    ·try simp only [sx] at c4
     refine zH<|zF<|R O<|zZ O zCm<|zL zCh Y O<|qW O ok103 (zDq b.Dims (hd b (qB hb))) ⟨zB,O,T⟩<|G O<|zA<|R O<|G O<|wL O<|zA<|zC O (fun c5=>?_) (fun c5=>?_)
     ·try simp only [sx] at c5
      refine R O<|G O<|G O<|zA<|zM<|zX O ?_
      rw [zEa hb hp (by rw [bfErr_d c2 c3 (zGo c4) c5];exact c5),bfErr_d c2 c3 (zGo c4) c5]
     ·try simp only [sx] at c5
      refine zH<|R O<|zZ O fd69_3<|zL one3 Y O<|yE O<|G O<|rL0 O (fun g14_3=>qA O fd69_3 O) O<|B 41 O (fun g14_3=>zD O one3 O Y O) O<|B 42 O (fun g14_3=>kA O O O) O<|v O (kK O O O O (fun h=>(lzf h)))<|zA<|zC O (fun c6=>?_) (fun c6=>?_)
      ·try simp only [sx] at c6
       refine R O<|G O<|zA<|zM<|zX O ?_
       rw [zEa hb hp (by rw [bfErr_u c2 c3 (zGo c4) c5 (by omega)];decide),bfErr_u c2 c3 (zGo c4) c5 (by omega)]
      ·try simp only [sx] at c6
       refine zH<|zI O<|qD O ⟨by omega,by omega⟩<|G O<|zA ?_
       refine ⟨k+1,⟨by omega,bufsErr_next hb hp (bfErr_0 c2 c3 (zGo c4) c5 (by omega))⟩,(by omega),Weak.mk [] ⟨zB,zB,zB,T⟩ O⟩
 ·try simp only [sx] at c1
  refine qL<|R O<|G O<|zA<|zM<|zX O ?_
  rw [bufsErr_end hp (by omega)]
end Go.W
