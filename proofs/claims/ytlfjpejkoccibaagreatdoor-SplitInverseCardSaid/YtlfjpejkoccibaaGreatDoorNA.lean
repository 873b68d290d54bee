/-
  Walks: what functions of the program compute. Printed by wip/gen/mk2.py.
  Conditions: none.
-/
import Derived.Test.YtlfjpejkoccibaaGreatDoorWalkV
import Derived.Test.YtlfjpejkoccibaaGreatDoorEngZ
import Derived.Test.YtlfjpejkoccibaaGreatDoorPlain2
set_option linter.unusedSimpArgs false
set_option linter.unusedVariables false
set_option maxRecDepth 10000
namespace Go.W
open Go Go.Eng Go.Proofs Go.L41 Go.Br
attribute [local irreducible] AWP RWP TD finQ
theorem zRl:aggT Tryz.prog 65=some 8:=by kernel_rfl
theorem el22:elemT Tryz.prog 22=some (65,8,88):=by kernel_rfl
theorem K:elemT Tryz.prog 23=some (46,20,256):=by kernel_rfl
theorem zBh:fieldT Tryz.prog 25 0=some (0,22):=by kernel_rfl
theorem kN:fieldT Tryz.prog 46 7=some (19,23):=by kernel_rfl
theorem fd65_0:fieldT Tryz.prog 65 0=some (0,9):=by kernel_rfl
theorem fd65_1:fieldT Tryz.prog 65 1=some (1,38):=by kernel_rfl
theorem zQm:fieldT Tryz.prog 65 2=some (6,26):=by kernel_rfl
theorem fd65_3:fieldT Tryz.prog 65 3=some (7,3):=by kernel_rfl
theorem ok79:callOk Tryz.prog 79=true:=by kernel_rfl
theorem ok80:callOk Tryz.prog 80=true:=by kernel_rfl
theorem ok89:callOk Tryz.prog 89=true:=by kernel_rfl
theorem ok96:callOk Tryz.prog 96=true:=by kernel_rfl
theorem ok125:callOk Tryz.prog 125=true:=by kernel_rfl
theorem ok126:callOk Tryz.prog 126=true:=by kernel_rfl
theorem ok128:callOk Tryz.prog 128=true:=by kernel_rfl
theorem ok160:callOk Tryz.prog 160=true:=by kernel_rfl
theorem zFo:oneT Tryz.prog 22=true:=by kernel_rfl
theorem kM:oneT Tryz.prog 23=true:=by kernel_rfl
theorem zIg:oneT Tryz.prog 26=true:=by kernel_rfl
theorem pl65:placesT Tryz.prog 65=some [(0,1),(1,5),(6,1),(7,1)]:=by kernel_rfl
theorem sz26:(Tryz.prog.info? 26).map (·.size)=some 1:=by kernel_rfl
theorem sz65:(Tryz.prog.info? 65).map (·.size)=some 8:=by kernel_rfl
theorem zr65:zeroT Tryz.prog 65=some [(Value.string (ByteArray.mk #[])),(Value.int IntKind.i64 0),(Value.int IntKind.i64 0),(Value.int IntKind.i64 0),(Value.int IntKind.i64 0),(Value.int IntKind.i64 0),(Value.slice none 0 0),(Value.int IntKind.i64 0)]:=by kernel_rfl
theorem shape_Validate (d:List Int) (hl:d.length<=17592186044416):
    Pur cfg 128 [vIs d] (vI (dimsErr d)):=by
 refine zQ Tryz.func128 O Tryz.ntmps128 Tryz.results128 O ?_
 intro z hz
 refine F O<|A O<|H<|zI<|F O<|A O<|qB O L<|zR O (yW O O O)<|H<|zD O (fun c1=>?_) (fun c1=>?_)
 ·try simp only [I] at c1
  have hlong:=dims_long (d:=d) (by omega)
  refine F O<|A O<|H<|o<|X O ?_
  rw [hlong]
 ·try simp only [I] at c1
  refine zH<|zI<|F O<|A O<|qB O L<|A O<|H<|zS<|zV ⟨[(13,.c _),(0,.c _),(11,.c _),(12,.c _)],[]⟩ (Weak.mk [] ⟨G,G,G,G,T⟩ O)<|qO 1 0 O O (Nat) (fun k=>[(13,vI k)]) (fun k=>[]) (fun k=>k<=d.length/\((d.take k).all posI=true)) (fun k=>d.length-k) ⟨0,⟨by omega,O⟩,Weak.mk [] ⟨G,G,G,G,T⟩ O⟩ ?_
  rintro k ⟨hk,hp⟩
  refine F O<|yN O<|H<|zI<|zD O (fun c2=>?_) (fun c2=>?_)
  ·try simp only [I] at c2
   obtain ⟨n,hn⟩:=qZ d k (by omega)
   refine zH<|zI<|zS<|F O<|qD O L (by omega) (v (by assumption))<|zK J qA O<|A O<|H<|F O<|A O<|yN O<|H<|zD O (fun c3=>?_) (fun c3=>?_)
   ·try simp only [I] at c3
    have hneg:=dims_neg (d:=d) (by omega) hn c3
    refine F O<|A O<|H<|o<|X O ?_
    rw [hneg]
   ·try simp only [I] at c3
    refine zH<|zT O<|qK O ⟨by omega,by omega⟩<|A O<|H ?_
    refine ⟨k+1,⟨by omega,allP_next hn hp (by unfold posI;exact decide_eq_true (by omega))⟩,(by omega),Weak.mk [] ⟨G,G,G,G,T⟩ O⟩
  ·try simp only [I] at c2
   have hpos:d.all posI=true:=by rw [kG (by omega)] at hp;exact hp
   refine qQ<|F O<|A O<|H<|zI<|F O<|A O<|qB O L<|A O<|H<|zS<|zV ⟨[(22,.c _),(5,.c _),(20,.c _),(21,.c _)],[]⟩ (Weak.mk [] ⟨G,G,G,G,T⟩ O)<|qO 2 0 O O (Nat×Int) (fun ⟨j,s⟩=>[(22,vI j),(5,vI s)]) (fun ⟨j,s⟩=>[]) (fun ⟨j,s⟩=>j<=d.length/\(1<=s)/\(s<=4096)/\(sizeFrom 1 d=sizeFrom s (d.drop j))) (fun ⟨j,s⟩=>d.length-j) ⟨⟨0,1⟩,⟨by omega,by omega,by omega,O⟩,Weak.mk [] ⟨G,VLe.of_eq (O),G,G,T⟩ O⟩ ?_
   rintro ⟨j,s⟩ ⟨hj,hs1,hs2,hs3⟩
   show AWP _ _ _ _ _ ⟨[(22,vI j),(5,vI s)]++_,[]++_⟩
   refine F O<|yN O<|H<|zI<|zD O (fun c4=>?_) (fun c4=>?_)
   ·try simp only [I] at c4
    obtain ⟨m,hm⟩:=qZ d j (by omega)
    refine zH<|zI<|zS<|F O<|qD O L (by omega) (v (by assumption))<|zK J qA O<|A O<|H<|zI<|F O<|A O<|A O<|zR O (zMl O O O (by omega))<|zR O (yW O O O)<|H<|zD O (fun c5=>?_) (fun c5=>?_)
    ·try simp only [I] at c5
     have hov:=quo_t hs1 c5
     refine F O<|A O<|H<|o<|X O ?_
     rw [dims_over (by omega) hpos (size_over hm hs3 hov)]
    ·try simp only [I] at c5
     have hov:=quo_f hs1 (Int.not_lt.2 c5)
     have hm1:=mul_pos1 hs1 (posI_get hpos hm)
     refine zH<|zT O<|A O<|A O<|zR O (det_mul_nw O O O (by have:=mul_pos1 hs1 (posI_get hpos hm);exact ⟨by omega,by omega⟩))<|A O<|H<|zT O<|qK O ⟨by omega,by omega⟩<|A O<|H ?_
     refine ⟨⟨j+1,s*m⟩,⟨by omega,by omega,by omega,size_next hm hs3 hov⟩,(by show d.length-(j+1)<d.length-j;omega),Weak.mk [] ⟨G,G,G,G,T⟩ O⟩
   ·try simp only [I] at c4
    refine qQ<|F O<|A O<|H<|o<|X O ?_
    rw [dims_ok (by omega) hpos (size_done hs3 (by omega))]
theorem zGa (l:List Int) (hl:l.length<=17592186044416):
    OwnR cfg 96 [vIs l] 3 1 (l.map fun n=>[cI n]):=by
 refine zQ Tryz.func96 O Tryz.ntmps96 Tryz.results96 O ?_
 intro z hz
 refine F O<|qX 1 O<|H<|zI<|F O<|A O<|zU O O (zEp O L O O) ?_
 rintro _ _ ⟨nb1,rfl,hnil1,rfl⟩
 refine H<|zD O (fun c1=>?_) (fun c1=>?_)
 ·try simp only [I] at c1
  refine F O<|A O<|yJ _ (wL 3 1)<|H<|o<|X O ?_
  exact ⟨_,O,by rw [hnil1 c1]⟩
 ·try simp only [I] at c1
  refine zH<|F O<|zU O O (zCm O L zr3 O O O O) ?_
  rintro _ _ ⟨sv3,rfl,rfl⟩
  refine A O<|zU O O (yU 0 O L O O O (by simp only [List.length_map,List.length_nil,Nat.zero_add];omega) (by simp only [List.length_map,List.length_nil,Nat.zero_add];omega)) ?_
  rintro _ _ ⟨sv4,rfl,rfl⟩
  refine A O<|H<|o<|X O ?_
  exact ⟨_,O,O⟩
theorem zBo (b:Bf) (hl:b.Dims.length<=17592186044416):
    Pur cfg 89 [vBf b] (vBf b):=by
 refine zQ Tryz.func89 O Tryz.ntmps89 Tryz.results89 O ?_
 intro z hz
 refine F O<|zU O O (qL O O) ?_
 rintro _ _ ⟨b1,rfl,rfl⟩
 refine zU O O (qC [none,none,none,none,none,none,some 1,none] O zr65 O) ?_
 rintro _ _ ⟨b2,rfl,rfl⟩
 refine H<|F O<|zJ O zQm<|zK zIg (R 1 O) O<|qG O ok96 (OwnR.pur (zGa b.Dims hl)) ⟨G,O,T⟩<|zJ O zQm<|D 1 sz26 O<|H<|F O<|zO zRl (R 1 O) O<|D 0 sz65 O<|H<|o<|fin1 (y zRl O (R 0 O) O) ?_
 exact O
theorem wJ (n:Ns) (s:ByteArray) (hn:n.Ok):
    Pur cfg 101 [vNs n,vS s] (.tup [vBf (bufD n.Bufs s),vB (hasBf n.Bufs s)]):=by
 refine zQ Tryz.func101 O Tryz.ntmps101 Tryz.results101 O ?_
 intro z hz
 have hnb:=hn.bufs
 refine F O<|zU O O (qL O O) ?_
 rintro _ _ ⟨b1,rfl,rfl⟩
 refine zU O O (qC [none,none,none,none,none,none,some 1,none] O zr65 O) ?_
 rintro _ _ ⟨b2,rfl,rfl⟩
 refine A O<|H<|zI<|F O<|zJ O zBh<|zK zFo (R 1 O) O<|qB O el22<|A O<|H<|zS<|zV ⟨[(10,.c _),(1,.c _),(2,.c _),(4,.c _),(9,.c _)],[_,_]⟩ (Weak.mk [true,true] ⟨G,G,G,G,G,T⟩ O)<|qO 1 0 O O (Nat) (fun k=>[(10,vI k)]) (fun k=>[]) (fun k=>k<=n.Bufs.length/\(hasBf (n.Bufs.take k) s=false)/\(bufD n.Bufs s=bufD (n.Bufs.drop k) s)) (fun k=>n.Bufs.length-k) ⟨0,⟨by omega,O,O⟩,Weak.mk [true,true] ⟨G,G,G,G,G,T⟩ O⟩ ?_
 rintro k ⟨hk,hp,hq⟩
 refine F O<|yN O<|H<|zI<|zD O (fun c1=>?_) (fun c1=>?_)
 ·try simp only [I] at c1
  obtain ⟨b,hb⟩:=qZ n.Bufs k (by omega)
  refine zH<|zI<|zS<|F O<|A O<|A O<|H<|F O<|zJ O zBh<|zK zFo (R 1 O) O<|A O<|qD O el22 (by omega) (v (by assumption))<|qS O fd65_0<|zK one9 qA O<|A O<|zR O (yM O O O)<|H<|zD O (fun c2=>?_) (fun c2=>?_)
  ·try simp only [I] at c2
   refine F O<|zJ O zBh<|zK zFo (R 1 O) O<|A O<|qD O el22 (by omega) (v (by assumption))<|zO zRl qA O<|qG O ok89 (zBo b (hn.dims b (zZ hb))) ⟨G,O,T⟩<|D 0 sz65 O<|A O<|H<|o<|p (y zRl O (R 0 O) O) (N O) ?_
   rw [hasBf_at hb c2,hq,bufD_at hb c2];rfl
  ·try simp only [I] at c2
   refine zH<|zT O<|qK O ⟨by omega,by omega⟩<|A O<|H ?_
   refine ⟨k+1,⟨by omega,hasBf_next hb hp c2,hq.trans (bufD_next hb c2)⟩,(by omega),Weak.mk [true,true] ⟨G,G,G,G,G,T⟩ O⟩
 ·try simp only [I] at c1
  refine qQ<|F O<|qV [none,none,none,none,none,none,some 1,none] O zr65 pl65<|D 0 sz65 O<|A O<|H<|o<|p (y zRl O (R 0 O) O) (N O) ?_
  rw [kG (by omega)] at hp;rw [hp,bufD_no hp];rfl
theorem zOk (n:Nat) (ih:n≠0->∀(l:List St) (x:Int),stsWt l<=1073741824->x=((n-1:Nat):Int)->Pur cfg 79 [vSts l,vI x] (vB (withinT (n-1) l))) (l:List St) (x:Int) (hn:n<=100) (hl:stsWt l<=1073741824) (hx:x=n):
    Pur cfg 79 [vSts l,vI x] (vB (withinT n l)):=by
 refine zQ Tryz.func79 O Tryz.ntmps79 Tryz.results79 O ?_
 intro z hz
 have hll:=kP l
 refine F O<|A O<|H<|zI<|F O<|A O<|qB O K<|A O<|H<|zS<|zV ⟨[(8,.c _),(0,.c _),(1,.c _),(7,.c _)],[]⟩ (Weak.mk [] ⟨G,G,G,G,T⟩ O)<|qO 1 0 O O (Nat) (fun k=>[(8,vI k)]) (fun k=>[]) (fun k=>k<=l.length/\(withinG n (l.take k)=true)) (fun k=>l.length-k) ⟨0,⟨by omega,by cases n<;>rfl⟩,Weak.mk [] ⟨G,G,G,G,T⟩ O⟩ ?_
 rintro k ⟨hk,hp⟩
 refine F O<|yN O<|H<|zI<|zD O (fun c1=>?_) (fun c1=>?_)
 ·try simp only [I] at c1
  obtain ⟨s,hs⟩:=qZ l k (by omega)
  refine zH<|zI<|zS<|F O<|A O<|A O<|H<|F O<|A O<|yN O<|A O<|M O (fun g4_2=>w O O) O<|M O (fun g4_2=>w O O) O<|rLz [(14,_),(15,_)] O gv1 ⟨O,O,O,O,T⟩ (fun g4_2=>qE O K O O (by omega) (kZ hs)) O<|B 16 O (fun g4_2=>qJ O kN O) O<|B 17 O (fun g4_2=>Q O kM O qA O) O<|M O (fun g4_2=>w O O) O<|B 19 O (fun g4_2=>yB O O O ⟨by omega,by omega⟩) O<|rLz [(18,_),(20,_)] O gv1 ⟨O,O,O,O,T⟩ (fun g4_2=>qI O ok79 (ih (by simp only [Lz,cond_true,cond_false,Bool.and_eq_true,Bool.or_eq_true,Bool.not_eq_true',Bool.not_eq_false',Bool.or_eq_false_iff,Bool.and_eq_false_iff,decide_eq_true_eq,decide_eq_false_iff_not,Bool.not_eq_true,Bool.not_eq_false] at g4_2;omega) s.Body _ (by have:=St.body_wt s;have:=yG (zZ hs);omega) (by simp only [Lz,cond_true,cond_false,Bool.and_eq_true,Bool.or_eq_true,Bool.not_eq_true',Bool.not_eq_false',Bool.or_eq_false_iff,Bool.and_eq_false_iff,decide_eq_true_eq,decide_eq_false_iff_not,Bool.not_eq_true,Bool.not_eq_false] at g4_2;omega)) ⟨G,O,G,O,T⟩) O<|B 21 O (fun g4_2=>wC O O) O<|j O (fun h=>(lzf h))<|H<|zD O (fun c2=>?_) (fun c2=>?_)
  ·have hno:=within_no hs hx c2
   refine F O<|A O<|H<|o<|X O ?_
   rw [hno]
  ·have hyes:=within_yes hx c2
   refine zH<|zT O<|qK O ⟨by omega,by omega⟩<|A O<|H ?_
   refine ⟨k+1,⟨by omega,withinG_next hs hp hyes.1 hyes.2⟩,(by omega),Weak.mk [] ⟨G,G,G,G,T⟩ O⟩
 ·try simp only [I] at c1
  refine qQ<|F O<|A O<|H<|o<|X O ?_
  rw [kG (by omega),withinG_eq] at hp;rw [hp]
theorem zPs (n:Nat) (l:List St) (x:Int) (hn:n<=100) (hl:stsWt l<=1073741824) (hx:x=n):Pur cfg 79 [vSts l,vI x] (vB (withinT n l)):=by
  induction n generalizing l x with
  |zero=>exact zOk 0 (fun h=>absurd rfl h) l x hn hl hx
  |succ n ih=>exact zOk (n+1) (fun _ l x h1 h2=>ih l x (by omega) h1 (by omega)) l x hn hl hx
theorem zCb (l:List St) (ih:∀s,s∈l->∀(m:Nat) (x:Int),m<=2147483648->x=m->Pur cfg 80 [vSts s.Body,vI x] (vI (numB s.Body m))) (m:Nat) (x:Int) (hl:stsWt l<=1073741824) (hm:m<=2147483648) (hx:x=m):
    Pur cfg 80 [vSts l,vI x] (vI (numB l m)):=by
 refine zQ Tryz.func80 O Tryz.ntmps80 Tryz.results80 O ?_
 intro z hz
 have hll:=kP l
 have hNw:=zDq l
 refine F O<|A O<|H<|F O<|A O<|qB O K<|A O<|H<|zI<|F O<|A O<|qB O K<|A O<|H<|zS<|zV ⟨[(11,.c _),(5,.c _),(0,.c _),(1,.c _),(10,.c _)],[]⟩ (Weak.mk [] ⟨G,G,G,G,G,T⟩ O) ?_
 refine qO 2 0 O O (Nat×Nat) (fun ⟨k,n⟩=>[(11,vI k),(5,vI n)]) (fun ⟨k,n⟩=>[]) (fun ⟨k,n⟩=>k<=l.length/\(n<=4294967296)/\(numB l m=numL (l.drop k) m n)) (fun ⟨k,n⟩=>l.length-k) ⟨⟨0,l.length⟩,⟨by omega,by omega,O⟩,Weak.mk [] ⟨G,VLe.of_eq (congrArg vI (by simp)),G,G,G,T⟩ O⟩ ?_
 rintro ⟨k,n⟩ ⟨hk,hn,hp⟩
 show AWP _ _ _ _ _ ⟨[(11,vI k),(5,vI n)]++_,[]++_⟩
 refine F O<|yN O<|H<|zI<|zD O (fun c1=>?_) (fun c1=>?_)
 ·try simp only [I] at c1
  obtain ⟨s,hs⟩:=qZ l k (by omega)
  refine zH<|zI<|zS<|F O<|A O<|A O<|H<|zI<|F O<|A O<|A O<|zR O (yW O O O)<|H<|zD O (fun c2=>?_) (fun c2=>?_)
  ·try simp only [I] at c2
   refine qQ<|F O<|A O<|A O<|H<|o<|X O ?_
   exact congrArg vI (by rw [←num_end hp (by omega)])
  ·try simp only [I] at c2
   have hsum:=num_sum hs hp (by omega)
   have hbl:=numB_le s.Body (m-n)
   have hsn:=zNr (zZ hs)
   have hse:=zIl s
   refine zH<|zT O<|A O<|A O<|A O<|qD O K (by omega) (kZ hs)<|qS O kN<|zK kM qA O<|A O<|A O<|zR O (yB O O O ⟨by omega,by omega⟩)<|qG O ok80 (ih s (zZ hs) (m-n) _ (by omega) (by omega)) ⟨G,O,G,O,T⟩<|qK O ⟨by omega,by omega⟩<|A O<|H<|zT O<|qK O ⟨by omega,by omega⟩<|A O<|H ?_
   refine ⟨⟨k+1,n+numB s.Body (m-n)⟩,⟨by omega,by omega,num_next hs hp (by omega)⟩,(by show l.length-(k+1)<l.length-k;omega),Weak.mk [] ⟨G,VLe.of_eq (congrArg vI (by omega)),G,G,G,T⟩ O⟩
 ·try simp only [I] at c1
  refine qQ<|F O<|A O<|A O<|H<|o<|X O ?_
  exact congrArg vI (by rw [←num_end hp (by omega)])
theorem zFt (s:St):∀(m:Nat) (x:Int),stsWt s.Body<=1073741824->m<=2147483648->x=m->Pur cfg 80 [vSts s.Body,vI x] (vI (numB s.Body m)):=by
  induction s using St.ind with
  |_ s ih=>exact fun m x hl hm hx=>zCb s.Body (fun a ha m x h1 h2=>ih a ha m x (by have:=St.body_wt a;have:=yG ha;omega) h1 h2) m x hl hm hx
theorem zKj (l:List St) (m:Nat) (x:Int) (hl:stsWt l<=1073741824) (hm:m<=2147483648) (hx:x=m):Pur cfg 80 [vSts l,vI x] (vI (numB l m)):=
  zCb l (fun a ha m x h1 h2=>zFt a m x (by have:=St.body_wt a;have:=yG ha;omega) h1 h2) m x hl hm hx
theorem zIy (l:List Bf) (c:C) (p:Bf->Bool) (hl:l.length<=4294967296) (hc:∀x,x∈l->FnPur cfg c [vBf x] (vB (p x))):
    Pur cfg 160 [vBfs l,.c c] (vI (idxOf p l)):=by
 refine zQ Tryz.func160 O Tryz.ntmps160 Tryz.results160 O ?_
 intro z hz
 refine F O<|A O<|H<|zI<|F O<|A O<|qB O el22<|A O<|H<|zS<|zV ⟨[(8,.c _),(0,.c _),(1,.c _),(7,.c _)],[]⟩ (Weak.mk [] ⟨G,G,G,G,T⟩ O)<|qO 1 0 O O (Nat) (fun k=>[(8,vI k)]) (fun k=>[]) (fun k=>k<=l.length/\((l.take k).any p=false)) (fun k=>l.length-k) ⟨0,⟨by omega,O⟩,Weak.mk [] ⟨G,G,G,G,T⟩ O⟩ ?_
 rintro k ⟨hk,hp⟩
 refine F O<|yN O<|H<|zI<|zD O (fun c1=>?_) (fun c1=>?_)
 ·try simp only [I] at c1
  obtain ⟨x,hx⟩:=qZ l k (by omega)
  refine zH<|zI<|zS<|F O<|A O<|A O<|H<|F O<|A O<|A O<|A O<|qD O el22 (by omega) (v (by assumption))<|zO zRl qA O<|zR O (kC O O (hc _ (zZ hx)) ⟨G,O,T⟩)<|H<|zD O (fun c2=>?_) (fun c2=>?_)
  ·try simp only [I] at c2
   refine F O<|A O<|A O<|H<|o<|X O ?_
   rw [zOa hx c2 hp]
  ·try simp only [I] at c2
   refine zH<|zT O<|qK O ⟨by omega,by omega⟩<|A O<|H ?_
   refine ⟨k+1,⟨by omega,zOi hx hp c2⟩,(by omega),Weak.mk [] ⟨G,G,G,G,T⟩ O⟩
 ·try simp only [I] at c1
  refine qQ<|F O<|A O<|H<|o<|X O ?_
  rw [zHx (by rw [kG (by omega)] at hp;exact hp)]
theorem zGg (l:List Bf) (c:C) (p:Bf->Bool) (hl:l.length<=4294967296) (hc:∀x,x∈l->FnPur cfg c [vBf x] (vB (p x))):
    Pur cfg 125 [vBfs l,.c c] (vB (l.any p)):=by
 refine zQ Tryz.func125 O Tryz.ntmps125 Tryz.results125 O ?_
 intro z hz
 refine F O<|A O<|H<|F O<|A O<|A O<|qG O ok160 (zIy l c p hl hc) ⟨G,O,G,O,T⟩<|zR O (wK O O O)<|A O<|H<|o<|X O ?_
 rw [zKo]
theorem checkBuffers_1 (x b:Bf):
    Pur cfg 126 [vBf x,.c (.iptr b.cells)] (vB (decide (x.Name=b.Name))):=by
 refine zQ Tryz.func126 O Tryz.ntmps126 Tryz.results126 O ?_
 intro z hz
 refine F O<|zU O O (qL O O) ?_
 rintro _ _ ⟨b1,rfl,rfl⟩
 refine A O<|H<|F O<|zJ O fd65_0<|zK one9 (R 0 O) O<|qS O fd65_0<|zK one9 qA O<|zR O (yM O O O)<|A O<|H<|o<|X O ?_
 exact O
theorem zHc (l:List Bf) (hl:l.length<=4294967296) (hd:∀b,b∈l->b.Dims.length<=17592186044416):
    Pur cfg 81 [vBfs l] (vI (bufsErr [] l)):=by
 refine zQ Tryz.func81 O Tryz.ntmps81 Tryz.results81 O ?_
 intro z hz
 refine F O<|A O<|H<|zI<|F O<|A O<|qB O el22<|A O<|H<|zS<|zV ⟨[(8,.c _),(0,.c _),(7,.c _)],[]⟩ (Weak.mk [] ⟨G,G,G,T⟩ O)<|qO 1 0 O O (Nat) (fun k=>[(8,vI k)]) (fun k=>[]) (fun k=>k<=l.length/\(bufsErr [] l=bufsErr (l.take k) (l.drop k))) (fun k=>l.length-k) ⟨0,⟨by omega,O⟩,Weak.mk [] ⟨G,G,G,T⟩ O⟩ ?_
 rintro k ⟨hk,hp⟩
 refine F O<|yN O<|H<|zI<|zD O (fun c1=>?_) (fun c1=>?_)
 ·try simp only [I] at c1
  obtain ⟨b,hb⟩:=qZ l k (by omega)
  refine zH<|zI<|zS<|F O<|A O<|A O<|H<|F O<|A O<|A O<|qD O el22 (by omega) (v (by assumption))<|zO zRl qA O<|zU O O (qC [none,none,none,none,none,none,some 1,none] O zr65 O) ?_
  rintro _ _ ⟨b1,rfl,rfl⟩
  refine D 0 sz65 O<|yJ _ (yA 0 O 4 _ PLe.ptr)<|H<|zI<|zS<|F O<|qS O fd65_0<|zK one9 qA O<|qG O ok49 (zAa _) ⟨G,O,T⟩<|kY O<|A O<|H<|zD O (fun c2=>?_) (fun c2=>?_)
  ·try simp only [I] at c2
   refine F O<|A O<|H<|o<|X O ?_
   rw [zFa hb hp (by rw [bfErr_7 c2];decide),bfErr_7 c2]
  ·try simp only [I] at c2
   refine F O<|A O<|A O<|zR O (zNa O el22 O O (by omega))<|zR O (zCx O O O O O)<|qG O ok125 (zGg (l.take k) _ (fun x=>decide (x.Name=b.Name)) (by rw [List.length_take];omega) (fun x _=>FnPur.of_pur (first:=[]) (cap:=[.iptr b.cells]) ok126 (checkBuffers_1 x b))) ⟨G,O,G,O,T⟩<|A O<|H<|zD O (fun c3=>?_) (fun c3=>?_)
   ·try simp only [I] at c3
    refine F O<|A O<|H<|o<|X O ?_
    rw [zFa hb hp (by rw [bfErr_8 c2 c3];decide),bfErr_8 c2 c3]
   ·try simp only [I] at c3
    refine F O<|qS O fd65_1<|zO yR qA O<|qG O ok127 (zBx b.T) ⟨G,O,T⟩<|yP O<|A O<|H<|zD O (fun c4=>?_) (fun c4=>?_)
    ·try simp only [I] at c4
     refine F O<|A O<|H<|o<|X O ?_
     rw [zFa hb hp (by rw [bfErr_10 c2 c3 (tyErr_ne c4)];decide),bfErr_10 c2 c3 (tyErr_ne c4)]
    ·try simp only [I] at c4
     refine zH<|zI<|F O<|qS O zQm<|zK zIg qA O<|qG O ok128 (shape_Validate b.Dims (hd b (zZ hb))) ⟨G,O,T⟩<|A O<|H<|F O<|A O<|yP O<|H<|zD O (fun c5=>?_) (fun c5=>?_)
     ·try simp only [I] at c5
      refine F O<|A O<|A O<|H<|o<|X O ?_
      rw [zFa hb hp (by rw [bfErr_d c2 c3 (zHr c4) c5];exact c5),bfErr_d c2 c3 (zHr c4) c5]
     ·try simp only [I] at c5
      refine zH<|F O<|qS O fd65_3<|zK J qA O<|yN O<|A O<|M O (fun g14_3=>qJ O fd65_3 O) O<|B 41 O (fun g14_3=>Q O J O qA O) O<|B 42 O (fun g14_3=>yW O O O) O<|j O (fun h=>(lzf h))<|H<|zD O (fun c6=>?_) (fun c6=>?_)
      ·try simp only [I] at c6
       refine F O<|A O<|H<|o<|X O ?_
       rw [zFa hb hp (by rw [bfErr_u c2 c3 (zHr c4) c5 (by omega)];decide),bfErr_u c2 c3 (zHr c4) c5 (by omega)]
      ·try simp only [I] at c6
       refine zH<|zT O<|qK O ⟨by omega,by omega⟩<|A O<|H ?_
       refine ⟨k+1,⟨by omega,bufsErr_next hb hp (bfErr_0 c2 c3 (zHr c4) c5 (by omega))⟩,(by omega),Weak.mk [] ⟨G,G,G,T⟩ O⟩
 ·try simp only [I] at c1
  refine qQ<|F O<|A O<|H<|o<|X O ?_
  rw [bufsErr_end hp (by omega)]
end Go.W
