/-
  What functions compute.
  And what the laws need besides.
  Conditions: none.
-/
import Derived.Test.YtgfomfnjionbeaaGreatDoorGB
import Derived.Test.YtgfomfnjionbeaaGreatDoorEngZ
import Derived.Test.YtgfomfnjionbeaaGreatDoorPlain3
import Derived.Test.YtgfomfnjionbeaaGreatDoorPlainL
import Derived.Test.YtgfomfnjionbeaaGreatDoorPlain2
import Derived.Test.YtgfomfnjionbeaaGreatDoorSortL
set_option linter.unusedSimpArgs false
set_option linter.unusedVariables false
set_option linter.defProp false
section
set_option maxRecDepth 10000
namespace Go.W
open Go Go.Eng Go.Proofs Go.L41 Go.Br Tryz
attribute [local irreducible] AWP RWP TD fY
def agg66:nJ prog 66=some 8:=by kernel_rfl
def el33:dV prog 33=some (64,20,256):=by kernel_rfl
def el39:dV prog 39=some (66,8,88):=by kernel_rfl
def zEz:bH prog 41 0=some (0,39):=by kernel_rfl
def zGc:bH prog 64 7=some (19,33):=by kernel_rfl
def fd66_0:bH prog 66 0=some (0,9):=by kernel_rfl
def fd66_1:bH prog 66 1=some (1,56):=by kernel_rfl
def fd66_2:bH prog 66 2=some (6,46):=by kernel_rfl
def fd66_3:bH prog 66 3=some (7,3):=by kernel_rfl
def zDq:fP prog 33=true:=by kernel_rfl
def zPj:fP prog 39=true:=by kernel_rfl
def one46:fP prog 46=true:=by kernel_rfl
def pl66:fA prog 66=some [(0,1),(1,5),(6,1),(7,1)]:=by kernel_rfl
def sz46:(prog.info? 46).map (·.size)=some 1:=by kernel_rfl
def sz66:(prog.info? 66).map (·.size)=some 8:=by kernel_rfl
def zr66:dZ prog 66=some [(Value.string (ByteArray.mk #[])),(Value.int IntKind.i64 0),(Value.int IntKind.i64 0),(Value.int IntKind.i64 0),(Value.int IntKind.i64 0),(Value.int IntKind.i64 0),(Value.slice none 0 0),(Value.int IntKind.i64 0)]:=by kernel_rfl
def shape_Validate (d:List Int) (hl:d.length<=17592186044416):
    Pur cfg 168 [vIs d] (vI (jE d)):=by
 refine zV func168 O ntmps168 results168 O fun z hz=>oh O O<|zF<|ol O O<|qC O el46<|zT O (yN O O O)<|zA<|zK O ?_ ?_<;>intro c1<;>try simp only [sx] at c1
 ·have hlong:=dims_long (d:=d) zB
  refine oh O O<|zM<|zX O ?_
  rw [hlong]
 ·refine zH<|zF<|ol O O<|qC O el46<|oi O<|zS<|zW ⟨[(13,.c _),(0,.c _),(11,.c _),(12,.c _)],[]⟩ (Weak.mk [] ⟨zD,zD,zD,zD,T⟩ O)<|qG 1 0 O O (Nat) (fun k=>[(13,vI k)]) (fun k=>[]) (fun k=>k<=d.length/\((d.take k).all vA=true)) (fun k=>d.length-k) ⟨0,⟨zB,O⟩,Weak.mk [] ⟨zD,zD,zD,zD,T⟩ O⟩ ?_
  rintro k ⟨hk,hp⟩
  refine Y O<|yC O<|zA<|zF<|zK O ?_ ?_<;>intro c2<;>try simp only [sx] at c2
  ·obtain ⟨n,hn⟩:=qX d k zB
   refine zH<|zF<|zS<|Y O<|qE O el46 zB (getm uC)<|zE one3 qF O<|oi O<|ol O O<|yC O<|zA<|zK O ?_ ?_<;>intro c3<;>try simp only [sx] at c3
   ·have hneg:=dims_neg (d:=d) zB hn c3
    refine oh O O<|zM<|zX O ?_
    rw [hneg]
   ·refine zH<|zP O<|qH O ⟨zB,zB⟩<|G O<|zA ?_
    refine ⟨k+1,⟨zB,allP_next hn hp (by unfold vA;exact al zB)⟩,zB,Weak.mk [] ⟨zD,zD,zD,zD,T⟩ O⟩
  ·have hpos:d.all vA=true:=by rw [yI zB] at hp;exact hp
   refine qM<|oh O O<|zF<|ol O O<|qC O el46<|oi O<|zS<|zW ⟨[(22,.c _),(5,.c _),(20,.c _),(21,.c _)],[]⟩ (Weak.mk [] ⟨zD,zD,zD,zD,T⟩ O)<|qG 2 0 O O (Nat×Int) (fun ⟨j,s⟩=>[(22,vI j),(5,vI s)]) (fun ⟨j,s⟩=>[]) (fun ⟨j,s⟩=>j<=d.length/\(1<=s)/\(s<=4096)/\(bP 1 d=bP s (d.drop j))) (fun ⟨j,s⟩=>d.length-j) ⟨⟨0,1⟩,⟨zB,zB,zB,O⟩,Weak.mk [] ⟨zD,VLe.of_eq (O),zD,zD,T⟩ O⟩ ?_
   rintro ⟨j,s⟩ ⟨hj,hs1,hs2,hs3⟩
   show AWP _ _ _ _ _ ⟨[(22,vI j),(5,vI s)]++_,[]++_⟩
   refine Y O<|yC O<|zA<|zF<|zK O ?_ ?_<;>intro c4<;>try simp only [sx] at c4
   ·obtain ⟨m,hm⟩:=qX d j zB
    refine zH<|zF<|zS<|Y O<|qE O el46 zB (getm uC)<|zE one3 qF O<|oi O<|zF<|ol O O<|G O<|zT O (det_quo O O O zB)<|zT O (yN O O O)<|zA<|zK O ?_ ?_<;>intro c5<;>try simp only [sx] at c5
    ·have hov:=quo_t hs1 c5
     refine oh O O<|zM<|zX O ?_
     rw [dims_over zB hpos (size_over hm hs3 hov)]
    ·have hov:=quo_f hs1 (Int.not_lt.2 c5)
     have hm1:=mul_pos1 hs1 (posI_get hpos hm)
     refine zH<|zP O<|G O<|G O<|zT O (zSg O O O (by have:=mul_pos1 hs1 (posI_get hpos hm);exact ⟨zB,zB⟩))<|oi O<|zP O<|qH O ⟨zB,zB⟩<|G O<|zA ?_
     refine ⟨⟨j+1,s*m⟩,⟨zB,zB,zB,size_next hm hs3 hov⟩,(by show d.length-(j+1)<d.length-j;omega),Weak.mk [] ⟨zD,zD,zD,zD,T⟩ O⟩
   ·refine qM<|oh O O<|zM<|zX O ?_
    rw [dims_ok zB hpos (size_done hs3 zB)]
def zTh (l:List Int) (hl:l.length<=17592186044416):
    OwnR cfg 144 [vIs l] 3 1 (l.map fun n=>[cI n]):=by
 refine zV func144 O ntmps144 results144 O fun z hz=>Y O<|qY 1 O<|zA<|zF<|ol O O<|qA O O (zIt O el46 O O) ?_
 rintro _ _ ⟨nb1,rfl,hnil1,rfl⟩
 refine zA<|zK O ?_ ?_<;>intro c1<;>try simp only [sx] at c1
 ·refine ol O O<|yP _ (kF 3 1)<|zA<|zM<|zX O ?_
  exact ⟨_,O,by rw [hnil1 c1]⟩
 ·refine zH<|Y O<|qA O O (zAt O el46 zr3 O O O O) ?_
  rintro _ _ ⟨sv3,rfl,rfl⟩
  refine G O<|qA O O (yB 0 O el46 O O O uJ uJ) ?_
  exact v14
def zHl (b:Bf) (hl:b.Dims.length<=17592186044416):
    Pur cfg 79 [vBf b] (vBf b):=by
 refine zV func79 O ntmps79 results79 O fun z hz=>Y O<|og O fun b1=>qA O O (qI nu O zr66 O) ?_
 rintro _ _ ⟨b2,rfl,rfl⟩
 refine zA<|Y O<|zC O fd66_2<|zE one46 (J 1 O) O<|qL O uB (OwnR.pur (zTh b.Dims hl)) (vlr O)<|zC O fd66_2<|rStR 1 sz46 O<|zA<|Y O<|zN agg66 (J 1 O) O<|rStR 0 sz66 O<|zA<|zM<|fin1 (zZ agg66 O (J 0 O) O) ?_
 exact O
def zBu (n:Ns) (s:nn) (hn:n.Ok):
    Pur cfg 247 [vNs n,vS s] (.tup [vBf (lE n.Bufs s),vB (gN n.Bufs s)]):=by
 refine zV func247 O ntmps247 results247 O ?_
 intro z hz
 have hnb:=hn.bufs
 refine Y O<|og O fun b1=>qA O O (qI nu O zr66 O) ?_
 rintro _ _ ⟨b2,rfl,rfl⟩
 refine oi O<|zF<|Y O<|zC O zEz<|zE zPj (J 1 O) O<|qC O el39<|oi O<|zS<|zW ⟨[(10,.c _),(1,.c _),(2,.c _),(4,.c _),(9,.c _)],[_,_]⟩ (Weak.mk [true,true] ⟨zD,zD,zD,zD,zD,T⟩ O)<|qG 1 0 O O (Nat) (fun k=>[(10,vI k)]) (fun k=>[]) (fun k=>k<=n.Bufs.length/\(gN (n.Bufs.take k) s=false)/\(lE n.Bufs s=lE (n.Bufs.drop k) s)) (fun k=>n.Bufs.length-k) ⟨0,⟨zB,O,O⟩,Weak.mk [true,true] ⟨zD,zD,zD,zD,zD,T⟩ O⟩ ?_
 rintro k ⟨hk,hp,hq⟩
 refine Y O<|yC O<|zA<|zF<|zK O ?_ ?_<;>intro c1<;>try simp only [sx] at c1
 ·obtain ⟨b,hb⟩:=qX n.Bufs k zB
  refine zH<|zF<|zS<|ol O O<|oi O<|Y O<|zC O zEz<|zE zPj (J 1 O) O<|G O<|qE O el39 zB (getm uC)<|qR O fd66_0<|zE one9 qF O<|G O<|wC O<|zA<|zK O ?_ ?_<;>intro c2<;>try simp only [sx] at c2
  ·refine Y O<|zC O zEz<|zE zPj (J 1 O) O<|G O<|qE O el39 zB (getm uC)<|zN agg66 qF O<|qL O uB (zHl b (hn.dims b (qD hb))) (vlr O)<|rStR 0 sz66 O<|oi O<|zM<|fin2 (zZ agg66 O (J 0 O) O) (rs_c O) ?_
   rw [hasBf_at hb c2,hq,bufD_at hb c2];rfl
  ·refine zH<|zP O<|qH O ⟨zB,zB⟩<|G O<|zA ?_
   refine ⟨k+1,⟨zB,hasBf_next hb hp c2,hq.trans (bufD_next hb c2)⟩,zB,Weak.mk [true,true] ⟨zD,zD,zD,zD,zD,T⟩ O⟩
 ·refine qM<|Y O<|yQ nu O zr66 pl66<|rStR 0 sz66 O<|oi O<|zM<|fin2 (zZ agg66 O (J 0 O) O) (rs_c O) ?_
  rw [yI zB] at hp;rw [hp,bufD_no hp];rfl
def zUr (n:Nat) (ih:n≠0->∀(l:List St) (x:Int),bS l<=1073741824->x=((n-1:Nat):Int)->Pur cfg 103 [gJ l,vI x] (vB (gM (n-1) l))) (l:List St) (x:Int) (hn:n<=100) (hl:bS l<=1073741824) (hx:x=n):
    Pur cfg 103 [gJ l,vI x] (vB (gM n l)):=by
 refine zV func103 O ntmps103 results103 O ?_
 intro z hz
 have hll:=zCi l
 refine oh O O<|zF<|ol O O<|qC O el33<|oi O<|zS<|zW ⟨[(8,.c _),(0,.c _),(1,.c _),(7,.c _)],[]⟩ (Weak.mk [] ⟨zD,zD,zD,zD,T⟩ O)<|qG 1 0 O O (Nat) (fun k=>[(8,vI k)]) (fun k=>[]) (fun k=>k<=l.length/\(sY n (l.take k)=true)) (fun k=>l.length-k) ⟨0,⟨zB,by cases n<;>rfl⟩,Weak.mk [] ⟨zD,zD,zD,zD,T⟩ O⟩ ?_
 rintro k ⟨hk,hp⟩
 refine Y O<|yC O<|zA<|zF<|zK O ?_ ?_<;>intro c1<;>try simp only [sx] at c1
 ·obtain ⟨s,hs⟩:=qX l k zB
  refine zH<|zF<|zS<|ol O O<|oi O<|ol O O<|yC O<|G O<|rL0 O (fun g4_2=>zQ O O) O<|rL0 O (fun g4_2=>zQ O O) O<|rLz [(14,_),(15,_)] O gv1 ⟨O,O,O,O,T⟩ (fun g4_2=>qK O el33 O O zB (zGo hs)) O<|rL1 16 O (fun g4_2=>qV O zGc O) O<|rL1 17 O (fun g4_2=>zJ O zDq O qF O) O<|rL0 O (fun g4_2=>zQ O O) O<|rL1 19 O (fun g4_2=>yL O O O ⟨zB,zB⟩) O<|rLz [(18,_),(20,_)] O gv1 ⟨O,O,O,O,T⟩ (fun g4_2=>qP O uB (ih (by simp only [Lz,aD,av,sx] at g4_2;omega) s.Body _ (by have:=St.body_wt s;have:=zCu (qD hs);omega) (by simp only [Lz,aD,av,sx] at g4_2;omega)) (vlr O)) O<|rL1 21 O (fun g4_2=>wV O O) O<|r_or O (fun h=>(lzf h))<|zA<|zK O (fun c2=>?_) (fun c2=>?_)
  ·have hno:=within_no hs hx c2
   refine oh O O<|zM<|zX O ?_
   rw [hno]
  ·have hyes:=within_yes hx c2
   refine zH<|zP O<|qH O ⟨zB,zB⟩<|G O<|zA ?_
   refine ⟨k+1,⟨zB,withinG_next hs hp hyes.1 hyes.2⟩,zB,Weak.mk [] ⟨zD,zD,zD,zD,T⟩ O⟩
 ·refine qM<|oh O O<|zM<|zX O ?_
  rw [yI zB,withinG_eq] at hp;rw [hp]
def zWn (n:Nat) (l:List St) (x:Int) (hn:n<=100) (hl:bS l<=1073741824) (hx:x=n):Pur cfg 103 [gJ l,vI x] (vB (gM n l)):=by
  induction n generalizing l x with
  |zero=>exact zUr 0 (fun h=>absurd rfl h) l x hn hl hx
  |succ n ih=>exact zUr (n+1) (fun _ l x h1 h2=>ih l x zB h1 zB) l x hn hl hx
def zEp (l:List St) (ih:∀s,s∈l->∀(m:Nat) (x:Int),m<=2147483648->x=m->Pur cfg 104 [gJ s.Body,vI x] (vI (pI s.Body m))) (m:Nat) (x:Int) (hl:bS l<=1073741824) (hm:m<=2147483648) (hx:x=m):
    Pur cfg 104 [gJ l,vI x] (vI (pI l m)):=by
 refine zV func104 O ntmps104 results104 O ?_
 intro z hz
 have hll:=zCi l
 have hNw:=stsN_wt l
 refine oh O O<|ol O O<|qC O el33<|oi O<|zF<|ol O O<|qC O el33<|oi O<|zS<|zW ⟨[(11,.c _),(5,.c _),(0,.c _),(1,.c _),(10,.c _)],[]⟩ (Weak.mk [] ⟨zD,zD,zD,zD,zD,T⟩ O) ?_
 refine qG 2 0 O O (Nat×Nat) (fun ⟨k,n⟩=>[(11,vI k),(5,vI n)]) (fun ⟨k,n⟩=>[]) (fun ⟨k,n⟩=>k<=l.length/\(n<=4294967296)/\(pI l m=nM (l.drop k) m n)) (fun ⟨k,n⟩=>l.length-k) ⟨⟨0,l.length⟩,⟨zB,zB,O⟩,Weak.mk [] ⟨zD,VLe.of_eq (ai vI uF),zD,zD,zD,T⟩ O⟩ ?_
 rintro ⟨k,n⟩ ⟨hk,hn,hp⟩
 show AWP _ _ _ _ _ ⟨[(11,vI k),(5,vI n)]++_,[]++_⟩
 refine Y O<|yC O<|zA<|zF<|zK O ?_ ?_<;>intro c1<;>try simp only [sx] at c1
 ·obtain ⟨s,hs⟩:=qX l k zB
  refine zH<|zF<|zS<|ol O O<|oi O<|zF<|ol O O<|G O<|zT O (yN O O O)<|zA<|zK O ?_ ?_<;>intro c2<;>try simp only [sx] at c2
  ·refine qM<|ol O O<|oi O<|zM<|zX O ?_
   exact ai vI (by rw [←num_end hp zB])
  ·have hsum:=num_sum hs hp zB
   have hbl:=numB_le s.Body (m-n)
   have hsn:=stsN_mem (qD hs)
   have hse:=stN_eq s
   refine zH<|zP O<|G O<|G O<|G O<|qE O el33 zB (zGo hs)<|qR O zGc<|zE zDq qF O<|G O<|G O<|zT O (yL O O O ⟨zB,zB⟩)<|qL O uB (ih s (qD hs) (m-n) _ zB zB) (vlr O)<|qH O ⟨zB,zB⟩<|oi O<|zP O<|qH O ⟨zB,zB⟩<|G O<|zA ?_
   refine ⟨⟨k+1,n+pI s.Body (m-n)⟩,⟨zB,zB,num_next hs hp zB⟩,(by show l.length-(k+1)<l.length-k;omega),Weak.mk [] ⟨zD,VLe.of_eq (ai vI zB),zD,zD,zD,T⟩ O⟩
 ·refine qM<|ol O O<|oi O<|zM<|zX O ?_
  exact ai vI (by rw [←num_end hp zB])
def zJx (s:St):∀(m:Nat) (x:Int),bS s.Body<=1073741824->m<=2147483648->x=m->Pur cfg 104 [gJ s.Body,vI x] (vI (pI s.Body m)):=by
  induction s using St.ind with
  |_ s ih=>exact fun m x hl hm hx=>zEp s.Body (fun a ha m x h1 h2=>ih a ha m x (by have:=St.body_wt a;have:=zCu ha;omega) h1 h2) m x hl hm hx
def zPp (l:List St) (m:Nat) (x:Int) (hl:bS l<=1073741824) (hm:m<=2147483648) (hx:x=m):Pur cfg 104 [gJ l,vI x] (vI (pI l m)):=
  zEp l (fun a ha m x h1 h2=>zJx a m x (by have:=St.body_wt a;have:=zCu ha;omega) h1 h2) m x hl hm hx
def zOa (l:List Bf) (c:C) (p:Bf->Bool) (hl:l.length<=4294967296) (hc:∀x,x∈l->FnPur cfg c [vBf x] (vB (p x))):
    Pur cfg 205 [iM l,.c c] (vI (dT p l)):=by
 refine zV func205 O ntmps205 results205 O fun z hz=>oh O O<|zF<|ol O O<|qC O el39<|oi O<|zS<|zW ⟨[(8,.c _),(0,.c _),(1,.c _),(7,.c _)],[]⟩ (Weak.mk [] ⟨zD,zD,zD,zD,T⟩ O)<|qG 1 0 O O (Nat) (fun k=>[(8,vI k)]) (fun k=>[]) (fun k=>k<=l.length/\((l.take k).any p=false)) (fun k=>l.length-k) ⟨0,⟨zB,O⟩,Weak.mk [] ⟨zD,zD,zD,zD,T⟩ O⟩ ?_
 rintro k ⟨hk,hp⟩
 refine Y O<|yC O<|zA<|zF<|zK O (fun c1=>?_) (fun c1=>?_)
 ·try simp only [sx] at c1
  obtain ⟨x,hx⟩:=qX l k zB
  refine zH<|zF<|zS<|ol O O<|oi O<|ol O O<|G O<|G O<|qE O el39 zB (getm uC)<|zN agg66 qF O<|zT O (wL O O (hc _ (qD hx)) (vlr O))<|zA<|zK O (fun c2=>?_) (fun c2=>?_)
  ·exact v58
  ·exact k9
 ·exact v26
def zKx (l:List Bf) (c:C) (p:Bf->Bool) (hl:l.length<=4294967296) (hc:∀x,x∈l->FnPur cfg c [vBf x] (vB (p x))):
    Pur cfg 165 [iM l,.c c] (vB (l.any p)):=by
 refine zV func165 O ntmps165 results165 O fun z hz=>oh O O<|ol O O<|G O<|qL O uB (zOa l c p hl hc) (vlr O)<|zT O (wG O O O)<|oi O<|zM<|zX O ?_
 rw [zPu]
def checkBuffers_1 (x b:Bf):
    Pur cfg 166 [vBf x,.c (.iptr b.cells)] (vB (decide (x.Name=b.Name))):=by
 refine zV func166 O ntmps166 results166 O fun z hz=>Y O<|og O fun b1=>oi O<|Y O<|zC O fd66_0<|zE one9 (J 0 O) O<|qR O fd66_0<|zE one9 qF O<|wC O<|oi O<|zM<|zX O ?_
 exact O
def zMb (l:List Bf) (hl:l.length<=4294967296) (hd:∀b,b∈l->b.Dims.length<=17592186044416):
    Pur cfg 105 [iM l] (vI (fN [] l)):=by
 refine zV func105 O ntmps105 results105 O fun z hz=>oh O O<|zF<|ol O O<|qC O el39<|oi O<|zS<|zW ⟨[(8,.c _),(0,.c _),(7,.c _)],[]⟩ (Weak.mk [] ⟨zD,zD,zD,T⟩ O)<|qG 1 0 O O (Nat) (fun k=>[(8,vI k)]) (fun k=>[]) (fun k=>k<=l.length/\(fN [] l=fN (l.take k) (l.drop k))) (fun k=>l.length-k) ⟨0,⟨zB,O⟩,Weak.mk [] ⟨zD,zD,zD,T⟩ O⟩ ?_
 rintro k ⟨hk,hp⟩
 refine Y O<|yC O<|zA<|zF<|zK O ?_ ?_<;>intro c1<;>try simp only [sx] at c1
 ·obtain ⟨b,hb⟩:=qX l k zB
  refine zH<|zF<|zS<|ol O O<|oi O<|ol O O<|G O<|qE O el39 zB (getm uC)<|zN agg66 qF O<|qA O O (qI nu O zr66 O) ?_
  rintro _ _ ⟨b1,rfl,rfl⟩
  refine rStR 0 sz66 O<|yP _ (kN 0 O 4 _ PLe.ptr)<|zA<|zF<|zS<|Y O<|qR O fd66_0<|zE one9 qF O<|qL O uB (zCw _) (vlr O)<|kU O<|oi O<|zK O ?_ ?_<;>intro c2<;>try simp only [sx] at c2
  ·refine oh O O<|zM<|zX O ?_
   rw [zJe hb hp (by rw [bfErr_7 c2];decide),bfErr_7 c2]
  ·refine ol O O<|G O<|zT O (zDa O el39 O O zB)<|zT O (zFs O O O O O)<|qL O uB (zKx (l.take k) _ (fun x=>decide (x.Name=b.Name)) (by rw [aq];omega) (fun x _=>FnPur.of_pur (first:=[]) (cap:=[.iptr b.cells]) uB (checkBuffers_1 x b))) (vlr O)<|oi O<|zK O ?_ ?_<;>intro c3<;>try simp only [sx] at c3
   ·refine oh O O<|zM<|zX O ?_
    rw [zJe hb hp (by rw [bfErr_8 c2 c3];decide),bfErr_8 c2 c3]
   ·refine Y O<|qR O fd66_1<|zN yE qF O<|qL O uB (wY b.T) (vlr O)<|yM O<|oi O<|zK O ?_ ?_<;>intro c4<;>try simp only [sx] at c4
    ·refine oh O O<|zM<|zX O ?_
     rw [zJe hb hp (by rw [bfErr_10 c2 c3 (zMs c4)];decide),bfErr_10 c2 c3 (zMs c4)]
    ·refine zH<|zF<|Y O<|qR O fd66_2<|zE one46 qF O<|qL O uB (shape_Validate b.Dims (hd b (qD hb))) (vlr O)<|oi O<|ol O O<|yM O<|zA<|zK O ?_ ?_<;>intro c5<;>try simp only [sx] at c5
     ·refine ol O O<|oi O<|zM<|zX O ?_
      rw [zJe hb hp (by rw [bfErr_d c2 c3 (zCd c4) c5];exact c5),bfErr_d c2 c3 (zCd c4) c5]
     ·refine zH<|Y O<|qR O fd66_3<|zE one3 qF O<|yC O<|G O<|rL0 O (fun g14_3=>qV O fd66_3 O) O<|rL1 41 O (fun g14_3=>zJ O one3 O qF O) O<|rL1 42 O (fun g14_3=>yN O O O) O<|r_or O (fun h=>(lzf h))<|zA<|zK O ?_ ?_<;>intro c6<;>try simp only [sx] at c6
      ·refine oh O O<|zM<|zX O ?_
       rw [zJe hb hp (by rw [bfErr_u c2 c3 (zCd c4) c5 zB];decide),bfErr_u c2 c3 (zCd c4) c5 zB]
      ·refine zH<|zP O<|qH O ⟨zB,zB⟩<|G O<|zA ?_
       refine ⟨k+1,⟨zB,bufsErr_next hb hp (bfErr_0 c2 c3 (zCd c4) c5 zB)⟩,zB,Weak.mk [] ⟨zD,zD,zD,T⟩ O⟩
 ·refine qM<|oh O O<|zM<|zX O ?_
  rw [bufsErr_end hp zB]
end Go.W
end
section
set_option maxRecDepth 10000
namespace Go.W
open Go Go.Eng Go.Proofs Go.L41 Go.Br Tryz
attribute [local irreducible] AWP RWP TD fY
abbrev ckN (b:Nat) (svL svS svP:Value) (n:Ns) (U S:List nn) (W:List Int):List E:=
  [.row b 172 [.sl 8 (n.Bufs.map Bf.cells),.sl 20 (n.Body.map St.cells),.lit svL,.lit svS,.lit svP],.vec svL 9 1 (U.map fun s=>[cS s]),.vec svS 9 1 (S.map fun s=>[cS s]),.vec svP 3 1 (W.map fun i=>[cI i])]
abbrev vP (b:Nat):V:=.c (.lit (.pointer (some ⟨b,0,none⟩)))
def zLb:nJ prog 41=some 2:=by kernel_rfl
def zHt:nJ prog 64=some 20:=by kernel_rfl
def zEt:bH prog 41 1=some (1,33):=by kernel_rfl
def zIz:bH prog 64 0=some (0,3):=by kernel_rfl
def zIy:bH prog 64 1=some (1,9):=by kernel_rfl
def fd64_2:bH prog 64 2=some (2,3):=by kernel_rfl
def fd64_3:bH prog 64 3=some (3,3):=by kernel_rfl
def zXc:bH prog 64 4=some (4,3):=by kernel_rfl
def zSx:bH prog 64 5=some (5,52):=by kernel_rfl
def zGk:bH prog 64 6=some (6,62):=by kernel_rfl
def zSb:bH prog 172 0=some (0,41):=by kernel_rfl
def fd172_1:bH prog 172 1=some (2,25):=by kernel_rfl
def zMl:bH prog 172 2=some (3,25):=by kernel_rfl
def zKa:bH prog 172 3=some (4,46):=by kernel_rfl
def zSq:fP prog 170=true:=by kernel_rfl
def pl172:fA prog 172=some [(0,2),(2,1),(3,1),(4,1)]:=by kernel_rfl
def sz25:(prog.info? 25).map (·.size)=some 1:=by kernel_rfl
def sz64:(prog.info? 64).map (·.size)=some 20:=by kernel_rfl
def zr64:dZ prog 64=some [(Value.int IntKind.i64 0),(Value.string (ByteArray.mk #[])),(Value.int IntKind.i64 0),(Value.int IntKind.i64 0),(Value.int IntKind.i64 0),(Value.slice none 0 0),(Value.int IntKind.i64 0),(Value.string (ByteArray.mk #[])),(Value.int IntKind.i64 0),(Value.int IntKind.i64 0),(Value.int IntKind.i64 0),(Value.int IntKind.i64 0),(Value.int IntKind.i64 0),(Value.int IntKind.i64 0),(Value.int IntKind.i64 0),(Value.int IntKind.i64 0),(Value.slice none 0 0),(Value.slice none 0 0),(Value.slice none 0 0),(Value.slice none 0 0)]:=by kernel_rfl
def zr172:dZ prog 172=some [(Value.slice none 0 0),(Value.slice none 0 0),(Value.slice none 0 0),(Value.slice none 0 0),(Value.slice none 0 0)]:=by kernel_rfl
def zKw (l:List Mono) (c:C) (p:Mono->Bool) (μ:List E) (hl:l.length<=4294967296) (hc:∀x,x∈l->FnCon cfg c [tD x] μ fun r μ'=>r=vB (p x)/\μ'=μ):
    Con cfg 315 [cE l,.c c] μ fun r μ'=>r=vI (dT p l)/\μ'=μ:=by
 refine zV func315 O ntmps315 results315 O fun z hz=>oh O O<|zF<|ol O O<|qC O D<|oi O<|zS<|zW ⟨[(8,.c _),(0,.c _),(1,.c _),(7,.c _)],_⟩ (Weak.regs ⟨zD,zD,zD,zD,T⟩)<|zGy 1 O (Nat) (fun k=>[(8,vI k)]) (fun k=>μ) (fun k=>k<=l.length/\((l.take k).any p=false)) (fun k=>l.length-k) ⟨0,⟨zB,O⟩,Weak.regs ⟨zD,zD,zD,zD,T⟩⟩ ?_
 rintro k ⟨hk,hp⟩
 refine Y O<|yC O<|zA<|zF<|zK O ?_ ?_<;>intro c1<;>try simp only [sx] at c1
 ·obtain ⟨x,hx⟩:=qX l k zB
  refine zH<|zF<|zS<|ol O O<|oi O<|ol O O<|G O<|G O<|qE O D zB (getm uC)<|zN zFb qF O<|qA O O (zBb O O (hc _ (qD hx)) (vlr O)) ?_
  exact v13
 ·refine qM<|oh O O<|zM<|zX O ?_
  exact ⟨by rw [zDe (by rw [yI zB] at hp;exact hp)],O⟩
def zIi (l:List Mono) (c:C) (p:Mono->Bool) (μ:List E) (hl:l.length<=4294967296) (hc:∀x,x∈l->FnCon cfg c [tD x] μ fun r μ'=>r=vB (p x)/\μ'=μ):
    Con cfg 300 [cE l,.c c] μ fun r μ'=>r=vB (l.any p)/\μ'=μ:=by
 refine zV func300 O ntmps300 results300 O fun z hz=>oh O O<|ol O O<|G O<|qA O O (zEo O uB (zKw l c p μ hl hc) (vlr O)) ?_
 rintro _ _ ⟨rfl,rfl⟩
 refine zT O (wG O O O)<|oi O<|zM<|zX O ?_
 exact ⟨by rw [zPu],O⟩
def zNj (l:List Lf) (c:C) (p:Lf->Bool) (μ:List E) (hl:l.length<=4294967296) (hc:∀x,x∈l->FnCon cfg c [dC x] μ fun r μ'=>r=vB (p x)/\μ'=μ):
    Con cfg 302 [mN l,.c c] μ fun r μ'=>r=vI (dT p l)/\μ'=μ:=by
 refine zV func302 O ntmps302 results302 O fun z hz=>oh O O<|zF<|ol O O<|qC O el72<|oi O<|zS<|zW ⟨[(8,.c _),(0,.c _),(1,.c _),(7,.c _)],_⟩ (Weak.regs ⟨zD,zD,zD,zD,T⟩)<|zGy 1 O (Nat) (fun k=>[(8,vI k)]) (fun k=>μ) (fun k=>k<=l.length/\((l.take k).any p=false)) (fun k=>l.length-k) ⟨0,⟨zB,O⟩,Weak.regs ⟨zD,zD,zD,zD,T⟩⟩ ?_
 rintro k ⟨hk,hp⟩
 refine Y O<|yC O<|zA<|zF<|zK O ?_ ?_<;>intro c1<;>try simp only [sx] at c1
 ·obtain ⟨x,hx⟩:=qX l k zB
  refine zH<|zF<|zS<|ol O O<|oi O<|ol O O<|G O<|G O<|qE O el72 zB (getm uC)<|zN yV qF O<|qA O O (zBb O O (hc _ (qD hx)) (vlr O)) ?_
  exact v13
 ·refine qM<|oh O O<|zM<|zX O ?_
  exact ⟨by rw [zDe (by rw [yI zB] at hp;exact hp)],O⟩
def zJm (l:List Lf) (c:C) (p:Lf->Bool) (μ:List E) (hl:l.length<=4294967296) (hc:∀x,x∈l->FnCon cfg c [dC x] μ fun r μ'=>r=vB (p x)/\μ'=μ):
    Con cfg 280 [mN l,.c c] μ fun r μ'=>r=vB (l.any p)/\μ'=μ:=by
 refine zV func280 O ntmps280 results280 O fun z hz=>oh O O<|ol O O<|G O<|qA O O (zEo O uB (zNj l c p μ hl hc) (vlr O)) ?_
 rintro _ _ ⟨rfl,rfl⟩
 refine zT O (wG O O O)<|oi O<|zM<|zX O ?_
 exact ⟨by rw [zPu],O⟩
def inScope_1 (b:Nat) (svL svS svP:Value) (n:Ns) (U S:List nn) (W:List Int) (m:Mono) (hS:S.length<=1000000):
    Con cfg 301 [tD m,.c (.iptr [.lit (.pointer (some ⟨b,0,none⟩))])] (ckN b svL svS svP n U S W) fun r μ'=>r=vB (!bQ S m.Name)/\μ'=ckN b svL svS svP n U S W:=by
 refine zV func301 O ntmps301 results301 O fun z hz=>Y O<|og O fun b1=>oi O<|zF<|yH 6 mixed uB O O<|oo O (zJ O zSq O qF O)<|oo O (qS O O)<|oo O (zG O zMl O)<|oo O (zJ O zBp O (J 1 O) O)<|oo O (zG O wE O)<|oo O (zJ O one9 O (J 0 O) O)<|kE<|zT O (zCg 3 O uB O (zAv S m.Name zB) O ⟨.inl ⟨O,O⟩,.inr ⟨zD,O⟩,T⟩)<|kU O<|oi O<|zW _ (Weak.mem [false,true,true,true,true] O)<|zM<|zX O ?_
 exact ⟨O,O⟩
def zSj (b:Nat) (svL svS svP:Value) (n:Ns) (U S:List nn) (W:List Int) (l:Lf) (hS:S.length<=1000000) (hl:l.L.length<=4294967296):
    Con cfg 279 [vP b,dC l] (ckN b svL svS svP n U S W) fun r μ'=>r=vB (tO S l)/\μ'=ckN b svL svS svP n U S W:=by
 refine zV func279 O ntmps279 results279 O fun z hz=>Y O<|og O fun b1=>yP _ (kN 0 O 2 _ PLe.ptr)<|og O fun b2=>oi O<|Y O<|zC O kC<|zE wA (J 0 O) O<|zT O (zFs O O O O O)<|zT O (yU [1,1,1,1] O uB (zIi l.L _ (fun m=> !bQ S m.Name) (ckN b svL svS svP n U S W) hl (fun m _=>FnCon.of_con (first:=[]) (cap:=[.iptr [.lit (.pointer (some ⟨b,0,none⟩))]]) uB (inScope_1 b svL svS svP n U S W m hS))) (vlr O) O)<|kU O<|oi O<|zW _ (Weak.mem [false,true,true,true,true] O)<|zM<|zX O ?_
 exact ⟨by rw [zLs];rfl,O⟩
def node_1 (b:Nat) (svL svS svP:Value) (n:Ns) (U S:List nn) (W:List Int) (l:Lf) (hS:S.length<=1000000) (hl:l.L.length<=4294967296):
    Con cfg 281 [dC l,.c (.iptr [.lit (.pointer (some ⟨b,0,none⟩))])] (ckN b svL svS svP n U S W) fun r μ'=>r=vB (!tO S l)/\μ'=ckN b svL svS svP n U S W:=by
 refine zV func281 O ntmps281 results281 O fun z hz=>Y O<|og O fun b1=>oi O<|Y O<|zE zSq qF O<|zN yV (J 0 O) O<|zT O (yU [1,1,1,1] O uB (zSj b svL svS svP n U S W l hS hl) (vlr O) O)<|kU O<|oi O<|zW _ (Weak.mem [false,true,true,true,true] O)<|zM<|zX O ?_
 exact ⟨O,O⟩
def ck_node (b:Nat) (svL svS svP:Value) (n:Ns) (U S:List nn) (W:List Int) (e:Ex) (hn:n.Ok) (hS:S.length<=1000000) (he:e.wt<=1073741824):
    Con cfg 248 [vP b,vE e] (ckN b svL svS svP n U S W) fun r μ'=>r=vI (mX n.Bufs S e)/\μ'=ckN b svL svS svP n U S W:=by
 refine zV func248 O ntmps248 results248 O ?_
 intro z hz
 obtain ⟨hL,hI,hA⟩:=e.parts he
 have hwt:=Ex.wt_eq e
 refine Y O<|og O fun b1=>yP _ (kN 0 O 2 _ PLe.ptr)<|og O fun b2=>oi O<|Y O<|zE zSq qF O<|zC O zDt<|zN yV (J 0 O) O<|zT O (yU [1,1,1,1] O uB (zSj b svL svS svP n U S W e.Lin hS zB) (vlr O) O)<|oi O<|zF<|Y O<|zC O wB<|zE wX (J 0 O) O<|qC O el52<|oi O<|zS<|zW ⟨[(20,.c _),(5,.c _),(2,.c _),(3,.c _),(18,.c _),(19,.c _)],[_,_,_,_,_]⟩ (Weak.mk [true,true,true,true,true] ⟨zD,zD,zD,zD,zD,zD,T⟩ O) ?_
 refine qG 2 0 O O (Nat) (fun k=>[(20,vI k),(5,vB (tO S e.Lin&&(e.Idx.take k).all (eP S)))]) (fun k=>[]) (fun k=>k<=e.Idx.length) (fun k=>e.Idx.length-k) ⟨0,zB,Weak.mk [true,true,true,true,true] ⟨zD,VLe.of_eq (ai vB uF),zD,zD,zD,zD,T⟩ O⟩ ?_
 rintro k hk
 refine Y O<|yC O<|zA<|zF<|zK O ?_ ?_<;>intro c1<;>try simp only [sx] at c1
 ·obtain ⟨x,hx⟩:=qX e.Idx k zB
  refine zH<|zF<|zS<|Y O<|qE O el52 zB (getm uC)<|zN zGp qF O<|qA O O (qI ns O zr93 O) ?_
  rintro _ _ ⟨b3,rfl,rfl⟩
  refine rStR 0 sz93 O<|zA<|zP O<|G O<|G O<|rL0 O (fun g5_1=>zJ O zSq O qF O) O<|rL0 O (fun g5_1=>zG O zCy O) O<|rL1 27 O (fun g5_1=>qB O yV O (J 0 O) O) O<|rLz [(26,_),(28,_)] O gv1 ⟨O,O,O,O,T⟩ (fun g5_1=>yU [2,2,2,2] O uB (zSj b svL svS svP n U S W x.Lin hS (by have:=Ex.idx_wt (qD hx);omega)) (vlr O) O) O<|kH O (fun h=>h)<|G O<|rL0 O (fun g5_7=>zG O zAi O) O<|rL1 32 O (fun g5_7=>zJ O zBs O (J 0 O) O) O<|rL0 O (fun g5_7=>zFs O O O O O) O<|rLz [(33,_),(34,_)] O gv1 ⟨O,O,O,O,T⟩ (fun g5_7=>yU [2,2,2,2] O uB (zJm x.At _ (fun l=> !tO S l) (ckN b svL svS svP n U S W) (by have:=Ex.idx_wt (qD hx);omega) (fun l hl=>FnCon.of_con (first:=[]) (cap:=[.iptr [.lit (.pointer (some ⟨b,0,none⟩))]]) uB (node_1 b svL svS svP n U S W l hS (by have:=Ex.idx_wt (qD hx);have:=zBw hl;omega)))) (vlr O) O) O<|rL1 35 O (fun g5_7=>wV O O) O<|kH O (fun h=>h)<|oi O<|zP O<|qH O ⟨zB,zB⟩<|G O<|zA ?_
  refine ⟨k+1,zB,zB,Weak.mk [false,true,true,true,true,true] ⟨zD,VLe.of_eq (ai vB (by rw [zLs];exact scAll_next hx)),zD,zD,zD,zD,T⟩ O⟩
 ·rw [yI (l:=e.Idx) (k:=k) zB]
  refine qM<|zF<|ol O O<|kU O<|zA<|zK O (fun c2=>?_) (fun c2=>?_)
  ·have h9:pX S e=false:=(az _).mp c2
   refine oh O O<|zW _ (Weak.mem [false,true,true,true,true] O)<|zM<|zX O ?_
   exact ⟨by rw [nodeN_9 h9],O⟩
  ·have h9:pX S e=true:=(eu _).mp c2
   refine zH<|zF<|Y O<|zC O wH<|zE one3 (J 0 O) O<|yM O<|zA<|zK O ?_ ?_<;>intro c3<;>try simp only [sx] at c3
   ·refine oh O O<|zW _ (Weak.mem [false,true,true,true,true] O)<|zM<|zX O ?_
    exact ⟨by rw [nodeN_o h9 c3],O⟩
   ·refine zH<|zF<|yS 12 1 [⟨0,.q []⟩,⟨1,.q []⟩,⟨2,.q []⟩,⟨3,.q [2]⟩,⟨4,.q []⟩,⟨5,.q [1]⟩,⟨6,.q []⟩,⟨7,.q []⟩,⟨8,.q []⟩,⟨9,.q []⟩,⟨10,.e 0 []⟩,⟨11,.e 0 []⟩] mixed uB uB O O O<|zR O<|zR O<|zR O<|zR O<|zR O<|zR O<|zR O<|zR O<|zR O<|zR O<|zR O<|zR O<|wQ<|om O (zJ O zSq O qF O)<|om O (qS O O)<|om O (zG O zSb O)<|om O (qB O zLb O (J 0 O) O)<|om O (zG O zIa O)<|om O (zJ O one9 O (J 0 O) O)<|om O (qP O uB (zBu n e.Name hn) (vlr O))<|om O (yW O O)<|om O (yD O O O)<|om O (kM O O O)<|zEm O O uA O O (qI nu O zr66 O) ?_
    rintro _ _ ⟨b4,rfl,rfl⟩
    refine ⟨_,O,?_⟩
    refine zCk O O uA O O (yO O sz66 O O O (zBo 0 O O)) ?_
    rintro _ _ ⟨rfl,rfl⟩
    refine ⟨_,O,?_⟩
    refine wP O<|oi O<|zF<|ol O O<|kU O<|zA<|zK O ?_ ?_<;>intro c4<;>try simp only [sx] at c4
    ·refine oh O O<|zW _ (Weak.mem [false,false,true,true,true,true] O)<|zM<|zX O ?_
     exact ⟨by rw [nodeN_n h9 zB c4],O⟩
    ·refine zH<|zF<|Y O<|zC O fd66_2<|zE one46 (J 0 O) O<|qC O el46<|zC O wB<|zE wX (J 1 O) O<|qC O el52<|yM O<|zA<|zK O ?_ ?_<;>intro c5<;>try simp only [sx] at c5
     ·refine oh O O<|zW _ (Weak.mem [false,false,true,true,true,true] O)<|zM<|zX O ?_
      exact ⟨by rw [nodeN_r h9 zB c4 zB],O⟩
     ·refine zH<|zF<|Y O<|zC O wB<|zE wX (J 1 O) O<|qC O el52<|oi O<|zS<|zW ⟨[(66,.c _),(2,.c _),(64,.c _),(65,.c _)],[_,_,_,_]⟩ (Weak.mk [false,false,true,true,true,true] ⟨zD,zD,zD,zD,T⟩ O)<|qG 1 0 O O (Nat) (fun j=>[(66,vI j)]) (fun j=>[]) (fun j=>j<=e.Idx.length/\(rL n.Bufs e.Idx=rL n.Bufs (e.Idx.drop j))) (fun j=>e.Idx.length-j) ⟨0,⟨zB,O⟩,Weak.mk [true,true,true,true] ⟨zD,zD,zD,zD,T⟩ O⟩ ?_
      rintro j ⟨hk,hq⟩
      refine Y O<|yC O<|zA<|zF<|zK O ?_ ?_<;>intro c6<;>try simp only [sx] at c6
      ·obtain ⟨y,hy⟩:=qX e.Idx j zB
       refine zH<|zF<|zS<|Y O<|qE O el52 zB (getm uC)<|zN zGp qF O<|qA O O (qI ns O zr93 O) ?_
       rintro _ _ ⟨b5,rfl,rfl⟩
       refine rStR 0 sz93 O<|zA<|zF<|Y O<|zC O zEs<|zE one9 (J 0 O) O<|wC O<|zA<|zK O ?_ ?_<;>intro c7<;>try simp only [sx] at c7
       ·refine qM<|zP O<|qH O ⟨zB,zB⟩<|G O<|zA ?_
        refine ⟨j+1,⟨zB,hq.trans (gathL_next hy (by first|exact gathE_0 c7|exact gathE_ok c7 c8 zB zB))⟩,zB,Weak.mk [false,true,true,true,true] ⟨zD,zD,zD,zD,T⟩ O⟩
       ·refine zH<|zF<|yS 12 1 [⟨0,.q []⟩,⟨1,.q []⟩,⟨2,.q []⟩,⟨3,.q [2]⟩,⟨4,.q []⟩,⟨5,.q [1]⟩,⟨6,.q []⟩,⟨7,.q []⟩,⟨8,.q []⟩,⟨9,.q []⟩,⟨10,.e 0 []⟩,⟨11,.e 0 []⟩] mixed uB uB O O O<|zR O<|zR O<|zR O<|zR O<|zR O<|zR O<|zR O<|zR O<|zR O<|zR O<|zR O<|zR O<|wQ<|om O (zJ O zSq O qF O)<|om O (qS O O)<|om O (zG O zSb O)<|om O (qB O zLb O (J 0 O) O)<|om O (zG O zEs O)<|om O (zJ O one9 O (J 0 O) O)<|om O (qP O uB (zBu n y.From hn) (vlr O))<|om O (yW O O)<|om O (yD O O O)<|om O (kM O O O)<|zEm O O uA O O (qI nu O zr66 O) ?_
        rintro _ _ ⟨b6,rfl,rfl⟩
        refine ⟨_,O,?_⟩
        refine zCk O O uA O O (yO O sz66 O O O (zBo 0 O O)) ?_
        rintro _ _ ⟨rfl,rfl⟩
        refine ⟨_,O,?_⟩
        refine wP O<|oi O<|zS<|ol O O<|kU O<|oi O<|zK O ?_ ?_<;>intro c8<;>try simp only [sx] at c8
        ·refine oh O O<|zW _ (Weak.mem [false,false,true,true,true,true] O)<|zM<|zX O ?_
         exact ⟨by rw [nodeN_g h9 zB c4 zB,hq,gathL_no hy (by rw [gathE_9 c7 c8];decide),gathE_9 c7 c8],O⟩
        ·refine Y O<|zC O fd66_1<|zC O zGm<|zE one3 (J 0 O) O<|yM O<|oi O<|zK O ?_ ?_<;>intro c9<;>try simp only [sx] at c9
         ·refine oh O O<|zW _ (Weak.mem [false,false,true,true,true,true] O)<|zM<|zX O ?_
          exact ⟨by rw [nodeN_g h9 zB c4 zB,hq,gathL_no hy (by rw [gathE_10 c7 c8 c9];decide),gathE_10 c7 c8 c9],O⟩
         ·refine Y O<|zC O fd66_2<|zE one46 (J 0 O) O<|qC O el46<|zC O zAi<|zE zBs (J 1 O) O<|qC O el72<|yM O<|oi O<|zK O ?_ ?_<;>intro c10<;>try simp only [sx] at c10
          ·refine oh O O<|zW _ (Weak.mem [false,false,true,true,true,true] O)<|zM<|zX O ?_
           exact ⟨by rw [nodeN_g h9 zB c4 zB,hq,gathL_no hy (by rw [gathE_11 c7 c8 c9 zB];decide),gathE_11 c7 c8 c9 zB],O⟩
          ·refine zH<|zP O<|qH O ⟨zB,zB⟩<|G O<|zA ?_
           refine ⟨j+1,⟨zB,hq.trans (gathL_next hy (by first|exact gathE_0 c7|exact gathE_ok c7 c8 zB zB))⟩,zB,Weak.mk [false,false,true,true,true,true] ⟨zD,zD,zD,zD,T⟩ O⟩
      ·refine qM<|oh O O<|zM<|zX O ?_
       exact ⟨by rw [nodeN_g h9 zB c4 zB,hq,kL zB];rfl,O⟩
def ck_typeOf_step (b:Nat) (svL svS svP:Value) (n:Ns) (U S:List nn) (W:List Int) (hn:n.Ok) (e:Ex) (ih:∀a,a∈e.Args->gF a=0->a.wt<=1073741824->Con cfg 249 [vP b,vE a] (ckN b svL svS svP n U S W) fun r μ'=>r=.tup [vTy (bR (tyF n.Bufs) a).1,vI (bR (tyF n.Bufs) a).2]/\μ'=ckN b svL svS svP n U S W) (hpart:gF e=0) (he:e.wt<=1073741824):
    Con cfg 249 [vP b,vE e] (ckN b svL svS svP n U S W) fun r μ'=>r=.tup [vTy (bR (tyF n.Bufs) e).1,vI (bR (tyF n.Bufs) e).2]/\μ'=ckN b svL svS svP n U S W:=by
 refine Con.drop<|zV func249 O ntmps249 results249 O ?_
 intro z hz
 obtain ⟨hLl,hIl,hAl⟩:=e.parts he
 have hwt:=Ex.wt_eq e
 refine Y O<|og O fun b1=>qA O O (qZ O v) ?_
 rintro _ _ ⟨b2,rfl,rfl⟩
 refine oi O<|ol O O<|yP _ (kF 56 5)<|zA<|zF<|Y O<|zC O zAc<|zE zDc (J 2 O) O<|qC O el60<|oi O<|zS<|zW ⟨[(16,.c _),(6,.c _),(0,.c _),(3,.c _),(4,.c _),(14,.c _),(15,.c _)],[_,_,_,_,_,_,_]⟩ (Weak.mk [true,true,true,true,true,true,true] ⟨zD,zD,zD,zD,zD,zD,zD,T⟩ O)<|qG 2 1 O O (Nat×Value) (fun ⟨k,sv⟩=>[(16,vI k),(6,.c (.lit sv))]) (fun ⟨k,sv⟩=>[E.vec sv 56 5 ((bJ (tyF n.Bufs) (e.Args.take k)).1.map tyC)]) (fun ⟨k,sv⟩=>k<=e.Args.length/\((bJ (tyF n.Bufs) (e.Args.take k)).2=0)) (fun ⟨k,sv⟩=>e.Args.length-k) ⟨⟨0,(.slice none 0 0)⟩,⟨zB,O⟩,Weak.mk [true,true,true,true,true,true,true] ⟨zD,zD,zD,zD,zD,zD,zD,T⟩ O⟩ ?_
 rintro ⟨k,sv⟩ ⟨hk,hp⟩
 show AWP _ _ _ _ _ ⟨[(16,vI k),(6,.c (.lit sv))]++_,[E.vec sv 56 5 ((bJ (tyF n.Bufs) (e.Args.take k)).1.map tyC)]++_⟩
 refine Y O<|yC O<|zA<|zF<|zK O ?_ ?_<;>intro c1<;>try simp only [sx] at c1
 ·obtain ⟨x,hx⟩:=qX e.Args k zB
  have hll:=zHf _ _ hp
  refine zH<|zF<|zS<|Y O<|qE O el60 zB (zJz uC)<|zN yZ qF O<|qA O O (qI nr O zr62 O) ?_
  rintro _ _ ⟨b4,rfl,rfl⟩
  refine rStR 0 sz62 O<|zA<|ol O O<|zN yZ (J 0 O) O<|zT O (yU [4,4,4,4] O uB (ih x (qD hx) (zPg hpart (qD hx)) (by have:=Ex.arg_wt (qD hx);omega)) (vlr O) O)<|qW O<|zT O (yD O O O)<|yF O<|qA O O (qZ O v) ?_
  rintro _ _ ⟨b5,rfl,rfl⟩
  refine rStR 0 N O<|oi O<|zF<|ol O O<|yM O<|zA<|zK O ?_ ?_<;>intro c2<;>try simp only [sx] at c2
  ·refine Y O<|zN yE (J 0 O) O<|G O<|rStR 3 N O<|oi O<|zW _ (Weak.mem [false,false,false,true,false,true,true,true,true] O)<|zM<|fin2 (zZ yE O (J 0 O) O) (rs_c O) ?_
   exact ⟨by rw [nodeT_no hx hp c2,nodeT_zero c2];rfl,[_],O⟩
  ·refine zH<|zP O<|G O<|zN yE (J 0 O) O<|yY O wS v<|qA O O (yB 2 O wS O O O (by simp only [lLm,lLc,lLn,hll,aq];omega) (by simp only [lLm,lLc,lLn,hll,aq];omega)) ?_
   rintro _ _ ⟨sv6,rfl,rfl⟩
   refine oi O<|zP O<|qH O ⟨zB,zB⟩<|G O<|zA ?_
   refine ⟨⟨k+1,sv6⟩,⟨zB,by rw [zGs hx hp c2]⟩,(by show e.Args.length-(k+1)<e.Args.length-k;omega),Weak.mk [false,false,true,true,true,true,true,true,true] ⟨zD,zD,zD,zD,zD,zD,zD,T⟩ (by show _=[E.vec sv6 _ 5 ((bJ (tyF n.Bufs) (e.Args.take (k+1))).1.map tyC)]++_;rw [zGs hx hp c2];simp only [ah];rfl)⟩
 ·have hll:=zHf _ _ hp
  have hta:e.Args.take k=e.Args:=yI zB
  rw [hta] at hll
  have hg:∀i,i<e.Args.length->((bJ (tyF n.Bufs) (e.Args.take k)).1.map tyC)[i]? =some (tyC (dP (bJ (tyF n.Bufs) (e.Args.take k)).1 i)):=fun i hi=>zTs (by rw [hta];omega)
  have hgn:∀i:Nat,1<=i->i<=e.Args.length->∀j:Int,j=(((bJ (tyF n.Bufs) (e.Args.take k)).1.length:Int)-i)->((bJ (tyF n.Bufs) (e.Args.take k)).1.map tyC)[j.toNat]? =some (tyC (dP (bJ (tyF n.Bufs) (e.Args.take k)).1 ((bJ (tyF n.Bufs) (e.Args.take k)).1.length-i))):=fun i h1 h2 j hj=>by rw [hta] at *;rw [show j.toNat=(bJ (tyF n.Bufs) e.Args).1.length-i by omega];exact zTs zB
  have hT:bR (tyF n.Bufs) e=tyF n.Bufs e (bJ (tyF n.Bufs) (e.Args.take k)).1:=nodeT_ok hta hp
  have hlk:(bJ (tyF n.Bufs) (e.Args.take k)).1.length=e.Args.length:=by rw [hta];exact hll
  refine qM<|zF<|Y O<|zC O wH<|zE one3 (J 2 O) O<|zA<|zS<|zF<|Y O<|yT O<|oi O<|qO O (fun c3=>?_) (fun c3=>?_)
  ·refine zH<|zK O ?_ ?_<;>intro c4<;>try simp only [sx] at c4
   ·refine Y O<|zC O zGl<|zN yE (J 2 O) O<|rStR 1 N O<|oi O<|zW _ (Weak.mem [false,true,false,true,true,true,true] O)<|zM<|fin2 (zZ yE O (J 0 O) O) (rs_c O) ?_
    exact w6
   ·refine Y O<|yT O<|oi O<|qO O (fun c5=>?_) (fun c5=>?_)
    ·exact r3
    ·refine Y O<|yT O<|oi O<|qO O (fun c6=>?_) (fun c6=>?_)
     ·refine zF<|yS 12 1 [⟨0,.q []⟩,⟨1,.q []⟩,⟨2,.q []⟩,⟨3,.q [4]⟩,⟨4,.q []⟩,⟨5,.q [3]⟩,⟨6,.q []⟩,⟨7,.q []⟩,⟨8,.q []⟩,⟨9,.q []⟩,⟨10,.e 0 []⟩,⟨11,.e 0 []⟩] mixed uB uB O O O<|zR O<|zR O<|zR O<|zR O<|zR O<|zR O<|zR O<|zR O<|zR O<|zR O<|zR O<|zR O<|wQ<|om O (zQ O O)<|om O (qS O O)<|om O (zG O zSb O)<|om O (qB O zLb O (J 0 O) O)<|om O (zG O zIa O)<|om O (zJ O one9 O (J 0 O) O)<|om O (qP O uB (zBu n e.Name hn) (vlr O))<|om O (yW O O)<|om O (yD O O O)<|om O (kM O O O)<|zEm O O uA O O (qI nu O zr66 O) ?_
      rintro _ _ ⟨b7,rfl,rfl⟩
      exact v20
     ·exact o6
  ·refine zP O<|yT O<|oi O<|qO O (fun c4=>?_) (fun c4=>?_)
   ·refine Y O<|zC O zGl<|zN yE (J 2 O) O<|rStR 1 N O<|oi O<|zW _ (Weak.mem [false,true,false,true,true,true,true] O)<|zM<|fin2 (zZ yE O (J 0 O) O) (rs_c O) ?_
    exact w6
   ·refine Y O<|yT O<|oi O<|qO O (fun c5=>?_) (fun c5=>?_)
    ·exact r3
    ·refine Y O<|yT O<|oi O<|qO O (fun c6=>?_) (fun c6=>?_)
     ·refine zF<|yS 12 1 [⟨0,.q []⟩,⟨1,.q []⟩,⟨2,.q []⟩,⟨3,.q [4]⟩,⟨4,.q []⟩,⟨5,.q [3]⟩,⟨6,.q []⟩,⟨7,.q []⟩,⟨8,.q []⟩,⟨9,.q []⟩,⟨10,.e 0 []⟩,⟨11,.e 0 []⟩] mixed uB uB O O O<|zR O<|zR O<|zR O<|zR O<|zR O<|zR O<|zR O<|zR O<|zR O<|zR O<|zR O<|zR O<|wQ<|om O (zQ O O)<|om O (qS O O)<|om O (zG O zSb O)<|om O (qB O zLb O (J 0 O) O)<|om O (zG O zIa O)<|om O (zJ O one9 O (J 0 O) O)<|om O (qP O uB (zBu n e.Name hn) (vlr O))<|om O (yW O O)<|om O (yD O O O)<|om O (kM O O O)<|zEm O O uA O O (qI nu O zr66 O) ?_
      rintro _ _ ⟨b8,rfl,rfl⟩
      exact v20
     ·exact o6
def ck_typeOf (b:Nat) (svL svS svP:Value) (n:Ns) (U S:List nn) (W:List Int)  (e:Ex) (hn:n.Ok) (hpart:gF e=0) (he:e.wt<=1073741824):Con cfg 249 [vP b,vE e] (ckN b svL svS svP n U S W) fun r μ'=>r=.tup [vTy (bR (tyF n.Bufs) e).1,vI (bR (tyF n.Bufs) e).2]/\μ'=ckN b svL svS svP n U S W:=by
  induction e using Ex.ind with
  |_ e ih=>exact ck_typeOf_step b svL svS svP n U S W hn e (fun a ha h1 h2=>ih a ha h1 h2) hpart he
def zKi (b:Nat) (svL svS svP:Value) (n:Ns) (U S:List nn) (W:List Int) (e:Ex) (hn:n.Ok) (hS:S.length<=1000000) (he:e.wt<=1000000000):
    Con cfg 210 [vP b,vE e] (ckN b svL svS svP n U S W) fun r μ'=>r=.tup [vTy (fZ n.Bufs S e).1,vI (fZ n.Bufs S e).2]/\μ'=ckN b svL svS svP n U S W:=by
 refine Con.drop<|zV func210 O ntmps210 results210 O fun z hz=>Y O<|og O fun b1=>yP _ (kN 0 O 2 _ PLe.ptr)<|og O fun b2=>qA O O (qZ O v) ?_
 rintro _ _ ⟨b3,rfl,rfl⟩
 refine qA O O (qZ O zr34) ?_
 rintro _ _ ⟨b4,rfl,rfl⟩
 refine zA<|zF<|Y O<|zN yZ (J 2 O) O<|qL O uB (zQa e zB) (vlr O)<|oi O<|ol O O<|yM O<|zA<|zK O ?_ ?_<;>intro c1<;>try simp only [sx] at c1
 ·refine Y O<|yJ O v pl56<|G O<|rStR 1 N O<|rStR 0 sz34 O<|zA<|zW _ (Weak.mem [true,true,false,true,true,true,true] O)<|zM<|fin2 (zZ yE O (J 1 O) O) (wZ zPk O (J 0 O) O) ?_
  exact ⟨by rw [exprT_1 c1];rfl,[_,_],O⟩
 ·refine zH<|zF<|Y O<|zN yZ (J 2 O) O<|qL O uB (zXl _) (vlr O)<|zA<|zS<|zKl (ps:=[17]) hz 2 O O uB (zUx e zB) (fun _ _=>O) O (fun pre=>gA n.Bufs S pre=0) (fun pre=>[E.row b4 34 [cI 0],E.row b3 56 [cI 0,cI 0,cI 0,cI 0,cI 0]]) (fun c pre=>(c=.ret/\¬gA n.Bufs S pre=0)) (fun c pre=>[E.row b4 34 [cI (gA n.Bufs S pre)],E.row b3 56 [cI 0,cI 0,cI 0,cI 0,cI 0]]) ⟨O,O⟩ ?_ ?_ ?_ ?_
  ·intro pre x suf hxs hi z hz
   have hxw:x.wt<=e.wt:=zJs e x (by rw [hxs];simp)
   refine zP O<|qA O O (qI nr O zr62 O) ?_
   rintro _ _ ⟨b5,rfl,rfl⟩
   refine rStR 0 sz62 O<|zA ?_
   intro z hz
   refine zS<|Y O<|zE zSq qF O<|zN yZ (J 0 O) O<|zT O (yU [4,4,4,4] O uB (ck_node b svL svS svP n U S W x hn hS zB) (vlr O) O)<|oi O<|ol O O<|yM O<|zA<|zK O ?_ ?_<;>intro c2<;>try simp only [sx] at c2
   ·refine Y O<|yJ O v pl56<|G O<|rStR 2 N O<|rStR 1 sz34 O<|zA<|zM ?_
    exact zFy (τ:=⟨[],_⟩) (Weak.mk [false,true,true,true,true,true,true,true] T O) ⟨⟨O,by rw [zRp hi];exact c2⟩,(by dsimp only;rw [zRp hi];rfl)⟩
   ·refine zH ?_
    exact zFy (τ:=⟨[],_⟩) (Weak.mk [false,true,true,true,true,true,true,true] T O) ⟨(by dsimp only;rw [zRp hi];exact c2),O⟩
  ·intro hd
   refine Y O<|zE zSq qF O<|zN yZ (J 2 O) O<|zT O (yU [3,3,3,3] O uB (ck_typeOf b svL svS svP n U S W e hn (zFc c1) zB) (vlr O) O)<|zT O (yD O O O)<|yF O<|rStR 1 N O<|rStR 0 sz34 O<|zA<|zW _ (Weak.mem [true,true,false,true,true,true,true] O)<|zM<|fin2 (zZ yE O (J 1 O) O) (wZ zPk O (J 0 O) O) ?_
   exact ⟨by rw [exprT_3 c1 hd];rfl,[_,_],O⟩
  ·rintro pre x suf hxs hx
   rcases hx with ⟨hc,hx⟩
   clear hc
   repeat (first|refine zVc ?_|refine zSl ?_)
   refine fin2 (zZ yE O (J 1 O) O) (wZ zPk O (J 0 O) O) ?_
   exact ⟨by rw [exprT_2 c1 (by rw [hxs,nodesN_pre hx];exact hx),hxs,nodesN_pre (suf:=suf) hx];rfl,[_,_,_],O⟩
  ·rintro i pre x suf hxs hx
   rcases hx with ⟨hc,hx⟩
   cases hc
def ck_store (b:Nat) (svL svS svP:Value) (n:Ns) (U S:List nn) (W:List Int) (s:St) (hn:n.Ok) (hS:S.length<=1000000) (hs:s.wt<=900000000):
    Con cfg 211 [vP b,vSt s] (ckN b svL svS svP n U S W) fun r μ'=>r=vI (mH n.Bufs S s)/\μ'=ckN b svL svS svP n U S W:=by
 refine zV func211 O ntmps211 results211 O ?_
 intro z hz
 obtain ⟨hE,hI,hIw,hB,hBw⟩:=St.parts hs
 have hrd:=rdE_wt s
 refine Y O<|og O fun b1=>oi O<|ol O O<|zC O zIy<|zE one9 (J 0 O) O<|zC O zSx<|zE wX (J 0 O) O<|yQ nz O zr62 pl62<|zT O (yU [1,1,1,1] O uB (zKi b svL svS svP n U S W (rdE s) hn hS zB) (vlr O) O)<|qW O<|zT O (yD O O O)<|yF O<|qA O O (qZ O v) ?_
 rintro _ _ ⟨b2,rfl,rfl⟩
 refine rStR 0 N O<|oi O<|zF<|ol O O<|yM O<|zA<|zK O ?_ ?_<;>intro c1<;>try simp only [sx] at c1
 ·refine ol O O<|oi O<|zW _ (Weak.mem [false,false,true,true,true,true] O)<|zM<|zX O ?_
  exact ⟨by rw [storeE_1 c1],O⟩
 ·have hT:=exprT_rd c1
  refine zH<|zF<|zF<|yS 12 1 [⟨0,.q []⟩,⟨1,.q []⟩,⟨2,.q []⟩,⟨3,.q [3]⟩,⟨4,.q []⟩,⟨5,.q [2]⟩,⟨6,.q []⟩,⟨7,.q []⟩,⟨8,.q []⟩,⟨9,.q []⟩,⟨10,.e 0 []⟩,⟨11,.e 0 []⟩] mixed uB uB O O O<|zR O<|zR O<|zR O<|zR O<|zR O<|zR O<|zR O<|zR O<|zR O<|zR O<|zR O<|zR O<|wQ<|om O (zQ O O)<|om O (qS O O)<|om O (zG O zSb O)<|om O (qB O zLb O (J 0 O) O)<|om O (zG O zIy O)<|om O (zJ O one9 O (J 0 O) O)<|om O (qP O uB (zBu n s.Name hn) (vlr O))<|om O (yW O O)<|om O (yD O O O)<|om O (kM O O O)<|zEm O O uA O O (qI nu O zr66 O) ?_
  rintro _ _ ⟨b3,rfl,rfl⟩
  refine ⟨_,O,?_⟩
  refine zCk O O uA O O (yO O sz66 O O O (zBo 0 O O)) ?_
  rintro _ _ ⟨rfl,rfl⟩
  refine ⟨_,O,?_⟩
  refine wP O<|oi O<|Y O<|zC O fd66_3<|zE one3 (J 0 O) O<|yT O<|zA<|qO O (fun c2=>?_) (fun c2=>?_)
  ·refine oh O O<|zW _ (Weak.mem [false,false,false,true,true,true,true] O)<|zM<|zX O ?_
   exact ⟨by rw [storeE_u c1 (.inl c2)],O⟩
  ·refine zH<|zF<|Y O<|zC O zIz<|zE one3 (J 2 O) O<|yT O<|G O<|rL0 O (fun g7_3=>zG O zXc O) O<|rL1 40 O (fun g7_3=>zJ O one3 O (J 2 O) O) O<|rL1 41 O (fun g7_3=>zAz O O O) O<|rL1 42 O (fun g7_3=>zQ O O) O<|rLz [] O gv2 T (fun g7_7=>zG O zXc O) O<|rLz [(44,_)] O gv2 ⟨O,O,T⟩ (fun g7_7=>zJ O one3 O (J 2 O) O) O<|rLz [(45,_)] O gv2 ⟨O,O,T⟩ (fun g7_7=>yN O O O) O<|rL1 43 O (fun g7_3=>zCo O O O O (fun h=>kR uC (lzf h))) O<|kH O (fun h=>h)<|zA<|zK O ?_ ?_<;>intro c3<;>try simp only [sx] at c3
   ·refine oh O O<|zW _ (Weak.mem [false,false,false,true,true,true,true] O)<|zM<|zX O ?_
    exact ⟨by rw [storeE_u c1 (.inr c3)],O⟩
   ·refine zH<|ol O O<|zC O zGk<|zN yZ (J 2 O) O<|zT O (yU [3,3,3,3] O uB (zKi b svL svS svP n U S W s.E hn hS zB) (vlr O) O)<|qW O<|zT O (yD O O O)<|yF O<|qA O O (qZ O v) ?_
    rintro _ _ ⟨b4,rfl,rfl⟩
    refine rStR 0 N O<|oi O<|zF<|ol O O<|yM O<|zA<|zK O ?_ ?_<;>intro c4<;>try simp only [sx] at c4
    ·refine ol O O<|oi O<|zW _ (Weak.mem [false,false,false,false,true,true,true,true] O)<|zM<|zX O ?_
     exact ⟨by rw [storeE_2 c1 zB c4],O⟩
    ·refine zH<|zF<|Y O<|zC O zGk<|zN yZ (J 3 O) O<|qL O uB (wM s.E) (vlr O)<|G O<|rL0 O (fun g12_3=>qB O yE O (J 0 O) O) O<|rL0 O (fun g12_3=>qB O yE O (J 2 O) O) O<|rLz [(63,_),(64,_)] O gv1 ⟨O,O,O,O,T⟩ (fun g12_3=>zBg O fl56 O O O) O<|r_or O (fun h=>(lzf h))<|zA<|zK O (fun c5=>?_) (fun c5=>?_)
     ·have h10:=st10_t c5
      rw [hT] at h10
      refine oh O O<|zW _ (Weak.mem [false,false,false,false,true,true,true,true] O)<|zM<|zX O ?_
      exact ⟨by rw [storeE_10 c1 zB c4 h10],O⟩
     ·have h10:=st10_f c5
      rw [hT] at h10
      refine zH<|oh O O<|zW _ (Weak.mem [false,false,false,false,true,true,true,true] O)<|zM<|zX O ?_
      exact ⟨by rw [storeE_0 c1 zB c4 h10],O⟩
def ck_loop (b:Nat) (svL svS svP:Value) (n:Ns) (U S:List nn) (W:List Int) (s:St) (hn:n.Ok) (hU:U.length<=1000000):
    Con cfg 209 [vP b,vSt s] (ckN b svL svS svP n U S W) fun r μ'=>r=vI (pY n.Bufs U s)/\μ'=ckN b svL svS svP n U S W:=by
 refine zV func209 O ntmps209 results209 O fun z hz=>Y O<|og O fun b1=>oi O<|zF<|Y O<|zC O zIy<|zE one9 (J 0 O) O<|qL O uB (zCw _) (vlr O)<|kU O<|zA<|zK O ?_ ?_<;>intro c1<;>try simp only [sx] at c1
 ·refine oh O O<|zW _ (Weak.mem [false,true,true,true,true] O)<|zM<|zX O ?_
  exact ⟨by rw [loopE_7 c1],O⟩
 ·refine zH<|zF<|zF<|yS 12 1 [⟨0,.q []⟩,⟨1,.q []⟩,⟨2,.q []⟩,⟨3,.q [2]⟩,⟨4,.q []⟩,⟨5,.q [1]⟩,⟨6,.q []⟩,⟨7,.q []⟩,⟨8,.q []⟩,⟨9,.q []⟩,⟨10,.e 0 []⟩,⟨11,.e 0 []⟩] mixed uB uB O O O<|zR O<|zR O<|zR O<|zR O<|zR O<|zR O<|zR O<|zR O<|zR O<|zR O<|zR O<|zR O<|wQ<|om O (zQ O O)<|om O (qS O O)<|om O (zG O zSb O)<|om O (qB O zLb O (J 0 O) O)<|om O (zG O zIy O)<|om O (zJ O one9 O (J 0 O) O)<|om O (qP O uB (zBu n s.Name hn) (vlr O))<|om O (yW O O)<|om O (yD O O O)<|om O (kM O O O)<|zEm O O uA O O (qI nu O zr66 O) ?_
  rintro _ _ ⟨b2,rfl,rfl⟩
  refine ⟨_,O,?_⟩
  refine zCk O O uA O O (yO O sz66 O O O (zBo 0 O O)) ?_
  rintro _ _ ⟨rfl,rfl⟩
  refine ⟨_,O,?_⟩
  refine wP O<|oi O<|zF<|yH 10 mixed uB O O<|oo O (zQ O O)<|oo O (zQ O O)<|qU [] O O O O gv1 T (fun g4_1=>zQ O O) O<|qU [(23,_)] O O O O gv1 ⟨O,O,T⟩ (fun g4_1=>qS O O) O<|qU [(24,_)] O O O O gv1 ⟨O,O,T⟩ (fun g4_1=>zG O fd172_1 O) O<|qU [(25,_)] O O O O gv1 ⟨O,O,T⟩ (fun g4_1=>zJ O zBp O (J 2 O) O) O<|qU [] O O O O gv1 T (fun g4_1=>zG O zIy O) O<|qU [(27,_)] O O O O gv1 ⟨O,O,T⟩ (fun g4_1=>zJ O one9 O (J 1 O) O) O<|qU [(26,_),(28,_)] O O O O gv1 ⟨O,O,O,O,T⟩ (fun g4_1=>zCg 3 O uB O (zAv U s.Name zB) O ⟨.inl ⟨O,O⟩,.inr ⟨zD,O⟩,T⟩) O<|oo O (zCo O O O O (fun h=>(lzf h)))<|kE<|zA<|zK O ?_ ?_<;>intro c2<;>try simp only [sx] at c2
  ·refine oh O O<|zW _ (Weak.mem [false,false,true,true,true,true] O)<|zM<|zX O ?_
   exact ⟨by rw [loopE_8 c1 c2],O⟩
  ·have h8:¬(gN n.Bufs s.Name=true∨bQ U s.Name=true):=by rw [c2.1,c2.2];simp
   refine zH<|zF<|Y O<|zC O fd64_2<|zE one3 (J 1 O) O<|yC O<|G O<|rL0 O (fun g6_3=>zG O fd64_2 O) O<|rL1 35 O (fun g6_3=>zJ O one3 O (J 1 O) O) O<|rL1 36 O (fun g6_3=>yN O O O) O<|r_or O (fun h=>(lzf h))<|G O<|rL0 O (fun g6_8=>zG O fd64_3 O) O<|rL1 40 O (fun g6_8=>zJ O one3 O (J 1 O) O) O<|rL1 41 O (fun g6_8=>zAz O O O) O<|r_or O (fun h=>(lzf h))<|G O<|rL0 O (fun g6_13=>zG O fd64_3 O) O<|rL1 45 O (fun g6_13=>zJ O one3 O (J 1 O) O) O<|rL1 46 O (fun g6_13=>yN O O O) O<|r_or O (fun h=>(lzf h))<|zA<|zK O ?_ ?_<;>intro c3<;>try simp only [sx] at c3
   ·refine oh O O<|zW _ (Weak.mem [false,false,true,true,true,true] O)<|zM<|zX O ?_
    exact ⟨by rw [loopE_1 c1 h8 zB],O⟩
   ·refine zH<|oh O O<|zW _ (Weak.mem [false,false,true,true,true,true] O)<|zM<|zX O ?_
    exact ⟨by rw [loopE_0 c1 h8 zB],O⟩
def zWp (e:Ex) (he:e.wt<=4294967296):
    Pur cfg 246 [vE e] (vB (xF e)):=by
 refine zV func246 O ntmps246 results246 O fun z hz=>Y O<|og O fun b1=>oi O<|Y O<|zN yZ (J 0 O) O<|yQ nr O zr62 pl62<|qL O uB (expr_Same e zEx he uA) (vlr O)<|oi O<|zM<|zX O ?_
 exact O
def zWo (s:St) (hs:s.wt<=900000000):
    Pur cfg 208 [vSt s] (vB (lK s)):=by
 refine zV func208 O ntmps208 results208 O ?_
 intro z hz
 obtain ⟨hE,hI,hIw,hB,hBw⟩:=St.parts hs
 refine Y O<|og O fun b1=>oi O<|zF<|yH 17 mixed uB O O<|oo O (zG O zIz O)<|oo O (zJ O one3 O (J 0 O) O)<|oo O (yX O O O)<|oo O (zG O zIz O)<|oo O (zJ O one3 O (J 0 O) O)<|oo O (yX O O O)<|oo O (zQ O O)<|qU [] O O O O gv1 T (fun g1_6=>zG O zIz O) O<|qU [(13,_)] O O O O gv1 ⟨O,O,T⟩ (fun g1_6=>zJ O one3 O (J 0 O) O) O<|qU [(14,_)] O O O O gv1 ⟨O,O,T⟩ (fun g1_6=>yX O O O) O<|oo O (zCo O O O O (fun h=>(lzf h)))<|oo O (zG O zIz O)<|oo O (zJ O one3 O (J 0 O) O)<|oo O (yX O O O)<|oo O (yR O O)<|oo O (yR O O)<|oo O (yR O O)<|kE<|zA<|zF<|zS<|ol O O<|kU O<|G O<|rL0 O (fun g2_2=>zQ O O) O<|rL1 24 O (fun g2_2=>wV O O) O<|kH O (fun h=>h)<|G O<|rL0 O (fun g2_6=>zQ O O) O<|rL1 28 O (fun g2_6=>wV O O) O<|kH O (fun h=>h)<|oi O<|zK O (fun c1=>?_) (fun c1=>?_)
 ·refine oh O O<|zM<|zX O ?_
  exact ai vB (syn_1 c1)
 ·refine ol O O<|G O<|rL0 O (fun g4_1=>zG O zIy O) O<|rL1 34 O (fun g4_1=>zJ O one9 O (J 0 O) O) O<|rL1 35 O (fun g4_1=>zIe O O O) O<|kH O (fun h=>h)<|oi O<|zK O (fun c2=>?_) (fun c2=>?_)
  ·refine oh O O<|zM<|zX O ?_
   exact ai vB (syn_2 c2)
  ·refine ol O O<|kU O<|G O<|rL0 O (fun g6_2=>zG O fd64_2 O) O<|rL1 42 O (fun g6_2=>zJ O one3 O (J 0 O) O) O<|rL1 43 O (fun g6_2=>wW O O O) O<|rL1 44 O (fun g6_2=>zQ O O) O<|rLz [] O gv2 T (fun g6_6=>zG O fd64_3 O) O<|rLz [(46,_)] O gv2 ⟨O,O,T⟩ (fun g6_6=>zJ O one3 O (J 0 O) O) O<|rLz [(47,_)] O gv2 ⟨O,O,T⟩ (fun g6_6=>wW O O O) O<|rL1 45 O (fun g6_2=>zCo O O O O (fun h=>kR uC (lzf h))) O<|kH O (fun h=>h)<|oi O<|zK O (fun c3=>?_) (fun c3=>?_)
   ·refine oh O O<|zM<|zX O ?_
    exact ai vB (syn_3 c3)
   ·refine Y O<|zC O zIz<|zE one3 (J 0 O) O<|yM O<|G O<|rL0 O (fun g8_3=>zG O zXc O) O<|rL1 56 O (fun g8_3=>zJ O one3 O (J 0 O) O) O<|rL1 57 O (fun g8_3=>wW O O O) O<|kH O (fun h=>h)<|oi O<|zK O (fun c4=>?_) (fun c4=>?_)
    ·refine oh O O<|zM<|zX O ?_
     exact ai vB (syn_4 c4)
    ·refine ol O O<|kU O<|G O<|rL0 O (fun g10_2=>zG O zSx O) O<|rL1 64 O (fun g10_2=>zJ O wX O (J 0 O) O) O<|rL1 65 O (fun g10_2=>yG O el52 O) O<|rL1 66 O (fun g10_2=>yN O O O) O<|kH O (fun h=>h)<|oi O<|zK O (fun c5=>?_) (fun c5=>?_)
     ·refine oh O O<|zM<|zX O ?_
      exact ai vB (syn_5 c5)
     ·refine ol O O<|G O<|rL0 O (fun g12_1=>zG O zGk O) O<|rL1 72 O (fun g12_1=>qB O yZ O (J 0 O) O) O<|rL1 73 O (fun g12_1=>qP O uB (zWp s.E zB) (vlr O)) O<|rL1 74 O (fun g12_1=>wV O O) O<|kH O (fun h=>h)<|oi O<|zK O (fun c6=>?_) (fun c6=>?_)
      ·refine oh O O<|zM<|zX O ?_
       exact ai vB (syn_6 c6)
      ·refine zH<|ol O O<|kU O<|G O<|rL0 O (fun g14_2=>zG O zGc O) O<|rL1 80 O (fun g14_2=>zJ O zDq O (J 0 O) O) O<|rL1 81 O (fun g14_2=>yG O el33 O) O<|rL1 82 O (fun g14_2=>yX O O O) O<|r_or O (fun h=>(lzf h))<|oi O<|zM<|zX O ?_
       exact ai vB (syn_7 c1 c2 c3 c4 c5 c6)
def ck_statement (b:Nat) (svL svS svP:Value) (n:Ns) (U S:List nn) (W:List Int) (s:St) (hn:n.Ok) (hS:S.length<=1000000) (hU:U.length<=1000000) (hs:s.wt<=900000000):
    Con cfg 169 [vP b,vSt s] (ckN b svL svS svP n U S W) fun r μ'=>r=vI (stE n.Bufs U S s)/\μ'=ckN b svL svS svP n U S W:=by
 refine zV func169 O ntmps169 results169 O ?_
 intro z hz
 obtain ⟨hE,hI,hIw,hB,hBw⟩:=St.parts hs
 refine Y O<|og O fun b1=>oi O<|zF<|Y O<|zN zHt (J 0 O) O<|qL O uB (zWo s hs) (vlr O)<|kU O<|zA<|zK O ?_ ?_<;>intro c1<;>try simp only [sx] at c1
 ·refine oh O O<|zW _ (Weak.mem [false,true,true,true,true] O)<|zM<|zX O ?_
  exact ⟨by rw [stE_5 c1],O⟩
 ·refine zH<|zF<|Y O<|zC O zIz<|zE one3 (J 0 O) O<|zA<|zS<|Y O<|yT O<|oi O<|qO O (fun c2=>?_) (fun c2=>?_)
  ·refine ol O O<|zN zHt (J 0 O) O<|zT O (yU [1,1,1,1] O uB (ck_loop b svL svS svP n U S W s hn hU) (vlr O) O)<|oi O<|zW _ (Weak.mem [false,true,true,true,true] O)<|zM<|zX O ?_
   exact ⟨by rw [stE_l c1 c2],O⟩
  ·refine Y O<|yT O<|oi O<|qO O (fun c3=>?_) (fun c3=>?_)
   ·refine zF<|ol O O<|zC O zGk<|zN yZ (J 0 O) O<|zT O (yU [1,1,1,1] O uB (zKi b svL svS svP n U S W s.E hn hS zB) (vlr O) O)<|qW O<|zT O (yD O O O)<|yF O<|qA O O (qZ O v) ?_
    rintro _ _ ⟨b2,rfl,rfl⟩
    refine rStR 0 N O<|oi O<|ol O O<|yM O<|zA<|zK O ?_ ?_<;>intro c4<;>try simp only [sx] at c4
    ·refine ol O O<|oi O<|zW _ (Weak.mem [false,false,true,true,true,true] O)<|zM<|zX O ?_
     exact ⟨by rw [stE_i c1 c3,ifE_x c4],O⟩
    ·refine zH<|zF<|Y O<|zC O zGk<|zN yZ (J 1 O) O<|qL O uB (wM s.E) (vlr O)<|kU O<|zA<|zK O ?_ ?_<;>intro c5<;>try simp only [sx] at c5
     ·refine oh O O<|zW _ (Weak.mem [false,false,true,true,true,true] O)<|zM<|zX O ?_
      exact ⟨by rw [stE_i c1 c3,ifE_10 c4 c5],O⟩
     ·refine zH<|oh O O<|zW _ (Weak.mem [false,false,true,true,true,true] O)<|zM<|zX O ?_
      exact ⟨by rw [stE_i c1 c3,ifE_0 c4 c5],O⟩
   ·refine zH<|ol O O<|zN zHt (J 0 O) O<|zT O (yU [1,1,1,1] O uB (ck_store b svL svS svP n U S W s hn hS hs) (vlr O) O)<|oi O<|zW _ (Weak.mem [false,true,true,true,true] O)<|zM<|zX O ?_
    exact ⟨by rw [stE_s c1 c2 c3],O⟩
set_option maxHeartbeats 2000000 in
def zIg (b:Nat) (svL svS svP:Value) (n:Ns) (U S:List nn) (W:List Int) (l:List St) (hn:n.Ok) (hU:U.length+gD l<=1000000) (hS:S.length+gD l<=1000000) (hW:W.length+gD l<=1000000) (hl:bS l<=536870912) (ih:∀s,s∈l->∀(svL svS svP:Value) (U S:List nn) (W:List Int),U.length+gD s.Body<=1000000->S.length+gD s.Body<=1000000->W.length+gD s.Body<=1000000->Con cfg 106 [vP b,gJ s.Body] (ckN b svL svS svP n U S W) fun r μ'=>∃svL' svS' svP' U' S' W',r=vI (gP n.Bufs U S W 0 s.Body).E/\((gP n.Bufs U S W 0 s.Body).E=0->U'=(gP n.Bufs U S W 0 s.Body).U/\S'=S/\W'=W)/\(¬(gP n.Bufs U S W 0 s.Body).E=0->W'=(gP n.Bufs U S W 0 s.Body).W)/\μ'=ckN b svL' svS' svP' n U' S' W'):
    Con cfg 106 [vP b,gJ l] (ckN b svL svS svP n U S W) fun r μ'=>∃svL' svS' svP' U' S' W',r=vI (gP n.Bufs U S W 0 l).E/\((gP n.Bufs U S W 0 l).E=0->U'=(gP n.Bufs U S W 0 l).U/\S'=S/\W'=W)/\(¬(gP n.Bufs U S W 0 l).E=0->W'=(gP n.Bufs U S W 0 l).W)/\μ'=ckN b svL' svS' svP' n U' S' W':=by
 refine zV func106 O ntmps106 results106 O ?_
 intro z hz
 have hll:=zCi l
 have hlN:=zHu l
 refine oh O O<|zF<|ol O O<|qC O el33<|oi O<|zS<|zW ⟨[(12,.c _),(0,.c _),(1,.c _),(11,.c _)],[_,_,_,_]⟩ (Weak.mk [true,true,true,true] ⟨zD,zD,zD,zD,T⟩ O)<|qG 1 4 O O (Nat×Value×Value×Value×List nn) (fun ⟨k,vL,vS,vP_,u⟩=>[(12,vI k)]) (fun ⟨k,vL,vS,vP_,u⟩=>[E.row b 172 [.sl 8 (n.Bufs.map Bf.cells),.sl 20 (n.Body.map St.cells),.lit vL,.lit vS,.lit vP_],E.vec vL 9 1 (u.map fun s=>[cS s]),E.vec vS 9 1 (S.map fun s=>[cS s]),E.vec vP_ 3 1 (W.map fun i=>[cI i])]) (fun ⟨k,vL,vS,vP_,u⟩=>k<=l.length/\(u.length+gD (l.drop k)<=1000000)/\((gP n.Bufs U S W 0 l)=gP n.Bufs u S W k (l.drop k))) (fun ⟨k,vL,vS,vP_,u⟩=>l.length-k) ⟨⟨0,svL,svS,svP,U⟩,⟨zB,by simpa using hU,O⟩,Weak.mk [true,true,true,true] ⟨zD,zD,zD,zD,T⟩ O⟩ ?_
 rintro ⟨k,vL,vS,vP_,u⟩ ⟨hk,hub,hp⟩
 show AWP _ _ _ _ _ ⟨[(12,vI k)]++_,[E.row b 172 [.sl 8 (n.Bufs.map Bf.cells),.sl 20 (n.Body.map St.cells),.lit vL,.lit vS,.lit vP_],E.vec vL 9 1 (u.map fun s=>[cS s]),E.vec vS 9 1 (S.map fun s=>[cS s]),E.vec vP_ 3 1 (W.map fun i=>[cI i])]++_⟩
 refine Y O<|yC O<|zA<|zF<|zK O ?_ ?_<;>intro c1<;>try simp only [sx] at c1
 ·obtain ⟨s,hs⟩:=qX l k zB
  have hsw:=zCu (qD hs)
  have hsb:=St.body_wt s
  have hsn:=stsN_drop hs
  have hse:=stN_eq s
  have hsm:=stsN_mem (qD hs)
  have hcl:=chkS_len n.Bufs s u S (W++[(k:Int)])
  refine zH<|zF<|zS<|ol O O<|oi O<|ol O O<|G O<|qE O el33 zB (zGo uC)<|zN zHt qF O<|qA O O (qI nt O zr64 O) ?_
  rintro _ _ ⟨b1,rfl,rfl⟩
  refine rStR 0 sz64 O<|zA<|ol O O<|G O<|zU O<|zC O zKa<|zE one46 (J 1 O) O<|G O<|yY O el46 zr3<|qA O O (yB 4 O el46 O O O uI uI) ?_
  rintro _ _ ⟨sv2,rfl,rfl⟩
  refine zU O<|zC O zKa<|rStR 1 sz46 O<|zA<|zF<|zF<|zW _ (Weak.vecEq 4 O (rows':=(W++[(k:Int)]).map fun i=>[cI i]) (by first|rfl|simp|rw [aB uF]))<|zP O<|G O<|zN zHt (J 0 O) O<|zT O (yU [1,1,1,1] O uB (ck_statement b vL vS _ n u S (W++[(k:Int)]) s hn zB zB zB) (vlr O) O)<|oi O<|ol O O<|yM O<|zA<|zK O ?_ ?_<;>intro c2<;>try simp only [sx] at c2
  ·have hx0:=chkS_no (here:=W++[(k:Int)]) (B:=n.Bufs) (U:=u) (sc:=S) (s:=s) c2
   refine ol O O<|oi O<|zW _ (Weak.mem [false,true,true,true,true] O)<|zM<|zX O ?_
   refine ⟨_,_,_,_,_,_,?_,fun h0=>?_,fun _=>?_,O⟩
   · rw [zKj hs hp (by rw [hx0];exact c2),hx0]
   · rw [zKj hs hp (by rw [hx0];exact c2),hx0] at h0;exact absurd h0 c2
   · rw [zKj hs hp (by rw [hx0];exact c2),hx0]
  ·have hin:=chkS_in (here:=W++[(k:Int)]) (B:=n.Bufs) (U:=u) (sc:=S) (s:=s) c2
   refine zH<|ol O O<|zU O<|zC O zMl<|zE zBp (J 1 O) O<|zT O (kT 3 O el25 O O)<|oi O<|zF<|Y O<|zC O zIz<|zE one3 (J 0 O) O<|yT O<|zA<|qO O (fun c3=>?_) (fun c3=>?_)
   ·rw [nextU_yes c3,nextU_yes c3] at hin
    refine zF<|yS 9 0 [⟨0,.q []⟩,⟨1,.q []⟩,⟨2,.q []⟩,⟨3,.q []⟩,⟨4,.q [1]⟩,⟨5,.q []⟩,⟨6,.q [0]⟩,⟨7,.q []⟩,⟨8,.e 2 []⟩] mixed uB uB O O O<|zR O<|zR O<|zR O<|zR O<|zR O<|zR O<|zR O<|zR O<|zR O<|wQ<|om O (zQ O O)<|om O (zQ O O)<|om O (qS O O)<|om O (zG O fd172_1 O)<|om O (zJ O zBp O (J 0 O) O)<|om O (zG O zIy O)<|om O (zJ O one9 O (J 0 O) O)<|om O (kW O el25 zr9 O O O O)<|zEm O O uA O O (yB 0 O el25 O O O uI uI) ?_
    rintro _ _ ⟨sv3,rfl,rfl⟩
    refine ⟨_,O,?_⟩
    refine wP O<|zU O<|zC O fd172_1<|rStR 1 sz25 O<|zA<|zW _ (Weak.vecEq 2 O (rows':=(u++[s.Name]).map fun s=>[cS s]) (by first|rfl|simp|rw [aB uF]))<|yS 9 0 [⟨0,.q []⟩,⟨1,.q []⟩,⟨2,.q []⟩,⟨3,.q []⟩,⟨4,.q [1]⟩,⟨5,.q []⟩,⟨6,.q [0]⟩,⟨7,.q []⟩,⟨8,.e 3 []⟩] mixed uB uB O O O<|zR O<|zR O<|zR O<|zR O<|zR O<|zR O<|zR O<|zR O<|zR O<|wQ<|om O (zQ O O)<|om O (zQ O O)<|om O (qS O O)<|om O (zG O zMl O)<|om O (zJ O zBp O (J 0 O) O)<|om O (zG O zIy O)<|om O (zJ O one9 O (J 0 O) O)<|om O (kW O el25 zr9 O O O O)<|zEm O O uA O O (yB 0 O el25 O O O uI uI) ?_
    rintro _ _ ⟨sv4,rfl,rfl⟩
    refine ⟨_,O,?_⟩
    refine wP O<|zU O<|zC O zMl<|rStR 1 sz25 O<|zA<|zF<|zF<|zW _ (Weak.vecEq 3 O (rows':=(S++[s.Name]).map fun s=>[cS s]) (by first|rfl|simp|rw [aB uF]))<|zW ⟨_,E.row _ _ _::ckN b _ _ _ n (u++[s.Name]) (S++[s.Name]) (W++[(k:Int)])⟩ (Weak.mem [true,true,true,true,true] O)<|zP O<|G O<|zC O zGc<|zE zDq (J 0 O) O<|qA O O (zLr [1,1,1,1] O uB (ih s (qD hs) _ _ _ (u++[s.Name]) (S++[s.Name]) (W++[(k:Int)]) (by first|omega|(simp;omega)) (by first|omega|(simp;omega)) uD) (vlr O) O) ?_
    rintro _ _ ⟨_,⟨svL1,svS1,svP1,U1,S1,W1,rfl,hok,hno,rfl⟩,rfl⟩
    refine oi O<|ol O O<|yM O<|zA<|zK O (fun c4=>?_) (fun c4=>?_)
    ·exact v28
    ·try simp only [sx] at c4
     rw [←hin] at c4 hok
     obtain ⟨hU1,hS1,hW1⟩:=hok c4
     have hS2:=hS1.symm
     subst hU1 hS2 hW1
     refine zH<|ol O O<|G O<|zU O<|zC O zMl<|zE zBp (J 1 O) O<|G O<|qA O O (zJq (k:=S.length) 3 O el25 O O O uF uF) ?_
     rintro _ _ ⟨sv5,rfl,rfl⟩
     refine zU O<|zC O zMl<|rStR 1 sz25 O<|zA<|zW _ (Weak.vecEq 3 O (rows':=S.map fun s=>[cS s]) (by first|rfl|simp|rw [aB uF]))<|yS 12 0 [⟨0,.q []⟩,⟨1,.q []⟩,⟨2,.q []⟩,⟨3,.q []⟩,⟨4,.q [1]⟩,⟨5,.q []⟩,⟨6,.q []⟩,⟨7,.q []⟩,⟨8,.q [1]⟩,⟨9,.q [4]⟩,⟨10,.q []⟩,⟨11,.e 4 []⟩] mixed uB uB O O O<|zR O<|zR O<|zR O<|zR O<|zR O<|zR O<|zR O<|zR O<|zR O<|zR O<|zR O<|zR O<|wQ<|om O (zQ O O)<|om O (zQ O O)<|om O (qS O O)<|om O (zG O zKa O)<|om O (zJ O one46 O (J 0 O) O)<|om O (zQ O O)<|om O (qS O O)<|om O (zG O zKa O)<|om O (zJ O one46 O (J 0 O) O)<|om O (kT 0 O el46 O O)<|om O (yL O O O (by simp only [lLm,lLa,lLc,lLn];exact ⟨zB,zB⟩))<|zEm O O uA O O (zJq (k:=W.length) 0 O el46 O O O uI uF) ?_
     rintro _ _ ⟨sv6,rfl,rfl⟩
     exact j7
   ·rw [nextU_no c3,nextU_no c3] at hin
    refine zH<|zF<|zF<|zW ⟨_,E.row _ _ _::ckN b _ _ _ n u S (W++[(k:Int)])⟩ (Weak.mem [true,true,true,true,true] O)<|zP O<|G O<|zC O zGc<|zE zDq (J 0 O) O<|qA O O (zLr [1,1,1,1] O uB (ih s (qD hs) _ _ _ u S (W++[(k:Int)]) (by first|omega|(simp;omega)) (by first|omega|(simp;omega)) uD) (vlr O) O) ?_
    rintro _ _ ⟨_,⟨svL1,svS1,svP1,U1,S1,W1,rfl,hok,hno,rfl⟩,rfl⟩
    refine oi O<|ol O O<|yM O<|zA<|zK O (fun c4=>?_) (fun c4=>?_)
    ·exact v28
    ·try simp only [sx] at c4
     rw [←hin] at c4 hok
     obtain ⟨hU1,hS1,hW1⟩:=hok c4
     have hS2:=hS1.symm
     subst hU1 hS2 hW1
     refine zH<|ol O O<|G O<|zU O<|zC O zMl<|zE zBp (J 1 O) O<|G O<|qA O O (zJq (k:=S.length) 3 O el25 O O O uF uF) ?_
     rintro _ _ ⟨sv7,rfl,rfl⟩
     refine zU O<|zC O zMl<|rStR 1 sz25 O<|zA<|zW _ (Weak.vecEq 3 O (rows':=S.map fun s=>[cS s]) (by first|rfl|simp|rw [aB uF]))<|yS 12 0 [⟨0,.q []⟩,⟨1,.q []⟩,⟨2,.q []⟩,⟨3,.q []⟩,⟨4,.q [1]⟩,⟨5,.q []⟩,⟨6,.q []⟩,⟨7,.q []⟩,⟨8,.q [1]⟩,⟨9,.q [4]⟩,⟨10,.q []⟩,⟨11,.e 4 []⟩] mixed uB uB O O O<|zR O<|zR O<|zR O<|zR O<|zR O<|zR O<|zR O<|zR O<|zR O<|zR O<|zR O<|zR O<|wQ<|om O (zQ O O)<|om O (zQ O O)<|om O (qS O O)<|om O (zG O zKa O)<|om O (zJ O one46 O (J 0 O) O)<|om O (zQ O O)<|om O (qS O O)<|om O (zG O zKa O)<|om O (zJ O one46 O (J 0 O) O)<|om O (kT 0 O el46 O O)<|om O (yL O O O (by simp only [lLm,lLa,lLc,lLn];exact ⟨zB,zB⟩))<|zEm O O uA O O (zJq (k:=W.length) 0 O el46 O O O uI uF) ?_
     rintro _ _ ⟨sv8,rfl,rfl⟩
     exact j7
 ·refine qM<|oh O O<|zM<|zX O ?_
  refine ⟨_,_,_,_,_,_,?_,fun _=>⟨?_,O,O⟩,fun h0=>?_,O⟩
  · rw [chkL_end hp zB]
  · rw [chkL_end hp zB]
  · rw [chkL_end hp zB] at h0;exact absurd rfl h0
def zQi (b:Nat) (n:Ns) (hn:n.Ok) (s:St) (hl:bS s.Body<=536870912):∀(svL svS svP:Value) (U S:List nn) (W:List Int),U.length+gD s.Body<=1000000->S.length+gD s.Body<=1000000->W.length+gD s.Body<=1000000->Con cfg 106 [vP b,gJ s.Body] (ckN b svL svS svP n U S W) fun r μ'=>∃svL' svS' svP' U' S' W',r=vI (gP n.Bufs U S W 0 s.Body).E/\((gP n.Bufs U S W 0 s.Body).E=0->U'=(gP n.Bufs U S W 0 s.Body).U/\S'=S/\W'=W)/\(¬(gP n.Bufs U S W 0 s.Body).E=0->W'=(gP n.Bufs U S W 0 s.Body).W)/\μ'=ckN b svL' svS' svP' n U' S' W':=by
  induction s using St.ind with
  |_ s ih=>
    intro svL svS svP U S W hU hS hW
    refine zIg b svL svS svP n U S W s.Body hn hU hS hW hl fun a ha=>ih a ha ?_
    have:=zCu ha;have:=St.body_wt a;omega
def ck_statements (b:Nat) (svL svS svP:Value) (n:Ns) (U S:List nn) (W:List Int) (l:List St) (hn:n.Ok) (hU:U.length+gD l<=1000000) (hS:S.length+gD l<=1000000) (hW:W.length+gD l<=1000000) (hl:bS l<=536870912):Con cfg 106 [vP b,gJ l] (ckN b svL svS svP n U S W) fun r μ'=>∃svL' svS' svP' U' S' W',r=vI (gP n.Bufs U S W 0 l).E/\((gP n.Bufs U S W 0 l).E=0->U'=(gP n.Bufs U S W 0 l).U/\S'=S/\W'=W)/\(¬(gP n.Bufs U S W 0 l).E=0->W'=(gP n.Bufs U S W 0 l).W)/\μ'=ckN b svL' svS' svP' n U' S' W':=
  zIg b svL svS svP n U S W l hn hU hS hW hl fun s hs=>zQi b n hn s (by have:=zCu hs;have:=St.body_wt s;omega)
def zRx (n:Ns) (hn:n.Ok):
    Pur cfg 45 [vNs n] (.tup [vIs (jX n).1,vI (jX n).2]):=by
 refine zV func45 O ntmps45 results45 O ?_
 intro z hz
 have hnb:=hn.body
 refine Y O<|og O fun b1=>qY 1 O<|oi O<|zF<|Y O<|zC O zEt<|zE zDq (J 0 O) O<|qL O uB (zWn 40 n.Body 40 zB zB O) (vlr O)<|kU O<|zA<|zK O ?_ ?_<;>intro c1<;>try simp only [sx] at c1
 ·refine Y O<|qY 1 O<|oi O<|zM<|fin2 (rs_c O) (rs_c O) ?_
  rw [validN_13 c1];rfl
 ·refine zH<|zF<|Y O<|zC O zEt<|zE zDq (J 0 O) O<|qL O uB (zPp n.Body 2000 2000 zB zB O) (vlr O)<|zT O (yN O O O)<|G O<|rL0 O (fun g3_4=>zG O zEz O) O<|rL1 16 O (fun g3_4=>zJ O zPj O (J 0 O) O) O<|rL1 17 O (fun g3_4=>yG O el39 O) O<|rL1 18 O (fun g3_4=>yN O O O) O<|r_or O (fun h=>(lzf h))<|zA<|zK O ?_ ?_<;>intro c2<;>try simp only [sx] at c2
  ·refine Y O<|qY 1 O<|oi O<|zM<|fin2 (rs_c O) (rs_c O) ?_
   rw [validN_2 c1 zB];rfl
  ·have hnum:=numB_ok (l:=n.Body) (m:=2000) zB
   refine zH<|zF<|Y O<|zC O zEz<|zE zPj (J 0 O) O<|qL O uB (zMb n.Bufs hn.bufs hn.dims) (vlr O)<|oi O<|ol O O<|yM O<|zA<|zK O ?_ ?_<;>intro c3<;>try simp only [sx] at c3
   ·refine ol O O<|qY 1 O<|oi O<|zM<|fin2 (rs_c O) (rs_c O) ?_
    rw [validN_b c1 zB c3];rfl
   ·refine zH<|Y O<|zN zLb (J 0 O) O<|yJ O zr172 pl172<|og O fun b2=>yP _ (kF 9 1)<|yP _ (kF 9 1)<|yP _ (kF 3 1)<|oi O<|zF<|ol O O<|zC O zEt<|zE zDq (J 4 O) O<|qA O O (zLr [3,2,1,0] O uB (ck_statements b2 _ _ _ n [] [] [] n.Body hn uD uD uD hnb) (vlr O) O) ?_
    rintro _ _ ⟨_,⟨svL1,svS1,svP1,U1,S1,W1,rfl,hok,hno,rfl⟩,rfl⟩
    refine oi O<|ol O O<|yM O<|zA<|zK O ?_ ?_<;>intro c4<;>try simp only [sx] at c4
    ·have hW1:=hno c4
     subst hW1
     refine zW _ (yK 0 O (regs':=[]) (μ':=[_,_,_,_]) T ⟨EFle.refl _,EFle.refl _,EFle.row (ds:=[_,_,_,_,_]) ⟨.inl O,.inl O,.inl O,.inl O,.inr ⟨O,O⟩,T⟩,EFle.refl _,T⟩)<|ol O O<|zU O<|zC O zKa<|zE one46 (J 2 O) O<|G O<|G O<|oi O<|zM<|fin2 (rs_c O) (rs_c O) ?_
     rw [validN_c c1 zB c3]
    ·refine zH<|Y O<|qY 1 O<|oi O<|zM<|fin2 (rs_c O) (rs_c O) ?_
     rw [validN_c c1 zB c3,chkL_ok c4,c4];rfl
end Go.W
end
section
set_option maxRecDepth 10000
namespace Go.W
open Go Go.Eng Go.Proofs Go.L41 Go.Br Tryz
attribute [local irreducible] AWP RWP TD fY
abbrev jR (l:List Bd):V:=.c (.sl 2 (l.map Bd.cells))
def el31:dV prog 31=some (50,2,24):=by kernel_rfl
def zNu:bH prog 50 0=some (0,9):=by kernel_rfl
def pl50:fA prog 50=some [(0,1),(1,1)]:=by kernel_rfl
def zr50:dZ prog 50=some [(Value.string (ByteArray.mk #[])),(Value.int IntKind.i64 0)]:=by kernel_rfl
end Go.W
end
section
set_option maxRecDepth 10000
namespace Go.W
open Go Go.Eng Go.Proofs Go.L41 Go.Br Tryz
attribute [local irreducible] AWP RWP TD fY
end Go.W
end
section
set_option maxRecDepth 10000
namespace Go.W
open Go Go.Eng Go.Proofs Go.L41 Go.Br Tryz
attribute [local irreducible] AWP RWP TD fY
end Go.W
end
section
set_option maxRecDepth 10000
namespace Go.W
open Go Go.Eng Go.Proofs Go.L41 Go.Br Tryz
attribute [local irreducible] AWP RWP TD fY
end Go.W
end
section
set_option maxRecDepth 10000
namespace Go.W
open Go Go.Eng Go.Proofs Go.L41 Go.Br Tryz
attribute [local irreducible] AWP RWP TD fY
end Go.W
end
section
set_option maxRecDepth 10000
namespace Go.W
open Go Go.Eng Go.Proofs Go.L41 Go.Br Tryz
attribute [local irreducible] AWP RWP TD fY
end Go.W
end
section
set_option maxRecDepth 10000
namespace Go.W
open Go Go.Eng Go.Proofs Go.L41 Go.Br Tryz
attribute [local irreducible] AWP RWP TD fY
def sz9:(prog.info? 9).map (·.size)=some 1:=by kernel_rfl
def sz33:(prog.info? 33).map (·.size)=some 1:=by kernel_rfl
def zVi (l:List St) (hl:l.length<=4294967296):
    OwnR cfg 193 [gJ l] 64 20 (l.map St.cells):=by
 refine zV func193 O ntmps193 results193 O fun z hz=>Y O<|qY 20 O<|zA<|zF<|ol O O<|qA O O (zIt O el33 O O) ?_
 rintro _ _ ⟨nb1,rfl,hnil1,rfl⟩
 refine zA<|zK O ?_ ?_<;>intro c1<;>try simp only [sx] at c1
 ·refine ol O O<|yP _ (kF 64 20)<|zA<|zM<|zX O ?_
  exact ⟨_,O,by rw [hnil1 c1]⟩
 ·refine zH<|Y O<|qA O O (zAt O el33 zr64 O O O O) ?_
  rintro _ _ ⟨sv3,rfl,rfl⟩
  refine G O<|qA O O (yB 0 O el33 O O O uJ uJ) ?_
  exact v14
def zEd (f:Lf->Lf×Int) (c:C) (P:Lf->Prop) (hf:∀l,P l->FnPur cfg c [dC l] (.tup [dC (f l).1,vI (f l).2])) (i:List Ix) (hi:i.length<=4294967296) (hA:∀x,x∈i->x.At.length<=4294967296) (hP:xB P i):
    Pur cfg 194 [nD i,.c c] (.tup [nD (oA (dM f i)),vI (gG (dM f i))]):=by
 refine zV func194 O ntmps194 results194 O fun z hz=>Y O<|qY 4 O<|oi O<|ol O O<|qA O O (zCa O uB (zLj i hi) (vlr O)) ?_
 rintro _ _ ⟨sv1,rfl,rfl⟩
 refine oi O<|oh O O<|zF<|ol O O<|qC O el52<|oi O<|zS<|zW ⟨[(14,.c _),(0,.c _),(1,.c _),(6,.c _),(13,.c _)],[_]⟩ (Weak.mk [true] ⟨zD,zD,zD,zD,zD,T⟩ O)<|qG 1 1 O O (Nat×List Ix) (fun ⟨k,outs⟩=>[(14,vI k)]) (fun ⟨k,outs⟩=>[E.vec sv1 93 4 (outs.map Ix.cells++(i.drop k).map Ix.cells)]) (fun ⟨k,outs⟩=>k<=i.length/\(outs.length=k)/\(dM f i=bW outs (dM f (i.drop k)))) (fun ⟨k,outs⟩=>i.length-k) ⟨⟨0,[]⟩,⟨zB,O,(zBj _).symm⟩,Weak.mk [true] ⟨zD,zD,zD,zD,zD,T⟩ O⟩ ?_
 rintro ⟨k,outs⟩ ⟨hk,ho,hp⟩
 show AWP _ _ _ _ _ ⟨[(14,vI k)]++_,[E.vec sv1 93 4 (outs.map Ix.cells++(i.drop k).map Ix.cells)]++_⟩
 refine Y O<|yC O<|zA<|zF<|zK O ?_ ?_<;>intro c1<;>try simp only [sx] at c1
 ·obtain ⟨x,hx⟩:=qX i k zB
  have hAx:=hA x (qD hx)
  refine zH<|zF<|zS<|ol O O<|oi O<|zF<|ol O O<|G O<|G O<|G O<|G O<|qE O el52 zB (getm uC)<|qR O zCy<|zN yV qF O<|zT O (wL O O (hf x.Lin (hP x (qD hx)).1) (vlr O))<|qW O<|zT O (yD O O O)<|yF O<|zT O (qT 0 O el52 O O O zB (zLx uD zB))<|zT O (wF O zCy O)<|wI O O (yO O sz59 O O O (zEw 0 O (zRs uD hx) O))<|oi O<|ol O O<|yM O<|zA<|zK O ?_ ?_<;>intro c2<;>try simp only [sx] at c2
  ·refine ol O O<|qY 4 O<|oi O<|zM<|fin2 (rs_c O) (rs_c O) ?_
   rw [zWi hx hp (mIx_e1 c2)];rfl
  ·refine zH<|ol O O<|G O<|G O<|G O<|qE O el52 zB (getm uC)<|qR O zAi<|zE zBs qF O<|qA O O (zCa O uB (zKn x.At (hA x (qD hx))) (vlr O)) ?_
   rintro _ _ ⟨sv2,rfl,rfl⟩
   refine zT O (qT 1 O el52 O O O zB uD)<|zT O (wF O zAi O)<|wI O O (yO O sz72 O O O (zEw 1 O (zHd uD) O))<|zA<|ol O O<|G O<|qE O el52 zB (getm uC)<|qR O zAi<|zE zBs qF O<|qC O el72<|oi O<|zS<|zW ⟨[(50,.c _),(0,.c _),(1,.c _),(6,.c _),(8,.c _),(13,.c _),(14,.c _),(49,.c _)],[_,_]⟩ (Weak.mk [true,true] ⟨zD,zD,zD,zD,zD,zD,zD,zD,T⟩ O)<|qG 1 1 O O (Nat×List Lf) (fun ⟨j,lins⟩=>[(50,vI j)]) (fun ⟨j,lins⟩=>[E.vec sv2 59 2 (lins.map Lf.cells++(x.At.drop j).map Lf.cells)]) (fun ⟨j,lins⟩=>j<=x.At.length/\(lins.length=j)/\(dL f x.At=bW lins (dL f (x.At.drop j)))) (fun ⟨j,lins⟩=>x.At.length-j) ⟨⟨0,[]⟩,⟨zB,O,(zBj _).symm⟩,Weak.mk [true,true] ⟨zD,zD,zD,zD,zD,zD,zD,zD,T⟩ O⟩ ?_
   rintro ⟨j,lins⟩ ⟨hj,hlo,hq⟩
   show AWP _ _ _ _ _ ⟨[(50,vI j)]++_,[E.vec sv2 59 2 (lins.map Lf.cells++(x.At.drop j).map Lf.cells)]++_⟩
   refine Y O<|yC O<|zA<|zF<|zK O ?_ ?_<;>intro c3<;>try simp only [sx] at c3
   ·obtain ⟨l,hl⟩:=qX x.At j zB
    refine zH<|zF<|zS<|ol O O<|oi O<|zF<|yS 21 0 [⟨0,.q []⟩,⟨1,.q []⟩,⟨2,.q [1]⟩,⟨3,.q []⟩,⟨4,.q [1]⟩,⟨5,.q []⟩,⟨6,.q []⟩,⟨7,.q []⟩,⟨8,.q []⟩,⟨9,.q []⟩,⟨10,.q []⟩,⟨11,.q []⟩,⟨12,.q []⟩,⟨13,.q []⟩,⟨14,.q []⟩,⟨15,.q []⟩,⟨16,.q []⟩,⟨17,.q []⟩,⟨18,.q []⟩,⟨19,.q [0]⟩,⟨20,.e 0 []⟩] mixed uB uB O O O<|zR O<|zR O<|zR O<|zR O<|zR O<|zR O<|zR O<|zR O<|zR O<|zR O<|zR O<|zR O<|zR O<|zR O<|zR O<|zR O<|zR O<|zR O<|zR O<|zR O<|zR O<|wQ<|om O (zQ O O)<|om O (zQ O O)<|om O (qT 0 O el52 O O O zB uD)<|om O (wF O zAi O)<|om O (zJ O zBs O (kQ 0 O (zHd uD)) O)<|om O (zQ O O)<|om O (zQ O O)<|om O (zQ O O)<|om O (zQ O O)<|om O (qK O el52 O O zB (getm uC))<|om O (qV O zAi O)<|om O (zJ O zBs O qF O)<|om O (zQ O O)<|om O (qK O el72 O O zB (getm uC))<|om O (qB O yV O qF O)<|om O (wL O O (hf l ((hP x (qD hx)).2 l (qD hl))) (vlr O))<|om O (yW O O)<|om O (yD O O O)<|om O (kM O O O)<|om O (qT 0 O el72 O O O zB (zLx uD zB))<|zCk O O uA O O (yO O sz59 O O O (zEw 0 O (zRs uD hl) O)) ?_
    rintro _ _ ⟨rfl,rfl⟩
    refine ⟨_,O,?_⟩
    refine wP O<|oi O<|ol O O<|yM O<|zA<|zK O ?_ ?_<;>intro c4<;>try simp only [sx] at c4
    ·refine ol O O<|qY 4 O<|oi O<|zM<|fin2 (rs_c O) (rs_c O) ?_
     rw [zWi hx hp (mIx_e2 c2 (mLins_no hl hq c4))];rfl
    ·refine zH<|zP O<|qH O ⟨zB,zB⟩<|G O<|zA ?_
     refine ⟨⟨j+1,lins++[(f l).1]⟩,⟨zB,uD,zRu hl hq c4⟩,(by show x.At.length-(j+1)<x.At.length-j;omega),Weak.mk [true,true] ⟨zD,zD,zD,zD,zD,zD,zD,zD,T⟩ (by simp only [bq];rw [zLw uD hl];simp only [ah,aH,bp];rfl)⟩
   ·have hml:=zWg hq zB
    rw [kL (l:=x.At) (k:=j) zB]
    simp only [bp,lAn]
    refine zW _ (yK 0 O (regs':=[]) (μ':=[_]) T ⟨EFle.vec (r':=[_,_,_,_]) (zHd uD) ⟨.inl O,.inl O,.inl O,.inr ⟨O,O⟩,T⟩,T⟩)<|qM<|zP O<|qH O ⟨zB,zB⟩<|G O<|zA ?_
    refine ⟨⟨k+1,outs++[⟨(f x.Lin).1,x.From,lins⟩]⟩,⟨zB,uD,zWj hx hp (mIx_ok c2 hml)⟩,(by show i.length-(k+1)<i.length-k;omega),Weak.mk [true] ⟨zD,zD,zD,zD,zD,T⟩ (by simp only [bq,ij];rw [zLw uD hx];simp only [ah,aH,bp];rfl)⟩
 ·have hmi:=mIxs_end hp zB
  rw [kL (l:=i) (k:=k) zB]
  simp only [bp,lAn]
  refine zW _ (yK 0 O (regs':=[(6,_)]) (μ':=[]) ⟨FLe.sl,T⟩ T)<|qM<|ol O O<|G O<|oi O<|zM<|fin2 (rs_c O) (rs_c O) ?_
  rw [hmi];rfl
def zMa (f:Lf->Lf×Int) (c:C) (P:Lf->Prop) (hf:∀l,P l->FnPur cfg c [dC l] (.tup [dC (f l).1,vI (f l).2])) (e:Ex) (hP:e.allF P) (ih:∀a,a∈e.Args->a.allF P->a.cnt<=4294967296->Pur cfg 195 [vE a,.c c] (.tup [vE (jZ (mEx f a)),vI (gG (mEx f a))])) (he:e.cnt<=4294967296):
    Pur cfg 195 [vE e,.c c] (.tup [vE (jZ (mEx f e)),vI (gG (mEx f e))]):=by
 refine zV func195 O ntmps195 results195 O ?_
 intro z hz
 obtain ⟨hI,hA,hAt⟩:=e.cparts he
 have hPI:=ixsAll_of hP
 refine Y O<|og O fun b1=>qA O O (qI nr O zr62 O) ?_
 rintro _ _ ⟨b2,rfl,rfl⟩
 refine oi O<|Y O<|zN yZ (J 1 O) O<|qA O O (qI nr O zr62 O) ?_
 rintro _ _ ⟨b3,rfl,rfl⟩
 refine rStR 0 sz62 O<|zA<|oh O O<|zF<|ol O O<|zC O zDt<|zN yV (J 2 O) O<|zT O (wL O O (hf e.Lin (Ex.allF_lin hP)) (vlr O))<|qW O<|zT O (yD O O O)<|yF O<|zC O zDt<|rStR 0 sz59 O<|oi O<|ol O O<|yM O<|zA<|zK O (fun c1=>?_) (fun c1=>?_)
 ·exact v61
 ·try simp only [sx] at c1
  refine zH<|zF<|Y O<|zC O wB<|zE wX (J 2 O) O<|G O<|qL O uB (zEd f c P hf e.Idx hI hAt hPI) (vlr O)<|qW O<|yF O<|yF O<|zC O wB<|rStR 0 sz52 O<|oi O<|ol O O<|yM O<|zA<|zK O ?_ ?_<;>intro c2<;>try simp only [sx] at c2
  ·refine Y O<|yQ nr O zr62 pl62<|G O<|rStR 1 sz62 O<|oi O<|zM<|fin2 (zZ yZ O (J 1 O) O) (rs_c O) ?_
   rw [mEx_e2 c1 (mIxs_err c2)];rfl
  ·obtain ⟨di,hmi⟩:=mIxs_0 c2
   rw [hmi]
   refine zH<|Y O<|zC O zAc<|zE zDc (J 2 O) O<|qA O O (zCa O uB (zLk e.Args hA) (vlr O)) ?_
   rintro _ _ ⟨sv4,rfl,rfl⟩
   refine zC O zAc<|rStR 1 sz60 O<|zA<|zF<|Y O<|zC O zAc<|zE zDc (J 3 O) O<|qC O el60<|oi O<|zS<|zW ⟨[(41,.c _),(1,.c _),(2,.c _),(4,.c _),(6,.c _),(40,.c _)],[_,_,_,_]⟩ (Weak.mk [true,true,true,true] ⟨zD,zD,zD,zD,zD,zD,T⟩ O)<|qG 1 1 O O (Nat×List Ex) (fun ⟨n,exs⟩=>[(41,vI n)]) (fun ⟨n,exs⟩=>[E.vec sv4 62 13 (exs.map Ex.cells++(e.Args.drop n).map Ex.cells)]) (fun ⟨n,exs⟩=>n<=e.Args.length/\(exs.length=n)/\(gB f e.Args=bW exs (gB f (e.Args.drop n)))) (fun ⟨n,exs⟩=>e.Args.length-n) ⟨⟨0,[]⟩,⟨zB,O,(zBj _).symm⟩,Weak.mk [true,true,true,true] ⟨zD,zD,zD,zD,zD,zD,T⟩ O⟩ ?_
   rintro ⟨n,exs⟩ ⟨hn,hno,hr⟩
   show AWP _ _ _ _ _ ⟨[(41,vI n)]++_,[E.vec sv4 62 13 (exs.map Ex.cells++(e.Args.drop n).map Ex.cells)]++_⟩
   refine Y O<|yC O<|zA<|zF<|zK O ?_ ?_<;>intro c3<;>try simp only [sx] at c3
   ·obtain ⟨a,ha⟩:=qX e.Args n zB
    refine zH<|zF<|zS<|ol O O<|oi O<|zF<|yS 15 0 [⟨0,.q []⟩,⟨1,.q [1]⟩,⟨2,.q []⟩,⟨3,.q []⟩,⟨4,.q [3]⟩,⟨5,.q []⟩,⟨6,.q []⟩,⟨7,.q []⟩,⟨8,.q []⟩,⟨9,.q []⟩,⟨10,.q []⟩,⟨11,.q []⟩,⟨12,.q []⟩,⟨13,.q [0]⟩,⟨14,.e 0 []⟩] mixed uB uB O O O<|zR O<|zR O<|zR O<|zR O<|zR O<|zR O<|zR O<|zR O<|zR O<|zR O<|zR O<|zR O<|zR O<|zR O<|zR O<|wQ<|om O (zG O zAc O)<|om O (zJ O zDc O (J 0 O) O)<|om O (zQ O O)<|om O (zG O zAc O)<|om O (zJ O zDc O (J 0 O) O)<|om O (zQ O O)<|om O (qK O el60 O O zB (zJz uC))<|om O (qB O yZ O qF O)<|om O (zQ O O)<|om O (qP O uB (ih a (qD ha) (Ex.allF_arg hP (qD ha)) (by have:=Ex.arg_cnt (qD ha);omega)) (vlr O))<|om O (yW O O)<|om O (yD O O O)<|om O (kM O O O)<|om O (qT 0 O el60 O O O zB (zLx uD zB))<|zCk O O uA O O (yO O sz62 O O O (zEw 0 O (mid_getE uD ha) O)) ?_
    rintro _ _ ⟨rfl,rfl⟩
    refine ⟨_,O,?_⟩
    refine wP O<|oi O<|ol O O<|yM O<|zA<|zK O ?_ ?_<;>intro c4<;>try simp only [sx] at c4
    ·refine Y O<|yQ nr O zr62 pl62<|G O<|rStR 2 sz62 O<|oi O<|zM<|fin2 (zZ yZ O (J 2 O) O) (rs_c O) ?_
     rw [mEx_e3 c1 hmi (mExs_no ha hr c4)];rfl
    ·refine zH<|zP O<|qH O ⟨zB,zB⟩<|G O<|zA ?_
     refine ⟨⟨n+1,exs++[jZ (mEx f a)]⟩,⟨zB,uD,zWk ha hr c4⟩,(by show e.Args.length-(n+1)<e.Args.length-n;omega),Weak.mk [true,true,true,true] ⟨zD,zD,zD,zD,zD,zD,T⟩ (by simp only [bq];rw [zLw uD ha];simp only [ah,aH,bp,Ex.cells_eq (jZ (mEx f a))];rfl)⟩
   ·have hme:=mExs_end hr zB
    rw [kL (l:=e.Args) (k:=n) zB]
    simp only [bp,lAn]
    refine zW _ (yK 0 O (regs':=[]) (μ':=[_,_,_]) T ⟨EFle.row (ds:=[_,_,_,_,_,_,_,_,_,_,_,_,_]) ⟨.inl O,.inl O,.inl O,.inl O,.inl O,.inl O,.inl O,.inl O,.inl O,.inl O,.inl O,.inl O,.inr ⟨O,O⟩,T⟩,EFle.refl _,EFle.refl _,T⟩)<|qM<|Y O<|zN yZ (J 0 O) O<|rStR 1 sz62 O<|oi O<|zM<|fin2 (zZ yZ O (J 1 O) O) (rs_c O) ?_
    rw [mEx_ok c1 hmi hme];rfl
def zKs (f:Lf->Lf×Int) (c:C) (P:Lf->Prop) (hf:∀l,P l->FnPur cfg c [dC l] (.tup [dC (f l).1,vI (f l).2])) (e:Ex) (hP:e.allF P) (he:e.cnt<=4294967296):Pur cfg 195 [vE e,.c c] (.tup [vE (jZ (mEx f e)),vI (gG (mEx f e))]):=by
  induction e using Ex.ind with
  |_ e ih=>exact zMa f c P hf e hP ih he
def zEy (f:Lf->Lf×Int) (c:C) (P:Lf->Prop) (hf:∀l,P l->FnPur cfg c [dC l] (.tup [dC (f l).1,vI (f l).2])) (g:nn->nn) (c9:C) (hg:∀s,FnPur cfg c9 [vS s] (vS (g s))) (l:List St) (hP:pQ P l) (ih:∀s,s∈l->Pur cfg 140 [gJ s.Body,.c c,.c c9] (.tup [gJ (eW (gS f g s.Body)),vI (gG (gS f g s.Body))])) (hl:bS l<=1073741824):
    Pur cfg 140 [gJ l,.c c,.c c9] (.tup [gJ (eW (gS f g l)),vI (gG (gS f g l))]):=by
 refine zV func140 O ntmps140 results140 O ?_
 intro z hz
 have hll:=zCi l
 refine Y O<|qY 20 O<|oi O<|ol O O<|qA O O (zCa O uB (zVi l zB) (vlr O)) ?_
 rintro _ _ ⟨sv1,rfl,rfl⟩
 refine oi O<|oh O O<|zF<|ol O O<|qC O el33<|oi O<|zS<|zW ⟨[(15,.c _),(0,.c _),(1,.c _),(2,.c _),(8,.c _),(14,.c _)],[_]⟩ (Weak.mk [true] ⟨zD,zD,zD,zD,zD,zD,T⟩ O)<|qG 1 1 O O (Nat×List St) (fun ⟨k,outs⟩=>[(15,vI k)]) (fun ⟨k,outs⟩=>[E.vec sv1 64 20 (outs.map St.cells++(l.drop k).map St.cells)]) (fun ⟨k,outs⟩=>k<=l.length/\(outs.length=k)/\(gS f g l=bW outs (gS f g (l.drop k)))) (fun ⟨k,outs⟩=>l.length-k) ⟨⟨0,[]⟩,⟨zB,O,(zBj _).symm⟩,Weak.mk [true] ⟨zD,zD,zD,zD,zD,zD,T⟩ O⟩ ?_
 rintro ⟨k,outs⟩ ⟨hk,ho,hp⟩
 show AWP _ _ _ _ _ ⟨[(15,vI k)]++_,[E.vec sv1 64 20 (outs.map St.cells++(l.drop k).map St.cells)]++_⟩
 refine Y O<|yC O<|zA<|zF<|zK O ?_ ?_<;>intro c1<;>try simp only [sx] at c1
 ·obtain ⟨s,hs⟩:=qX l k zB
  have hsw:=zCu (qD hs)
  have hse:=St.wt_eq s
  have hPs:=St.allF_eq (zQp hP s (qD hs))
  refine zH<|zF<|zS<|ol O O<|oi O<|zF<|ol O O<|G O<|qE O el33 zB (zGo hs)<|qR O zIz<|zE one3 qF O<|yT O<|zA<|qO O (fun c2=>?_) (fun c2=>?_)
  ·refine zP O<|G O<|G O<|G O<|G O<|G O<|qE O el33 zB (zGo hs)<|qR O zIy<|zE one9 qF O<|zT O (wL O O (hg s.Name) (vlr O))<|zT O (qT 0 O el33 O O O zB (zLx uD zB))<|zT O (wF O zIy O)<|wI O O (yO O sz9 O O O (zEw 0 O (mid_getS uD hs) O))<|zA<|zF<|ol O O<|G O<|G O<|G O<|qE O el33 zB (zGo hs)<|qR O zSx<|zE wX qF O<|G O<|qL O uB (zEd f c P hf s.Idx zB (fun x hx=>by have:=zDs hx;rw [Ix.wt] at this;omega) hPs.1) (vlr O)<|qW O<|yF O<|yF O<|zT O (qT 0 O el33 O O O zB uD)<|zT O (wF O zSx O)<|wI O O (yO O sz52 O O O (zEw 0 O (zHd uD) O))<|oi O<|ol O O<|yM O<|zA<|zK O (fun c3=>?_) (fun c3=>?_)
   ·try simp only [sx] at c3
    refine ol O O<|qY 20 O<|oi O<|zM<|fin2 (rs_c O) (rs_c O) ?_
    rw [zRt hs hp (mSt_e1 (mIxs_err c3))];rfl
   ·exact w9
  ·refine zH<|zF<|ol O O<|G O<|G O<|G O<|qE O el33 zB (zGo hs)<|qR O zSx<|zE wX qF O<|G O<|qL O uB (zEd f c P hf s.Idx zB (fun x hx=>by have:=zDs hx;rw [Ix.wt] at this;omega) hPs.1) (vlr O)<|qW O<|yF O<|yF O<|zT O (qT 0 O el33 O O O zB (zLx uD zB))<|zT O (wF O zSx O)<|wI O O (yO O sz52 O O O (zEw 0 O (mid_getS uD hs) O))<|oi O<|ol O O<|yM O<|zA<|zK O (fun c3=>?_) (fun c3=>?_)
   ·try simp only [sx] at c3
    refine ol O O<|qY 20 O<|oi O<|zM<|fin2 (rs_c O) (rs_c O) ?_
    rw [zRt hs hp (mSt_e1 (mIxs_err c3))];rfl
   ·exact w9
 ·have hme:=mSts_end hp zB
  rw [kL (l:=l) (k:=k) zB]
  simp only [bp,lAn]
  refine zW _ (yK 0 O (regs':=[(8,_)]) (μ':=[]) ⟨FLe.sl,T⟩ T)<|qM<|ol O O<|G O<|oi O<|zM<|fin2 (rs_c O) (rs_c O) ?_
  rw [hme];rfl
def zKy (f:Lf->Lf×Int) (c:C) (P:Lf->Prop) (hf:∀l,P l->FnPur cfg c [dC l] (.tup [dC (f l).1,vI (f l).2])) (g:nn->nn) (c9:C) (hg:∀s,FnPur cfg c9 [vS s] (vS (g s))) (s:St) (hP:pQ P s.Body) (hl:bS s.Body<=1073741824):Pur cfg 140 [gJ s.Body,.c c,.c c9] (.tup [gJ (eW (gS f g s.Body)),vI (gG (gS f g s.Body))]):=by
  induction s using St.ind with
  |_ s ih=>exact zEy f c P hf g c9 hg s.Body hP (fun a ha=>ih a ha (St.allF_eq (zQp hP a ha)).2.2 (by have:=zCu ha;have:=St.body_wt a;omega)) hl
def zRw (f:Lf->Lf×Int) (c:C) (P:Lf->Prop) (hf:∀l,P l->FnPur cfg c [dC l] (.tup [dC (f l).1,vI (f l).2])) (g:nn->nn) (c9:C) (hg:∀s,FnPur cfg c9 [vS s] (vS (g s))) (l:List St) (hP:pQ P l) (hl:bS l<=1073741824):Pur cfg 140 [gJ l,.c c,.c c9] (.tup [gJ (eW (gS f g l)),vI (gG (gS f g l))]):=
  zEy f c P hf g c9 hg l hP (fun s hs=>zKy f c P hf g c9 hg s (St.allF_eq (zQp hP s hs)).2.2 (by have:=zCu hs;have:=St.body_wt s;omega)) hl
def zTi (l:Lf) (hl:l.L.length<=1073741824):
    Pur cfg 142 [dC l] (dC l):=by
 refine zV func142 O ntmps142 results142 O fun z hz=>Y O<|og O fun b1=>qA O O (qI [none,some 2] O U O) ?_
 rintro _ _ ⟨b2,rfl,rfl⟩
 refine zA<|zF<|yH 6 mixed uB O O<|oo O (zG O zCc O)<|oo O (zJ O W O (J 1 O) O)<|oo O (zG O kC O)<|oo O (zJ O wA O (J 1 O) O)<|oo O (qP O uB (OwnR.pur (zIr l.L zB)) (vlr O))<|oo O (zBx O U pl59 O)<|kE<|rStR 0 sz59 O<|zA<|zM<|fin1 (zZ yV O (J 0 O) O) ?_
 exact O
def copyStmts_1 (l:Lf) (hl:l.L.length<=1073741824):
    Pur cfg 141 [dC l] (.tup [dC (idF l).1,vI (idF l).2]):=by
 refine zV func141 O ntmps141 results141 O fun z hz=>Y O<|og O fun b1=>qA O O (qI [none,some 2] O U O) ?_
 rintro _ _ ⟨b2,rfl,rfl⟩
 refine oi O<|Y O<|zN yV (J 1 O) O<|qL O uB (zTi l hl) (vlr O)<|rStR 0 sz59 O<|oi O<|zM<|fin2 (zZ yV O (J 0 O) O) (rs_c O) ?_
 exact O
def loopnest_same (s:nn):
    Pur cfg 143 [vS s] (vS s):=by
 refine zV func143 O ntmps143 results143 O fun z hz=>oh O O<|ol O O<|oi O<|zM<|zX O ?_
 exact O
def zPq (l:List St) (hl:bS l<=1073741824):
    Pur cfg 78 [gJ l] (gJ l):=by
 refine zV func78 O ntmps78 results78 O fun z hz=>Y O<|qY 20 O<|zA<|ol O O<|qL O uB (zRw idF _ (fun l=>l.L.length<=1073741824) (fun l hl=>FnPur.of_pur (first:=[]) (cap:=[]) uB (copyStmts_1 l hl)) (fun x=>x) _ (fun s=>FnPur.of_pur (first:=[]) (cap:=[]) uB (loopnest_same s)) l (sts_short hl) hl) (vlr O)<|qW O<|yF O<|yF O<|G O<|oi O<|ol O O<|oi O<|zM<|zX O ?_
 rw [mSts_id];rfl
end Go.W
end
section
set_option maxRecDepth 10000
namespace Go.W
open Go Go.Eng Go.Proofs Go.L41 Go.Br Tryz
attribute [local irreducible] AWP RWP TD fY
abbrev vPt (b:Nat):V:=.c (.lit (.pointer (some ⟨b,0,none⟩)))
abbrev vBd (x:Bd):V:=.agg x.cells
def agg50:nJ prog 50=some 2:=by kernel_rfl
def zSy:bH prog 50 1=some (1,2):=by kernel_rfl
def fd123_1:bH prog 123 1=some (2,4):=by kernel_rfl
def kD:bH prog 184 0=some (0,154):=by kernel_rfl
def kV:bH prog 184 1=some (1,154):=by kernel_rfl
def zFi:bH prog 184 2=some (2,154):=by kernel_rfl
def kA:fP prog 154=true:=by kernel_rfl
def zAe:(prog.info? 154).map (·.size)=some 1:=by kernel_rfl
def zr184:dZ prog 184=some [(Value.int IntKind.u64 0),(Value.int IntKind.u64 0),(Value.int IntKind.u64 0)]:=by kernel_rfl
def wide_add (b:Nat) (w:W3) (hi lo:Nat) (neg:Bool) (hw:w.ok) (h1:hi<18446744073709551616) (h2:lo<18446744073709551616):
    Con cfg 123 [vPt b,vUn hi,vUn lo,vB neg] [E.row b 184 (w3C w)] fun r μ'=>r=.tup []/\μ'=[E.row b 184 (w3C (w3a w (w3x hi lo neg)))]:=by
 refine zV func123 O ntmps123 results123 O ?_
 intro z hz
 obtain ⟨hwh,hwm,hwl⟩:=hw
 refine oh O O<|zF<|oh O O<|zK O ?_ ?_<;>intro c1<;>try simp only [sx] at c1
 ·have hx:=w3x_t hi lo c1
  refine ol O O<|zT O (zKd O O (a:=0) uA)<|G O<|zT O (zKd O O h1)<|G O<|zT O (zKd O O h2)<|G O<|G O<|oi O<|ol O O<|zT O (qQ O O O )<|oi O<|ol O O<|yT O<|zA<|zK O ?_ ?_<;>intro c2<;>try simp only [sx] at c2
  ·refine ol O O<|zT O (qQ O O O )<|oi O<|ol O O<|yT O<|zA<|zK O ?_ ?_<;>intro c3<;>try simp only [sx] at c3
   ·have hx:=hx.trans (w3n_2 c2 c3)
    refine zP O<|G O<|zT O (qQ O O O )<|oi O<|ol O O<|zU O<|zC O zFi<|zE kA (J 0 O) O<|G O<|zT O (qQ O O O )<|zU O<|zC O zFi<|rStR 0 zAe O<|zA<|oh O O<|zF<|ol O O<|zU O<|zC O zFi<|zE kA (J 0 O) O<|G O<|yC O<|zA<|zK O (fun c4=>?_) (fun c4=>?_)
    ·exact v60
    ·exact v63
   ·have hx:=hx.trans (w3n_1 c2 c3)
    exact q8
  ·have hx:=hx.trans (w3n_0 c2)
   exact q8
 ·have hx:=w3x_f hi lo c1
  exact q8
def wide_narrow (b:Nat) (w:W3) (hw:w.ok):
    Con cfg 127 [vPt b] [E.row b 184 (w3C w)] fun r μ'=>r=.tup [vI (w64 (w.l:Int)),vB (decide ((w.m:Int)=(w3s w.l:Nat))&&decide ((w.h:Int)=(w3s w.l:Nat)))]/\μ'=[E.row b 184 (w3C w)]:=by
 refine zV func127 O ntmps127 results127 O fun z hz=>ol O O<|oi O<|ol O O<|zU O<|zC O zFi<|zE kA (J 0 O) O<|zT O (kX O zIh ik2 O)<|oi O<|ol O O<|zT O (det_shrE O O O uA (w3_shr hw.2.2))<|zT O (zJc O us2 zWx O (w3_sgn hw.2.2))<|oi O<|zF<|yH 17 mixed uB O O<|oo O (zQ O O)<|oo O (zQ O O)<|oo O (qS O O)<|oo O (zG O kV O)<|oo O (zJ O kA O (J 0 O) O)<|oo O (zQ O O)<|oo O (yX O O O)<|oo O (zQ O O)<|qU [] O O O O gv1 T (fun g3_7=>zQ O O) O<|qU [(22,_)] O O O O gv1 ⟨O,O,T⟩ (fun g3_7=>qS O O) O<|qU [(23,_)] O O O O gv1 ⟨O,O,T⟩ (fun g3_7=>zG O kD O) O<|qU [(24,_)] O O O O gv1 ⟨O,O,T⟩ (fun g3_7=>zJ O kA O (J 0 O) O) O<|qU [] O O O O gv1 T (fun g3_7=>zQ O O) O<|qU [(25,_),(26,_)] O O O O gv1 ⟨O,O,O,O,T⟩ (fun g3_7=>yX O O O) O<|oo O (zAd O O O (fun h=>h) O)<|oo O (yR O O)<|oo O (yR O O)<|kE<|zA<|zM<|fin2 (rs_c O) (rs_c O) ?_
 exact ⟨O,O⟩
def linEval_1 (x:Bd) (m:Mono):
    Pur cfg 125 [vBd x,.c (.iptr m.cells)] (vB (decide (x.Name=m.Name))):=by
 refine zV func125 O ntmps125 results125 O fun z hz=>Y O<|og O fun b1=>oi O<|Y O<|zC O zNu<|zE one9 (J 0 O) O<|qR O wE<|zE one9 qF O<|wC O<|oi O<|zM<|zX O ?_
 exact O
def zHc (l:List Bd) (c:C) (p:Bd->Bool) (hl:l.length<=4294967296) (hc:∀x,x∈l->FnPur cfg c [vBd x] (vB (p x))):
    Pur cfg 63 [jR l,.c c] (vI (dT p l)):=by
 refine zV func63 O ntmps63 results63 O fun z hz=>oh O O<|zF<|ol O O<|qC O el31<|oi O<|zS<|zW ⟨[(8,.c _),(0,.c _),(1,.c _),(7,.c _)],[]⟩ (Weak.mk [] ⟨zD,zD,zD,zD,T⟩ O)<|qG 1 0 O O (Nat) (fun k=>[(8,vI k)]) (fun k=>[]) (fun k=>k<=l.length/\((l.take k).any p=false)) (fun k=>l.length-k) ⟨0,⟨zB,O⟩,Weak.mk [] ⟨zD,zD,zD,zD,T⟩ O⟩ ?_
 rintro k ⟨hk,hp⟩
 refine Y O<|yC O<|zA<|zF<|zK O (fun c1=>?_) (fun c1=>?_)
 ·try simp only [sx] at c1
  obtain ⟨x,hx⟩:=qX l k zB
  refine zH<|zF<|zS<|ol O O<|oi O<|ol O O<|G O<|G O<|qE O el31 zB (getm uC)<|zN agg50 qF O<|zT O (wL O O (hc _ (qD hx)) (vlr O))<|zA<|zK O (fun c2=>?_) (fun c2=>?_)
  ·exact v58
  ·exact k9
 ·exact v26
def lin_Eval (l:Lf) (env:List Bd) (hel:env.length<=1000000) (her:∀x,x∈env->r64 x.Val) (hl:l.L.length<=5864062014805) (hr:l.rng):
    Pur cfg 68 [dC l,jR env] (.tup [vI (dR l env).1,vI (dR l env).2]):=by
 refine zV func68 O ntmps68 results68 O fun z hz=>Y O<|og O fun b1=>G O<|oi O<|zF<|Y O<|zN yV (J 0 O) O<|qL O uB (zBd l zB) (vlr O)<|yM O<|zA<|zK O ?_ ?_<;>intro c1<;>try simp only [sx] at c1
 ·have hE:dR l env=(0,1):=ev_bad c1
  exact v16
 ·refine zH<|Y O<|qA O O (qZ O zr184) ?_
  rintro _ _ ⟨b2,rfl,rfl⟩
  refine zA<|zF<|yH 6 mixed uB O O<|oo O (zG O zCc O)<|oo O (zJ O W O (J 1 O) O)<|oo O (qP O uB (zEq l.K hr.1) (vlr O))<|oo O (zG O zCc O)<|oo O (zJ O W O (J 1 O) O)<|oo O (zAz O O O)<|kE<|zT O (kI [0] O uB (wide_add b2 ⟨0,0,0⟩ 0 l.K.natAbs (decide (l.K<0)) ⟨uA,uA,uA⟩ uA (by have:=zBt hr.1;omega)) (vlr O) O)<|zA<|zF<|Y O<|zC O kC<|zE wA (J 1 O) O<|qC O D<|oi O<|zS<|zW ⟨[(28,.c _),(1,.c _),(6,.c _),(26,.c _),(27,.c _)],[_]⟩ (Weak.mk [true,false] ⟨zD,zD,zD,zD,zD,T⟩ O)<|qG 1 1 O O (Nat×W3×Int) (fun ⟨k,w,z⟩=>[(28,vI k)]) (fun ⟨k,w,z⟩=>[E.row b2 184 (w3C w)]) (fun ⟨k,w,z⟩=>k<=l.L.length/\(EvJ l env k w z)) (fun ⟨k,w,z⟩=>l.L.length-k) ⟨⟨0,w3a ⟨0,0,0⟩ (w3x 0 l.K.natAbs (decide (l.K<0))),0⟩,⟨zB,ev_first hr.1⟩,Weak.mk [true] ⟨zD,zD,zD,zD,zD,T⟩ O⟩ ?_
  rintro ⟨k,w,z⟩ ⟨hk,hj⟩
  show AWP _ _ _ _ _ ⟨[(28,vI k)]++_,[E.row b2 184 (w3C w)]++_⟩
  refine Y O<|yC O<|zA<|zF<|zK O ?_ ?_<;>intro c2<;>try simp only [sx] at c2
  ·obtain ⟨m,hm⟩:=qX l.L k zB
   refine zH<|zF<|zS<|Y O<|qE O D zB (getm hm)<|zN zFb qF O<|qA O O (qZ O zEk) ?_
   rintro _ _ ⟨b3,rfl,rfl⟩
   refine rStR 0 sz139 O<|zA<|ol O O<|yP _ (kN 0 O 8 _ PLe.ptr)<|zT O (zFs O O O O O)<|qL O uB (zHc env _ (fun y=>decide (y.Name=m.Name)) zB (fun y _=>FnPur.of_pur (first:=[]) (cap:=[.iptr m.cells]) uB (linEval_1 y m))) (vlr O)<|oi O<|zF<|ol O O<|yC O<|zA<|zK O ?_ ?_<;>intro c3<;>try simp only [sx] at c3
   ·have hE:=ev_none c1 hm (env_no (idx_lt c3))
    exact v16
   ·obtain ⟨i,x,hi,hci,hhit,hbef⟩:=idx_le (show 0<=dT (fun y:Bd=>decide (y.Name=m.Name)) env by omega)
    rw [hi]
    have hil:=get_len hci
    have hv:=env_at hci (ca hhit) hbef
    have hxr:=her x (qD hci)
    have hbr:=hr.2 m (qD hm)
    have h1:=zBt hbr
    have h2:=zBt hxr
    have h3:=hi_le h1 h2
    refine zH<|ol O O<|G O<|qE O el31 zB (getm hci)<|qR O zSy<|zE W qF O<|oi O<|Y O<|qR O zBm<|zE W qF O<|qL O uB (zEq m.By hbr) (vlr O)<|G O<|qL O uB (zEq x.Val hxr) (vlr O)<|qL O uB (zWr m.By.natAbs x.Val.natAbs zB zB) (vlr O)<|qW O<|yF O<|yF O<|G O<|oi O<|zP O<|G O<|G O<|qR O zBm<|zE W qF O<|yC O<|G O<|yC O<|zT O (zKf O un4 O O)<|zT O (kI [0] O uB (wide_add b2 w (hiN m.By.natAbs x.Val.natAbs) (m.By.natAbs*x.Val.natAbs%18446744073709551616) (!(decide (m.By<0)==decide (x.Val<0))) hj.ok zB (gv _ uA)) (vlr O) O)<|zA<|zP O<|qH O ⟨zB,zB⟩<|G O<|zA ?_
    refine ⟨⟨k+1,w3a w (w3x (hiN m.By.natAbs x.Val.natAbs) (m.By.natAbs*x.Val.natAbs%18446744073709551616) (!(decide (m.By<0)==decide (x.Val<0)))),z+m.By*x.Val⟩,⟨zB,ev_next hr hm hv hxr hj⟩,(by show l.L.length-(k+1)<l.L.length-k;omega),Weak.mk [true] ⟨zD,zD,zD,zD,zD,T⟩ O⟩
  ·have hE:=ev_end (show l.L.length<=k by omega) zB c1 hj
   refine qM<|Y O<|zT O (yU [0] O uB (wide_narrow b2 w hj.ok) (vlr O) O)<|qW O<|yF O<|yF O<|G O<|oi O<|zF<|ol O O<|kU O<|zA<|zK O (fun c4=>?_) (fun c4=>?_)
   ·rw [aa (ev_cond c4)] at hE
    exact v16
   ·rw [ab (ev_cond2 c4)] at hE
    refine zH<|ol O O<|G O<|oi O<|zM<|fin2 (rs_c O) (rs_c O) ?_
    rw [hE]
def zTl (c:Cn) (env:List Bd) (hel:env.length<=1000000) (her:∀x,x∈env->r64 x.Val) (hl:c.Lin.L.length<=5864062014805) (hr:c.Lin.rng):
    Pur cfg 65 [vCn c,jR env] (.tup [vB (if (dR c.Lin env).2=0 then eR c (dR c.Lin env).1 else false),vI (dR c.Lin env).2]):=by
 refine zV func65 O ntmps65 results65 O fun z hz=>Y O<|og O fun b1=>G O<|oi O<|Y O<|zC O zXf<|zN yV (J 0 O) O<|G O<|qL O uB (lin_Eval c.Lin env hel her hl hr) (vlr O)<|qW O<|yF O<|yF O<|G O<|oi O<|zF<|ol O O<|yM O<|zA<|zK O (fun c1=>?_) (fun c1=>?_)
 ·try simp only [sx] at c1
  refine ol O O<|G O<|oi O<|zM<|fin2 (rs_c O) (rs_c O) ?_
  rw [aa c1]
 ·exact j5
def CheckSizes_1 (x:Bd) (s:nn):
    Pur cfg 64 [vBd x,.c (.iptr [cS s])] (vB (decide (x.Name=s))):=by
 refine zV func64 O ntmps64 results64 O fun z hz=>Y O<|og O fun b1=>oi O<|Y O<|zC O zNu<|zE one9 (J 0 O) O<|zE one9 qF O<|wC O<|oi O<|zM<|zX O ?_
 exact O
def zHp (p:Pg) (env:List Bd) (hel:env.length<=1000000) (her:∀x,x∈env->r64 x.Val) (hP:p.Ok) (hR:p.Rng):
    Pur cfg 23 [vPg p,jR env] (vI (lX p env)):=by
 refine zV func23 O ntmps23 results23 O ?_
 intro z hz
 have hps:=hP.sizes
 have hpw:=hP.wh
 refine Y O<|og O fun b1=>oi O<|zF<|ol O O<|qC O el31<|zC O zCt<|zE zBp (J 0 O) O<|qC O el25<|yM O<|zA<|zK O ?_ ?_<;>intro c1<;>try simp only [sx] at c1
 ·refine oh O O<|zM<|zX O ?_
  rw [chk_len zB]
 ·have hpl:env.length=p.Sizes.length:=by omega
  refine zH<|zF<|Y O<|zC O zCt<|zE zBp (J 0 O) O<|qC O el25<|oi O<|zS<|zW ⟨[(21,.c _),(1,.c _),(2,.c _),(19,.c _),(20,.c _)],[_]⟩ (Weak.mk [true] ⟨zD,zD,zD,zD,zD,T⟩ O)<|qG 1 0 O O (Nat) (fun k=>[(21,vI k)]) (fun k=>[]) (fun k=>k<=p.Sizes.length/\((p.Sizes.take k).all (mR env)=true)) (fun k=>p.Sizes.length-k) ⟨0,⟨zB,O⟩,Weak.mk [true] ⟨zD,zD,zD,zD,zD,T⟩ O⟩ ?_
  rintro k ⟨hk,hp⟩
  refine Y O<|yC O<|zA<|zF<|zK O ?_ ?_<;>intro c2<;>try simp only [sx] at c2
  ·obtain ⟨s,hs⟩:=qX p.Sizes k zB
   refine zH<|zF<|zS<|Y O<|qE O el25 zB (getm hs)<|zE one9 qF O<|qA O O (qZ O zr9) ?_
   rintro _ _ ⟨b2,rfl,rfl⟩
   refine rStR 0 sz9 O<|zA<|ol O O<|yP _ (kN 0 O 6 _ PLe.ptr)<|zT O (zFs O O O O O)<|qL O uB (zHc env _ (fun y=>decide (y.Name=s)) zB (fun y _=>FnPur.of_pur (first:=[]) (cap:=[.iptr [cS s]]) uB (CheckSizes_1 y s))) (vlr O)<|oi O<|Y O ?_
   obtain ⟨x,hci,hgd⟩:=sz_at env s
   refine G O<|yC O<|G O<|rL0 O (fun g7_2=>zQ O O) O<|rL0 O (fun g7_2=>zQ O O) O<|rLz [(31,_),(32,_)] O gv1 ⟨O,O,O,O,T⟩ (fun g7_2=>qK O el31 O O (by simp only [Lz,aD,av,sx] at g7_2;omega) (getm (hci (by simp only [Lz,aD,av,sx] at g7_2;omega)))) O<|rL1 33 O (fun g7_2=>qV O zSy O) O<|rL1 34 O (fun g7_2=>zJ O W O qF O) O<|rL1 35 O (fun g7_2=>zAz O O O) O<|r_or O (fun h=>(lzf h))<|G O<|rL0 O (fun g7_10=>zQ O O) O<|rL0 O (fun g7_10=>zQ O O) O<|rLz [(39,_),(40,_)] O gv1 ⟨O,O,O,O,T⟩ (fun g7_10=>qK O el31 O O (by simp only [Lz,aD,av,sx] at g7_10;omega) (getm (hci (by simp only [Lz,aD,av,sx] at g7_10;omega)))) O<|rL1 41 O (fun g7_10=>qV O zSy O) O<|rL1 42 O (fun g7_10=>zJ O W O qF O) O<|rL1 43 O (fun g7_10=>yN O O O) O<|r_or O (fun h=>(lzf h))<|zA<|zK O (fun c3=>?_) (fun c3=>?_)
   ·have hG:=chk_bad hpl hs (by have h9:=hgd.symm.trans c3;simpa using h9)
    refine oh O O<|zM<|zX O ?_
    rw [hG]
   ·have hG:mR env s=true:=by have h9:=hgd.symm.trans c3;simpa using h9
    refine zH<|zP O<|qH O ⟨zB,zB⟩<|G O<|zA ?_
    refine ⟨k+1,⟨zB,allz_next hs hp hG⟩,zB,Weak.mk [true] ⟨zD,zD,zD,zD,zD,T⟩ O⟩
  ·rw [yI zB] at hp
   have hZ:=chk_wh hpl hp
   refine qM<|zF<|Y O<|zC O zPy<|zE one26 (J 0 O) O<|qC O el26<|oi O<|zS<|zW ⟨[(50,.c _),(1,.c _),(48,.c _),(49,.c _)],[]⟩ (Weak.mk [false] ⟨zD,zD,zD,zD,T⟩ O)<|qG 1 0 O O (Nat) (fun j=>[(50,vI j)]) (fun j=>[]) (fun j=>j<=p.Where.length/\(whE env p.Where=whE env (p.Where.drop j))) (fun j=>p.Where.length-j) ⟨0,⟨zB,O⟩,Weak.mk [] ⟨zD,zD,zD,zD,T⟩ O⟩ ?_
   rintro j ⟨hj,hq⟩
   refine Y O<|yC O<|zA<|zF<|zK O ?_ ?_<;>intro c4<;>try simp only [sx] at c4
   ·obtain ⟨c,hc⟩:=qX p.Where j zB
    refine zH<|zF<|zS<|Y O<|qE O el26 zB (getm hc)<|zN agg123 qF O<|qA O O (qI [none,some 2,none] O zr123 O) ?_
    rintro _ _ ⟨b3,rfl,rfl⟩
    refine rStR 0 sz123 O<|zA<|Y O<|zN agg123 (J 0 O) O<|G O<|qL O uB (zTl c env hel her (hP.whs c (qD hc)) (hR.wh c (qD hc))) (vlr O)<|qW O<|yF O<|yF O<|G O<|oi O<|zF<|ol O O<|yM O<|zA<|zK O ?_ ?_<;>intro c5<;>try simp only [sx] at c5
    ·have hW:=wh_err hc hq c5
     refine ol O O<|oi O<|zM<|zX O ?_
     rw [hZ,hW]
    ·refine zH<|ol O O<|kU O<|zA<|zK O ?_ ?_<;>intro c6<;>try simp only [sx] at c6
     ·rw [ab c5] at c6
      have hW:=wh_no hc hq c5 c6
      refine oh O O<|zM<|zX O ?_
      rw [hZ,hW]
     ·rw [ab c5] at c6
      refine zH<|zP O<|qH O ⟨zB,zB⟩<|G O<|zA ?_
      refine ⟨j+1,⟨zB,wh_next hc hq c5 c6⟩,zB,Weak.mk [false] ⟨zD,zD,zD,zD,T⟩ O⟩
   ·have hW:=wh_end (show p.Where.length<=j by omega) hq
    refine qM<|oh O O<|zM<|zX O ?_
    rw [hZ,hW]
def zSf (p:Pg) (env:List Bd) (hel:env.length<=1000000) (her:∀x,x∈env->r64 x.Val) (hP:p.Ok) (hR:p.Rng):
    Pur cfg 66 [vPg p,jR env] (vI (if (bK p).2=0 then lX p env else (bK p).2)):=by
 refine zV func66 O ntmps66 results66 O fun z hz=>Y O<|og O fun b1=>oi O<|zF<|Y O<|zN zBa (J 0 O) O<|qL O uB (zGh p hP) (vlr O)<|qW O<|yF O<|yF O<|G O<|oi O<|ol O O<|yM O<|zA<|zK O ?_ ?_<;>intro c1<;>try simp only [sx] at c1
 ·refine ol O O<|oi O<|zM<|zX O ?_
  rw [aa c1]
 ·refine zH<|Y O<|zN zBa (J 0 O) O<|G O<|qL O uB (zHp p env hel her hP hR) (vlr O)<|oi O<|zM<|zX O ?_
  rw [ab c1]
def eval_extents (l:List Lf) (env:List Bd) (hel:env.length<=1000000) (her:∀x,x∈env->r64 x.Val) (hl:l.length<=4294967296) (hf:∀f,f∈l->f.L.length<=5864062014805/\f.rng):
    Pur cfg 120 [mN l,jR env] (.tup [vIs (xE env l),vI (fG env l)]):=by
 refine zV func120 O ntmps120 results120 O fun z hz=>Y O<|qY 1 O<|oi O<|ol O O<|yP _ (kF 3 1)<|zA<|zF<|ol O O<|qC O el72<|oi O<|zS<|zW ⟨[(13,.c _),(6,.c _),(1,.c _),(11,.c _),(12,.c _)],[_]⟩ (Weak.mk [true] ⟨zD,zD,zD,zD,zD,T⟩ O)<|qG 2 1 O O (Nat×Value) (fun ⟨k,sv⟩=>[(13,vI k),(6,.c (.lit sv))]) (fun ⟨k,sv⟩=>[E.vec sv 3 1 ((dU env (l.take k)).map fun n=>[cI n])]) (fun ⟨k,sv⟩=>k<=l.length/\(fG env l=fG env (l.drop k))) (fun ⟨k,sv⟩=>l.length-k) ⟨⟨0,(.slice none 0 0)⟩,⟨zB,O⟩,Weak.mk [true] ⟨zD,zD,zD,zD,zD,T⟩ O⟩ ?_
 rintro ⟨k,sv⟩ ⟨hk,hp⟩
 show AWP _ _ _ _ _ ⟨[(13,vI k),(6,.c (.lit sv))]++_,[E.vec sv 3 1 ((dU env (l.take k)).map fun n=>[cI n])]++_⟩
 refine Y O<|yC O<|zA<|zF<|zK O ?_ ?_<;>intro c1<;>try simp only [sx] at c1
 ·obtain ⟨f,hx⟩:=qX l k zB
  refine zH<|zF<|zS<|Y O<|qE O el72 zB (getm hx)<|zN yV qF O<|qA O O (qI [none,some 2] O U O) ?_
  rintro _ _ ⟨b2,rfl,rfl⟩
  refine rStR 0 sz59 O<|zA<|Y O<|zN yV (J 0 O) O<|G O<|qL O uB (lin_Eval f env hel her (hf f (qD hx)).1 (hf f (qD hx)).2) (vlr O)<|qW O<|yF O<|yF O<|G O<|oi O<|zF<|ol O O<|yM O<|zA<|zK O ?_ ?_<;>intro c2<;>try simp only [sx] at c2
  ·have hE:=ext_err hx hp c2
   exact v72
  ·refine zH<|zF<|ol O O<|yC O<|G O<|rL0 O (fun g8_2=>zQ O O) O<|rL1 29 O (fun g8_2=>yN O O O) O<|r_or O (fun h=>(lzf h))<|zA<|zK O ?_ ?_<;>intro c3<;>try simp only [sx] at c3
   ·have hE:=ext_bad hx hp c2 (by simpa using c3)
    exact v82
   ·have hn:=zUe hx hp c2 (by simpa using c3)
    refine zH<|zP O<|G O<|G O<|yY O el46 zr3<|qA O O (yB 1 O el46 O O O (by simp [dU];omega) (by simp [dU];omega)) ?_
    rintro _ _ ⟨sv3,rfl,rfl⟩
    refine oi O<|zP O<|qH O ⟨zB,zB⟩<|G O<|zA ?_
    refine ⟨⟨k+1,sv3⟩,⟨zB,hn⟩,(by show l.length-(k+1)<l.length-k;omega),Weak.mk [false,true] ⟨zD,zD,zD,zD,zD,T⟩ (by exact zOg (by rw [yA hx];unfold dU;rw [ah,ah];rfl))⟩
 ·have hE:=ext_end (show l.length<=k by omega) hp
  exact v15
def eval_count (l:List Int) (hl:l.length<=4294967296) (h:∀n,n∈l->1<=n/\n<=4096):
    Pur cfg 121 [vIs l,vI 4096] (vI ((bP 1 l).getD 4097)):=by
 refine zV func121 O ntmps121 results121 O fun z hz=>oh O O<|oh O O<|zF<|ol O O<|qC O el46<|oi O<|zS<|zW ⟨[(10,.c _),(5,.c _),(1,.c _),(8,.c _),(9,.c _)],[]⟩ (Weak.mk [] ⟨zD,zD,zD,zD,zD,T⟩ O)<|qG 2 0 O O (Nat×Int) (fun ⟨k,s⟩=>[(10,vI k),(5,vI s)]) (fun ⟨k,s⟩=>[]) (fun ⟨k,s⟩=>k<=l.length/\(1<=s/\s<=4096)/\(bP 1 l=bP s (l.drop k))) (fun ⟨k,s⟩=>l.length-k) ⟨⟨0,1⟩,⟨zB,⟨uA,uA⟩,O⟩,Weak.mk [] ⟨zD,zD,zD,zD,zD,T⟩ O⟩ ?_
 rintro ⟨k,s⟩ ⟨hk,hs,hp⟩
 show AWP _ _ _ _ _ ⟨[(10,vI k),(5,vI s)]++_,[]++_⟩
 refine Y O<|yC O<|zA<|zF<|zK O ?_ ?_<;>intro c1<;>try simp only [sx] at c1
 ·obtain ⟨n,hn⟩:=qX l k zB
  have hnb:=h n (qD hn)
  have hmb:=iq hs.2 hnb.2 zB zB
  have hmb2:=iq (show 1<=s from hs.1) hnb.1 zB zB
  rw [qJ hn,bP] at hp
  refine zH<|zF<|zS<|Y O<|qE O el46 zB (getm hn)<|zE one3 qF O<|oi O<|ol O O<|G O<|zT O (zSg O O O ⟨zB,zB⟩)<|oi O<|ol O O<|G O<|zT O (yN O O O)<|zA<|zK O ?_ ?_<;>intro c2<;>try simp only [sx] at c2
  ·rw [ab zB] at hp
   refine ol O O<|qH O ⟨zB,zB⟩<|oi O<|zM<|zX O ?_
   rw [hp];rfl
  ·rw [aa zB] at hp
   refine zH<|zP O<|qH O ⟨zB,zB⟩<|G O<|zA ?_
   refine ⟨⟨k+1,s*n⟩,⟨zB,⟨zB,zB⟩,hp⟩,(by show l.length-(k+1)<l.length-k;omega),Weak.mk [] ⟨zD,zD,zD,zD,zD,T⟩ O⟩
 ·rw [zAa zB,bP] at hp
  refine qM<|ol O O<|oi O<|zM<|zX O ?_
  rw [hp];rfl
def eval_dims (p:Pg) (s:nn) (env:List Bd) (hel:env.length<=1000000) (her:∀x,x∈env->r64 x.Val) (hP:p.Ok) (hR:p.Rng):
    Pur cfg 67 [vPg p,jR env,vS s] (.tup [vIs (mU p env s).1,vTy (p.en.find s).ty,vI (mU p env s).2]):=by
 refine zV func67 O ntmps67 results67 O ?_
 intro z hz
 have hfd:=find_fit hP hR s
 refine Y O<|og O fun b1=>qY 1 O<|qA O O (qZ O v) ?_
 rintro _ _ ⟨b2,rfl,rfl⟩
 refine oi O<|Y O<|zN zBa (J 1 O) O<|G O<|qL O uB (zLq p s hP) (vlr O)<|qW O<|zT O (yD O O O)<|yF O<|yF O<|qA O O (qZ O v) ?_
 rintro _ _ ⟨b3,rfl,rfl⟩
 refine rStR 0 N O<|G O<|oi O<|zF<|ol O O<|kU O<|zA<|zK O ?_ ?_<;>intro c1<;>try simp only [sx] at c1
 ·refine zF<|yH 2 mixed uB O O<|oo O (qB O yE O (J 0 O) O)<|oo O (zKg 1 O O)<|kE<|rStR 1 N O<|oi O<|zM<|fin3 (rs_c O) (zZ yE O (J 1 O) O) (rs_c O) ?_
  rw [dim_no c1];rfl
 ·refine zH<|ol O O<|G O<|qL O uB (eval_extents (p.en.find s).dims env hel her hfd.1 hfd.2) (vlr O)<|qW O<|yF O<|yF O<|G O<|oi O<|zF<|ol O O<|yM O<|zA<|zK O ?_ ?_<;>intro c2<;>try simp only [sx] at c2
  ·refine zF<|yS 4 0 [⟨0,.q [0]⟩,⟨1,.q []⟩,⟨2,.q []⟩,⟨3,.e 1 []⟩] mixed uB uB O O O<|zR O<|zR O<|zR O<|zR O<|wQ<|om O (qB O yE O (J 0 O) O)<|om O (zQ O O)<|om O (zKg 1 O O)<|zCk O O uA O O (yO O N O O O (zBo 0 O O)) ?_
   rintro _ _ ⟨rfl,rfl⟩
   refine ⟨_,O,?_⟩
   refine wP O<|oi O<|zM<|fin3 (rs_c O) (zZ yE O (J 1 O) O) (rs_c O) ?_
   rw [dim_e c1 c2];rfl
  ·refine zH<|zF<|ol O O<|qL O uB (show Pur cfg 121 [vIs (xE env (p.en.find s).dims),vI 4096] (vI ((bP 1 (dU env (p.en.find s).dims)).getD 4097)) by rw [zSz c2];exact eval_count _ (by unfold dU;rw [lLm];exact hfd.1) (zXi c2)) (vlr O)<|zT O (yN O O O)<|zA<|zK O ?_ ?_<;>intro c3<;>try simp only [sx] at c3
   ·refine zF<|yH 2 mixed uB O O<|oo O (qB O yE O (J 0 O) O)<|oo O (zKg 1 O O)<|kE<|rStR 1 N O<|oi O<|zM<|fin3 (rs_c O) (zZ yE O (J 1 O) O) (rs_c O) ?_
    rw [dim_b c1 c2 (cnt_big c3)];rfl
   ·refine zH<|zF<|yH 3 mixed uB O O<|oo O (zQ O O)<|oo O (qB O yE O (J 0 O) O)<|oo O (yR O O)<|kE<|rStR 1 N O<|oi O<|zM<|fin3 (rs_c O) (zZ yE O (J 1 O) O) (rs_c O) ?_
    rw [dim_ok c1 c2 (cnt_fit zB),zSz c2];rfl
def zXm (p:Pg) (s:nn) (env:List Bd) (hel:env.length<=1000000) (her:∀x,x∈env->r64 x.Val) (hP:p.Ok) (hR:p.Rng):
    Pur cfg 24 [vPg p,jR env,vS s] (.tup [vIs (rM p env s).1,vI (rM p env s).2]):=by
 refine zV func24 O ntmps24 results24 O fun z hz=>Y O<|og O fun b1=>qY 1 O<|oi O<|zF<|Y O<|zN zBa (J 0 O) O<|G O<|qL O uB (zSf p env hel her hP hR) (vlr O)<|oi O<|ol O O<|yM O<|zA<|zK O ?_ ?_<;>intro c1<;>try simp only [sx] at c1
 ·refine ol O O<|qY 1 O<|oi O<|zM<|fin2 (rs_c O) (rs_c O) ?_
  rw [dmT_no c1];rfl
 ·refine zH<|Y O<|zN zBa (J 0 O) O<|G O<|G O<|qL O uB (eval_dims p s env hel her hP hR) (vlr O)<|qW O<|yF O<|zT O (yD O O O)<|yF O<|qA O O (qZ O v) ?_
  rintro _ _ ⟨b2,rfl,rfl⟩
  refine G O<|rStR 0 N O<|oi O<|ol O O<|G O<|G O<|oi O<|zM<|fin2 (rs_c O) (rs_c O) ?_
  rw [dmT_ok c1]
def value_One (t:Ty):
    Pur cfg 192 [vTy t] (.tup [tW (fP t).1,vI (fP t).2]):=by
 refine zV func192 O ntmps192 results192 O fun z hz=>Y O<|og O fun b1=>qA O O (qZ O zr54) ?_
 rintro _ _ ⟨b2,rfl,rfl⟩
 refine oi O<|zF<|zS<|Y O<|zN yE (J 1 O) O<|qL O uB (wY _) (vlr O)<|yM O<|oi O<|zK O ?_ ?_<;>intro c1<;>try simp only [sx] at c1
 ·refine Y O<|yJ O zr54 pl54<|rStR 0 sz54 O<|oi O<|zM<|fin2 (zZ zBy O (J 0 O) O) (rs_c O) ?_
  rw [one_no c1];rfl
 ·refine Y O<|zC O zGm<|zE one3 (J 1 O) O<|yM O<|oi O<|zK O ?_ ?_<;>intro c2<;>try simp only [sx] at c2
  ·refine Y O<|yJ O zr54 pl54<|rStR 0 sz54 O<|oi O<|zM<|fin2 (zZ zBy O (J 0 O) O) (rs_c O) ?_
   rw [one_p c1 c2];rfl
  ·refine zH<|Y O<|zC O zPx<|zE one3 (J 1 O) O<|zT O (det_shlE O O O (one_sh c1 c2).1 (one_sh c1 c2).2)<|yJ O zr54 pl54<|qA O O (qZ O zr54) ?_
   rintro _ _ ⟨b3,rfl,rfl⟩
   refine rStR 0 sz54 O<|zA<|zF<|Y O<|zN yE (J 2 O) O<|zN zBy (J 0 O) O<|qL O uB (zWz t ⟨2^t.Frac.toNat,1⟩) (vlr O)<|kU O<|zA<|zK O (fun c3=>?_) (fun c3=>?_)
   ·refine Y O<|yJ O zr54 pl54<|rStR 1 sz54 O<|oi O<|zM<|fin2 (zZ zBy O (J 1 O) O) (rs_c O) ?_
    rw [one_r c1 c2 (notT c3)];rfl
   ·refine zH<|Y O<|zN zBy (J 0 O) O<|rStR 1 sz54 O<|oi O<|zM<|fin2 (zZ zBy O (J 1 O) O) (rs_c O) ?_
    rw [one_ok c1 c2 (notF c3)];rfl
def value_Identity (f:Int) (t:Ty):
    Pur cfg 139 [vI f,vTy t] (.tup [tW (idT f t).1,vB (idT f t).2]):=by
 refine zV func139 O ntmps139 results139 O fun z hz=>Y O<|og O fun b1=>qA O O (qZ O zr54) ?_
 rintro _ _ ⟨b2,rfl,rfl⟩
 refine oi O<|zF<|Y O<|zN yE (J 1 O) O<|qL O uB (wY _) (vlr O)<|yM O<|zA<|zK O ?_ ?_<;>intro c1<;>try simp only [sx] at c1
 ·refine Y O<|yJ O zr54 pl54<|rStR 0 sz54 O<|oi O<|zM<|fin2 (zZ zBy O (J 0 O) O) (rs_c O) ?_
  exact l9
 ·refine zH<|zF<|oh O O<|zS<|zF<|Y O<|yT O<|oi O<|qO O (fun c2=>?_) (fun c2=>?_)
  ·refine zH<|zK O ?_ ?_<;>intro c3<;>try simp only [sx] at c3
   ·refine Y O<|zN yE (J 1 O) O<|qL O uB (value_Zero _) (vlr O)<|rStR 0 sz54 O<|oi O<|zM<|fin2 (zZ zBy O (J 0 O) O) (rs_c O) ?_
    exact l9
   ·exact absurd c2 c3
  ·refine zP O<|yT O<|oi O<|qO O (fun c3=>?_) (fun c3=>?_)
   ·refine Y O<|zN yE (J 1 O) O<|qL O uB (value_Zero _) (vlr O)<|rStR 0 sz54 O<|oi O<|zM<|fin2 (zZ zBy O (J 0 O) O) (rs_c O) ?_
    exact l9
   ·refine Y O<|yT O<|oi O<|qO O (fun c4=>?_) (fun c4=>?_)
    ·refine Y O<|zN yE (J 1 O) O<|qL O uB (value_One _) (vlr O)<|qW O<|zT O (yD O O O)<|yF O<|qA O O (qZ O zr54) ?_
     rintro _ _ ⟨b3,rfl,rfl⟩
     refine rStR 0 sz54 O<|oi O<|Y O<|zN zBy (J 0 O) O<|G O<|yT O<|rStR 1 sz54 O<|oi O<|zM<|fin2 (zZ zBy O (J 1 O) O) (rs_c O) ?_
     exact l9
    ·refine zH<|Y O<|yJ O zr54 pl54<|rStR 0 sz54 O<|oi O<|zM<|fin2 (zZ zBy O (J 0 O) O) (rs_c O) ?_
     exact l9
end Go.W
end
section
set_option maxRecDepth 10000
namespace Go.W
open Go Go.Eng Go.Proofs Go.L41 Go.Br Tryz
attribute [local irreducible] AWP RWP TD fY
def zMu {X:Cfg} {n:Nat} {z:Z} {Q:Exit->S->Prop} {ops:Array Oper} {l:List Oper} {regs:List (Nat×V)} {μ μ':List E} (h:μ=μ') (k:RWP X n z ops l Q ⟨regs,μ'⟩):RWP X n z ops l Q ⟨regs,μ⟩:=h ▸ k
def zGj:bH prog 80 0=some (0,70):=by kernel_rfl
def fd80_2:bH prog 80 2=some (23,31):=by kernel_rfl
def fd80_3:bH prog 80 3=some (24,62):=by kernel_rfl
def zSw:bH prog 80 4=some (37,52):=by kernel_rfl
def one31:fP prog 31=true:=by kernel_rfl
def pl64:fA prog 64=some [(0,1),(1,1),(2,1),(3,1),(4,1),(5,1),(6,13),(19,1)]:=by kernel_rfl
def sz50:(prog.info? 50).map (·.size)=some 2:=by kernel_rfl
def zNq (d a:nn) (hs:d.size<=100000) (hs2:a.size<=100000):
    Pur cfg 8 [vS d,vS a] (vS (lnT d a)):=by
 refine zV func8 O ntmps8 results8 O fun z hz=>oh O O<|ol O O<|zT O (zUk O O O (by show d.size+1<=_;omega))<|G O<|zT O (zUk O O O (by rw [gt];show d.size+1+a.size<=_;omega))<|oi O<|zF<|ol O O<|qL O uB (zCw (d++bs [95]++a)) (vlr O)<|kU O<|zA<|zK O ?_ ?_<;>intro c1<;>try simp only [sx] at c1
 ·refine oh O O<|zM<|zX O ?_
  rw [ln_no (by rw [c1];simp)]
 ·refine zH<|ol O O<|oi O<|zM<|zX O ?_
  rw [ln_ne c1]
def zDp (d a:nn) (hs:d.size<=100000) (hs2:a.size<=100000):
    Pur cfg 9 [vS d,vS a] (vS (lnT d a)):=by
 refine zV func9 O ntmps9 results9 O fun z hz=>oh O O<|ol O O<|zT O (zUk O O O (by show d.size+1<=_;omega))<|G O<|zT O (zUk O O O (by rw [gt];show d.size+1+a.size<=_;omega))<|oi O<|zF<|ol O O<|qL O uB (zHr (d++bs [95]++a)) (vlr O)<|kU O<|zA<|zK O ?_ ?_<;>intro c1<;>try simp only [sx] at c1
 ·refine oh O O<|zM<|zX O ?_
  rw [ln_no (by rw [c1];simp)]
 ·refine zH<|ol O O<|oi O<|zM<|zX O ?_
  rw [ln_ne c1]
def lower_bound (env:List Bd) (s:nn) (hel:env.length<=1000000):
    Pur cfg 29 [jR env,vS s] (vI (gC env s)):=by
 refine zV func29 O ntmps29 results29 O fun z hz=>oh O O<|zF<|ol O O<|qC O el31<|oi O<|zS<|zW ⟨[(9,.c _),(1,.c _),(7,.c _),(8,.c _)],[]⟩ (Weak.mk [] ⟨zD,zD,zD,zD,T⟩ O)<|qG 1 0 O O (Nat) (fun k=>[(9,vI k)]) (fun k=>[]) (fun k=>k<=env.length/\((env.take k).any (fun y=>decide (y.Name=s))=false)) (fun k=>env.length-k) ⟨0,⟨zB,O⟩,Weak.mk [] ⟨zD,zD,zD,zD,T⟩ O⟩ ?_
 rintro k ⟨hk,hp⟩
 refine Y O<|yC O<|zA<|zF<|zK O ?_ ?_<;>intro c1<;>try simp only [sx] at c1
 ·obtain ⟨x,hx⟩:=qX env k zB
  refine zH<|zF<|zS<|Y O<|qE O el31 zB (getm hx)<|zN agg50 qF O<|qA O O (qZ O zr50) ?_
  rintro _ _ ⟨b1,rfl,rfl⟩
  refine rStR 0 sz50 O<|zA<|Y O<|zC O zNu<|zE one9 (J 0 O) O<|G O<|wC O<|zA<|zK O (fun c2=>?_) (fun c2=>?_)
  ·try simp only [sx] at c2
   refine Y O<|zC O zSy<|zE W (J 0 O) O<|oi O<|zM<|zX O ?_
   rw [envD_at hx c2 hp]
  ·exact v69
 ·refine qM<|oh O O<|zM<|zX O ?_
  rw [yI zB] at hp
  rw [envD_no hp]
def zHk (l:List Bd) (b:List St) (hl:l.length<=4294967296):
    Pur cfg 74 [jR l,gJ b] (gJ (dW l b)):=by
 refine zV func74 O ntmps74 results74 O fun z hz=>Y O<|qY 20 O<|zA<|zF<|ol O O<|qC O el31<|zT O (yL O O O ⟨zB,zB⟩)<|oi O<|zS<|zW ⟨[(5,.c _),(1,.c _),(0,.c _)],[]⟩ (Weak.mk [] ⟨zD,zD,zD,T⟩ O) ?_
 refine qG 2 0 O O (Nat) (fun q=>[(5,vI ((q:Int)-1)),(1,gJ (dW (l.drop q) b))]) (fun q=>[]) (fun q=>q<=l.length) (fun q=>q) ⟨l.length,(aA _),Weak.mk [] ⟨zD,VLe.of_eq ((ai gJ (loops_end l b).symm)),zD,T⟩ O⟩ ?_
 rintro q hq
 refine zF<|ol O O<|zT O (wG O O O)<|zA<|zK O ?_ ?_<;>intro c1<;>try simp only [sx] at c1
 ·obtain ⟨j,rfl⟩:∃j,q=j+1:=⟨q-1,zB⟩
  obtain ⟨x,hx⟩:=qX l j zB
  rw [show (((j+1:Nat):Int)-1)=(j:Int) by omega]
  refine zH<|zF<|zS<|yH 14 mixed uB O O<|oo O (zQ O O)<|oo O (zQ O O)<|oo O (qK O el31 O O zB (getm hx))<|oo O (qV O zNu O)<|oo O (zJ O one9 O qF O)<|oo O (zQ O O)<|oo O (zQ O O)<|oo O (qK O el31 O O zB (getm hx))<|oo O (qV O zSy O)<|oo O (zJ O W O qF O)<|oo O (zQ O O)<|oo O (zAu oe O zr64 pl64 O O)<|oo O (kW O el33 zr64 O O O O)<|oo O (yR O O)<|kE<|zA<|zP O<|G O<|zT O (yL O O O ⟨zB,zB⟩)<|G O<|zA ?_
  refine ⟨j,zB,zB,Weak.mk [] ⟨VLe.of_eq ((ai vI zB)),VLe.of_eq ((by rw [loops_back hx,←zMx];rfl)),zD,T⟩ O⟩
 ·obtain rfl:q=0:=by omega
  refine qM<|ol O O<|oi O<|zM<|zX O ?_
  rfl
def mk_set (b:Nat) (d:Df) (dims red:List Bd) (body:Ex) (e:Ex):
    Con cfg 75 [vPt b,vE e] [E.row b 80 (mkC d dims red body (ixT dims))] fun r μ'=>r=vSt (lJ d (ixT dims) e)/\μ'=[E.row b 80 (mkC d dims red body (ixT dims))]:=by
 refine Con.drop<|zV func75 O ntmps75 results75 O fun z hz=>Y O<|og O fun b1=>qA O O (qI nt O zr64 O) ?_
 rintro _ _ ⟨b2,rfl,rfl⟩
 refine zA<|zF<|yH 11 mixed uB O O<|oo O (zQ O O)<|oo O (qS O O)<|oo O (zG O zGj O)<|oo O (zG O zCn O)<|oo O (zJ O one9 O (J 2 O) O)<|oo O (zQ O O)<|oo O (qS O O)<|oo O (zG O zSw O)<|oo O (zJ O wX O (J 2 O) O)<|oo O (qB O yZ O (J 1 O) O)<|oo O (zAu nv O zr64 pl64 O O)<|kE<|rStR 0 sz64 O<|zA<|zW _ (Weak.mem [true,false,true] O)<|zM<|fin1 (zZ zHt O (J 0 O) O) ?_
 exact s8
def mk_fold (b:Nat) (d:Df) (dims red:List Bd) (body:Ex) (f:Int) (e:Ex):
    Con cfg 137 [vPt b,vI f,vE e] [E.row b 80 (mkC d dims red body (ixT dims))] fun r μ'=>r=vSt (fX d (ixT dims) f e)/\μ'=[E.row b 80 (mkC d dims red body (ixT dims))]:=by
 refine Con.drop<|zV func137 O ntmps137 results137 O fun z hz=>Y O<|og O fun b1=>qA O O (qI nt O zr64 O) ?_
 rintro _ _ ⟨b2,rfl,rfl⟩
 refine zA<|zF<|yH 12 mixed uB O O<|oo O (zQ O O)<|oo O (qS O O)<|oo O (zG O zGj O)<|oo O (zG O zCn O)<|oo O (zJ O one9 O (J 2 O) O)<|oo O (zQ O O)<|oo O (zQ O O)<|oo O (qS O O)<|oo O (zG O zSw O)<|oo O (zJ O wX O (J 2 O) O)<|oo O (qB O yZ O (J 1 O) O)<|oo O (zAu nv O zr64 pl64 O O)<|kE<|rStR 0 sz64 O<|zA<|zW _ (Weak.mem [true,false,true] O)<|zM<|fin1 (zZ zHt O (J 0 O) O) ?_
 exact s8
def zNp (l:Lf):
    Pur cfg 138 [dC l] (vE (nA l)):=by
 refine zV func138 O ntmps138 results138 O ?_
 exact l5
def mk_reduce (b:Nat) (d:Df) (dims red:List Bd) (body:Ex) (hrl:red.length<=1000000) (hbw:body.wt<=1000000) (hbr:body.allF Lf.rng):
    Con cfg 77 [vPt b] [E.row b 80 (mkC d dims red body (ixT dims))] fun r μ'=>r=.tup [gJ (nL (tZ d (ixT dims) red body)),vI (xX (tZ d (ixT dims) red body))]/\μ'=[E.row b 80 (mkC d dims red body (ixT dims))]:=by
 refine Con.drop<|zV func77 O ntmps77 results77 O fun z hz=>Y O<|qY 20 O<|oi O<|zF<|zF<|yS 16 1 [⟨0,.q []⟩,⟨1,.q []⟩,⟨2,.q []⟩,⟨3,.q []⟩,⟨4,.q [1]⟩,⟨5,.q []⟩,⟨6,.q []⟩,⟨7,.q []⟩,⟨8,.q []⟩,⟨9,.q [1]⟩,⟨10,.q []⟩,⟨11,.q []⟩,⟨12,.q []⟩,⟨13,.q []⟩,⟨14,.e 0 []⟩,⟨15,.e 0 []⟩] mixed uB uB O O O<|zR O<|zR O<|zR O<|zR O<|zR O<|zR O<|zR O<|zR O<|zR O<|zR O<|zR O<|zR O<|zR O<|zR O<|zR O<|zR O<|wQ<|om O (zQ O O)<|om O (qS O O)<|om O (zG O zGj O)<|om O (zG O zHz O)<|om O (zJ O one3 O (J 0 O) O)<|om O (zQ O O)<|om O (qS O O)<|om O (zG O zGj O)<|om O (zG O zKt O)<|om O (qB O yE O (J 0 O) O)<|om O (qP O uB (value_Identity d.Fold d.T) (vlr O))<|om O (yW O O)<|om O (yD O O O)<|om O (kM O O O)<|zEm O O uA O O (qZ O zr54) ?_
 rintro _ _ ⟨b1,rfl,rfl⟩
 refine ⟨_,O,?_⟩
 refine zCk O O uA O O (yO O sz54 O O O (zBo 0 O O)) ?_
 rintro _ _ ⟨rfl,rfl⟩
 refine ⟨_,O,?_⟩
 refine wP O<|oi O<|oh O O<|zK O ?_ ?_<;>intro c1<;>try simp only [sx] at c1
 ·have hD:=red_id (at_:=ixT dims) (red:=red) (body:=body) c1
  refine zF<|yS 10 1 [⟨0,.q []⟩,⟨1,.q []⟩,⟨2,.q []⟩,⟨3,.q []⟩,⟨4,.q []⟩,⟨5,.q [2]⟩,⟨6,.q [1]⟩,⟨7,.q []⟩,⟨8,.q [2]⟩,⟨9,.f 0⟩] mixed uB uB O O O<|zR O<|zR O<|zR O<|zR O<|zR O<|zR O<|zR O<|zR O<|zR O<|zNb O O (zBe (qI nt O zr64 O)) ⟨_,_,0,O,O⟩<|wQ<|om O (zQ O O)<|om O (zQ O O)<|om O (qS O O)<|om O (zG O zGj O)<|om O (zG O zKt O)<|om O (qB O yE O (J 0 O) O)<|om O (qB O zBy O (J 0 O) O)<|om O (zAu nr O zr62 pl62 O O)<|om O (yU [0] O uB (mk_set b d dims red body (.mk 1 (bs []) (idT d.Fold d.T).1 d.T ⟨0,[]⟩ [] [])) (vlr O) O)<|zMt O O ?_
  rintro _ _ ⟨b2,rfl,rfl⟩
  refine wP O<|rStR 0 sz64 O<|zA<|zF<|yS 19 1 [⟨0,.q [1]⟩,⟨2,.q []⟩,⟨3,.q []⟩,⟨4,.q []⟩,⟨5,.q [3]⟩,⟨6,.q []⟩,⟨7,.q []⟩,⟨8,.q []⟩,⟨9,.q []⟩,⟨10,.q []⟩,⟨11,.q [3]⟩,⟨12,.q []⟩,⟨13,.q []⟩,⟨14,.q []⟩,⟨15,.q [3]⟩,⟨16,.q [3]⟩,⟨17,.q []⟩,⟨18,.q []⟩,⟨1,.e 0 []⟩] mixed uB uB O O O<|zR O<|zR O<|zR O<|zR O<|zR O<|zR O<|zR O<|zR O<|zR O<|zR O<|zR O<|zR O<|zR O<|zR O<|zR O<|zR O<|zR O<|zR O<|zR O<|wQ<|om O (qB O zHt O (J 0 O) O)<|om O (zQ O O)<|om O (qS O O)<|om O (zG O fd80_2 O)<|om O (zJ O one31 O (J 0 O) O)<|om O (zQ O O)<|om O (zQ O O)<|om O (qS O O)<|om O (zG O zGj O)<|om O (zG O zHz O)<|om O (zJ O one3 O (J 0 O) O)<|om O (zQ O O)<|om O (qS O O)<|om O (zG O fd80_3 O)<|om O (qB O yZ O (J 0 O) O)<|om O (yU [0] O uB (mk_fold b d dims red body d.Fold body) (vlr O) O)<|om O (kW O el33 zr64 O O O O)<|om O (qP O uB (zHk red [fX d (ixT dims) d.Fold body] zB) ⟨zD,O,VLe.of_eq (zMx _),O,T⟩)<|zEm O O uA O O (zAt O el33 zr64 O O O O) ?_
  rintro _ _ ⟨sv3,rfl,rfl⟩
  refine ⟨_,O,?_⟩
  refine wP O<|qA O O (yB 0 O el33 O O O (by have:=zGb red [fX d (ixT dims) d.Fold body];simp only [lLm,lLa,lLc,lLn] at this⊢;omega) (by have:=zGb red [fX d (ixT dims) d.Fold body];simp only [lLm,lLa,lLc,lLn] at this⊢;omega)) ?_
  rintro _ _ ⟨sv4,rfl,rfl⟩
  refine G O<|oi O<|zW _ (yK 0 O (regs':=[(2,_),(57,_)]) (μ':=[_,_,_]) ⟨FLe.sl,FLe.sl,T⟩ ⟨EFle.refl _,EFle.refl _,EFle.refl _,T⟩)<|zW _ (Weak.mem [false,false,true] O)<|zM<|fin2 (rs_c O) (rs_c O) ?_
  exact j8
 ·refine zH<|ol O O<|zU O<|zC O fd80_3<|zN yZ (J 1 O) O<|yQ [none,some 2] O U pl59<|qA O O (qI nr O zr62 O) ?_
  rintro _ _ ⟨b5,rfl,rfl⟩
  refine qA O O (qI [none,some 2] O U O) ?_
  rintro _ _ ⟨b6,rfl,rfl⟩
  refine rStR 1 sz62 O<|rStR 0 sz59 O<|zA<|zF<|ol O O<|zU O<|zC O fd80_2<|zE one31 (J 3 O) O<|qC O el31<|oi O<|zS<|zW ⟨[(68,.c _),(0,.c _),(7,.c _),(8,.c _),(66,.c _),(67,.c _)],[_,_,_]⟩ (Weak.mk [true,true,false,true] ⟨zD,zD,zD,zD,zD,zD,T⟩ O)<|qG 1 2 O O (Nat×Ex×Lf) (fun ⟨k,e,s⟩=>[(68,vI k)]) (fun ⟨k,e,s⟩=>[E.row b6 59 s.cells,E.row b5 62 e.cs]) (fun ⟨k,e,s⟩=>k<=red.length/\(SbJ (fun _:nn=>(⟨0,[]⟩:Lf)) (red.map Bd.Name) body k e)/\(SmJ red k s)) (fun ⟨k,e,s⟩=>red.length-k) ⟨⟨0,body,⟨0,[]⟩⟩,⟨zB,zPb hbr,zOz red⟩,Weak.mk [true,true,true] ⟨zD,zD,zD,zD,zD,zD,T⟩ O⟩ ?_
  rintro ⟨k,e,s⟩ ⟨hk,hs1,hs2⟩
  show AWP _ _ _ _ _ ⟨[(68,vI k)]++_,[E.row b6 59 s.cells,E.row b5 62 e.cs]++_⟩
  refine Y O<|yC O<|zA<|zF<|zK O ?_ ?_<;>intro c2<;>try simp only [sx] at c2
  ·obtain ⟨x,hx⟩:=qX red k zB
   refine zH<|zF<|zS<|Y O<|qE O el31 zB (getm hx)<|zN agg50 qF O<|qA O O (qZ O zr50) ?_
   rintro _ _ ⟨b7,rfl,rfl⟩
   refine rStR 0 sz50 O<|zA<|Y O<|zN yZ (J 2 O) O<|zC O zNu<|zE one9 (J 0 O) O<|yQ [none,some 2] O U pl59<|qL O uB (zMn e x.Name ⟨0,[]⟩ (by have:=hs1.wt;omega) hs1.rg (bu _) (zOz []).rg) (vlr O)<|qW O<|zT O (yD O O O)<|yF O<|qA O O (qI nr O zr62 O) ?_
   rintro _ _ ⟨b8,rfl,rfl⟩
   refine rStR 0 sz62 O<|oi O<|zF<|ol O O<|yM O<|zA<|zK O ?_ ?_<;>intro c3<;>try simp only [sx] at c3
   ·have hD:=red_e (at_:=ixT dims) c1 (sbJ_err (u:=(fun _:nn=>(⟨0,[]⟩:Lf))) hs1 (zLz hx) c3)
    refine ol O O<|qY 20 O<|oi O<|zW _ (Weak.mem [false,false,false,false,true] O)<|zM<|fin2 (rs_c O) (rs_c O) ?_
    rw [hD]
    exact s8
   ·refine zH<|Y O<|zN yZ (J 0 O) O<|rStR 3 sz62 O<|zA<|yS 9 0 [⟨0,.q [2]⟩,⟨1,.q []⟩,⟨2,.q [1]⟩,⟨3,.q []⟩,⟨4,.q []⟩,⟨5,.q []⟩,⟨6,.q []⟩,⟨7,.q []⟩,⟨8,.e 2 []⟩] mixed uB uB O O O<|zR O<|zR O<|zR O<|zR O<|zR O<|zR O<|zR O<|zR O<|zR O<|wQ<|om O (qB O yV O (J 0 O) O)<|om O (zG O zNu O)<|om O (zJ O one9 O (J 0 O) O)<|om O (qP O uB (lin_Var x.Name) (vlr O))<|om O (qP O uB (lin_Add s (dF x.Name) (by have:=hs2.ln;omega) (by have:=zOq x.Name;omega) hs2.rg (zTo _)) (vlr O))<|om O (yW O O)<|om O (yD O O O)<|om O (kM O O O)<|zCk O O uA O O (yO O sz59 O O O (zBo 0 O O)) ?_
    rintro _ _ ⟨rfl,rfl⟩
    refine ⟨_,O,?_⟩
    refine wP O<|zA<|zP O<|qH O ⟨zB,zB⟩<|G O<|zA ?_
    refine ⟨⟨k+1,jZ (mEx (fun l=>bU l x.Name ⟨0,[]⟩) e),(gQ s (dF x.Name)).1⟩,⟨zB,zTx (u:=(fun _:nn=>(⟨0,[]⟩:Lf))) (fun _=>O) hs1 (zLz hx) c3,smJ_next hs2 hx⟩,(by show red.length-(k+1)<red.length-k;omega),Weak.mk [false,false,true,true,true] ⟨zD,zD,zD,zD,zD,zD,T⟩ O⟩
  ·have hD:=red_ok (at_:=ixT dims) c1 (sbJ_end hs1 (by rw [lLm];omega)) (smJ_end hs2 zB)
   refine qM<|zF<|yS 16 1 [⟨0,.q [1]⟩,⟨1,.q []⟩,⟨2,.q []⟩,⟨3,.q []⟩,⟨4,.q []⟩,⟨5,.q []⟩,⟨6,.q []⟩,⟨7,.q [3]⟩,⟨8,.q []⟩,⟨9,.q []⟩,⟨10,.q []⟩,⟨11,.q [3]⟩,⟨12,.q [3]⟩,⟨13,.q []⟩,⟨14,.q []⟩,⟨15,.f 0⟩] mixed uB uB O O O<|zR O<|zR O<|zR O<|zR O<|zR O<|zR O<|zR O<|zR O<|zR O<|zR O<|zR O<|zR O<|zR O<|zR O<|zR O<|zNb O O (zBe (qI nt O zr64 O)) ⟨_,_,0,O,O⟩<|wQ<|om O (qB O yV O (J 0 O) O)<|om O (qP O uB (zNp s) (vlr O))<|om O (zQ O O)<|om O (zQ O O)<|om O (qS O O)<|om O (zG O zGj O)<|om O (zG O zHz O)<|om O (zJ O one3 O (J 0 O) O)<|om O (zQ O O)<|om O (qS O O)<|om O (zG O fd80_3 O)<|om O (qB O yZ O (J 0 O) O)<|om O (yU [0] O uB (mk_fold b d dims red body d.Fold body) (vlr O) O)<|om O (kW O el33 zr64 O O O O)<|om O (zAu oa O zr64 pl64 O O)<|zMt O O ?_
   rintro _ _ ⟨b9,rfl,rfl⟩
   refine wP O<|rStR 0 sz64 O<|zA<|zF<|yS 11 1 [⟨0,.q []⟩,⟨1,.q [3]⟩,⟨2,.q [4]⟩,⟨4,.q []⟩,⟨5,.q []⟩,⟨6,.q []⟩,⟨7,.q [4]⟩,⟨8,.q [1]⟩,⟨9,.q []⟩,⟨10,.q []⟩,⟨3,.e 0 []⟩] mixed uB uB O O O<|zR O<|zR O<|zR O<|zR O<|zR O<|zR O<|zR O<|zR O<|zR O<|zR O<|zR O<|wQ<|om O (zQ O O)<|om O (qB O yZ O (J 0 O) O)<|om O (yU [0] O uB (mk_set b d dims red body e) (vlr O) O)<|om O (zQ O O)<|om O (qS O O)<|om O (zG O fd80_2 O)<|om O (zJ O one31 O (J 0 O) O)<|om O (qB O zHt O (J 0 O) O)<|om O (kW O el33 zr64 O O O O)<|om O (qP O uB (zHk red [lIf (nA s) [fX d (ixT dims) d.Fold body]] zB) ⟨zD,O,VLe.of_eq (if_rows _ _),O,T⟩)<|zEm O O uA O O (zAt O el33 zr64 O O O O) ?_
   rintro _ _ ⟨sv10,rfl,rfl⟩
   refine ⟨_,O,?_⟩
   refine wP O<|qA O O (yB 0 O el33 O O O (by have:=zGb red [lIf (nA s) [fX d (ixT dims) d.Fold body]];simp only [lLm,lLa,lLc,lLn] at this⊢;omega) (by have:=zGb red [lIf (nA s) [fX d (ixT dims) d.Fold body]];simp only [lLm,lLa,lLc,lLn] at this⊢;omega)) ?_
   rintro _ _ ⟨sv11,rfl,rfl⟩
   refine G O<|oi O<|zW _ (yK 0 O (regs':=[(119,_),(2,_)]) (μ':=[_,_,_,_]) ⟨FLe.sl,FLe.sl,T⟩ ⟨EFle.refl _,EFle.refl _,EFle.refl _,EFle.refl _,T⟩)<|zW _ (Weak.mem [false,false,false,true] O)<|zM<|fin2 (rs_c O) (rs_c O) ?_
   exact j8
def mk_scan (b:Nat) (d:Df) (dims red:List Bd) (body:Ex) (hdl:dims.length<=1000000) (hd0:0<dims.length):
    Con cfg 76 [vPt b] [E.row b 80 (mkC d dims red body (ixT dims))] fun r μ'=>r=gJ (cG d (ixT dims) body)/\μ'=[E.row b 80 (mkC d dims red body (ixT dims))]:=by
 refine Con.drop<|zV func76 O ntmps76 results76 O ?_
 intro z hz
 obtain ⟨x,hx⟩:=qX dims (dims.length-1) zB
 have hix:=ix_at hx
 have hil:(ixT dims).length=dims.length:=by unfold ixT;rw [lLm]
 refine Y O<|qY 20 O<|zA<|ol O O<|zU O<|zC O zSw<|zE wX (J 0 O) O<|qC O el52<|zT O (yL O O O ⟨zB,zB⟩)<|oi O<|ol O O<|zU O<|zC O zSw<|zE wX (J 0 O) O<|yP _ (kF 93 4)<|qA O O (yB 0 O el52 O O O uE uE) ?_
 rintro _ _ ⟨sv1,rfl,rfl⟩
 refine oi O<|zF<|yS 18 0 [⟨0,.q []⟩,⟨1,.q []⟩,⟨2,.q []⟩,⟨3,.q []⟩,⟨4,.q []⟩,⟨5,.q [1]⟩,⟨6,.q []⟩,⟨7,.q []⟩,⟨8,.q []⟩,⟨9,.q []⟩,⟨10,.q []⟩,⟨11,.q []⟩,⟨12,.q []⟩,⟨13,.q []⟩,⟨14,.q []⟩,⟨15,.q [0]⟩,⟨16,.q []⟩,⟨17,.e 0 []⟩] mixed uB uB O O O<|zR O<|zR O<|zR O<|zR O<|zR O<|zR O<|zR O<|zR O<|zR O<|zR O<|zR O<|zR O<|zR O<|zR O<|zR O<|zR O<|zR O<|zR O<|wQ<|om O (zQ O O)<|om O (zQ O O)<|om O (zQ O O)<|om O (qS O O)<|om O (zG O zSw O)<|om O (zJ O wX O (J 0 O) O)<|om O (zQ O O)<|om O (qK O el52 O O zB (zUc hix))<|om O (qV O zCy O)<|om O (qB O yV O qF O)<|om O (qP O uB (lin_Const (-1)) (vlr O))<|om O (qP O uB (lin_Add (dF x.Name) ⟨-1,[]⟩ (by have:=zOq x.Name;omega) uA (zTo _) m1_rng) (vlr O))<|om O (yW O O)<|om O (yD O O O)<|om O (kM O O O)<|om O (qT 0 O el52 O O O zB (by simp only [lNa,lLm];omega))<|om O (wF O zCy O)<|zCk O O uA O O (yO O sz59 O O O (zEw 0 O (zUc hix) O)) ?_
 rintro _ _ ⟨rfl,rfl⟩
 refine ⟨_,O,?_⟩
 refine wP O<|zA<|Y O<|zMu (μ':=[E.vec sv1 93 4 (((ixT dims).set ((ixT dims).length-1) ⟨(gQ (dF x.Name) ⟨-1,[]⟩).1,bs [],[]⟩).map Ix.cells),E.row b 80 (mkC d dims red body (ixT dims))]) (by rw [←scn_rows];rfl)<|yP _ (yK 0 O (regs':=[(16,_),(4,_),(18,_)]) (μ':=[_]) ⟨FLe.sl,FLe.sl,FLe.sl,T⟩ ⟨EFle.refl _,T⟩)<|G O<|G O<|zU O<|zC O zGj<|zC O zCn<|zE one9 (J 0 O) O<|G O<|yQ nz O zr62 pl62<|zT O (yU [0] O uB (mk_fold b d dims red body 1 (.mk 3 d.Name ⟨0,0⟩ zTy ⟨0,[]⟩ ((ixT dims).set ((ixT dims).length-1) ⟨(gQ (dF x.Name) ⟨-1,[]⟩).1,bs [],[]⟩) [])) (vlr O) O)<|qA O O (qI nt O zr64 O) ?_
 rintro _ _ ⟨b2,rfl,rfl⟩
 refine rStR 0 sz64 O<|zA<|zF<|yS 17 0 [⟨0,.q []⟩,⟨1,.q []⟩,⟨2,.q []⟩,⟨3,.q []⟩,⟨4,.q [1]⟩,⟨5,.q [1]⟩,⟨6,.q []⟩,⟨7,.q []⟩,⟨8,.q []⟩,⟨9,.q [1]⟩,⟨10,.q []⟩,⟨11,.q []⟩,⟨12,.q []⟩,⟨13,.q []⟩,⟨14,.q []⟩,⟨15,.q [0]⟩,⟨16,.q []⟩] mixed uB uB O O O<|zR O<|zR O<|zR O<|zR O<|zR O<|zR O<|zR O<|zR O<|zR O<|zR O<|zR O<|zR O<|zR O<|zR O<|zR O<|zR O<|zR O<|wQ<|om O (zQ O O)<|om O (zQ O O)<|om O (qS O O)<|om O (zG O fd80_3 O)<|om O (qB O yZ O (J 0 O) O)<|om O (yU [0] O uB (mk_set b d dims red body body) (vlr O) O)<|om O (zQ O O)<|om O (qS O O)<|om O (zG O zSw O)<|om O (zJ O wX O (J 0 O) O)<|om O (zQ O O)<|om O (qK O el52 O O zB (zUc hix))<|om O (qV O zCy O)<|om O (qB O yV O qF O)<|om O (qP O uB (zNp (dF x.Name)) (vlr O))<|om O (qB O zHt O (J 0 O) O)<|om O (kW O el33 zr64 O O O O)<|wP O<|yQ oa O zr64 pl64<|yY O el33 zr64<|oi O<|zW _ (Weak.mem [false,true] O)<|zM<|zX O ?_
 rw [scn_is hix]
 first|exact ⟨zJo _ _ _,[],rfl⟩|exact ⟨zJo _ _ _,[_],rfl⟩|exact ⟨zJo _ _ _,[_,_],rfl⟩|exact ⟨zJo _ _ _,[_,_,_],rfl⟩|exact ⟨zJo _ _ _,[_,_,_,_],rfl⟩|exact ⟨zJo _ _ _,[_,_,_,_,_],rfl⟩
end Go.W
end
section
set_option maxRecDepth 10000
namespace Go.W
open Go Go.Eng Go.Proofs Go.L41 Go.Br Tryz
attribute [local irreducible] AWP RWP TD fY
def fd80_1:bH prog 80 1=some (22,31):=by kernel_rfl
def sm83:rZ prog 83=some (Value.string (ByteArray.mk #[])):=by kernel_rfl
def zWm (mb:Nat) (d:nn) (l:List Ax) (ext:List Int) (m:SmM) (hd:d.size<=100000) (hl:l.length<=1000000) (hs:∀x,x∈l->x.Name.size<=100000) (hel:ext.length=l.length):
    Con cfg 26 [vS d,.c (.sl 3 (l.map Ax.cells)),vIs ext,.c (.lit (.map (some mb)))] [E.blk mb (MapR vS m)] fun r μ'=>r=.tup [jR (eX d l ext),vI (lB d l)]/\μ'=[E.blk mb (MapR vS (nW d l m))]:=by
 refine Con.drop<|zV func26 O ntmps26 results26 O fun z hz=>Y O<|qY 2 O<|oi O<|ol O O<|yP _ (kF 50 2)<|zA<|zF<|ol O O<|qC O el68<|oi O<|zS<|zW ⟨[(16,.c _),(10,.c _),(0,.c _),(2,.c _),(3,.c _),(14,.c _),(15,.c _)],[_,_]⟩ (Weak.mk [true,true] ⟨zD,zD,zD,zD,zD,zD,zD,T⟩ O)<|qG 2 2 O O (Nat×Value×SmM) (fun ⟨k,sv,q⟩=>[(16,vI k),(10,.c (.lit sv))]) (fun ⟨k,sv,q⟩=>[E.vec sv 50 2 ((gR d (l.take k) ext).map Bd.cells),E.blk mb (MapR vS q)]) (fun ⟨k,sv,q⟩=>k<=l.length/\((l.take k).any (fun x=>decide (lnT d x.Name=bs []))=false)/\(nW d l m=nW d (l.drop k) q)) (fun ⟨k,sv,q⟩=>l.length-k) ⟨⟨0,(.slice none 0 0),m⟩,⟨zB,O,O⟩,Weak.mk [true,true] ⟨zD,zD,zD,zD,zD,zD,zD,T⟩ O⟩ ?_
 rintro ⟨k,sv,q⟩ ⟨hk,hp,hq⟩
 show AWP _ _ _ _ _ ⟨[(16,vI k),(10,.c (.lit sv))]++_,[E.vec sv 50 2 ((gR d (l.take k) ext).map Bd.cells),E.blk mb (MapR vS q)]++_⟩
 refine Y O<|yC O<|zA<|zF<|zK O ?_ ?_<;>intro c1<;>try simp only [sx] at c1
 ·obtain ⟨x,hx⟩:=qX l k zB
  obtain ⟨n,hn⟩:=qX ext k zB
  refine zH<|zF<|zS<|ol O O<|qE O el68 zB (getm hx)<|zN agg99 qF O<|qA O O (qI [none,none,some 2] O zr99 O) ?_
  rintro _ _ ⟨b2,rfl,rfl⟩
  refine G O<|rStR 0 sz99 O<|zA<|ol O O<|zC O zHy<|zE one9 (J 0 O) O<|qL O uB (zNq d x.Name hd (hs x (qD hx))) (vlr O)<|oi O<|zF<|ol O O<|wC O<|zA<|zK O ?_ ?_<;>intro c2<;>try simp only [sx] at c2
  ·have hE:=nmd_stop hx c2
   have hM:=nmdM_stop hx hq c2
   refine Y O<|qY 2 O<|oi O<|zW _ (Weak.mem [false,false,true] O)<|zM<|fin2 (rs_c O) (rs_c O) ?_
   rw [nmdB_no hE,hE,hM]
   exact s8
  ·refine zH<|ol O O<|zC O zHy<|zE one9 (J 0 O) O<|G O<|wI O O (zJb 2 (lnT d x.Name) O sm83 O O O (zD) O)<|zA<|zP O<|G O<|G O<|G O<|G O<|qE O el46 zB (getm hn)<|zE one3 qF O<|yJ O zr50 pl50<|yY O el31 zr50<|qA O O (yB 1 O el31 O O O (by simp [gR];omega) (by simp [gR];omega)) ?_
   rintro _ _ ⟨sv3,rfl,rfl⟩
   refine oi O<|zP O<|qH O ⟨zB,zB⟩<|G O<|zA ?_
   refine ⟨⟨k+1,sv3,fJ q x.Name (lnT d x.Name)⟩,⟨zB,nmd_go hx hp c2,nmdM_next hx hq c2⟩,(by show l.length-(k+1)<l.length-k;omega),Weak.mk [false,true,true] ⟨zD,zD,zD,zD,zD,zD,zD,T⟩ (by show _=[E.vec sv3 _ 2 ((gR d (l.take (k+1)) ext).map Bd.cells),E.blk mb (MapR vS (fJ q x.Name (lnT d x.Name)))]++_;rw [nmdL_next hx hn,ah];rfl)⟩
 ·rw [yI (l:=l) (k:=k) zB]
  rw [yI (l:=l) (k:=k) zB] at hp
  have hE:=nmd_end hp
  have hM:=nmdM_end hq (show l.length<=k by omega)
  refine zW _ (yK 0 O (regs':=[(10,_)]) (μ':=[_]) ⟨FLe.sl,T⟩ ⟨EFle.refl _,T⟩)<|qM<|ol O O<|G O<|oi O<|zM<|fin2 (rs_c O) (rs_c O) ?_
  rw [nmdB_ok hE,hE,hM]
  exact s8
def mk_statements (b:Nat) (d:Df) (dims red:List Bd) (body:Ex) (hdl:dims.length<=1000000) (hrl:red.length<=1000000) (hbw:body.wt<=1000000) (hbr:body.allF Lf.rng) (h5:d.Fold=5->0<dims.length):
    Con cfg 32 [vPt b] [E.row b 80 (mkC d dims red body (ixT dims))] fun r μ'=>r=.tup [gJ (nL (stT d dims red body)),vI (xX (stT d dims red body))]/\μ'=[E.row b 80 (mkC d dims red body (ixT dims))]:=by
 refine Con.drop<|zV func32 O ntmps32 results32 O fun z hz=>Y O<|qY 20 O<|oi O<|zF<|ol O O<|zU O<|zC O zGj<|zC O zHz<|zE one3 (J 0 O) O<|zA<|zS<|Y O<|yT O<|oi O<|qO O (fun c1=>?_) (fun c1=>?_)
 ·have hD:=st_ok (inn_0 (at_:=ixT dims) (red:=red) (body:=body) c1)
  refine zF<|yS 11 0 [⟨0,.q []⟩,⟨1,.q []⟩,⟨2,.q []⟩,⟨3,.q [0]⟩,⟨4,.q []⟩,⟨5,.q []⟩,⟨6,.q []⟩,⟨7,.q []⟩,⟨8,.q [0]⟩,⟨9,.q [0]⟩,⟨10,.q []⟩] mixed uB uB O O O<|zR O<|zR O<|zR O<|zR O<|zR O<|zR O<|zR O<|zR O<|zR O<|zR O<|zR O<|wQ<|om O (zQ O O)<|om O (qS O O)<|om O (zG O fd80_1 O)<|om O (zJ O one31 O (J 0 O) O)<|om O (zQ O O)<|om O (zQ O O)<|om O (qS O O)<|om O (zG O fd80_3 O)<|om O (qB O yZ O (J 0 O) O)<|om O (yU [0] O uB (mk_set b d dims red body body) (vlr O) O)<|om O (kW O el33 zr64 O O O O)<|wP O<|qL O uB (zHk dims [lJ d (ixT dims) body] zB) ⟨zD,O,VLe.of_eq (zMx _),O,T⟩<|G O<|oi O<|zM<|fin2 (rs_c O) (rs_c O) ?_
  rw [hD]
  exact s8
 ·refine Y O<|yT O<|oi O<|qO O (fun c2=>?_) (fun c2=>?_)
  ·have hD:=st_ok (inn_5 (at_:=ixT dims) (red:=red) (body:=body) c2)
   refine zF<|yS 6 0 [⟨0,.q []⟩,⟨1,.q []⟩,⟨2,.q []⟩,⟨3,.q [0]⟩,⟨4,.q []⟩,⟨5,.q [0]⟩] mixed uB uB O O O<|zR O<|zR O<|zR O<|zR O<|zR O<|zR O<|wQ<|om O (zQ O O)<|om O (qS O O)<|om O (zG O fd80_1 O)<|om O (zJ O one31 O (J 0 O) O)<|om O (zQ O O)<|om O (yU [0] O uB (mk_scan b d dims red body hdl (h5 c2)) (vlr O) O)<|wP O<|qL O uB (zHk dims (cG d (ixT dims) body) zB) (vlr O)<|G O<|oi O<|zM<|fin2 (rs_c O) (rs_c O) ?_
   rw [hD]
   exact s8
  ·have hI:=inn_r (at_:=ixT dims) (red:=red) (body:=body) c1 c2
   refine zH<|ol O O<|zT O (yU [0] O uB (mk_reduce b d dims red body hrl hbw hbr) (vlr O) O)<|qW O<|yF O<|yF O<|G O<|oi O<|zF<|ol O O<|yM O<|zA<|zK O ?_ ?_<;>intro c3<;>try simp only [sx] at c3
   ·obtain ⟨x,hx⟩:=errL_er c3
    have hD:=st_e (hI.trans hx)
    rw [hx]
    refine ol O O<|qY 20 O<|oi O<|zM<|fin2 (rs_c O) (rs_c O) ?_
    rw [hD]
    exact s8
   ·obtain ⟨x,hx⟩:=errL_0 (fun x hx=>red_ne hx) c3
    have hD:=st_ok (hI.trans hx)
    rw [hx]
    refine zH<|ol O O<|zU O<|zC O fd80_1<|zE one31 (J 0 O) O<|G O<|qL O uB (zHk dims x zB) (vlr O)<|G O<|oi O<|zM<|fin2 (rs_c O) (rs_c O) ?_
    rw [hD]
    exact s8
end Go.W
end
section
set_option maxRecDepth 10000
namespace Go.W
open Go Go.Eng Go.Proofs Go.L41 Go.Br Tryz
attribute [local irreducible] AWP RWP TD fY
def zJw (A Bn:List nn) (mb:Nat) (m:SmM) (hm:∀s,(fQ m s).getD s=mA A Bn s) (hA:A.Nodup) (hB:Bn.Nodup) (hAB:A.length=Bn.length) (l:Lf) (hl:l.L.length<=4294967296) (hs:rX A Bn l):
    Con cfg 72 [dC l,.c (.lit (.map (some mb)))] [E.blk mb (MapR vS m)] fun r μ'=>r=dC (gK A Bn l)/\μ'=[E.blk mb (MapR vS m)]:=by
 refine Con.drop<|zV func72 O ntmps72 results72 O fun z hz=>Y O<|og O fun b1=>qA O O (qI [none,some 2] O U O) ?_
 rintro _ _ ⟨b2,rfl,rfl⟩
 refine zA<|Y O<|zC O zCc<|zE W (J 1 O) O<|yJ O U pl59<|qA O O (qZ O U) ?_
 rintro _ _ ⟨b3,rfl,rfl⟩
 refine rStR 0 sz59 O<|zA<|zF<|Y O<|yP _ (kF 139 2)<|zC O kC<|zE wA (J 3 O) O<|zT O (zGx O D O)<|oi O<|zS<|zW ⟨[(16,.c _),(1,.c _),(4,.c _),(5,.c _),(14,.c _),(15,.c _)],[_,_,_,_]⟩ (Weak.mk [true,true,true,false,true] ⟨zD,zD,zD,zD,zD,zD,T⟩ O)<|qG 1 2 O O (Nat×Value) (fun ⟨k,sv⟩=>[(16,vI k)]) (fun ⟨k,sv⟩=>[E.vec sv 139 2 (((l.L.take k).map (fun x:Mono=>(⟨mA A Bn x.Name,x.By⟩:Mono))).map Mono.cells),E.row b3 59 [cI l.K,.lit sv]]) (fun ⟨k,sv⟩=>k<=l.L.length) (fun ⟨k,sv⟩=>l.L.length-k) ⟨⟨0,(.slice none 0 0)⟩,zB,Weak.mk [true,true,true,true] ⟨zD,zD,zD,zD,zD,zD,T⟩ O⟩ ?_
 rintro ⟨k,sv⟩ hk
 show AWP _ _ _ _ _ ⟨[(16,vI k)]++_,[E.vec sv 139 2 (((l.L.take k).map (fun x:Mono=>(⟨mA A Bn x.Name,x.By⟩:Mono))).map Mono.cells),E.row b3 59 [cI l.K,.lit sv]]++_⟩
 refine Y O<|yC O<|zA<|zF<|zK O ?_ ?_<;>intro c1<;>try simp only [sx] at c1
 ·obtain ⟨x,hx⟩:=qX l.L k zB
  refine zH<|zF<|zS<|Y O<|qE O D zB (getm hx)<|zN zFb qF O<|qA O O (qZ O zEk) ?_
  rintro _ _ ⟨b4,rfl,rfl⟩
  refine rStR 0 sz139 O<|zA<|zF<|ol O O<|zC O wE<|zE one9 (J 0 O) O<|zT O (det_lookup_ok 4 (bs []) O sm83 O O O (fun _ _=>CRep.lit _ O))<|qW O<|yF O<|yF O<|G O<|oi O<|oh O O<|zK O ?_ ?_<;>intro c2<;>try simp only [sx] at c2
  ·have hr:(fQ m x.Name).getD (bs [])=mA A Bn x.Name:=by rw [←hm];cases h9:fQ m x.Name with|none=>rw [h9] at c2;cases c2|some v=>rfl
   refine zP O<|G O<|zC O wE<|rStR 0 sz9 O<|zA<|zP O<|zC O kC<|zE wA (J 2 O) O<|zN zFb (J 0 O) O<|yY O D zEk<|qA O O (yB 1 O D O O O uE uE) ?_
   rintro _ _ ⟨sv5,rfl,rfl⟩
   refine zC O kC<|rStR 2 sz57 O<|zA<|zP O<|qH O ⟨zB,zB⟩<|G O<|zA ?_
   refine ⟨⟨k+1,sv5⟩,zB,(by show l.L.length-(k+1)<l.L.length-k;omega),Weak.mk [false,true,true,true,true] ⟨zD,zD,zD,zD,zD,zD,T⟩ (by exact zJv (by rw [yA hx,ah,ah];show _=_++[[cS (mA A Bn x.Name),cI x.By]];rw [←hr];rfl))⟩
  ·have hr:x.Name=mA A Bn x.Name:=by rw [←hm];cases h9:fQ m x.Name with|none=>rfl|some v=>rw [h9] at c2;cases c2
   refine zH<|zP O<|zC O kC<|zE wA (J 2 O) O<|zN zFb (J 0 O) O<|yY O D zEk<|qA O O (yB 1 O D O O O uE uE) ?_
   rintro _ _ ⟨sv6,rfl,rfl⟩
   refine zC O kC<|rStR 2 sz57 O<|zA<|zP O<|qH O ⟨zB,zB⟩<|G O<|zA ?_
   refine ⟨⟨k+1,sv6⟩,zB,(by show l.L.length-(k+1)<l.L.length-k;omega),Weak.mk [false,true,true,true,true] ⟨zD,zD,zD,zD,zD,zD,T⟩ (by exact zJv (by rw [yA hx,ah,ah];show _=_++[[cS (mA A Bn x.Name),cI x.By]];rw [←hr];rfl))⟩
 ·rw [yI (l:=l.L) (k:=k) zB]
  refine qM<|Y O<|zC O kC<|zE wA (J 1 O) O<|zT O (kI [0] O uB (sortM_con sv (l.L.map (fun x:Mono=>(⟨mA A Bn x.Name,x.By⟩:Mono))) (by rw [lLm];exact hl) (ren_nodup hA hB hAB hs)) (vlr O) O)<|yP _ (yK 0 O (regs':=[(38,_)]) (μ':=[_,_,_]) ⟨FLe.sl,T⟩ ⟨EFle.row (ds:=[_,_]) ⟨.inl O,.inr ⟨O,O⟩,T⟩,EFle.refl _,EFle.refl _,T⟩)<|zA<|Y O<|zN yV (J 0 O) O<|rStR 1 sz59 O<|zA<|zW _ (Weak.mem [false,true,true] O)<|zM<|fin1 (zZ yV O (J 0 O) O) ?_
  exact s8
def zRv (A Bn:List nn) (mb:Nat) (m:SmM) (hm:∀s,(fQ m s).getD s=mA A Bn s) (hA:A.Nodup) (hB:Bn.Nodup) (hAB:A.length=Bn.length) (e:Ex) (ih:∀a,a∈e.Args->a.wt<=2000000->a.allF (rX A Bn)->Con cfg 30 [vE a,.c (.lit (.map (some mb)))] [E.blk mb (MapR vS m)] fun r μ'=>r=vE (gEx (gK A Bn) a)/\μ'=[E.blk mb (MapR vS m)]) (he:e.wt<=2000000) (hs:e.allF (rX A Bn)):
    Con cfg 30 [vE e,.c (.lit (.map (some mb)))] [E.blk mb (MapR vS m)] fun r μ'=>r=vE (gEx (gK A Bn) e)/\μ'=[E.blk mb (MapR vS m)]:=by
 refine Con.drop<|zV func30 O ntmps30 results30 O ?_
 intro z hz
 have hew:=Ex.wt_eq e
 obtain ⟨hel,hei,hea⟩:=e.parts he
 have hsI:∀x,x∈e.Idx->rX A Bn x.Lin/\∀l,l∈x.At->rX A Bn l:=fun x hx=>⟨Ex.allF_ix hs hx,fun l hl=>Ex.allF_at hs hx hl⟩
 refine Y O<|og O fun b1=>qA O O (qI nr O zr62 O) ?_
 rintro _ _ ⟨b2,rfl,rfl⟩
 refine zA<|Y O<|zC O zDt<|zN yV (J 1 O) O<|G O<|zT O (yU [2] O uB (zJw A Bn mb m hm hA hB hAB e.Lin zB (Ex.allF_lin hs)) (vlr O) O)<|zC O zDt<|rStR 1 sz59 O<|zA<|ol O O<|yP _ (kF 93 4)<|zA<|zF<|Y O<|zC O wB<|zE wX (J 2 O) O<|zT O (zGx O el52 O)<|oi O<|zS<|zW ⟨[(22,.c _),(5,.c _),(1,.c _),(2,.c _),(4,.c _),(20,.c _),(21,.c _)],[_,_,_,_]⟩ (Weak.mk [true,true,true,true] ⟨zD,zD,zD,zD,zD,zD,zD,T⟩ O)<|qG 2 1 O O (Nat×Value) (fun ⟨k,sv⟩=>[(22,vI k),(5,.c (.lit sv))]) (fun ⟨k,sv⟩=>[E.vec sv 93 4 (((e.Idx.take k).map (gIx (gK A Bn))).map Ix.cells)]) (fun ⟨k,sv⟩=>k<=e.Idx.length) (fun ⟨k,sv⟩=>e.Idx.length-k) ⟨⟨0,(.slice none 0 0)⟩,zB,Weak.mk [true,true,true,true] ⟨zD,zD,zD,zD,zD,zD,zD,T⟩ O⟩ ?_
 rintro ⟨k,sv⟩ hk
 show AWP _ _ _ _ _ ⟨[(22,vI k),(5,.c (.lit sv))]++_,[E.vec sv 93 4 (((e.Idx.take k).map (gIx (gK A Bn))).map Ix.cells)]++_⟩
 refine Y O<|yC O<|zA<|zF<|zK O ?_ ?_<;>intro c1<;>try simp only [sx] at c1
 ·obtain ⟨x,hx⟩:=qX e.Idx k zB
  have hxw:=zDs (qD hx)
  rw [Ix.wt] at hxw
  refine zH<|zF<|zS<|Y O<|qE O el52 zB (getm hx)<|zN zGp qF O<|qA O O (qI ns O zr93 O) ?_
  rintro _ _ ⟨b4,rfl,rfl⟩
  refine rStR 0 sz93 O<|zA<|zF<|yS 8 1 [⟨0,.q []⟩,⟨1,.q [1]⟩,⟨2,.q []⟩,⟨3,.q [5]⟩,⟨4,.q []⟩,⟨5,.q [1]⟩,⟨6,.q []⟩,⟨7,.f 0⟩] mixed uB uB O O O<|zR O<|zR O<|zR O<|zR O<|zR O<|zR O<|zR O<|zNb O O (zBe (qZ O zr93)) ⟨_,_,0,O,O⟩<|wQ<|om O (zG O zCy O)<|om O (qB O yV O (J 0 O) O)<|om O (zQ O O)<|om O (yU [0] O uB (zJw A Bn mb m hm hA hB hAB x.Lin zB (hsI x (qD hx)).1) (vlr O) O)<|om O (zG O zEs O)<|om O (zJ O one9 O (J 0 O) O)<|om O (zBx O zr93 pl93 O)<|zMt O O ?_
  rintro _ _ ⟨b5,rfl,rfl⟩
  refine wP O<|rStR 0 sz93 O<|zA<|zF<|Y O<|yP _ (kF 59 2)<|zC O zAi<|zE zBs (J 2 O) O<|qC O el72<|oi O<|zS<|zW ⟨[(36,.c _),(1,.c _),(2,.c _),(4,.c _),(5,.c _),(8,.c _),(20,.c _),(21,.c _),(22,.c _),(34,.c _),(35,.c _)],[_,_,_,_,_,_]⟩ (Weak.mk [true,true,false,true,true,true,true] ⟨zD,zD,zD,zD,zD,zD,zD,zD,zD,zD,zD,T⟩ O)<|qG 1 2 O O (Nat×Value) (fun ⟨j,sw⟩=>[(36,vI j)]) (fun ⟨j,sw⟩=>[E.vec sw 59 2 (((x.At.take j).map (gK A Bn)).map Lf.cells),E.row b5 93 [cI (gK A Bn x.Lin).K,.sl 2 ((gK A Bn x.Lin).L.map Mono.cells),cS x.From,.lit sw]]) (fun ⟨j,sw⟩=>j<=x.At.length) (fun ⟨j,sw⟩=>x.At.length-j) ⟨⟨0,(.slice none 0 0)⟩,zB,Weak.mk [true,true,true,true,true,true] ⟨zD,zD,zD,zD,zD,zD,zD,zD,zD,zD,zD,T⟩ O⟩ ?_
  rintro ⟨j,sw⟩ hj
  show AWP _ _ _ _ _ ⟨[(36,vI j)]++_,[E.vec sw 59 2 (((x.At.take j).map (gK A Bn)).map Lf.cells),E.row b5 93 [cI (gK A Bn x.Lin).K,.sl 2 ((gK A Bn x.Lin).L.map Mono.cells),cS x.From,.lit sw]]++_⟩
  refine Y O<|yC O<|zA<|zF<|zK O ?_ ?_<;>intro c2<;>try simp only [sx] at c2
  ·obtain ⟨y,hy⟩:=qX x.At j zB
   have hyw:=zBw (qD hy)
   refine zH<|zF<|zS<|Y O<|qE O el72 zB (getm hy)<|zN yV qF O<|qA O O (qI [none,some 2] O U O) ?_
   rintro _ _ ⟨b6,rfl,rfl⟩
   refine rStR 0 sz59 O<|zA<|yS 6 0 [⟨0,.q []⟩,⟨1,.q [2]⟩,⟨2,.q [0]⟩,⟨3,.q []⟩,⟨4,.q [6]⟩,⟨5,.q []⟩] mixed uB uB O O O<|zR O<|zR O<|zR O<|zR O<|zR O<|zR O<|wQ<|om O (zG O zAi O)<|om O (zJ O zBs O (J 0 O) O)<|om O (qB O yV O (J 0 O) O)<|om O (zQ O O)<|om O (yU [0] O uB (zJw A Bn mb m hm hA hB hAB y zB ((hsI x (qD hx)).2 y (qD hy))) (vlr O) O)<|om O (kW O el72 U O O O O)<|wP O<|qA O O (yB 1 O el72 O O O uE uE) ?_
   rintro _ _ ⟨sv7,rfl,rfl⟩
   refine zC O zAi<|rStR 2 sz72 O<|zA<|zP O<|qH O ⟨zB,zB⟩<|G O<|zA ?_
   refine ⟨⟨j+1,sv7⟩,zB,(by show x.At.length-(j+1)<x.At.length-j;omega),Weak.mk [false,true,true,true,true,true,true] ⟨zD,zD,zD,zD,zD,zD,zD,zD,zD,zD,zD,T⟩ (by exact zJv (by rw [yA hy,ah,ah];rfl))⟩
  ·rw [yI (l:=x.At) (k:=j) zB]
   refine zW _ (yK 0 O (regs':=[]) (μ':=[_,_,_,_,_]) T ⟨EFle.row (ds:=[_,_,_,_]) ⟨.inl O,.inl O,.inl O,.inr ⟨O,O⟩,T⟩,EFle.refl _,EFle.refl _,EFle.refl _,EFle.refl _,T⟩)<|qM<|zP O<|G O<|zN zGp (J 0 O) O<|yY O el52 zr93<|qA O O (yB 1 O el52 O O O uE uE) ?_
   rintro _ _ ⟨sv8,rfl,rfl⟩
   refine oi O<|zP O<|qH O ⟨zB,zB⟩<|G O<|zA ?_
   refine ⟨⟨k+1,sv8⟩,zB,(by show e.Idx.length-(k+1)<e.Idx.length-k;omega),Weak.mk [false,true,true,true,true] ⟨zD,zD,zD,zD,zD,zD,zD,T⟩ (by exact zOg (by rw [yA hx,ah,ah];rfl))⟩
 ·rw [yI (l:=e.Idx) (k:=k) zB]
  refine zW _ (yK 0 O (regs':=[(5,_)]) (μ':=[_,_,_]) ⟨FLe.sl,T⟩ ⟨EFle.refl _,EFle.refl _,EFle.refl _,T⟩)<|qM<|ol O O<|zC O wB<|rStR 1 sz52 O<|zA<|ol O O<|yP _ (kF 62 13)<|zA<|zF<|Y O<|zC O zAc<|zE zDc (J 2 O) O<|zT O (zGx O el60 O)<|oi O<|zS<|zW ⟨[(59,.c _),(11,.c _),(1,.c _),(2,.c _),(4,.c _),(57,.c _),(58,.c _)],[_,_,_,_]⟩ (Weak.mk [true,true,true,true] ⟨zD,zD,zD,zD,zD,zD,zD,T⟩ O)<|qG 2 1 O O (Nat×Value) (fun ⟨i,su⟩=>[(59,vI i),(11,.c (.lit su))]) (fun ⟨i,su⟩=>[E.vec su 62 13 (((e.Args.take i).map (gEx (gK A Bn))).map Ex.cells)]) (fun ⟨i,su⟩=>i<=e.Args.length) (fun ⟨i,su⟩=>e.Args.length-i) ⟨⟨0,(.slice none 0 0)⟩,zB,Weak.mk [true,true,true,true] ⟨zD,zD,zD,zD,zD,zD,zD,T⟩ O⟩ ?_
  rintro ⟨i,su⟩ hi
  show AWP _ _ _ _ _ ⟨[(59,vI i),(11,.c (.lit su))]++_,[E.vec su 62 13 (((e.Args.take i).map (gEx (gK A Bn))).map Ex.cells)]++_⟩
  refine Y O<|yC O<|zA<|zF<|zK O ?_ ?_<;>intro c3<;>try simp only [sx] at c3
  ·obtain ⟨z_,hz_⟩:=qX e.Args i zB
   refine zH<|zF<|zS<|Y O<|qE O el60 zB (zJz hz_)<|zN yZ qF O<|qA O O (qI nr O zr62 O) ?_
   rintro _ _ ⟨b10,rfl,rfl⟩
   refine rStR 0 sz62 O<|zA<|zP O<|G O<|zN yZ (J 0 O) O<|G O<|zT O (yU [4] O uB (ih z_ (qD hz_) (by have:=Ex.arg_wt (qD hz_);omega) (Ex.allF_arg hs (qD hz_))) (vlr O) O)<|yY O el60 zr62<|qA O O (yB 1 O el60 O O O uE uE) ?_
   rintro _ _ ⟨sv11,rfl,rfl⟩
   refine oi O<|zP O<|qH O ⟨zB,zB⟩<|G O<|zA ?_
   refine ⟨⟨i+1,sv11⟩,zB,(by show e.Args.length-(i+1)<e.Args.length-i;omega),Weak.mk [false,true,true,true,true] ⟨zD,zD,zD,zD,zD,zD,zD,T⟩ (by exact zOg (by rw [yA hz_,ah,ah];simp only [aH,bp,Ex.cells_eq (gEx (gK A Bn) z_)];(try rfl)))⟩
  ·rw [yI (l:=e.Args) (k:=i) zB]
   refine zW _ (yK 0 O (regs':=[(11,_)]) (μ':=[_,_,_]) ⟨FLe.sl,T⟩ ⟨EFle.refl _,EFle.refl _,EFle.refl _,T⟩)<|qM<|ol O O<|zC O zAc<|rStR 1 sz60 O<|zA<|Y O<|zN yZ (J 1 O) O<|rStR 0 sz62 O<|zA<|zW _ (Weak.mem [true,false,true] O)<|zM<|fin1 (zZ yZ O (J 0 O) O) ?_
   have hG:=zSv (gK A Bn) e
   first|exact ⟨ai vE hG.symm,[],rfl⟩|exact ⟨ai vE hG.symm,[_],rfl⟩|exact ⟨ai vE hG.symm,[_,_],rfl⟩|exact ⟨ai vE hG.symm,[_,_,_],rfl⟩|exact ⟨ai vE hG.symm,[_,_,_,_],rfl⟩|exact ⟨ai vE hG.symm,[_,_,_,_,_],rfl⟩
def lower_rename (A Bn:List nn) (mb:Nat) (m:SmM) (hm:∀s,(fQ m s).getD s=mA A Bn s) (hA:A.Nodup) (hB:Bn.Nodup) (hAB:A.length=Bn.length) (e:Ex):e.wt<=2000000->e.allF (rX A Bn)->Con cfg 30 [vE e,.c (.lit (.map (some mb)))] [E.blk mb (MapR vS m)] fun r μ'=>r=vE (gEx (gK A Bn) e)/\μ'=[E.blk mb (MapR vS m)]:=by
  induction e using Ex.ind with
  |_ e ih=>exact fun he hs=>zRv A Bn mb m hm hA hB hAB e ih he hs
end Go.W
end
section
set_option maxRecDepth 10000
namespace Go.W
open Go Go.Eng Go.Proofs Go.L41 Go.Br Tryz
attribute [local irreducible] AWP RWP TD fY
def pl41:fA prog 41=some [(0,1),(1,1)]:=by kernel_rfl
def pl80:fA prog 80=some [(0,22),(22,1),(23,1),(24,13),(37,1)]:=by kernel_rfl
def sz31:(prog.info? 31).map (·.size)=some 1:=by kernel_rfl
def sz39:(prog.info? 39).map (·.size)=some 1:=by kernel_rfl
def sz41:(prog.info? 41).map (·.size)=some 2:=by kernel_rfl
def zr41:dZ prog 41=some [(Value.slice none 0 0),(Value.slice none 0 0)]:=by kernel_rfl
def zr80:dZ prog 80=some [(Value.string (ByteArray.mk #[])),(Value.int IntKind.i64 0),(Value.int IntKind.i64 0),(Value.int IntKind.i64 0),(Value.int IntKind.i64 0),(Value.int IntKind.i64 0),(Value.slice none 0 0),(Value.slice none 0 0),(Value.int IntKind.i64 0),(Value.int IntKind.i64 0),(Value.string (ByteArray.mk #[])),(Value.int IntKind.i64 0),(Value.int IntKind.i64 0),(Value.int IntKind.i64 0),(Value.int IntKind.i64 0),(Value.int IntKind.i64 0),(Value.int IntKind.i64 0),(Value.int IntKind.i64 0),(Value.int IntKind.i64 0),(Value.slice none 0 0),(Value.slice none 0 0),(Value.slice none 0 0),(Value.slice none 0 0),(Value.slice none 0 0),(Value.int IntKind.i64 0),(Value.string (ByteArray.mk #[])),(Value.int IntKind.i64 0),(Value.int IntKind.i64 0),(Value.int IntKind.i64 0),(Value.int IntKind.i64 0),(Value.int IntKind.i64 0),(Value.int IntKind.i64 0),(Value.int IntKind.i64 0),(Value.int IntKind.i64 0),(Value.slice none 0 0),(Value.slice none 0 0),(Value.slice none 0 0),(Value.slice none 0 0)]:=by kernel_rfl
def loopnest_Copy (n:Ns) (hn:n.Ok):
    Pur cfg 33 [vNs n] (vNs n):=by
 refine zV func33 O ntmps33 results33 O ?_
 intro z hz
 have hnb:=hn.bufs
 have hnw:=hn.body
 refine Y O<|og O fun b1=>qA O O (qI [some 8,some 20] O zr41 O) ?_
 rintro _ _ ⟨b2,rfl,rfl⟩
 refine zA<|Y O<|zC O zEt<|zE zDq (J 1 O) O<|qL O uB (zPq n.Body zB) (vlr O)<|yJ O zr41 pl41<|qA O O (qI [some 8,some 20] O zr41 O) ?_
 rintro _ _ ⟨b3,rfl,rfl⟩
 refine rStR 0 sz41 O<|zA<|zF<|Y O<|yP _ (kF 66 8)<|zC O zEz<|zE zPj (J 3 O) O<|qC O el39<|oi O<|zS<|zW ⟨[(12,.c _),(1,.c _),(2,.c _),(3,.c _),(11,.c _)],[_,_,_,_]⟩ (Weak.mk [true,true,true,true] ⟨zD,zD,zD,zD,zD,T⟩ O)<|qG 1 2 O O (Nat×Value) (fun ⟨k,sv⟩=>[(12,vI k)]) (fun ⟨k,sv⟩=>[E.vec sv 66 8 ((n.Bufs.take k).map Bf.cells),E.row b3 41 [.lit sv,.sl 20 (n.Body.map St.cells)]]) (fun ⟨k,sv⟩=>k<=n.Bufs.length) (fun ⟨k,sv⟩=>n.Bufs.length-k) ⟨⟨0,(.slice none 0 0)⟩,zB,Weak.mk [true,true,true,true] ⟨zD,zD,zD,zD,zD,T⟩ O⟩ ?_
 rintro ⟨k,sv⟩ hk
 show AWP _ _ _ _ _ ⟨[(12,vI k)]++_,[E.vec sv 66 8 ((n.Bufs.take k).map Bf.cells),E.row b3 41 [.lit sv,.sl 20 (n.Body.map St.cells)]]++_⟩
 refine Y O<|yC O<|zA<|zF<|zK O ?_ ?_<;>intro c1<;>try simp only [sx] at c1
 ·obtain ⟨b,hb⟩:=qX n.Bufs k zB
  have hbd:=hn.dims b (qD hb)
  refine zH<|zF<|zS<|ol O O<|oi O<|yH 9 mixed uB O O<|oo O (zG O zEz O)<|oo O (zJ O zPj O (J 1 O) O)<|oo O (zG O zEz O)<|oo O (zJ O zPj O (J 3 O) O)<|oo O (zQ O O)<|oo O (qK O el39 O O zB (getm uC))<|oo O (qB O agg66 O qF O)<|oo O (qP O uB (zHl b zB) (vlr O))<|oo O (kW O el39 zr66 O O O O)<|kE<|qA O O (yB 0 O el39 O O O uE uE) ?_
  rintro _ _ ⟨sv4,rfl,rfl⟩
  refine zC O zEz<|rStR 1 sz39 O<|zA<|zP O<|qH O ⟨zB,zB⟩<|G O<|zA ?_
  refine ⟨⟨k+1,sv4⟩,zB,(by show n.Bufs.length-(k+1)<n.Bufs.length-k;omega),Weak.mk [true,true,true,true] ⟨zD,zD,zD,zD,zD,T⟩ (by exact zJv (by rw [yA hb,ah];rfl))⟩
 ·rw [yI (l:=n.Bufs) (k:=k) zB]
  refine zW _ (yK 0 O (regs':=[]) (μ':=[_,_,_]) T ⟨EFle.row (ds:=[_,_]) ⟨.inr ⟨O,O⟩,.inl O,T⟩,EFle.refl _,EFle.refl _,T⟩)<|qM<|Y O<|zN zLb (J 0 O) O<|rStR 1 sz41 O<|zA<|zM<|fin1 (zZ zLb O (J 1 O) O) ?_
  rfl
def lower_extents (l:List Ax) (env:List Bd) (hel:env.length<=1000000) (her:∀x,x∈env->r64 x.Val) (hl:l.length<=4294967296) (hf:∀x,x∈l->x.Size.L.length<=5864062014805/\x.Size.rng):
    Pur cfg 25 [.c (.sl 3 (l.map Ax.cells)),jR env] (.tup [vIs (xE env (l.map Ax.Size)),vI (fG env (l.map Ax.Size))]):=by
 refine zV func25 O ntmps25 results25 O fun z hz=>Y O<|qY 1 O<|oi O<|ol O O<|yP _ (kF 3 1)<|zA<|zF<|ol O O<|qC O el68<|oi O<|zS<|zW ⟨[(13,.c _),(6,.c _),(1,.c _),(11,.c _),(12,.c _)],[_]⟩ (Weak.mk [true] ⟨zD,zD,zD,zD,zD,T⟩ O)<|qG 2 1 O O (Nat×Value) (fun ⟨k,sv⟩=>[(13,vI k),(6,.c (.lit sv))]) (fun ⟨k,sv⟩=>[E.vec sv 3 1 ((dU env ((l.take k).map Ax.Size)).map fun n=>[cI n])]) (fun ⟨k,sv⟩=>k<=l.length/\(fG env (l.map Ax.Size)=fG env ((l.map Ax.Size).drop k))) (fun ⟨k,sv⟩=>l.length-k) ⟨⟨0,(.slice none 0 0)⟩,⟨zB,O⟩,Weak.mk [true] ⟨zD,zD,zD,zD,zD,T⟩ O⟩ ?_
 rintro ⟨k,sv⟩ ⟨hk,hp⟩
 show AWP _ _ _ _ _ ⟨[(13,vI k),(6,.c (.lit sv))]++_,[E.vec sv 3 1 ((dU env ((l.take k).map Ax.Size)).map fun n=>[cI n])]++_⟩
 refine Y O<|yC O<|zA<|zF<|zK O ?_ ?_<;>intro c1<;>try simp only [sx] at c1
 ·obtain ⟨x,hx⟩:=qX l k zB
  have hxx:(l.map Ax.Size)[k]? =some x.Size:=zLz hx
  refine zH<|zF<|zS<|Y O<|qE O el68 zB (getm hx)<|zN agg99 qF O<|qA O O (qI [none,none,some 2] O zr99 O) ?_
  rintro _ _ ⟨b2,rfl,rfl⟩
  refine rStR 0 sz99 O<|zA<|Y O<|zC O zXb<|zN yV (J 0 O) O<|G O<|qL O uB (lin_Eval x.Size env hel her (hf x (qD hx)).1 (hf x (qD hx)).2) (vlr O)<|qW O<|yF O<|yF O<|G O<|oi O<|zF<|ol O O<|yM O<|zA<|zK O ?_ ?_<;>intro c2<;>try simp only [sx] at c2
  ·have hE:=ext_err hxx hp c2
   exact v72
  ·refine zH<|zF<|ol O O<|yC O<|G O<|rL0 O (fun g8_2=>zQ O O) O<|rL1 30 O (fun g8_2=>yN O O O) O<|r_or O (fun h=>(lzf h))<|zA<|zK O ?_ ?_<;>intro c3<;>try simp only [sx] at c3
   ·have hE:=ext_bad hxx hp c2 (by simpa using c3)
    exact v82
   ·have hn:=zUe hxx hp c2 (by simpa using c3)
    refine zH<|zP O<|G O<|G O<|yY O el46 zr3<|qA O O (yB 1 O el46 O O O (by simp [dU];omega) (by simp [dU];omega)) ?_
    rintro _ _ ⟨sv3,rfl,rfl⟩
    refine oi O<|zP O<|qH O ⟨zB,zB⟩<|G O<|zA ?_
    refine ⟨⟨k+1,sv3⟩,⟨zB,hn⟩,(by show l.length-(k+1)<l.length-k;omega),Weak.mk [false,true] ⟨zD,zD,zD,zD,zD,T⟩ (by exact zOg (by rw [yA hx,ah];unfold dU;rw [ah,ah];rfl))⟩
 ·have hE:=ext_end (show (l.map Ax.Size).length<=k by rw [lLm];omega) hp
  exact v15
def lower_Def (p:Pg) (env:List Bd) (hel:env.length<=1000000) (her:∀x,x∈env->r64 x.Val) (hP:p.Ok) (hR:p.Rng) (hS:p.Sm) (i:Int):
    Pur cfg 11 [vPg p,jR env,vI i] (.tup [gJ (nL (sE p env i)),vI (xX (sE p env i))]):=by
 refine zV func11 O ntmps11 results11 O ?_
 intro z hz
 have hps:=hP.sizes
 refine Y O<|og O fun b1=>qY 20 O<|oi O<|zF<|Y O<|zN zBa (J 0 O) O<|qL O uB (zGh p hP) (vlr O)<|qW O<|yF O<|yF O<|G O<|oi O<|ol O O<|yM O<|zA<|zK O ?_ ?_<;>intro c1<;>try simp only [sx] at c1
 ·have hE:=lowD_v (env:=env) (i:=i) c1
  exact o8
 ·refine zH<|zF<|Y O<|zN zBa (J 0 O) O<|G O<|qL O uB (zHp p env hel her hP hR) (vlr O)<|oi O<|ol O O<|yM O<|zA<|zK O ?_ ?_<;>intro c2<;>try simp only [sx] at c2
  ·have hE:=lowD_z (i:=i) c1 c2
   exact o8
  ·refine zH<|zF<|ol O O<|yC O<|G O<|rL0 O (fun g7_2=>zQ O O) O<|rL0 O (fun g7_2=>zG O zAo O) O<|rL1 40 O (fun g7_2=>zJ O zDr O (J 0 O) O) O<|rL1 41 O (fun g7_2=>yG O el28 O) O<|rLz [(39,_),(42,_)] O gv1 ⟨O,O,O,O,T⟩ (fun g7_2=>wG O O O) O<|r_or O (fun h=>(lzf h))<|zA<|zK O ?_ ?_<;>intro c3<;>try simp only [sx] at c3
   ·have hE:=lowD_n c1 c2 (by simpa using c3)
    exact v68
   ·obtain ⟨di,rfl⟩:∃di:Nat,i=di:=⟨i.toNat,zB⟩
    obtain ⟨d,hd⟩:=qX p.Defs di zB
    have hdm:=qD hd
    have hdR:=(hR.ds d hdm).2.2
    have hsm:=hS.ds d hdm
    have hnz:d.Name.size<=100000:=aL (zPo (valid_defs c1 d hdm)) uA
    have hax:∀x,x∈d.Dims++d.Red->x.Name.size<=100000:=fun x hx=>aL (axn_size c1 hdm x hx) uA
    have hE0:=lowD_at c1 c2 hd
    refine zH<|Y O<|zC O zAo<|zE zDr (J 0 O) O<|G O<|qE O el28 zB (getm hd)<|zN zLa qF O<|yJ O zr80 pl80<|og O fun b2=>oi O<|zF<|yH 13 mixed uB O O<|oo O (qB O zBa O (J 1 O) O)<|oo O (zQ O O)<|oo O (zQ O O)<|oo O (qS O O)<|oo O (zG O zGj O)<|oo O (zG O zCn O)<|oo O (zJ O one9 O (J 0 O) O)<|oo O (qP O uB (show Pur cfg 24 [vPg p,jR env,vS d.Name] (.tup [vIs (mU p env d.Name).1,vI (jQ p env d.Name)]) by have h9:=zXm p d.Name env hel her hP hR;rw [zUf c1 c2] at h9;exact h9) (vlr O))<|oo O (yW O O)<|oo O (kM O O O)<|oo O (kM O O O)<|oo O (yR O O)<|oo O (yR O O)<|kE<|zA<|zF<|ol O O<|yM O<|zA<|zK O ?_ ?_<;>intro c4<;>try simp only [sx] at c4
    ·have hE:=hE0.trans (lowE_d c4)
     exact o8
    ·rw [dimL_1 c4]
     refine zH<|ol O O<|zU O<|zC O zGj<|zC O zCb<|zE zAn (J 0 O) O<|G O<|qL O uB (lower_extents d.Red env hel her zB (fun x hx=>⟨(hP.ds d hdm).2.2.2.1 x hx,(hR.ds d hdm).2.1 x hx⟩)) (vlr O)<|qW O<|yF O<|yF O<|G O<|oi O<|zF<|ol O O<|yM O<|zA<|zK O ?_ ?_<;>intro c5<;>try simp only [sx] at c5
     ·have hE:=hE0.trans (lowE_e c4 c5)
      exact o8
     ·rw [zSz c5]
      refine zH<|Y O<|qA O O (zPi vS O O) ?_
      rintro _ _ ⟨b3,rfl,rfl⟩
      refine oi O<|zF<|zF<|yS 20 0 [⟨0,.q []⟩,⟨1,.q []⟩,⟨2,.q []⟩,⟨3,.q []⟩,⟨4,.q []⟩,⟨5,.q [1]⟩,⟨6,.q []⟩,⟨7,.q []⟩,⟨8,.q []⟩,⟨9,.q []⟩,⟨10,.q [1]⟩,⟨11,.q []⟩,⟨12,.q []⟩,⟨13,.e 0 []⟩,⟨14,.q []⟩,⟨15,.q []⟩,⟨16,.q []⟩,⟨17,.q []⟩,⟨18,.q []⟩,⟨19,.e 1 []⟩] mixed uB uB O O O<|zR O<|zR O<|zR O<|zR O<|zR O<|zR O<|zR O<|zR O<|zR O<|zR O<|zR O<|zR O<|zR O<|zR O<|zR O<|zR O<|zR O<|zR O<|zR O<|zR O<|wQ<|om O (zQ O O)<|om O (zQ O O)<|om O (qS O O)<|om O (zG O zGj O)<|om O (zG O zCn O)<|om O (zJ O one9 O (J 0 O) O)<|om O (zQ O O)<|om O (qS O O)<|om O (zG O zGj O)<|om O (zG O zDg O)<|om O (zJ O zAn O (J 0 O) O)<|om O (zQ O O)<|om O (zQ O O)<|zEm O O uA O O (kI [0] O uB (zWm b3 d.Name d.Dims (dU env (p.en.find d.Name).dims) [] hnz zB (fun x hx=>hax x (dy _ hx)) (by unfold dU;rw [zMr c1 hd,lLm,lLm])) (vlr O) O) ?_
      rintro _ _ ⟨rfl,rfl⟩
      refine ⟨_,O,?_⟩
      refine om O (yW O O)<|om O (kM O O O)<|om O (kM O O O)<|om O (qS O O)<|om O (zG O fd80_1 O)<|zCk O O uA O O (yO O sz31 O O O (zBo 0 O O)) ?_
      rintro _ _ ⟨rfl,rfl⟩
      refine ⟨_,O,?_⟩
      refine wP O<|oi O<|ol O O<|yM O<|zA<|zK O ?_ ?_<;>intro c6<;>try simp only [sx] at c6
      ·have h7:=nmd_7 c6
       have hE:=hE0.trans (lowE_1 c4 c5 c6)
       refine ol O O<|qY 20 O<|oi O<|zM<|fin2 (rs_c O) (rs_c O) ?_
       rw [hE,h7];rfl
      ·rw [nmdB_ok c6]
       refine zH<|zF<|zF<|yS 20 0 [⟨0,.q []⟩,⟨1,.q []⟩,⟨2,.q []⟩,⟨3,.q []⟩,⟨4,.q []⟩,⟨5,.q [1]⟩,⟨6,.q []⟩,⟨7,.q []⟩,⟨8,.q []⟩,⟨9,.q []⟩,⟨10,.q [1]⟩,⟨11,.q []⟩,⟨12,.q []⟩,⟨13,.e 0 []⟩,⟨14,.q []⟩,⟨15,.q []⟩,⟨16,.q []⟩,⟨17,.q []⟩,⟨18,.q []⟩,⟨19,.e 1 []⟩] mixed uB uB O O O<|zR O<|zR O<|zR O<|zR O<|zR O<|zR O<|zR O<|zR O<|zR O<|zR O<|zR O<|zR O<|zR O<|zR O<|zR O<|zR O<|zR O<|zR O<|zR O<|zR O<|wQ<|om O (zQ O O)<|om O (zQ O O)<|om O (qS O O)<|om O (zG O zGj O)<|om O (zG O zCn O)<|om O (zJ O one9 O (J 0 O) O)<|om O (zQ O O)<|om O (qS O O)<|om O (zG O zGj O)<|om O (zG O zCb O)<|om O (zJ O zAn O (J 0 O) O)<|om O (zQ O O)<|om O (zQ O O)<|zEm O O uA O O (kI [0] O uB (zWm b3 d.Name d.Red (dU env (d.Red.map Ax.Size)) (nW d.Name d.Dims []) hnz zB (fun x hx=>hax x (dh _ hx)) (by unfold dU;rw [lLm,lLm])) (vlr O) O) ?_
       rintro _ _ ⟨rfl,rfl⟩
       refine ⟨_,O,?_⟩
       refine om O (yW O O)<|om O (kM O O O)<|om O (kM O O O)<|om O (qS O O)<|om O (zG O fd80_2 O)<|zCk O O uA O O (yO O sz31 O O O (zBo 0 O O)) ?_
       rintro _ _ ⟨rfl,rfl⟩
       refine ⟨_,O,?_⟩
       refine wP O<|oi O<|ol O O<|yM O<|zA<|zK O ?_ ?_<;>intro c7<;>try simp only [sx] at c7
       ·have h7:=nmd_7 c7
        have hE:=hE0.trans (lowE_2 c4 c5 c6 c7)
        refine ol O O<|qY 20 O<|oi O<|zM<|fin2 (rs_c O) (rs_c O) ?_
        rw [hE,h7];rfl
       ·rw [nmdB_ok c7]
        have hE1:=hE0.trans (lowE_b c4 c5 c6 c7)
        have hgd:=good_all c6 c7
        have hna:=valid_axes c1 d hdm
        have hll:=lDims_len (env:=env) c1 hdm
        have hll2:(gR d.Name d.Dims (dU env (p.en.find d.Name).dims)).length=d.Dims.length:=hll
        have hlr:=lRed_len (env:=env) (d:=d)
        refine zH<|ol O O<|zU O<|zC O zGj<|zC O fd70_5<|zN yZ (J 1 O) O<|qA O O (qI nr O zr62 O) ?_
        rintro _ _ ⟨b4,rfl,rfl⟩
        refine rStR 0 sz62 O<|zA<|zF<|Y O<|zC O zCt<|zE zBp (J 3 O) O<|qC O el25<|oi O<|zS<|zW ⟨[(132,.c _),(1,.c _),(11,.c _),(15,.c _),(16,.c _),(130,.c _),(131,.c _)],[_,_,_]⟩ (Weak.mk [true,true,true,false] ⟨zD,zD,zD,zD,zD,zD,zD,T⟩ O)<|qG 1 1 O O (Nat×Ex) (fun ⟨k,e1⟩=>[(132,vI k)]) (fun ⟨k,e1⟩=>[E.row b4 62 e1.cs]) (fun ⟨k,e1⟩=>k<=p.Sizes.length/\(SbJ (fun s:nn=>(⟨gC env s,[]⟩:Lf)) p.Sizes d.Body k e1)) (fun ⟨k,e1⟩=>p.Sizes.length-k) ⟨⟨0,d.Body⟩,⟨zB,zPb hdR⟩,Weak.mk [true,true,true] ⟨zD,zD,zD,zD,zD,zD,zD,T⟩ O⟩ ?_
        rintro ⟨k,e1⟩ ⟨hk,hs1⟩
        show AWP _ _ _ _ _ ⟨[(132,vI k)]++_,[E.row b4 62 e1.cs]++_⟩
        refine Y O<|yC O<|zA<|zF<|zK O ?_ ?_<;>intro c8<;>try simp only [sx] at c8
        ·obtain ⟨s,hs⟩:=qX p.Sizes k zB
         refine zH<|zF<|zS<|Y O<|qE O el25 zB (getm hs)<|zE one9 qF O<|oi O<|zF<|yS 11 0 [⟨0,.q [0]⟩,⟨1,.q []⟩,⟨2,.q []⟩,⟨3,.q []⟩,⟨4,.q []⟩,⟨5,.q []⟩,⟨6,.q []⟩,⟨7,.q []⟩,⟨8,.q []⟩,⟨9,.q []⟩,⟨10,.e 0 []⟩] mixed uB uB O O O<|zR O<|zR O<|zR O<|zR O<|zR O<|zR O<|zR O<|zR O<|zR O<|zR O<|zR O<|wQ<|om O (qB O yZ O (J 0 O) O)<|om O (zQ O O)<|om O (zQ O O)<|om O (zQ O O)<|om O (qP O uB (lower_bound env s zB) (vlr O))<|om O (qP O uB (lin_Const (gC env s)) (vlr O))<|om O (qP O uB (zMn e1 s ⟨gC env s,[]⟩ (by have:=hs1.wt;omega) hs1.rg (bu _) (k_rng (env_rng her s))) (vlr O))<|om O (yW O O)<|om O (yD O O O)<|om O (kM O O O)<|zCk O O uA O O (yO O sz62 O O O (zBo 0 O O)) ?_
         rintro _ _ ⟨rfl,rfl⟩
         refine ⟨_,O,?_⟩
         refine wP O<|oi O<|ol O O<|yM O<|zA<|zK O ?_ ?_<;>intro c9<;>try simp only [sx] at c9
         ·have hE:=hE1.trans (lowB_e (sbJ_err (u:=(fun s:nn=>(⟨gC env s,[]⟩:Lf))) hs1 hs c9))
          exact o8
         ·refine zH<|zP O<|qH O ⟨zB,zB⟩<|G O<|zA ?_
          refine ⟨⟨k+1,jZ (mEx (fun l=>bU l s ⟨gC env s,[]⟩) e1)⟩,⟨zB,zTx (u:=(fun s:nn=>(⟨gC env s,[]⟩:Lf))) (fun _=>O) hs1 hs c9⟩,(by show p.Sizes.length-(k+1)<p.Sizes.length-k;omega),Weak.mk [true,true,true] ⟨zD,zD,zD,zD,zD,zD,zD,T⟩ O⟩
        ·have hB1:=sbJ_end hs1 (show p.Sizes.length<=k by omega)
         have hB2:=lowB_s hB1
         have hzf:=body_szF c1 hdm hdR hB1
         have hmap:∀s,(fQ (nW d.Name d.Red (nW d.Name d.Dims [])) s).getD s=mA ((bD d).map (lnT d.Name)) (bD d) s:=by rw [nmdM_ok c6,nmdM_ok c7];exact mapN_sw hna.1
         refine qM<|ol O O<|zN yZ (J 0 O) O<|G O<|zT O (yU [1] O uB (lower_rename ((bD d).map (lnT d.Name)) (bD d) b3 _ hmap (lnT_nodup hna.1 hgd) hna.1 (by rw [lLm]) e1 (by have:=hs1.wt;omega) (body_swp _ hzf)) (vlr O) O)<|zU O<|zC O fd80_3<|rStR 2 sz62 O<|zA<|zF<|Y O<|yP _ (kF 93 4)<|G O<|zU O<|zC O fd80_1<|zE one31 (J 3 O) O<|qC O el31<|oi O<|zS<|zW ⟨[(161,.c _),(11,.c _),(159,.c _),(160,.c _)],[_,_]⟩ (Weak.mk [true,false,false,true] ⟨zD,zD,zD,zD,T⟩ O)<|qG 1 2 O O (Nat×Value) (fun ⟨j,sv⟩=>[(161,vI j)]) (fun ⟨j,sv⟩=>[E.vec sv 93 4 ((ixT ((lC p env d).take j)).map Ix.cells),E.row b2 80 (mkS d (lC p env d) (tM env d) (gEx (gK ((bD d).map (lnT d.Name)) (bD d)) e1) (.lit sv))]) (fun ⟨j,sv⟩=>j<=(lC p env d).length) (fun ⟨j,sv⟩=>(lC p env d).length-j) ⟨⟨0,(.slice none 0 0)⟩,zB,Weak.mk [true,true] ⟨zD,zD,zD,zD,T⟩ O⟩ ?_
         rintro ⟨j,sv⟩ hj
         show AWP _ _ _ _ _ ⟨[(161,vI j)]++_,[E.vec sv 93 4 ((ixT ((lC p env d).take j)).map Ix.cells),E.row b2 80 (mkS d (lC p env d) (tM env d) (gEx (gK ((bD d).map (lnT d.Name)) (bD d)) e1) (.lit sv))]++_⟩
         refine Y O<|yC O<|zA<|zF<|zK O ?_ ?_<;>intro c10<;>try simp only [sx] at c10
         ·obtain ⟨y,hy⟩:=qX (lC p env d) j zB
          refine zH<|zF<|zS<|Y O<|qE O el31 zB (getm hy)<|zN agg50 qF O<|qA O O (qZ O zr50) ?_
          rintro _ _ ⟨b5,rfl,rfl⟩
          refine rStR 0 sz50 O<|zA<|yS 11 0 [⟨0,.q []⟩,⟨1,.q []⟩,⟨2,.q []⟩,⟨3,.q []⟩,⟨4,.q [2]⟩,⟨5,.q []⟩,⟨6,.q [0]⟩,⟨7,.q []⟩,⟨8,.q []⟩,⟨9,.q []⟩,⟨10,.e 1 []⟩] mixed uB uB O O O<|zR O<|zR O<|zR O<|zR O<|zR O<|zR O<|zR O<|zR O<|zR O<|zR O<|zR O<|wQ<|om O (zQ O O)<|om O (zQ O O)<|om O (qS O O)<|om O (zG O zSw O)<|om O (zJ O wX O (J 0 O) O)<|om O (zG O zNu O)<|om O (zJ O one9 O (J 0 O) O)<|om O (qP O uB (lin_Var y.Name) (vlr O))<|om O (zAu oc O zr93 pl93 O O)<|om O (kW O el52 zr93 O O O O)<|zEm O O uA O O (yB 0 O el52 O O O (by simp [ixT];omega) (by simp [ixT];omega)) ?_
          rintro _ _ ⟨sv6,rfl,rfl⟩
          refine ⟨_,O,?_⟩
          refine wP O<|zU O<|zC O zSw<|rStR 2 sz52 O<|zA<|zP O<|qH O ⟨zB,zB⟩<|G O<|zA ?_
          refine ⟨⟨j+1,sv6⟩,zB,(by show (lC p env d).length-(j+1)<(lC p env d).length-j;omega),Weak.mk [false,true,true] ⟨zD,zD,zD,zD,T⟩ (by exact zJv (by unfold ixT;rw [yA hy,ah,ah];rfl))⟩
         ·refine zW _ (yK 0 O (regs':=[]) (μ':=[_]) T ⟨EFle.row (ds:=[_,_,_,_,_,_,_,_,_,_,_,_,_,_,_,_,_,_,_,_,_,_,_,_,_,_,_,_,_,_,_,_,_,_,_,_,_,_]) ⟨.inl O,.inl O,.inl O,.inl O,.inl O,.inl O,.inl O,.inl O,.inl O,.inl O,.inl O,.inl O,.inl O,.inl O,.inl O,.inl O,.inl O,.inl O,.inl O,.inl O,.inl O,.inl O,.inl O,.inl O,.inl O,.inl O,.inl O,.inl O,.inl O,.inl O,.inl O,.inl O,.inl O,.inl O,.inl O,.inl O,.inl O,.inr ⟨O,O⟩,T⟩,T⟩) ?_
          rw [yI (l:=lC p env d) (k:=j) zB]
          refine qM<|ol O O<|zT O (yU [0] O uB (mk_statements b2 d (lC p env d) (tM env d) (gEx (gK ((bD d).map (lnT d.Name)) (bD d)) e1) zB zB (by have:=lw_ren (A:=((bD d).map (lnT d.Name))) (B:=(bD d)) e1;have:=hs1.wt;omega) (zYi (zKm hs1.rg fun l hl=>renF_rng hl)) (fun h5=>by have:=valid_five c1 hdm h5;omega)) (vlr O) O)<|qW O<|yF O<|yF O<|G O<|oi O<|zF<|ol O O<|yM O<|zA<|zK O ?_ ?_<;>intro c11<;>try simp only [sx] at c11
          ·obtain ⟨x,hx⟩:=errL_er c11
           have hE:=hE1.trans (hB2.trans hx)
           rw [hx]
           exact o8
          ·obtain ⟨x,hx⟩:=errL_0 (fun x hx=>st_ne hx) c11
           have hBx:=hB2.trans hx
           have hE:=hE1.trans hBx
           rw [hx]
           refine zH<|ol O O<|yQ [some 8,none] O zr41 pl41<|qL O uB (loopnest_Copy ⟨[],x⟩ (one_ok_ns hS hdm c1 hdR hBx)) (vlr O)<|zT O (det_part_one O zEt zDq O O)<|G O<|oi O<|zM<|fin2 (rs_c O) (rs_c O) ?_
           rw [hE];rfl
def lower_isParam (p:Pg) (s:nn) (hl:p.Params.length<=4294967296):
    Pur cfg 43 [vPg p,vS s] (vB (p.Params.any fun x=>decide (x.Name=s))):=by
 refine zV func43 O ntmps43 results43 O fun z hz=>Y O<|og O fun b1=>oi O<|zF<|Y O<|zC O zDu<|zE zIk (J 0 O) O<|qC O el27<|oi O<|zS<|zW ⟨[(10,.c _),(1,.c _),(8,.c _),(9,.c _)],[]⟩ (Weak.mk [false] ⟨zD,zD,zD,zD,T⟩ O)<|qG 1 0 O O (Nat) (fun k=>[(10,vI k)]) (fun k=>[]) (fun k=>k<=p.Params.length/\((p.Params.take k).any (fun x=>decide (x.Name=s))=false)) (fun k=>p.Params.length-k) ⟨0,⟨zB,O⟩,Weak.mk [] ⟨zD,zD,zD,zD,T⟩ O⟩ ?_
 rintro k ⟨hk,hp⟩
 refine Y O<|yC O<|zA<|zF<|zK O ?_ ?_<;>intro c1<;>try simp only [sx] at c1
 ·obtain ⟨x,hx⟩:=qX p.Params k zB
  refine zH<|zF<|zS<|Y O<|qE O el27 zB (getm hx)<|zN agg74 qF O<|qA O O (qI ny O zr74 O) ?_
  rintro _ _ ⟨b2,rfl,rfl⟩
  refine rStR 0 sz74 O<|zA<|Y O<|zC O zPw<|zE one9 (J 0 O) O<|G O<|wC O<|zA<|zK O (fun c2=>?_) (fun c2=>?_)
  ·try simp only [sx] at c2
   refine oh O O<|zM<|zX O ?_
   rw [dm.2 ⟨x,qD hx,al c2⟩]
  ·exact v69
 ·refine qM<|oh O O<|zM<|zX O ?_
  rw [yI zB] at hp
  rw [hp]
def lower_Prog (p:Pg) (env:List Bd) (hel:env.length<=1000000) (her:∀x,x∈env->r64 x.Val) (hP:p.Ok) (hR:p.Rng) (hS:p.Sm):
    Pur cfg 14 [vPg p,jR env] (.tup [vNs (pJ p env).1,vI (pJ p env).2]):=by
 refine zV func14 O ntmps14 results14 O ?_
 intro z hz
 have hq1:=hS.outs
 have hq2:=hS.params
 have hq3:=hS.defs
 have hdR:∀d,d∈p.Defs->d.Body.allF Lf.rng:=fun d hd=>(hR.ds d hd).2.2
 refine Y O<|og O fun b1=>qA O O (qI [some 8,some 20] O zr41 O) ?_
 rintro _ _ ⟨b2,rfl,rfl⟩
 refine oi O<|zF<|Y O<|zN zBa (J 1 O) O<|qL O uB (zGh p hP) (vlr O)<|qW O<|yF O<|yF O<|G O<|oi O<|ol O O<|yM O<|zA<|zK O ?_ ?_<;>intro c1<;>try simp only [sx] at c1
 ·have hE:=lowP_v (env:=env) c1
  refine Y O<|yQ [some 8,some 20] O zr41 pl41<|G O<|rStR 0 sz41 O<|oi O<|zM<|fin2 (zZ zLb O (J 0 O) O) (rs_c O) ?_
  rw [hE];rfl
 ·refine zH<|zF<|Y O<|zN zBa (J 1 O) O<|G O<|qL O uB (zHp p env hel her hP hR) (vlr O)<|oi O<|ol O O<|yM O<|zA<|zK O ?_ ?_<;>intro c2<;>try simp only [sx] at c2
  ·have hE:=lowP_z c1 c2
   refine Y O<|yQ [some 8,some 20] O zr41 pl41<|G O<|rStR 0 sz41 O<|oi O<|zM<|fin2 (zZ zLb O (J 0 O) O) (rs_c O) ?_
   rw [hE];rfl
  ·refine zH<|Y O<|yJ O zr41 pl41<|qA O O (qZ O zr41) ?_
   rintro _ _ ⟨b3,rfl,rfl⟩
   refine rStR 0 sz41 O<|zA<|zF<|Y O<|yP _ (kF 66 8)<|yP _ (kF 64 20)<|zC O zMk<|zE zBp (J 4 O) O<|qC O el25<|oi O<|zS<|zW ⟨[(45,.c _),(1,.c _),(2,.c _),(4,.c _),(9,.c _),(43,.c _),(44,.c _)],[_,_,_,_,_]⟩ (Weak.mk [true,true,true,true,true] ⟨zD,zD,zD,zD,zD,zD,zD,T⟩ O)<|qG 1 0 O O (Nat) (fun k=>[(45,vI k)]) (fun k=>[]) (fun k=>k<=p.Outs.length/\((p.Outs.take k).any (fun s=>p.Params.any fun x=>decide (x.Name=s))=false)) (fun k=>p.Outs.length-k) ⟨0,⟨zB,O⟩,Weak.mk [true,true,true,true,true] ⟨zD,zD,zD,zD,zD,zD,zD,T⟩ O⟩ ?_
   rintro k ⟨hk,hp⟩
   refine Y O<|yC O<|zA<|zF<|zK O ?_ ?_<;>intro c3<;>try simp only [sx] at c3
   ·obtain ⟨s,hs⟩:=qX p.Outs k zB
    refine zH<|zF<|zS<|Y O<|qE O el25 zB (getm hs)<|zE one9 qF O<|oi O<|Y O<|zN zBa (J 4 O) O<|G O<|qL O uB (lower_isParam p s (by have:=hS.params;omega)) (vlr O)<|zA<|zK O ?_ ?_<;>intro c4<;>try simp only [sx] at c4
    ·have hE:=lowP_a c1 c2 hs c4
     refine Y O<|yQ [some 8,some 20] O zr41 pl41<|rStR 3 sz41 O<|oi O<|zM<|fin2 (zZ zLb O (J 3 O) O) (rs_c O) ?_
     rw [hE];rfl
    ·refine zH<|zP O<|qH O ⟨zB,zB⟩<|G O<|zA ?_
     refine ⟨k+1,⟨zB,zDf hs hp c4⟩,zB,Weak.mk [true,true,true,true,true] ⟨zD,zD,zD,zD,zD,zD,zD,T⟩ O⟩
   ·rw [yI zB] at hp
    refine qM<|zF<|Y O<|zC O zDu<|zE zIk (J 4 O) O<|qC O el27<|oi O<|zS<|zW ⟨[(57,.c _),(1,.c _),(2,.c _),(4,.c _),(9,.c _),(55,.c _),(56,.c _)],[_,_,_,_,_]⟩ (Weak.mk [true,true,true,true,true] ⟨zD,zD,zD,zD,zD,zD,zD,T⟩ O)<|qG 1 3 O O (Nat×Value) (fun ⟨i,sv⟩=>[(57,vI i)]) (fun ⟨i,sv⟩=>[E.vec (.slice none 0 0) 64 20 ([]),E.vec sv 66 8 (((p.Params.take i).map (sL p env)).map Bf.cells),E.row b3 41 [.lit sv,.lit (.slice none 0 0)]]) (fun ⟨i,sv⟩=>i<=p.Params.length/\(nK p env p.Params=nK p env (p.Params.drop i))) (fun ⟨i,sv⟩=>p.Params.length-i) ⟨⟨0,(.slice none 0 0)⟩,⟨zB,O⟩,Weak.mk [true,true,true,true,true] ⟨zD,zD,zD,zD,zD,zD,zD,T⟩ O⟩ ?_
    rintro ⟨i,sv⟩ ⟨hi,hq⟩
    show AWP _ _ _ _ _ ⟨[(57,vI i)]++_,[E.vec (.slice none 0 0) 64 20 ([]),E.vec sv 66 8 (((p.Params.take i).map (sL p env)).map Bf.cells),E.row b3 41 [.lit sv,.lit (.slice none 0 0)]]++_⟩
    refine Y O<|yC O<|zA<|zF<|zK O ?_ ?_<;>intro c5<;>try simp only [sx] at c5
    ·obtain ⟨x,hx⟩:=qX p.Params i zB
     refine zH<|zF<|zS<|Y O<|qE O el27 zB (getm hx)<|zN agg74 qF O<|qA O O (qI ny O zr74 O) ?_
     rintro _ _ ⟨b4,rfl,rfl⟩
     refine rStR 0 sz74 O<|zA<|Y O<|zN zBa (J 5 O) O<|G O<|zC O zPw<|zE one9 (J 0 O) O<|qL O uB (show Pur cfg 24 [vPg p,jR env,vS x.Name] (.tup [vIs (mU p env x.Name).1,vI (jQ p env x.Name)]) by have h9:=zXm p x.Name env hel her hP hR;rw [zUf c1 c2] at h9;exact h9) (vlr O)<|qW O<|yF O<|yF O<|G O<|oi O<|zF<|ol O O<|yM O<|zA<|zK O ?_ ?_<;>intro c6<;>try simp only [sx] at c6
     ·have hE:=lowP_p c1 c2 hp (prm_err hx hq c6) c6
      refine Y O<|yQ [some 8,some 20] O zr41 pl41<|G O<|rStR 4 sz41 O<|oi O<|zM<|fin2 (zZ zLb O (J 4 O) O) (rs_c O) ?_
      rw [hE];rfl
     ·rw [dimL_1 c6]
      refine zH<|zP O<|zC O zEz<|zE zPj (J 3 O) O<|zC O zPw<|zE one9 (J 0 O) O<|zC O fd74_1<|zN yE (J 0 O) O<|G O<|yJ O zr66 pl66<|yY O el39 zr66<|qA O O (yB 2 O el39 O O O uD uD) ?_
      rintro _ _ ⟨sv5,rfl,rfl⟩
      refine zC O zEz<|rStR 3 sz39 O<|zA<|zP O<|qH O ⟨zB,zB⟩<|G O<|zA ?_
      refine ⟨⟨i+1,sv5⟩,⟨zB,prm_next hx hq c6⟩,(by show p.Params.length-(i+1)<p.Params.length-i;omega),Weak.mk [false,true,true,true,true,true] ⟨zD,zD,zD,zD,zD,zD,zD,T⟩ (by show _=[E.vec (.slice none 0 0) _ 20 [],E.vec sv5 _ 8 (((p.Params.take (i+1)).map (sL p env)).map Bf.cells),E.row b3 _ [.lit sv5,.lit (.slice none 0 0)]]++_;rw [yA hx,ah,ah];rfl)⟩
    ·have hQ:=prm_end hq (show p.Params.length<=i by omega)
     rw [yI (l:=p.Params) (k:=i) zB]
     refine qM<|zF<|Y O<|zC O zAo<|zE zDr (J 4 O) O<|qC O el28<|oi O<|zS<|zW ⟨[(88,.c _),(1,.c _),(2,.c _),(4,.c _),(9,.c _),(86,.c _),(87,.c _)],[_,_,_,_,_]⟩ (Weak.mk [true,true,true,true,true] ⟨zD,zD,zD,zD,zD,zD,zD,T⟩ O)<|qG 1 3 O O (Nat×Value×Value) (fun ⟨j,sw,sx9⟩=>[(88,vI j)]) (fun ⟨j,sw,sx9⟩=>[E.vec sw 64 20 (((p.Defs.take j).flatMap fun d=>nL (gZ p env d)).map St.cells),E.vec sx9 66 8 (((p.Params.map (sL p env))++(p.Defs.take j).map (nI p env)).map Bf.cells),E.row b3 41 [.lit sx9,.lit sw]]) (fun ⟨j,sw,sx9⟩=>j<=p.Defs.length/\(nC p env p.Defs=nC p env (p.Defs.drop j))/\(bS ((p.Defs.take j).flatMap fun d=>nL (gZ p env d))<=j*3200)) (fun ⟨j,sw,sx9⟩=>p.Defs.length-j) ⟨⟨0,(.slice none 0 0),sv⟩,⟨zB,O,bu _⟩,Weak.mk [true,true,true,true,true] ⟨zD,zD,zD,zD,zD,zD,zD,T⟩ (by show _=[E.vec (.slice none 0 0) _ 20 [],E.vec sv _ 8 ((p.Params.map (sL p env)++[]).map Bf.cells),E.row b3 _ [.lit sv,.lit (.slice none 0 0)]]++_;rw [lAn];rfl)⟩ ?_
     rintro ⟨j,sw,sx9⟩ ⟨hj,hr,hr9⟩
     show AWP _ _ _ _ _ ⟨[(88,vI j)]++_,[E.vec sw 64 20 (((p.Defs.take j).flatMap fun d=>nL (gZ p env d)).map St.cells),E.vec sx9 66 8 (((p.Params.map (sL p env))++(p.Defs.take j).map (nI p env)).map Bf.cells),E.row b3 41 [.lit sx9,.lit sw]]++_⟩
     refine Y O<|yC O<|zA<|zF<|zK O ?_ ?_<;>intro c7<;>try simp only [sx] at c7
     ·obtain ⟨d,hd⟩:=qX p.Defs j zB
      refine zH<|zF<|zS<|ol O O<|qE O el28 zB (getm hd)<|zN zLa qF O<|qA O O (qI nx O zr70 O) ?_
      rintro _ _ ⟨b6,rfl,rfl⟩
      refine G O<|rStR 0 sz70 O<|zA<|Y O<|zN zBa (J 5 O) O<|G O<|G O<|qL O uB (show Pur cfg 11 [vPg p,jR env,vI (j:Int)] (.tup [gJ (nL (gZ p env d)),vI (xX (gZ p env d))]) by rw [←lowD_at c1 c2 hd];exact lower_Def p env hel her hP hR hS j) (vlr O)<|qW O<|yF O<|yF O<|G O<|oi O<|zF<|ol O O<|yM O<|zA<|zK O ?_ ?_<;>intro c8<;>try simp only [sx] at c8
      ·obtain ⟨x9,hx9⟩:=errL_er c8
       have hE:=lowP_d c1 c2 hp hQ (def_err hd hr hx9) (lowE_ne hx9)
       rw [hx9]
       refine Y O<|yQ [some 8,some 20] O zr41 pl41<|G O<|rStR 4 sz41 O<|oi O<|zM<|fin2 (zZ zLb O (J 4 O) O) (rs_c O) ?_
       rw [hE];rfl
      ·obtain ⟨x9,hx9⟩:=errL_0 (fun x hx=>lowE_ne hx) c8
       have hd0:=lowE_dim hx9
       rw [hx9]
       have hlw:=sts_lenW hS c1 hdR hr9 hd hx9
       have hl7:=sts_one hS c1 hdR (qD hd) hx9
       have hl8:=zCi ((p.Defs.take j).flatMap fun d=>nL (gZ p env d))
       have hl9:(nL (Except.ok x9)).length<=bS x9:=zCi x9
       refine zH<|Y O<|zN zBa (J 5 O) O<|G O<|zC O zCn<|zE one9 (J 0 O) O<|qL O uB (show Pur cfg 24 [vPg p,jR env,vS d.Name] (.tup [vIs (mU p env d.Name).1,vI (jQ p env d.Name)]) by have h9:=zXm p d.Name env hel her hP hR;rw [zUf c1 c2] at h9;exact h9) (vlr O)<|qW O<|yF O<|yF O<|G O<|oi O<|Y O<|zC O zCn<|zE one9 (J 0 O) O<|zC O zKt<|zN yE (J 0 O) O<|G O<|yJ O zr66 pl66<|qA O O (qI nu O zr66 O) ?_
       rintro _ _ ⟨b7,rfl,rfl⟩
       refine rStR 0 sz66 O<|zA<|zF<|Y O<|zC O zMk<|zE zBp (J 6 O) O<|zC O zCn<|zE one9 (J 1 O) O<|qL O uB (zAv p.Outs d.Name (by have:=hS.outs;omega)) (vlr O)<|zA<|zK O ?_ ?_<;>intro c9<;>try simp only [sx] at c9
       ·rw [dimL_1 hd0]
        have hbf:=buf_2 (p:=p) (env:=env) c9
        refine zP O<|zC O fd66_3<|rStR 0 sz3 O<|zA<|Y O<|zC O zEz<|zE zPj (J 4 O) O<|zN agg66 (J 0 O) O<|yY O el39 zr66<|qA O O (yB 3 O el39 O O O uD uD) ?_
        rintro _ _ ⟨sv8,rfl,rfl⟩
        refine zC O zEz<|rStR 4 sz39 O<|zA<|zP O<|zC O zEt<|zE zDq (J 4 O) O<|G O<|qA O O (yB 2 O el33 O O O uH uH) ?_
        rintro _ _ ⟨sv9,rfl,rfl⟩
        refine zC O zEt<|rStR 4 sz33 O<|zA<|zP O<|qH O ⟨zB,zB⟩<|G O<|zA ?_
        refine ⟨⟨j+1,sv9,sv8⟩,⟨zB,def_next hd hr hx9,hlw⟩,(by show p.Defs.length-(j+1)<p.Defs.length-j;omega),Weak.mk [false,false,true,true,true,true,true] ⟨zD,zD,zD,zD,zD,zD,zD,T⟩ (by show _=[E.vec sv9 _ 20 (((p.Defs.take (j+1)).flatMap fun d=>nL (gZ p env d)).map St.cells),E.vec sv8 _ 8 ((p.Params.map (sL p env)++(p.Defs.take (j+1)).map (nI p env)).map Bf.cells),E.row b3 _ [.lit sv8,.lit sv9]]++_;rw [low_r1 hd hx9,low_r2 hd hbf];rfl)⟩
       ·rw [dimL_1 hd0]
        have hbf:=buf_3 (p:=p) (env:=env) c9
        refine zH<|Y O<|zC O zEz<|zE zPj (J 4 O) O<|zN agg66 (J 0 O) O<|yY O el39 zr66<|qA O O (yB 3 O el39 O O O uD uD) ?_
        rintro _ _ ⟨sv10,rfl,rfl⟩
        refine zC O zEz<|rStR 4 sz39 O<|zA<|zP O<|zC O zEt<|zE zDq (J 4 O) O<|G O<|qA O O (yB 2 O el33 O O O uH uH) ?_
        rintro _ _ ⟨sv11,rfl,rfl⟩
        refine zC O zEt<|rStR 4 sz33 O<|zA<|zP O<|qH O ⟨zB,zB⟩<|G O<|zA ?_
        refine ⟨⟨j+1,sv11,sv10⟩,⟨zB,def_next hd hr hx9,hlw⟩,(by show p.Defs.length-(j+1)<p.Defs.length-j;omega),Weak.mk [false,false,true,true,true,true,true] ⟨zD,zD,zD,zD,zD,zD,zD,T⟩ (by show _=[E.vec sv11 _ 20 (((p.Defs.take (j+1)).flatMap fun d=>nL (gZ p env d)).map St.cells),E.vec sv10 _ 8 ((p.Params.map (sL p env)++(p.Defs.take (j+1)).map (nI p env)).map Bf.cells),E.row b3 _ [.lit sv10,.lit sv11]]++_;rw [low_r1 hd hx9,low_r2 hd hbf];rfl)⟩
     ·have hD:=def_end hr (show p.Defs.length<=j by omega)
      rw [yI (l:=p.Defs) (k:=j) zB]
      refine zW _ (yK 0 O (regs':=[]) (μ':=[_,_,_,_]) T ⟨EFle.refl _,EFle.row (ds:=[_,_]) ⟨.inl O,.inr ⟨O,O⟩,T⟩,EFle.refl _,EFle.refl _,T⟩)<|zW _ (yK 0 O (regs':=[]) (μ':=[_,_,_]) T ⟨EFle.row (ds:=[_,_]) ⟨.inr ⟨O,O⟩,.inl O,T⟩,EFle.refl _,EFle.refl _,T⟩) ?_
      have hok:=low_ok (env:=env) hS c1 hdR
      refine qM<|zF<|Y O<|zN zLb (J 0 O) O<|qL O uB (zRx (sD p env) hok.1) (vlr O)<|qW O<|yF O<|yF O<|G O<|oi O<|ol O O<|yM O<|zA<|zK O ?_ ?_<;>intro c10<;>try simp only [sx] at c10
      ·have hE:=lowP_n c1 c2 hp hQ hD c10
       refine Y O<|yQ [some 8,some 20] O zr41 pl41<|G O<|rStR 1 sz41 O<|oi O<|zM<|fin2 (zZ zLb O (J 1 O) O) (rs_c O) ?_
       rw [hE];rfl
      ·have hE:=lowP_ok c1 c2 hp hQ hD c10
       refine zH<|Y O<|zN zLb (J 0 O) O<|rStR 1 sz41 O<|oi O<|zM<|fin2 (zZ zLb O (J 1 O) O) (rs_c O) ?_
       rw [hE];rfl
end Go.W
end
section
set_option maxRecDepth 10000
namespace Go.W
open Go Go.Eng Go.Proofs Go.L41 Go.Br Tryz
attribute [local irreducible] AWP RWP TD fY
def pl70:fA prog 70=some [(0,1),(1,5),(6,1),(7,1),(8,1),(9,13)]:=by kernel_rfl
def pl74:fA prog 74=some [(0,1),(1,5),(6,1)]:=by kernel_rfl
def pl99:fA prog 99=some [(0,1),(1,2)]:=by kernel_rfl
def law20_Small (p:Pg) (hf:p.Fit):
    Pur cfg 10 [vPg p] (vB (cF p)):=by
 refine zV func10 O ntmps10 results10 O ?_
 intro z hz
 have hN:smD p.Defs 0=smD p.Defs 0:=rfl
 generalize hN0:smD p.Defs 0=N at hN
 have f1:=hf.sizes
 have f2:=hf.wh
 have f3:=hf.params
 have f4:=hf.defs
 have f5:=hf.outs
 refine Y O<|og O fun b1=>oi O<|zF<|Y O<|zC O zDu<|zE zIk (J 0 O) O<|qC O el27<|zT O (yN O O O)<|G O<|rL0 O (fun g1_4=>zG O zAo O) O<|rL1 11 O (fun g1_4=>zJ O zDr O (J 0 O) O) O<|rL1 12 O (fun g1_4=>yG O el28 O) O<|rL1 13 O (fun g1_4=>yN O O O) O<|r_or O (fun h=>(lzf h))<|G O<|rL0 O (fun g1_10=>zG O zMk O) O<|rL1 17 O (fun g1_10=>zJ O zBp O (J 0 O) O) O<|rL1 18 O (fun g1_10=>yG O el25 O) O<|rL1 19 O (fun g1_10=>yN O O O) O<|r_or O (fun h=>(lzf h))<|G O<|rL0 O (fun g1_16=>zG O zCt O) O<|rL1 23 O (fun g1_16=>zJ O zBp O (J 0 O) O) O<|rL1 24 O (fun g1_16=>yG O el25 O) O<|rL1 25 O (fun g1_16=>yN O O O) O<|r_or O (fun h=>(lzf h))<|G O<|rL0 O (fun g1_22=>zG O zPy O) O<|rL1 29 O (fun g1_22=>zJ O one26 O (J 0 O) O) O<|rL1 30 O (fun g1_22=>yG O el26 O) O<|rL1 31 O (fun g1_22=>yN O O O) O<|r_or O (fun h=>(lzf h))<|zA<|zK O ?_ ?_<;>intro c1<;>try simp only [sx] at c1
 ·refine oh O O<|zM<|zX O ?_
  rw [show cF p=false by unfold cF xU;simp only [cm,eu,aj,aw];omega]
 ·refine zH<|oh O O<|zF<|oh O O<|zS<|zW ⟨[(4,.c _),(3,.c _),(1,.c _)],[_]⟩ (Weak.mk [true] ⟨zD,zD,zD,T⟩ O)<|qG 2 0 O O (Nat×Nat) (fun ⟨k,n⟩=>[(4,vI k),(3,vI n)]) (fun ⟨k,n⟩=>[]) (fun ⟨k,n⟩=>k<=p.Defs.length/\(N=smD (p.Defs.drop k) n)) (fun ⟨k,n⟩=>p.Defs.length-k) ⟨⟨0,0⟩,⟨zB,hN0.symm⟩,Weak.mk [true] ⟨zD,zD,zD,T⟩ O⟩ ?_
  rintro ⟨k,n⟩ ⟨hk,hq⟩
  show AWP _ _ _ _ _ ⟨[(4,vI k),(3,vI n)]++_,[]++_⟩
  refine zF<|ol O O<|zC O zAo<|zE zDr (J 0 O) O<|qC O el28<|yC O<|G O<|rL0 O (fun g5_5=>zQ O O) O<|rL1 40 O (fun g5_5=>zAh O O O) O<|kH O (fun h=>h)<|zA<|zK O ?_ ?_<;>intro c2<;>try simp only [sx] at c2
  ·obtain ⟨d,hd⟩:=qX p.Defs k zB
   obtain ⟨e1,e2,_,_,e5⟩:=hf.ds d (qD hd)
   have e6:=zUv d.Body 1500 e5
   refine zH<|zF<|zS<|zF<|yH 18 mixed uB O O<|oo O (zQ O O)<|oo O (zG O zAo O)<|oo O (zJ O zDr O (J 0 O) O)<|oo O (zQ O O)<|oo O (qK O el28 O O zB (getm hd))<|oo O (qV O zDg O)<|oo O (zJ O zAn O qF O)<|oo O (yG O el68 O)<|oo O (zG O zAo O)<|oo O (zJ O zDr O (J 0 O) O)<|oo O (zQ O O)<|oo O (qK O el28 O O zB (getm hd))<|oo O (qV O zCb O)<|oo O (zJ O zAn O qF O)<|oo O (yG O el68 O)<|oo O (zJd O O O ⟨zB,zB⟩)<|oo O (zJd O O O ⟨zB,zB⟩)<|oo O (yR O O)<|kE<|zA<|zP O<|G O<|zC O zAo<|zE zDr (J 0 O) O<|G O<|qE O el28 zB (getm hd)<|qR O fd70_5<|zN yZ qF O<|qL O uB (base_Weigh d.Body 1500 1500 (hf.ds d (qD hd)).2.2.2.2 uA O) (vlr O)<|qH O ⟨zB,zB⟩<|oi O<|zP O<|G O<|qH O ⟨zB,zB⟩<|G O<|zA ?_
   refine ⟨⟨k+1,n+dWt d⟩,⟨zB,smD_next hd hq zB⟩,(by show p.Defs.length-(k+1)<p.Defs.length-k;omega),Weak.mk [true] ⟨zD,VLe.of_eq ((ai vI (by unfold dWt;omega))),zD,T⟩ O⟩
  ·have hn:=smD_end hq zB
   refine qM<|zF<|oh O O<|zS<|zW ⟨[(5,.c _),(3,.c _),(1,.c _)],[_]⟩ (Weak.mk [true] ⟨zD,zD,zD,T⟩ O)<|qG 2 0 O O (Nat×Nat) (fun ⟨j,m⟩=>[(5,vI j),(3,vI m)]) (fun ⟨j,m⟩=>[]) (fun ⟨j,m⟩=>j<=p.Params.length/\(smP p.Params n=smP (p.Params.drop j) m)) (fun ⟨j,m⟩=>p.Params.length-j) ⟨⟨0,n⟩,⟨zB,O⟩,Weak.mk [true] ⟨zD,zD,zD,T⟩ O⟩ ?_
   rintro ⟨j,m⟩ ⟨hj,hr⟩
   show AWP _ _ _ _ _ ⟨[(5,vI j),(3,vI m)]++_,[]++_⟩
   refine zF<|ol O O<|zC O zDu<|zE zIk (J 0 O) O<|qC O el27<|yC O<|G O<|rL0 O (fun g10_5=>zQ O O) O<|rL1 77 O (fun g10_5=>zAh O O O) O<|kH O (fun h=>h)<|zA<|zK O ?_ ?_<;>intro c3<;>try simp only [sx] at c3
   ·obtain ⟨y,hy⟩:=qX p.Params j zB
    have e1:=(hf.ps y (qD hy)).1
    refine zH<|zF<|zS<|zP O<|G O<|zC O zDu<|zE zIk (J 0 O) O<|G O<|qE O el27 zB (getm hy)<|qR O zPv<|zE zBs qF O<|qC O el72<|qH O ⟨zB,zB⟩<|oi O<|zP O<|G O<|qH O ⟨zB,zB⟩<|G O<|zA ?_
    refine ⟨⟨j+1,m+y.Dims.length⟩,⟨zB,smP_next hy hr zB⟩,(by show p.Params.length-(j+1)<p.Params.length-j;omega),Weak.mk [true] ⟨zD,VLe.of_eq ((ai vI zB)),zD,T⟩ O⟩
   ·have hm:=smP_end hr zB
    refine qM<|ol O O<|zT O (zAh O O O)<|oi O<|zM<|zX O ?_
    rw [show cF p=decide (m<=1500) by unfold cF;rw [show xU p=true by unfold xU;simp only [ae,az,aw];omega,hN0,hn,hm,aQ]]
    exact ai vB (dl.2 zB)
def zMg (f:Int):
    Pur cfg 18 [vI f] (vPg (xP f)):=by
 refine zV func18 O ntmps18 results18 O fun z hz=>Y O<|qA O O (qI od O zr30 O) ?_
 rintro _ _ ⟨b1,rfl,rfl⟩
 refine zA<|Y O<|yJ O v pl56<|qA O O (qZ O v) ?_
 rintro _ _ ⟨b2,rfl,rfl⟩
 refine rStR 0 N O<|zA<|Y O<|qL O uB (zCp (bs [110])) (vlr O)<|qA O O (qI [none,some 2] O U O) ?_
 rintro _ _ ⟨b3,rfl,rfl⟩
 refine rStR 0 sz59 O<|zA<|Y O<|qL O uB (zCp (bs [106])) (vlr O)<|yQ oc O zr93 pl93<|yY O el52 zr93<|yQ nz O zr62 pl62<|qA O O (qI nr O zr62 O) ?_
 rintro _ _ ⟨b4,rfl,rfl⟩
 refine rStR 0 sz62 O<|zA<|Y O<|yY O el25 zr9<|zN yE (J 2 O) O<|zN yV (J 1 O) O<|yY O el72 U<|yJ O zr74 pl74<|yY O el27 zr74<|zN yE (J 2 O) O<|zN yV (J 1 O) O<|yJ O zr99 pl99<|yY O el68 zr99<|G O<|zN yZ (J 0 O) O<|yQ [none,none,none,none,none,none,some 3,none,none,none,none,none,none,none,none,none,none,none,none,none,none,none] O zr70 pl70<|yY O el28 zr70<|yY O el25 zr9<|yQ [none,some 3,none,none,none] O zr30 pl30<|rStR 3 sz30 O<|zA<|zM<|fin1 (zZ zBa O (J 3 O) O) ?_
 exact O
def zNr:
    Pur cfg 7 [] (vB true):=by
 refine zV func7 O ntmps7 results7 O fun z hz=>oh O O<|Y O<|yJ O zr50 pl50<|yY O el31 zr50<|oi O<|Y O<|qL O uB (zMg 1) (vlr O)<|G O<|qL O uB (show Pur cfg 14 [vPg (xP 1),jR xV] (.tup [vNs (xN xL1),vI 0]) by have h:=lower_Prog (xP 1) xV uA x_env x_sm1.ok x_rng1 x_sm1;rw [x_P1] at h;exact h) (vlr O)<|qW O<|zT O (yD O O O)<|yF O<|qA O O (qI [some 8,some 20] O zr41 O) ?_
 rintro _ _ ⟨b1,rfl,rfl⟩
 refine rStR 0 sz41 O<|oi O<|Y O<|qL O uB (zMg 4) (vlr O)<|G O<|qL O uB (show Pur cfg 14 [vPg (xP 4),jR xV] (.tup [vNs (xN xL4),vI 0]) by have h:=lower_Prog (xP 4) xV uA x_env x_sm4.ok x_rng4 x_sm4;rw [x_P4] at h;exact h) (vlr O)<|qW O<|zT O (yD O O O)<|yF O<|qA O O (qI [some 8,some 20] O zr41 O) ?_
 rintro _ _ ⟨b2,rfl,rfl⟩
 refine rStR 0 sz41 O<|oi O<|zF<|ol O O<|yM O<|G O<|rL0 O (fun g4_2=>zQ O O) O<|rL1 25 O (fun g4_2=>wW O O O) O<|r_or O (fun h=>(lzf h))<|G O<|rL0 O (fun g4_6=>zG O zEz O) O<|rL1 29 O (fun g4_6=>zJ O zPj O (J 1 O) O) O<|rL1 30 O (fun g4_6=>yG O el39 O) O<|rL1 31 O (fun g4_6=>wW O O O) O<|r_or O (fun h=>(lzf h))<|G O<|rL0 O (fun g4_12=>zG O zEt O) O<|rL1 35 O (fun g4_12=>zJ O zDq O (J 1 O) O) O<|rL1 36 O (fun g4_12=>yG O el33 O) O<|rL1 37 O (fun g4_12=>wW O O O) O<|r_or O (fun h=>(lzf h))<|G O<|rL0 O (fun g4_18=>zG O zEt O) O<|rL1 41 O (fun g4_18=>zJ O zDq O (J 0 O) O) O<|rL1 42 O (fun g4_18=>yG O el33 O) O<|rL1 43 O (fun g4_18=>wW O O O) O<|r_or O (fun h=>(lzf h))<|G O<|rL0 O (fun g4_24=>zG O zEt O) O<|rL1 47 O (fun g4_24=>zJ O zDq O (J 1 O) O) O<|rL1 48 O (fun g4_24=>qK O el33 O O uA (zGo (x:=(rH ⟨sj,3⟩ [fX (xD 1) [] 1 lN])) O)) O<|rL1 49 O (fun g4_24=>qV O zGc O) O<|rL1 50 O (fun g4_24=>zJ O zDq O qF O) O<|rL1 51 O (fun g4_24=>yG O el33 O) O<|rL1 52 O (fun g4_24=>wW O O O) O<|r_or O (fun h=>(lzf h))<|G O<|rL0 O (fun g4_33=>zG O zEt O) O<|rL1 56 O (fun g4_33=>zJ O zDq O (J 0 O) O) O<|rL1 57 O (fun g4_33=>qK O el33 O O uA (zGo (x:=(rH ⟨sj,3⟩ [lIf (nA ⟨0,[⟨sj,1⟩]⟩) [fX (xD 4) [] 4 lN]])) O)) O<|rL1 58 O (fun g4_33=>qV O zGc O) O<|rL1 59 O (fun g4_33=>zJ O zDq O qF O) O<|rL1 60 O (fun g4_33=>yG O el33 O) O<|rL1 61 O (fun g4_33=>wW O O O) O<|r_or O (fun h=>(lzf h))<|zA<|zK O ?_ ?_<;>intro c1<;>try simp only [sx] at c1
 ·exact absurd c1 (by decide+kernel)
 ·refine zH<|zF<|yS 17 2 [⟨0,.q []⟩,⟨1,.q [3]⟩,⟨2,.q []⟩,⟨3,.q []⟩,⟨4,.q []⟩,⟨5,.q []⟩,⟨6,.q []⟩,⟨7,.q []⟩,⟨8,.q [2]⟩,⟨9,.q []⟩,⟨10,.q []⟩,⟨11,.q []⟩,⟨12,.q []⟩,⟨13,.q []⟩,⟨14,.f 1⟩,⟨15,.f 0⟩,⟨16,.g 1 []⟩] mixed uB uB O O O<|zR O<|zR O<|zR O<|zR O<|zR O<|zR O<|zR O<|zR O<|zR O<|zR O<|zR O<|zR O<|zR O<|zR O<|zNb O O (zBe (qI nt O zr64 O)) ⟨_,_,0,O,O⟩<|zNb O O (zBe (qI nt O zr64 O)) ⟨_,_,0,O,O⟩<|zR O<|wQ<|om O (zG O zEt O)<|om O (zJ O zDq O (J 0 O) O)<|om O (qK O el33 O O uA (zGo (x:=(rH ⟨sj,3⟩ [fX (xD 1) [] 1 lN])) O))<|om O (qV O zGc O)<|om O (zJ O zDq O qF O)<|om O (qK O el33 O O uA (zGo (x:=(fX (xD 1) [] 1 lN)) O))<|om O (qB O zHt O qF O)<|om O (zG O zEt O)<|om O (zJ O zDq O (J 0 O) O)<|om O (qK O el33 O O uA (zGo (x:=(rH ⟨sj,3⟩ [lIf (nA ⟨0,[⟨sj,1⟩]⟩) [fX (xD 4) [] 4 lN]])) O))<|om O (qV O zGc O)<|om O (zJ O zDq O qF O)<|om O (qK O el33 O O uA (zGo (x:=(lIf (nA ⟨0,[⟨sj,1⟩]⟩) [fX (xD 4) [] 4 lN])) O))<|om O (qB O zHt O qF O)<|zMt O O ?_
  rintro _ _ ⟨b3,rfl,rfl⟩
  refine zMt O O ?_
  rintro _ _ ⟨b4,rfl,rfl⟩
  refine sq_v0 O O uA O O O (yO O sz64 O O O (zBo 0 O O)) O<|wP O<|rStR 0 sz64 O<|zA<|Y O<|qL O uB (show Pur cfg 8 [vS (bs [115]),vS (bs [106])] (vS sj) by have h:=zNq (bs [115]) (bs [106]) uA uA;rw [x_ln] at h;exact h) (vlr O)<|wC O<|G O<|rL0 O (fun g7_2=>zG O zEz O) O<|rL1 81 O (fun g7_2=>zJ O zPj O (J 3 O) O) O<|rL1 82 O (fun g7_2=>qK O el39 O O uA (getm (x:=(⟨bs [97],xT,[3],1⟩:Bf)) O)) O<|rL1 83 O (fun g7_2=>qV O fd66_3 O) O<|rL1 84 O (fun g7_2=>zJ O one3 O qF O) O<|rL1 85 O (fun g7_2=>yX O O O) O<|kH O (fun h=>h)<|G O<|rL0 O (fun g7_10=>zG O zEz O) O<|rL1 89 O (fun g7_10=>zJ O zPj O (J 3 O) O) O<|rL1 90 O (fun g7_10=>qK O el39 O O uA (getm (x:=(⟨bs [115],xT,[],2⟩:Bf)) O)) O<|rL1 91 O (fun g7_10=>qV O fd66_3 O) O<|rL1 92 O (fun g7_10=>zJ O one3 O qF O) O<|rL1 93 O (fun g7_10=>yX O O O) O<|kH O (fun h=>h)<|G O<|rL0 O (fun g7_18=>zG O zEt O) O<|rL1 97 O (fun g7_18=>zJ O zDq O (J 3 O) O) O<|rL1 98 O (fun g7_18=>qK O el33 O O uA (zGo (x:=(lJ (xD 1) [] (.mk 1 (bs []) ⟨0,1⟩ xT ⟨0,[]⟩ [] []))) O)) O<|rL1 99 O (fun g7_18=>qV O zGk O) O<|rL1 100 O (fun g7_18=>qV O wH O) O<|rL1 101 O (fun g7_18=>zJ O one3 O qF O) O<|rL1 102 O (fun g7_18=>yX O O O) O<|kH O (fun h=>h)<|G O<|rL0 O (fun g7_27=>zG O zEt O) O<|rL1 106 O (fun g7_27=>zJ O zDq O (J 2 O) O) O<|rL1 107 O (fun g7_27=>qK O el33 O O uA (zGo (x:=(lJ (xD 4) [] (.mk 3 (bs [97]) ⟨0,0⟩ zTy ⟨0,[]⟩ [⟨⟨0,[]⟩,bs [],[]⟩] []))) O)) O<|rL1 108 O (fun g7_27=>qV O zGk O) O<|rL1 109 O (fun g7_27=>qV O wH O) O<|rL1 110 O (fun g7_27=>zJ O one3 O qF O) O<|rL1 111 O (fun g7_27=>yX O O O) O<|kH O (fun h=>h)<|G O<|rL0 O (fun g7_36=>zG O zEt O) O<|rL1 115 O (fun g7_36=>zJ O zDq O (J 3 O) O) O<|rL1 116 O (fun g7_36=>qK O el33 O O uA (zGo (x:=(rH ⟨sj,3⟩ [fX (xD 1) [] 1 lN])) O)) O<|rL1 117 O (fun g7_36=>qV O zIy O) O<|rL1 118 O (fun g7_36=>zJ O one9 O qF O) O<|rL1 119 O (fun g7_36=>zKe O O O) O<|kH O (fun h=>h)<|G O<|rL0 O (fun g7_44=>zG O zEt O) O<|rL1 123 O (fun g7_44=>zJ O zDq O (J 3 O) O) O<|rL1 124 O (fun g7_44=>qK O el33 O O uA (zGo (x:=(rH ⟨sj,3⟩ [fX (xD 1) [] 1 lN])) O)) O<|rL1 125 O (fun g7_44=>qV O fd64_2 O) O<|rL1 126 O (fun g7_44=>zJ O one3 O qF O) O<|rL1 127 O (fun g7_44=>yX O O O) O<|kH O (fun h=>h)<|G O<|rL0 O (fun g7_52=>zG O zIz O) O<|rL1 131 O (fun g7_52=>zJ O one3 O (J 1 O) O) O<|rL1 132 O (fun g7_52=>yX O O O) O ?_
  refine kH O (fun h=>h)<|G O<|rL0 O (fun g7_57=>zG O zXc O) O<|rL1 136 O (fun g7_57=>zJ O one3 O (J 1 O) O) O<|rL1 137 O (fun g7_57=>yX O O O) O<|kH O (fun h=>h)<|G O<|rL0 O (fun g7_62=>zG O zIz O) O<|rL1 141 O (fun g7_62=>zJ O one3 O (J 0 O) O) O<|rL1 142 O (fun g7_62=>yX O O O) O<|kH O (fun h=>h)<|G O<|rL0 O (fun g7_67=>zG O zGc O) O<|rL1 146 O (fun g7_67=>zJ O zDq O (J 0 O) O) O<|rL1 147 O (fun g7_67=>yG O el33 O) O<|rL1 148 O (fun g7_67=>yX O O O) O<|kH O (fun h=>h)<|G O<|rL0 O (fun g7_73=>zG O zGc O) O<|rL1 152 O (fun g7_73=>zJ O zDq O (J 0 O) O) O<|rL1 153 O (fun g7_73=>qK O el33 O O uA (zGo (x:=(fX (xD 4) [] 4 lN)) O)) O<|rL1 154 O (fun g7_73=>qV O zXc O) O<|rL1 155 O (fun g7_73=>zJ O one3 O qF O) O<|rL1 156 O (fun g7_73=>yX O O O) O<|kH O (fun h=>h)<|oi O<|zM<|zX O ?_
  exact O
end Go.W
end
