/-
  What functions compute.
  Conditions: none.
-/
import Derived.Test.YtgfomfnjionbeaaGreatDoorGB
import Derived.Test.YtgfomfnjionbeaaGreatDoorEngZ
import Derived.Test.YtgfomfnjionbeaaGreatDoorPlain3
set_option linter.unusedSimpArgs false
set_option linter.unusedVariables false
set_option maxRecDepth 10000
namespace Go.W
open Go Go.Eng Go.Proofs Go.L41 Go.Br
attribute [local irreducible] AWP RWP TD fQ
theorem zNs:mJ Tryz.prog 66=some 8:=by kernel_rfl
theorem L:dG Tryz.prog 33=some (64,20,256):=by kernel_rfl
theorem el39:dG Tryz.prog 39=some (66,8,88):=by kernel_rfl
theorem zAx:bD Tryz.prog 41 0=some (0,39):=by kernel_rfl
theorem zCy:bD Tryz.prog 64 7=some (19,33):=by kernel_rfl
theorem zPx:bD Tryz.prog 66 0=some (0,9):=by kernel_rfl
theorem zMx:bD Tryz.prog 66 1=some (1,56):=by kernel_rfl
theorem zPw:bD Tryz.prog 66 2=some (6,46):=by kernel_rfl
theorem zMw:bD Tryz.prog 66 3=some (7,3):=by kernel_rfl
theorem ok48:bA Tryz.prog 48=true:=by kernel_rfl
theorem ok49:bA Tryz.prog 49=true:=by kernel_rfl
theorem ok79:bA Tryz.prog 79=true:=by kernel_rfl
theorem ok103:bA Tryz.prog 103=true:=by kernel_rfl
theorem ok104:bA Tryz.prog 104=true:=by kernel_rfl
theorem ok108:bA Tryz.prog 108=true:=by kernel_rfl
theorem ok144:bA Tryz.prog 144=true:=by kernel_rfl
theorem ok165:bA Tryz.prog 165=true:=by kernel_rfl
theorem ok166:bA Tryz.prog 166=true:=by kernel_rfl
theorem ok168:bA Tryz.prog 168=true:=by kernel_rfl
theorem ok205:bA Tryz.prog 205=true:=by kernel_rfl
theorem zBg:gB Tryz.prog 33=true:=by kernel_rfl
theorem zFg:gB Tryz.prog 39=true:=by kernel_rfl
theorem zMf:gB Tryz.prog 46=true:=by kernel_rfl
theorem pl66:dL Tryz.prog 66=some [(0,1),(1,5),(6,1),(7,1)]:=by kernel_rfl
theorem sz46:(Tryz.prog.info? 46).map (·.size)=some 1:=by kernel_rfl
theorem sz66:(Tryz.prog.info? 66).map (·.size)=some 8:=by kernel_rfl
theorem zr66:dO Tryz.prog 66=some [(Value.string (ByteArray.mk #[])),(Value.int IntKind.i64 0),(Value.int IntKind.i64 0),(Value.int IntKind.i64 0),(Value.int IntKind.i64 0),(Value.int IntKind.i64 0),(Value.slice none 0 0),(Value.int IntKind.i64 0)]:=by kernel_rfl
theorem shape_Validate (d:List Int) (hl:d.length<=17592186044416):
    Pur cfg 168 [vIs d] (vI (gH d)):=by
 refine zV Tryz.func168 O Tryz.ntmps168 Tryz.results168 O ?_
 intro z hz
 refine Y O<|G O<|zA<|zH<|Y O<|G O<|qB O el46<|zW O (yF O O O)<|zA<|zE O (fun c1=>?_) (fun c1=>?_)
 ·try simp only [sx] at c1
  have hlong:=dims_long (d:=d) zC
  refine Y O<|G O<|zA<|zJ<|zT O ?_
  rw [hlong]
 ·try simp only [sx] at c1
  refine zI<|zH<|Y O<|G O<|qB O el46<|G O<|zA<|zR<|zU ⟨[(13,.c _),(0,.c _),(11,.c _),(12,.c _)],[]⟩ (Weak.mk [] ⟨zB,zB,zB,zB,T⟩ O)<|qF 1 0 O O (Nat) (fun k=>[(13,vI k)]) (fun k=>[]) (fun k=>k<=d.length/\((d.take k).all rL=true)) (fun k=>d.length-k) ⟨0,⟨zC,O⟩,Weak.mk [] ⟨zB,zB,zB,zB,T⟩ O⟩ ?_
  rintro k ⟨hk,hp⟩
  refine Y O<|yA O<|zA<|zH<|zE O (fun c2=>?_) (fun c2=>?_)
  ·try simp only [sx] at c2
   obtain ⟨n,hn⟩:=qV d k zC
   refine zI<|zH<|zR<|Y O<|qE O el46 zC (getm uD)<|zG one3 qD O<|G O<|zA<|Y O<|G O<|yA O<|zA<|zE O (fun c3=>?_) (fun c3=>?_)
   ·try simp only [sx] at c3
    have hneg:=dims_neg (d:=d) zC hn c3
    refine Y O<|G O<|zA<|zJ<|zT O ?_
    rw [hneg]
   ·try simp only [sx] at c3
    refine zI<|zO O<|qH O ⟨zC,zC⟩<|G O<|zA ?_
    refine ⟨k+1,⟨zC,zJw hn hp (by unfold rL;exact decide_eq_true zC)⟩,zC,Weak.mk [] ⟨zB,zB,zB,zB,T⟩ O⟩
  ·try simp only [sx] at c2
   have hpos:d.all rL=true:=by rw [yD zC] at hp;exact hp
   refine qM<|Y O<|G O<|zA<|zH<|Y O<|G O<|qB O el46<|G O<|zA<|zR<|zU ⟨[(22,.c _),(5,.c _),(20,.c _),(21,.c _)],[]⟩ (Weak.mk [] ⟨zB,zB,zB,zB,T⟩ O)<|qF 2 0 O O (Nat×Int) (fun ⟨j,s⟩=>[(22,vI j),(5,vI s)]) (fun ⟨j,s⟩=>[]) (fun ⟨j,s⟩=>j<=d.length/\(1<=s)/\(s<=4096)/\(bJ 1 d=bJ s (d.drop j))) (fun ⟨j,s⟩=>d.length-j) ⟨⟨0,1⟩,⟨zC,zC,zC,O⟩,Weak.mk [] ⟨zB,VLe.of_eq (O),zB,zB,T⟩ O⟩ ?_
   rintro ⟨j,s⟩ ⟨hj,hs1,hs2,hs3⟩
   show AWP _ _ _ _ _ ⟨[(22,vI j),(5,vI s)]++_,[]++_⟩
   refine Y O<|yA O<|zA<|zH<|zE O (fun c4=>?_) (fun c4=>?_)
   ·try simp only [sx] at c4
    obtain ⟨m,hm⟩:=qV d j zC
    refine zI<|zH<|zR<|Y O<|qE O el46 zC (getm uD)<|zG one3 qD O<|G O<|zA<|zH<|Y O<|G O<|G O<|zW O (det_quo O O O zC)<|zW O (yF O O O)<|zA<|zE O (fun c5=>?_) (fun c5=>?_)
    ·try simp only [sx] at c5
     have hov:=quo_t hs1 c5
     refine Y O<|G O<|zA<|zJ<|zT O ?_
     rw [zTx zC hpos (zSe hm hs3 hov)]
    ·try simp only [sx] at c5
     have hov:=quo_f hs1 (Int.not_lt.2 c5)
     have hm1:=zMk hs1 (zKb hpos hm)
     refine zI<|zO O<|G O<|G O<|zW O (zPd O O O (by have:=zMk hs1 (zKb hpos hm);exact ⟨zC,zC⟩))<|G O<|zA<|zO O<|qH O ⟨zC,zC⟩<|G O<|zA ?_
     refine ⟨⟨j+1,s*m⟩,⟨zC,zC,zC,size_next hm hs3 hov⟩,(by show d.length-(j+1)<d.length-j;omega),Weak.mk [] ⟨zB,zB,zB,zB,T⟩ O⟩
   ·try simp only [sx] at c4
    refine qM<|Y O<|G O<|zA<|zJ<|zT O ?_
    rw [dims_ok zC hpos (size_done hs3 zC)]
theorem ref11_Validate (d:List Int) (hl:d.length<=17592186044416):
    Pur cfg 108 [vIs d] (vI (gH d)):=by
 refine zV Tryz.func108 O Tryz.ntmps108 Tryz.results108 O ?_
 intro z hz
 refine Y O<|G O<|zA<|zH<|Y O<|G O<|qB O el46<|zW O (yF O O O)<|zA<|zE O (fun c1=>?_) (fun c1=>?_)
 ·try simp only [sx] at c1
  have hlong:=dims_long (d:=d) zC
  refine Y O<|G O<|zA<|zJ<|zT O ?_
  rw [hlong]
 ·try simp only [sx] at c1
  refine zI<|zH<|Y O<|G O<|zA<|zR<|zU ⟨[(3,.c _),(0,.c _)],[]⟩ (Weak.mk [] ⟨zB,zB,T⟩ O)<|qF 1 0 O O (Nat) (fun k=>[(3,vI k)]) (fun k=>[]) (fun k=>k<=d.length/\((d.take k).all rL=true)) (fun k=>d.length-k) ⟨0,⟨zC,O⟩,Weak.mk [] ⟨zB,zB,T⟩ O⟩ ?_
  rintro k ⟨hk,hp⟩
  refine zH<|Y O<|G O<|G O<|qB O el46<|yA O<|zA<|zE O (fun c2=>?_) (fun c2=>?_)
  ·try simp only [sx] at c2
   obtain ⟨n,hn⟩:=qV d k zC
   refine zI<|zH<|zR<|Y O<|G O<|G O<|qE O el46 zC (getm uD)<|zG one3 qD O<|yA O<|zA<|zE O (fun c3=>?_) (fun c3=>?_)
   ·try simp only [sx] at c3
    have hneg:=dims_neg (d:=d) zC hn c3
    refine Y O<|G O<|zA<|zJ<|zT O ?_
    rw [hneg]
   ·try simp only [sx] at c3
    refine zI<|zO O<|G O<|qH O ⟨zC,zC⟩<|G O<|zA ?_
    refine ⟨k+1,⟨zC,zJw hn hp (by unfold rL;exact decide_eq_true zC)⟩,zC,Weak.mk [] ⟨zB,zB,T⟩ O⟩
  ·try simp only [sx] at c2
   have hpos:d.all rL=true:=by rw [yD zC] at hp;exact hp
   refine qM<|Y O<|G O<|zA<|zH<|Y O<|G O<|zA<|zR<|zU ⟨[(5,.c _),(4,.c _),(0,.c _)],[]⟩ (Weak.mk [] ⟨zB,zB,zB,T⟩ O)<|qF 2 0 O O (Nat×Int) (fun ⟨j,s⟩=>[(5,vI j),(4,vI s)]) (fun ⟨j,s⟩=>[]) (fun ⟨j,s⟩=>j<=d.length/\(1<=s)/\(s<=4096)/\(bJ 1 d=bJ s (d.drop j))) (fun ⟨j,s⟩=>d.length-j) ⟨⟨0,1⟩,⟨zC,zC,zC,O⟩,Weak.mk [] ⟨zB,VLe.of_eq (O),zB,T⟩ O⟩ ?_
   rintro ⟨j,s⟩ ⟨hj,hs1,hs2,hs3⟩
   show AWP _ _ _ _ _ ⟨[(5,vI j),(4,vI s)]++_,[]++_⟩
   refine zH<|Y O<|G O<|G O<|qB O el46<|yA O<|zA<|zE O (fun c4=>?_) (fun c4=>?_)
   ·try simp only [sx] at c4
    obtain ⟨m,hm⟩:=qV d j zC
    refine zI<|zH<|zR<|zH<|Y O<|G O<|G O<|qE O el46 zC (getm uD)<|zG one3 qD O<|zW O (yF O O O)<|zA<|zE O (fun c5=>?_) (fun c5=>?_)
    ·try simp only [sx] at c5
     have hov:4096<s*m:=by have:=zMk hs1 (zKb hpos hm);omega
     refine Y O<|G O<|zA<|zJ<|zT O ?_
     rw [zTx zC hpos (zSe hm hs3 hov)]
    ·try simp only [sx] at c5
     have hm1:=zMk hs1 (zKb hpos hm)
     refine zI<|Y O<|G O<|G O<|G O<|qE O el46 zC (getm uD)<|zG one3 qD O<|zW O (zPd O O O (by have:=zMk hs1 (zKb hpos hm);have hm0:=zKb hpos hm;have:s*m<=4096*4096:=Int.mul_le_mul zC zC zC zC;exact ⟨zC,zC⟩))<|G O<|zA<|Y O<|G O<|zW O (yF O O O)<|zA<|zE O (fun c6=>?_) (fun c6=>?_)
     ·try simp only [sx] at c6
      refine Y O<|G O<|zA<|zJ<|zT O ?_
      rw [zTx zC hpos (zSe hm hs3 zC)]
     ·try simp only [sx] at c6
      refine zI<|zO O<|G O<|qH O ⟨zC,zC⟩<|G O<|zA ?_
      refine ⟨⟨j+1,s*m⟩,⟨zC,zC,zC,size_next hm hs3 zC⟩,(by show d.length-(j+1)<d.length-j;omega),Weak.mk [] ⟨zB,zB,zB,T⟩ O⟩
   ·try simp only [sx] at c4
    refine qM<|Y O<|G O<|zA<|zJ<|zT O ?_
    rw [dims_ok zC hpos (size_done hs3 zC)]
theorem zQj (l:List Int) (hl:l.length<=17592186044416):
    OwnR cfg 144 [vIs l] 3 1 (l.map fun n=>[cI n]):=by
 refine zV Tryz.func144 O Tryz.ntmps144 Tryz.results144 O ?_
 intro z hz
 refine Y O<|qX 1 O<|zA<|zH<|Y O<|G O<|zY O O (zGn O el46 O O) ?_
 rintro _ _ ⟨nb1,rfl,hnil1,rfl⟩
 refine zA<|zE O (fun c1=>?_) (fun c1=>?_)
 ·try simp only [sx] at c1
  refine Y O<|G O<|yT _ (kO 3 1)<|zA<|zJ<|zT O ?_
  exact ⟨_,O,by rw [hnil1 c1]⟩
 ·try simp only [sx] at c1
  refine zI<|Y O<|zY O O (zBx O el46 zr3 O O O O) ?_
  rintro _ _ ⟨sv3,rfl,rfl⟩
  refine G O<|zY O O (yH 0 O el46 O O O uH uH) ?_
  exact j9
theorem zFk (b:Bf) (hl:b.Dims.length<=17592186044416):
    Pur cfg 79 [vBf b] (vBf b):=by
 refine zV Tryz.func79 O Tryz.ntmps79 Tryz.results79 O ?_
 intro z hz
 refine Y O<|zY O O (qL O O) ?_
 rintro _ _ ⟨b1,rfl,rfl⟩
 refine zY O O (qG [none,none,none,none,none,none,some 1,none] O zr66 O) ?_
 rintro _ _ ⟨b2,rfl,rfl⟩
 refine zA<|Y O<|zD O zPw<|zG zMf (J 1 O) O<|qJ O ok144 (OwnR.pur (zQj b.Dims hl)) ⟨zB,O,T⟩<|zD O zPw<|D 1 sz46 O<|zA<|Y O<|zM zNs (J 1 O) O<|D 0 sz66 O<|zA<|zJ<|fin1 (zZ zNs O (J 0 O) O) ?_
 exact O
theorem zAv (n:Ns) (s:ByteArray) (hn:n.Ok):
    Pur cfg 247 [vNs n,vS s] (.tup [vBf (gO n.Bufs s),vB (fH n.Bufs s)]):=by
 refine zV Tryz.func247 O Tryz.ntmps247 Tryz.results247 O ?_
 intro z hz
 have hnb:=hn.bufs
 refine Y O<|zY O O (qL O O) ?_
 rintro _ _ ⟨b1,rfl,rfl⟩
 refine zY O O (qG [none,none,none,none,none,none,some 1,none] O zr66 O) ?_
 rintro _ _ ⟨b2,rfl,rfl⟩
 refine G O<|zA<|zH<|Y O<|zD O zAx<|zG zFg (J 1 O) O<|qB O el39<|G O<|zA<|zR<|zU ⟨[(10,.c _),(1,.c _),(2,.c _),(4,.c _),(9,.c _)],[_,_]⟩ (Weak.mk [true,true] ⟨zB,zB,zB,zB,zB,T⟩ O)<|qF 1 0 O O (Nat) (fun k=>[(10,vI k)]) (fun k=>[]) (fun k=>k<=n.Bufs.length/\(fH (n.Bufs.take k) s=false)/\(gO n.Bufs s=gO (n.Bufs.drop k) s)) (fun k=>n.Bufs.length-k) ⟨0,⟨zC,O,O⟩,Weak.mk [true,true] ⟨zB,zB,zB,zB,zB,T⟩ O⟩ ?_
 rintro k ⟨hk,hp,hq⟩
 refine Y O<|yA O<|zA<|zH<|zE O (fun c1=>?_) (fun c1=>?_)
 ·try simp only [sx] at c1
  obtain ⟨b,hb⟩:=qV n.Bufs k zC
  refine zI<|zH<|zR<|Y O<|G O<|G O<|zA<|Y O<|zD O zAx<|zG zFg (J 1 O) O<|G O<|qE O el39 zC (getm uD)<|qW O zPx<|zG one9 qD O<|G O<|wD O<|zA<|zE O (fun c2=>?_) (fun c2=>?_)
  ·try simp only [sx] at c2
   refine Y O<|zD O zAx<|zG zFg (J 1 O) O<|G O<|qE O el39 zC (getm uD)<|zM zNs qD O<|qJ O ok79 (zFk b (hn.dims b (qC hb))) ⟨zB,O,T⟩<|D 0 sz66 O<|G O<|zA<|zJ<|fin2 (zZ zNs O (J 0 O) O) (rs_c O) ?_
   rw [hasBf_at hb c2,hq,bufD_at hb c2];rfl
  ·try simp only [sx] at c2
   refine zI<|zO O<|qH O ⟨zC,zC⟩<|G O<|zA ?_
   refine ⟨k+1,⟨zC,zOw hb hp c2,hq.trans (bufD_next hb c2)⟩,zC,Weak.mk [true,true] ⟨zB,zB,zB,zB,zB,T⟩ O⟩
 ·exact v42
theorem zCt (n:Ns) (s:ByteArray) (hn:n.Ok):
    Pur cfg 171 [vNs n,vS s] (.tup [vBf (gO n.Bufs s),vB (fH n.Bufs s)]):=by
 refine zV Tryz.func171 O Tryz.ntmps171 Tryz.results171 O ?_
 intro z hz
 have hnb:=hn.bufs
 refine Y O<|zY O O (qL O O) ?_
 rintro _ _ ⟨b1,rfl,rfl⟩
 refine zY O O (qG [none,none,none,none,none,none,some 1,none] O zr66 O) ?_
 rintro _ _ ⟨b2,rfl,rfl⟩
 refine G O<|zA<|zH<|Y O<|G O<|zA<|zR<|zU ⟨[(6,.c _),(1,.c _),(2,.c _),(4,.c _)],[_,_]⟩ (Weak.mk [true,true] ⟨zB,zB,zB,zB,T⟩ O)<|qF 1 0 O O (Nat) (fun k=>[(6,vI k)]) (fun k=>[]) (fun k=>k<=n.Bufs.length/\(fH (n.Bufs.take k) s=false)/\(gO n.Bufs s=gO (n.Bufs.drop k) s)) (fun k=>n.Bufs.length-k) ⟨0,⟨zC,O,O⟩,Weak.mk [true,true] ⟨zB,zB,zB,zB,T⟩ O⟩ ?_
 rintro k ⟨hk,hp,hq⟩
 refine zH<|Y O<|G O<|zD O zAx<|zG zFg (J 1 O) O<|qB O el39<|yA O<|zA<|zE O (fun c1=>?_) (fun c1=>?_)
 ·try simp only [sx] at c1
  obtain ⟨b,hb⟩:=qV n.Bufs k zC
  refine zI<|zH<|zR<|Y O<|zD O zAx<|zG zFg (J 1 O) O<|G O<|qE O el39 zC (getm uD)<|qW O zPx<|zG one9 qD O<|G O<|wD O<|zA<|zE O (fun c2=>?_) (fun c2=>?_)
  ·try simp only [sx] at c2
   refine Y O<|zD O zAx<|zG zFg (J 1 O) O<|G O<|qE O el39 zC (getm uD)<|zM zNs qD O<|D 0 sz66 O<|G O<|zA<|zJ<|fin2 (zZ zNs O (J 0 O) O) (rs_c O) ?_
   rw [hasBf_at hb c2,hq,bufD_at hb c2];rfl
  ·try simp only [sx] at c2
   refine zI<|zO O<|G O<|qH O ⟨zC,zC⟩<|G O<|zA ?_
   refine ⟨k+1,⟨zC,zOw hb hp c2,hq.trans (bufD_next hb c2)⟩,zC,Weak.mk [true,true] ⟨zB,zB,zB,zB,T⟩ O⟩
 ·exact v42
theorem zRm (n:Nat) (ih:n≠0->∀(l:List St) (x:Int),bI l<=1073741824->x=((n-1:Nat):Int)->Pur cfg 103 [fP l,vI x] (vB (dK (n-1) l))) (l:List St) (x:Int) (hn:n<=100) (hl:bI l<=1073741824) (hx:x=n):
    Pur cfg 103 [fP l,vI x] (vB (dK n l)):=by
 refine zV Tryz.func103 O Tryz.ntmps103 Tryz.results103 O ?_
 intro z hz
 have hll:=zAt l
 refine Y O<|G O<|zA<|zH<|Y O<|G O<|qB O L<|G O<|zA<|zR<|zU ⟨[(8,.c _),(0,.c _),(1,.c _),(7,.c _)],[]⟩ (Weak.mk [] ⟨zB,zB,zB,zB,T⟩ O)<|qF 1 0 O O (Nat) (fun k=>[(8,vI k)]) (fun k=>[]) (fun k=>k<=l.length/\(sD n (l.take k)=true)) (fun k=>l.length-k) ⟨0,⟨zC,by cases n<;>rfl⟩,Weak.mk [] ⟨zB,zB,zB,zB,T⟩ O⟩ ?_
 rintro k ⟨hk,hp⟩
 refine Y O<|yA O<|zA<|zH<|zE O (fun c1=>?_) (fun c1=>?_)
 ·try simp only [sx] at c1
  obtain ⟨s,hs⟩:=qV l k zC
  refine zI<|zH<|zR<|Y O<|G O<|G O<|zA<|Y O<|G O<|yA O<|G O<|rL0 O (fun g4_2=>zP O O) O<|rL0 O (fun g4_2=>zP O O) O<|rLz [(14,_),(15,_)] O gv1 ⟨O,O,O,O,T⟩ (fun g4_2=>qN O L O O zC (zCq hs)) O<|rL1 16 O (fun g4_2=>qQ O zCy O) O<|rL1 17 O (fun g4_2=>zK O zBg O qD O) O<|rL0 O (fun g4_2=>zP O O) O<|rL1 19 O (fun g4_2=>yM O O O ⟨zC,zC⟩) O<|rLz [(18,_),(20,_)] O gv1 ⟨O,O,O,O,T⟩ (fun g4_2=>qS O ok103 (ih (by simp only [Lz,cond_true,cond_false,Bool.and_eq_true,Bool.or_eq_true,Bool.not_eq_true',Bool.not_eq_false',Bool.or_eq_false_iff,Bool.and_eq_false_iff,decide_eq_true_eq,decide_eq_false_iff_not,Bool.not_eq_true,Bool.not_eq_false] at g4_2;omega) s.Body _ (by have:=St.body_wt s;have:=zAb (qC hs);omega) (by simp only [Lz,cond_true,cond_false,Bool.and_eq_true,Bool.or_eq_true,Bool.not_eq_true',Bool.not_eq_false',Bool.or_eq_false_iff,Bool.and_eq_false_iff,decide_eq_true_eq,decide_eq_false_iff_not,Bool.not_eq_true,Bool.not_eq_false] at g4_2;omega)) ⟨zB,O,zB,O,T⟩) O<|rL1 21 O (fun g4_2=>wJ O O) O<|r_or O (fun h=>(lzf h))<|zA<|zE O (fun c2=>?_) (fun c2=>?_)
  ·have hno:=within_no hs hx c2
   refine Y O<|G O<|zA<|zJ<|zT O ?_
   rw [hno]
  ·have hyes:=within_yes hx c2
   refine zI<|zO O<|qH O ⟨zC,zC⟩<|G O<|zA ?_
   refine ⟨k+1,⟨zC,withinG_next hs hp hyes.1 hyes.2⟩,zC,Weak.mk [] ⟨zB,zB,zB,zB,T⟩ O⟩
 ·try simp only [sx] at c1
  refine qM<|Y O<|G O<|zA<|zJ<|zT O ?_
  rw [yD zC,withinG_eq] at hp;rw [hp]
theorem zTc (n:Nat) (l:List St) (x:Int) (hn:n<=100) (hl:bI l<=1073741824) (hx:x=n):Pur cfg 103 [fP l,vI x] (vB (dK n l)):=by
  induction n generalizing l x with
  |zero=>exact zRm 0 (fun h=>absurd rfl h) l x hn hl hx
  |succ n ih=>exact zRm (n+1) (fun _ l x h1 h2=>ih l x zC h1 zC) l x hn hl hx
theorem depth_step (n:Nat) (ih:n≠0->∀(l:List St) (x:Int),bI l<=1073741824->x=((n-1:Nat):Int)->Pur cfg 48 [fP l,vI x] (vI (mF (n-1) l))) (l:List St) (x:Int) (hn:n<=100) (hl:bI l<=1073741824) (hx:x=n):
    Pur cfg 48 [fP l,vI x] (vI (mF n l)):=by
 refine zV Tryz.func48 O Tryz.ntmps48 Tryz.results48 O ?_
 intro z hz
 have hll:=zAt l
 refine Y O<|G O<|zA<|Y O<|G O<|zA<|zH<|Y O<|G O<|zA<|zR<|zU ⟨[(5,.c _),(6,.c _),(0,.c _),(1,.c _)],[]⟩ (Weak.mk [] ⟨zB,zB,zB,zB,T⟩ O)<|qF 2 0 O O (Nat×Int) (fun ⟨k,d⟩=>[(5,vI d),(6,vI k)]) (fun ⟨k,d⟩=>[]) (fun ⟨k,d⟩=>k<=l.length/\0<=d/\d<=100/\d=mF n (l.take k)) (fun ⟨k,d⟩=>l.length-k) ⟨⟨0,0⟩,⟨zC,zC,zC,by cases n<;>rfl⟩,Weak.mk [] ⟨VLe.of_eq (O),zB,zB,zB,T⟩ O⟩ ?_
 rintro ⟨k,d⟩ ⟨hk,hd0,hd1,hd⟩
 show AWP _ _ _ _ _ ⟨[(5,vI d),(6,vI k)]++_,[]++_⟩
 refine zH<|Y O<|G O<|G O<|qB O L<|yA O<|G O<|rL0 O (fun g3_4=>zP O O) O<|rL1 12 O (fun g3_4=>yF O O O) O<|kB O (fun h=>h)<|zA<|zE O (fun c1=>?_) (fun c1=>?_)
 ·try simp only [sx] at c1
  obtain ⟨s,hs⟩:=qV l k zC
  have hle:=depS_le (n-1) s.Body
  refine zI<|zH<|zR<|zO O<|G O<|G O<|G O<|qE O L zC (zCq hs)<|qW O zCy<|zG zBg qD O<|G O<|zW O (yM O O O ⟨zC,zC⟩)<|qJ O ok48 (ih zC s.Body _ (by have:=St.body_wt s;have:=zAb (qC hs);omega) zC) ⟨zB,O,zB,O,T⟩<|qH O ⟨zC,zC⟩<|zW O (zPe O O O)<|G O<|zA<|zO O<|G O<|qH O ⟨zC,zC⟩<|G O<|zA ?_
  refine ⟨⟨k+1,max d (1+mF (n-1) s.Body)⟩,⟨zC,zC,zC,by rw [depS_next hs zC,←hd]⟩,(by dsimp only;omega),Weak.mk [] ⟨zB,zB,zB,zB,T⟩ O⟩
 ·try simp only [sx] at c1
  refine qM<|Y O<|G O<|G O<|zA<|zJ<|zT O ?_
  exact congrArg vI (depS_stop hx hd zC)
theorem ref30_depth (n:Nat) (l:List St) (x:Int) (hn:n<=100) (hl:bI l<=1073741824) (hx:x=n):Pur cfg 48 [fP l,vI x] (vI (mF n l)):=by
  induction n generalizing l x with
  |zero=>exact depth_step 0 (fun h=>absurd rfl h) l x hn hl hx
  |succ n ih=>exact depth_step (n+1) (fun _ l x h1 h2=>ih l x zC h1 zC) l x hn hl hx
theorem zDd (l:List St) (ih:∀s,s∈l->∀(m:Nat) (x:Int),m<=2147483648->x=m->Pur cfg 104 [fP s.Body,vI x] (vI (lU s.Body m))) (m:Nat) (x:Int) (hl:bI l<=1073741824) (hm:m<=2147483648) (hx:x=m):
    Pur cfg 104 [fP l,vI x] (vI (lU l m)):=by
 refine zV Tryz.func104 O Tryz.ntmps104 Tryz.results104 O ?_
 intro z hz
 have hll:=zAt l
 have hNw:=stsN_wt l
 refine Y O<|G O<|zA<|Y O<|G O<|qB O L<|G O<|zA<|zH<|Y O<|G O<|qB O L<|G O<|zA<|zR<|zU ⟨[(11,.c _),(5,.c _),(0,.c _),(1,.c _),(10,.c _)],[]⟩ (Weak.mk [] ⟨zB,zB,zB,zB,zB,T⟩ O) ?_
 refine qF 2 0 O O (Nat×Nat) (fun ⟨k,n⟩=>[(11,vI k),(5,vI n)]) (fun ⟨k,n⟩=>[]) (fun ⟨k,n⟩=>k<=l.length/\(n<=4294967296)/\(lU l m=mB (l.drop k) m n)) (fun ⟨k,n⟩=>l.length-k) ⟨⟨0,l.length⟩,⟨zC,zC,O⟩,Weak.mk [] ⟨zB,VLe.of_eq (congrArg vI uG),zB,zB,zB,T⟩ O⟩ ?_
 rintro ⟨k,n⟩ ⟨hk,hn,hp⟩
 show AWP _ _ _ _ _ ⟨[(11,vI k),(5,vI n)]++_,[]++_⟩
 refine Y O<|yA O<|zA<|zH<|zE O (fun c1=>?_) (fun c1=>?_)
 ·try simp only [sx] at c1
  obtain ⟨s,hs⟩:=qV l k zC
  refine zI<|zH<|zR<|Y O<|G O<|G O<|zA<|zH<|Y O<|G O<|G O<|zW O (yF O O O)<|zA<|zE O (fun c2=>?_) (fun c2=>?_)
  ·try simp only [sx] at c2
   exact v61
  ·try simp only [sx] at c2
   have hsum:=num_sum hs hp zC
   have hbl:=numB_le s.Body (m-n)
   have hsn:=zQv (qC hs)
   have hse:=zPp s
   refine zI<|zO O<|G O<|G O<|G O<|qE O L zC (zCq hs)<|qW O zCy<|zG zBg qD O<|G O<|G O<|zW O (yM O O O ⟨zC,zC⟩)<|qJ O ok104 (ih s (qC hs) (m-n) _ zC zC) ⟨zB,O,zB,O,T⟩<|qH O ⟨zC,zC⟩<|G O<|zA<|zO O<|qH O ⟨zC,zC⟩<|G O<|zA ?_
   refine ⟨⟨k+1,n+lU s.Body (m-n)⟩,⟨zC,zC,num_next hs hp zC⟩,(by show l.length-(k+1)<l.length-k;omega),Weak.mk [] ⟨zB,VLe.of_eq (congrArg vI zC),zB,zB,zB,T⟩ O⟩
 ·try simp only [sx] at c1
  exact v61
theorem zHm (s:St):∀(m:Nat) (x:Int),bI s.Body<=1073741824->m<=2147483648->x=m->Pur cfg 104 [fP s.Body,vI x] (vI (lU s.Body m)):=by
  induction s using St.ind with
  |_ s ih=>exact fun m x hl hm hx=>zDd s.Body (fun a ha m x h1 h2=>ih a ha m x (by have:=St.body_wt a;have:=zAb ha;omega) h1 h2) m x hl hm hx
theorem zMq (l:List St) (m:Nat) (x:Int) (hl:bI l<=1073741824) (hm:m<=2147483648) (hx:x=m):Pur cfg 104 [fP l,vI x] (vI (lU l m)):=
  zDd l (fun a ha m x h1 h2=>zHm a m x (by have:=St.body_wt a;have:=zAb ha;omega) h1 h2) m x hl hm hx
theorem zIu (l:List St) (ih:∀s,s∈l->∀(m:Nat) (x:Int),m<=2147483648->x=m->Pur cfg 49 [fP s.Body,vI x] (vI (lU s.Body m))) (m:Nat) (x:Int) (hl:bI l<=1073741824) (hm:m<=2147483648) (hx:x=m):
    Pur cfg 49 [fP l,vI x] (vI (lU l m)):=by
 refine zV Tryz.func49 O Tryz.ntmps49 Tryz.results49 O ?_
 intro z hz
 have hll:=zAt l
 have hNw:=stsN_wt l
 refine Y O<|G O<|zA<|Y O<|G O<|qB O L<|G O<|zA<|zH<|Y O<|G O<|zA<|zR<|zU ⟨[(6,.c _),(5,.c _),(0,.c _),(1,.c _)],[]⟩ (Weak.mk [] ⟨zB,zB,zB,zB,T⟩ O) ?_
 refine qF 2 0 O O (Nat×Nat) (fun ⟨k,n⟩=>[(6,vI k),(5,vI n)]) (fun ⟨k,n⟩=>[]) (fun ⟨k,n⟩=>k<=l.length/\(n<=4294967296)/\(lU l m=mB (l.drop k) m n)) (fun ⟨k,n⟩=>l.length-k) ⟨⟨0,l.length⟩,⟨zC,zC,O⟩,Weak.mk [] ⟨zB,VLe.of_eq (congrArg vI uG),zB,zB,T⟩ O⟩ ?_
 rintro ⟨k,n⟩ ⟨hk,hn,hp⟩
 show AWP _ _ _ _ _ ⟨[(6,vI k),(5,vI n)]++_,[]++_⟩
 refine zH<|Y O<|G O<|G O<|qB O L<|yA O<|G O<|rL0 O (fun g3_4=>zP O O) O<|rL0 O (fun g3_4=>zP O O) O<|rLz [(14,_),(15,_)] O gv1 ⟨O,O,O,O,T⟩ (fun g3_4=>wN O O O) O<|kB O (fun h=>h)<|zA<|zE O (fun c1=>?_) (fun c1=>?_)
 ·try simp only [sx] at c1
  obtain ⟨s,hs⟩:=qV l k zC
  have hsum:=num_sum hs hp zC
  have hbl:=numB_le s.Body (m-n)
  have hsn:=zQv (qC hs)
  have hse:=zPp s
  refine zI<|zH<|zR<|zO O<|G O<|G O<|G O<|qE O L zC (zCq hs)<|qW O zCy<|zG zBg qD O<|G O<|G O<|zW O (yM O O O ⟨zC,zC⟩)<|zW O (zPe O O O)<|qJ O ok49 (ih s (qC hs) (m-n) _ zC zC) ⟨zB,O,zB,O,T⟩<|qH O ⟨zC,zC⟩<|G O<|zA<|zO O<|G O<|qH O ⟨zC,zC⟩<|G O<|zA ?_
  refine ⟨⟨k+1,n+lU s.Body (m-n)⟩,⟨zC,zC,num_next hs hp zC⟩,(by show l.length-(k+1)<l.length-k;omega),Weak.mk [] ⟨zB,VLe.of_eq (congrArg vI zC),zB,zB,T⟩ O⟩
 ·try simp only [sx] at c1
  exact v61
theorem zSi (s:St):∀(m:Nat) (x:Int),bI s.Body<=1073741824->m<=2147483648->x=m->Pur cfg 49 [fP s.Body,vI x] (vI (lU s.Body m)):=by
  induction s using St.ind with
  |_ s ih=>exact fun m x hl hm hx=>zIu s.Body (fun a ha m x h1 h2=>ih a ha m x (by have:=St.body_wt a;have:=zAb ha;omega) h1 h2) m x hl hm hx
theorem ref30_size (l:List St) (m:Nat) (x:Int) (hl:bI l<=1073741824) (hm:m<=2147483648) (hx:x=m):Pur cfg 49 [fP l,vI x] (vI (lU l m)):=
  zIu l (fun a ha m x h1 h2=>zSi a m x (by have:=St.body_wt a;have:=zAb ha;omega) h1 h2) m x hl hm hx
theorem zLh (l:List Bf) (c:C) (p:Bf->Bool) (hl:l.length<=4294967296) (hc:∀x,x∈l->FnPur cfg c [vBf x] (vB (p x))):
    Pur cfg 205 [eI l,.c c] (vI (dJ p l)):=by
 refine zV Tryz.func205 O Tryz.ntmps205 Tryz.results205 O ?_
 intro z hz
 refine Y O<|G O<|zA<|zH<|Y O<|G O<|qB O el39<|G O<|zA<|zR<|zU ⟨[(8,.c _),(0,.c _),(1,.c _),(7,.c _)],[]⟩ (Weak.mk [] ⟨zB,zB,zB,zB,T⟩ O)<|qF 1 0 O O (Nat) (fun k=>[(8,vI k)]) (fun k=>[]) (fun k=>k<=l.length/\((l.take k).any p=false)) (fun k=>l.length-k) ⟨0,⟨zC,O⟩,Weak.mk [] ⟨zB,zB,zB,zB,T⟩ O⟩ ?_
 rintro k ⟨hk,hp⟩
 refine Y O<|yA O<|zA<|zH<|zE O (fun c1=>?_) (fun c1=>?_)
 ·try simp only [sx] at c1
  obtain ⟨x,hx⟩:=qV l k zC
  refine zI<|zH<|zR<|Y O<|G O<|G O<|zA<|Y O<|G O<|G O<|G O<|qE O el39 zC (getm uD)<|zM zNs qD O<|zW O (kX O O (hc _ (qC hx)) ⟨zB,O,T⟩)<|zA<|zE O (fun c2=>?_) (fun c2=>?_)
  ·exact v37
  ·exact m8
 ·exact v15
theorem zIh (l:List Bf) (c:C) (p:Bf->Bool) (hl:l.length<=4294967296) (hc:∀x,x∈l->FnPur cfg c [vBf x] (vB (p x))):
    Pur cfg 165 [eI l,.c c] (vB (l.any p)):=by
 refine zV Tryz.func165 O Tryz.ntmps165 Tryz.results165 O ?_
 intro z hz
 refine Y O<|G O<|zA<|Y O<|G O<|G O<|qJ O ok205 (zLh l c p hl hc) ⟨zB,O,zB,O,T⟩<|zW O (wQ O O O)<|G O<|zA<|zJ<|zT O ?_
 rw [zMv]
theorem checkBuffers_1 (x b:Bf):
    Pur cfg 166 [vBf x,.c (.iptr b.cells)] (vB (decide (x.Name=b.Name))):=by
 refine zV Tryz.func166 O Tryz.ntmps166 Tryz.results166 O ?_
 intro z hz
 refine Y O<|zY O O (qL O O) ?_
 rintro _ _ ⟨b1,rfl,rfl⟩
 refine G O<|zA<|Y O<|zD O zPx<|zG one9 (J 0 O) O<|qW O zPx<|zG one9 qD O<|wD O<|G O<|zA<|zJ<|zT O ?_
 exact O
theorem zJh (l:List Bf) (hl:l.length<=4294967296) (hd:∀b,b∈l->b.Dims.length<=17592186044416):
    Pur cfg 105 [eI l] (vI (dM [] l)):=by
 refine zV Tryz.func105 O Tryz.ntmps105 Tryz.results105 O ?_
 intro z hz
 refine Y O<|G O<|zA<|zH<|Y O<|G O<|qB O el39<|G O<|zA<|zR<|zU ⟨[(8,.c _),(0,.c _),(7,.c _)],[]⟩ (Weak.mk [] ⟨zB,zB,zB,T⟩ O)<|qF 1 0 O O (Nat) (fun k=>[(8,vI k)]) (fun k=>[]) (fun k=>k<=l.length/\(dM [] l=dM (l.take k) (l.drop k))) (fun k=>l.length-k) ⟨0,⟨zC,O⟩,Weak.mk [] ⟨zB,zB,zB,T⟩ O⟩ ?_
 rintro k ⟨hk,hp⟩
 refine Y O<|yA O<|zA<|zH<|zE O (fun c1=>?_) (fun c1=>?_)
 ·try simp only [sx] at c1
  obtain ⟨b,hb⟩:=qV l k zC
  refine zI<|zH<|zR<|Y O<|G O<|G O<|zA<|Y O<|G O<|G O<|qE O el39 zC (getm uD)<|zM zNs qD O<|zY O O (qG [none,none,none,none,none,none,some 1,none] O zr66 O) ?_
  rintro _ _ ⟨b1,rfl,rfl⟩
  refine D 0 sz66 O<|yT _ (kG 0 O 4 _ PLe.ptr)<|zA<|zH<|zR<|Y O<|qW O zPx<|zG one9 qD O<|qJ O ok19 (zBr _) ⟨zB,O,T⟩<|kZ O<|G O<|zA<|zE O (fun c2=>?_) (fun c2=>?_)
  ·try simp only [sx] at c2
   refine Y O<|G O<|zA<|zJ<|zT O ?_
   rw [zBk hb hp (by rw [bfErr_7 c2];decide),bfErr_7 c2]
  ·try simp only [sx] at c2
   refine Y O<|G O<|G O<|zW O (zJs O el39 O O zC)<|zW O (zDw O O O O O)<|qJ O ok165 (zIh (l.take k) _ (fun x=>decide (x.Name=b.Name)) (by rw [List.length_take];omega) (fun x _=>FnPur.of_pur (first:=[]) (cap:=[.iptr b.cells]) ok166 (checkBuffers_1 x b))) ⟨zB,O,zB,O,T⟩<|G O<|zA<|zE O (fun c3=>?_) (fun c3=>?_)
   ·try simp only [sx] at c3
    refine Y O<|G O<|zA<|zJ<|zT O ?_
    rw [zBk hb hp (by rw [bfErr_8 c2 c3];decide),bfErr_8 c2 c3]
   ·try simp only [sx] at c3
    refine Y O<|qW O zMx<|zM qZ qD O<|qJ O ok167 (wH b.T) ⟨zB,O,T⟩<|yN O<|G O<|zA<|zE O (fun c4=>?_) (fun c4=>?_)
    ·try simp only [sx] at c4
     refine Y O<|G O<|zA<|zJ<|zT O ?_
     rw [zBk hb hp (by rw [zRk c2 c3 (zJz c4)];decide),zRk c2 c3 (zJz c4)]
    ·try simp only [sx] at c4
     refine zI<|zH<|Y O<|qW O zPw<|zG zMf qD O<|qJ O ok168 (shape_Validate b.Dims (hd b (qC hb))) ⟨zB,O,T⟩<|G O<|zA<|Y O<|G O<|yN O<|zA<|zE O (fun c5=>?_) (fun c5=>?_)
     ·try simp only [sx] at c5
      refine Y O<|G O<|G O<|zA<|zJ<|zT O ?_
      rw [zBk hb hp (by rw [bfErr_d c2 c3 (zBc c4) c5];exact c5),bfErr_d c2 c3 (zBc c4) c5]
     ·try simp only [sx] at c5
      refine zI<|Y O<|qW O zMw<|zG one3 qD O<|yA O<|G O<|rL0 O (fun g14_3=>qQ O zMw O) O<|rL1 41 O (fun g14_3=>zK O one3 O qD O) O<|rL1 42 O (fun g14_3=>yF O O O) O<|r_or O (fun h=>(lzf h))<|zA<|zE O (fun c6=>?_) (fun c6=>?_)
      ·try simp only [sx] at c6
       refine Y O<|G O<|zA<|zJ<|zT O ?_
       rw [zBk hb hp (by rw [bfErr_u c2 c3 (zBc c4) c5 zC];decide),bfErr_u c2 c3 (zBc c4) c5 zC]
      ·try simp only [sx] at c6
       refine zI<|zO O<|qH O ⟨zC,zC⟩<|G O<|zA ?_
       refine ⟨k+1,⟨zC,zQf hb hp (bfErr_0 c2 c3 (zBc c4) c5 zC)⟩,zC,Weak.mk [] ⟨zB,zB,zB,T⟩ O⟩
 ·try simp only [sx] at c1
  refine qM<|Y O<|G O<|zA<|zJ<|zT O ?_
  rw [zUi hp zC]
theorem ref30_bufs (n:Ns) (hn:n.Ok):
    Pur cfg 50 [vNs n] (vI (dM [] n.Bufs)):=by
 refine zV Tryz.func50 O Tryz.ntmps50 Tryz.results50 O ?_
 intro z hz
 have hnb:=hn.bufs
 refine Y O<|zY O O (qL O O) ?_
 rintro _ _ ⟨b1,rfl,rfl⟩
 refine G O<|zA<|zH<|Y O<|G O<|zA<|zR<|zU ⟨[(3,.c _),(1,.c _)],[_]⟩ (Weak.mk [true] ⟨zB,zB,T⟩ O)<|qF 1 0 O O (Nat) (fun k=>[(3,vI k)]) (fun k=>[]) (fun k=>k<=n.Bufs.length/\(dM [] n.Bufs=dM (n.Bufs.take k) (n.Bufs.drop k))) (fun k=>n.Bufs.length-k) ⟨0,⟨zC,O⟩,Weak.mk [true] ⟨zB,zB,T⟩ O⟩ ?_
 rintro k ⟨hk,hp⟩
 refine zH<|Y O<|G O<|zD O zAx<|zG zFg (J 0 O) O<|qB O el39<|yA O<|zA<|zE O (fun c1=>?_) (fun c1=>?_)
 ·try simp only [sx] at c1
  obtain ⟨b,hb⟩:=qV n.Bufs k zC
  refine zI<|zH<|zR<|Y O<|zD O zAx<|zG zFg (J 0 O) O<|G O<|qE O el39 zC (getm uD)<|zM zNs qD O<|zY O O (qG [none,none,none,none,none,none,some 1,none] O zr66 O) ?_
  rintro _ _ ⟨b2,rfl,rfl⟩
  refine D 0 sz66 O<|zA<|zH<|Y O<|zD O zPx<|zG one9 (J 0 O) O<|qJ O ok20 (zGx _) ⟨zB,O,T⟩<|kZ O<|zA<|zE O (fun c2=>?_) (fun c2=>?_)
  ·try simp only [sx] at c2
   refine Y O<|G O<|zA<|zJ<|zT O ?_
   rw [zBk hb hp (by rw [bfErr_7 c2];decide),bfErr_7 c2]
  ·try simp only [sx] at c2
   refine zI<|zH<|Y O<|G O<|zA<|zR<|zU ⟨[(5,.c _),(1,.c _),(3,.c _),(4,.c _)],[_,_]⟩ (Weak.mk [true,true] ⟨zB,zB,zB,zB,T⟩ O)<|qF 1 0 O O (Nat) (fun j=>[(5,vI j)]) (fun j=>[]) (fun j=>j<=k/\fH (n.Bufs.take j) b.Name=false) (fun j=>k-j) ⟨0,⟨zC,O⟩,Weak.mk [true,true] ⟨zB,zB,zB,zB,T⟩ O⟩ ?_
   rintro j ⟨hj,hq⟩
   refine zH<|Y O<|G O<|G O<|yA O<|zA<|zE O (fun c3=>?_) (fun c3=>?_)
   ·try simp only [sx] at c3
    obtain ⟨y,hy⟩:=qV n.Bufs j zC
    refine zI<|zH<|zR<|zH<|yE 9 mixed uC O O<|zN O O (zF O zAx O)<|zN O O (zK O zFg O (J 1 O) O)<|zN O O (zP O O)<|zN O O (qN O el39 O O zC (getm uD))<|zN O O (qQ O zPx O)<|zN O O (zK O one9 O qD O)<|zN O O (zF O zPx O)<|zN O O (zK O one9 O (J 0 O) O)<|zN O O (zNd O O O)<|kE<|zA<|zE O (fun c4=>?_) (fun c4=>?_)
    ·try simp only [sx] at c4
     refine Y O<|G O<|zA<|zJ<|zT O ?_
     have h8:=hasBf_lt hy (show j<k by omega) c4
     rw [zBk hb hp (by rw [bfErr_8 c2 h8];decide),bfErr_8 c2 h8]
    ·try simp only [sx] at c4
     refine zI<|zO O<|G O<|qH O ⟨zC,zC⟩<|G O<|zA ?_
     refine ⟨j+1,⟨zC,zOw hy hq c4⟩,zC,Weak.mk [true,true] ⟨zB,zB,zB,zB,T⟩ O⟩
   ·try simp only [sx] at c3
    rw [show j=k by omega] at hq
    refine qM<|zH<|Y O<|zD O zMx<|zM qZ (J 0 O) O<|qJ O ok107 (base_Type b.T) ⟨zB,O,T⟩<|kZ O<|zA<|zE O (fun c5=>?_) (fun c5=>?_)
    ·try simp only [sx] at c5
     refine Y O<|G O<|zA<|zJ<|zT O ?_
     rw [zBk hb hp (by rw [zRk c2 hq c5];decide),zRk c2 hq c5]
    ·try simp only [sx] at c5
     refine zI<|zH<|Y O<|zD O zPw<|zG zMf (J 0 O) O<|qJ O ok108 (ref11_Validate b.Dims (hn.dims b (qC hb))) ⟨zB,O,T⟩<|G O<|zA<|Y O<|G O<|yN O<|zA<|zE O (fun c6=>?_) (fun c6=>?_)
     ·try simp only [sx] at c6
      refine Y O<|G O<|G O<|zA<|zJ<|zT O ?_
      rw [zBk hb hp (by rw [bfErr_d c2 hq c5 c6];exact c6),bfErr_d c2 hq c5 c6]
     ·try simp only [sx] at c6
      refine zI<|Y O<|zD O zMw<|zG one3 (J 0 O) O<|yA O<|G O<|rL0 O (fun g17_3=>zF O zMw O) O<|rL1 51 O (fun g17_3=>zK O one3 O (J 0 O) O) O<|rL1 52 O (fun g17_3=>yF O O O) O<|r_or O (fun h=>(lzf h))<|zA<|zE O (fun c7=>?_) (fun c7=>?_)
      ·try simp only [sx] at c7
       refine Y O<|G O<|zA<|zJ<|zT O ?_
       rw [zBk hb hp (by rw [bfErr_u c2 hq c5 c6 zC];decide),bfErr_u c2 hq c5 c6 zC]
      ·try simp only [sx] at c7
       refine zI<|zO O<|G O<|qH O ⟨zC,zC⟩<|G O<|zA ?_
       refine ⟨k+1,⟨zC,zQf hb hp (bfErr_0 c2 hq c5 c6 zC)⟩,zC,Weak.mk [false,true] ⟨zB,zB,T⟩ O⟩
 ·try simp only [sx] at c1
  refine qM<|Y O<|G O<|zA<|zJ<|zT O ?_
  rw [zUi hp zC]
end Go.W
