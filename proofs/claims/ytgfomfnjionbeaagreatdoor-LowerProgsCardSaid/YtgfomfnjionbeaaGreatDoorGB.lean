/-
  What functions compute.
  And what the laws need besides.
  Conditions: none.
-/
import Derived.Test.YtgfomfnjionbeaaGreatDoorGW
import Derived.Test.YtgfomfnjionbeaaGreatDoorPlain
import Derived.Test.YtgfomfnjionbeaaGreatDoorEngZ
import Derived.Test.YtgfomfnjionbeaaGreatDoorPlain2
set_option linter.unusedSimpArgs false
set_option linter.unusedVariables false
set_option linter.defProp false
section
set_option maxRecDepth 10000
namespace Go.W
open Go Go.Eng Go.Proofs Go.L41 Go.Br Tryz
attribute [local irreducible] oU oX TD gF
def wR:dW prog 266=some (56,5,40):=by kernel_rfl
def pl236:fD prog 236=some [(0,5),(5,1)]:=by kernel_rfl
def zr236:dZ prog 236=some [qn,qn,qn,qn,qn,(Value.map none)]:=by kernel_rfl
def Jw (b mb:Nat) (p:Pg) (m:Kn) (e:Ex) (hP:p.Ok) (he:e.wt<=4294967296):
    Con cfg 224 [vP b,vE e] (Ow b mb p m) λr μ'=>r=.tup [rq (lA p.en (kn m) e).1,vI (lA p.en (kn m) e).2]/\μ'=Ow b mb p m:=by
 refine Con.drop<|zW func224 O ntmps224 results224 O ?_
 intro z hz
 obtain ⟨hLl,hIl,hAl⟩:=e.parts he
 have hwt:=Ex.wt_eq e
 refine Y O<|oi O λb1=>oM O (yA O v) λb2=>om O<|zF<|qAt 12 14 [.q,.q,.q,.q,.q,.q,.q,.q,.q,.u,.u,.f]  mixed uB O O O<|wV O O (zQ O O)<|wV O O (qV O O)<|wV O O (zG O Kq O)<|wV O O (qA O qv O (J 2 O) O)<|wV O O (zG O Hc O)<|wV O O (zH O uB O (J 1 O) O)<|wV O O (qP O uB (zMl p e.Name hP) (oy O))<|wV O O (yS O O)<|wV O O (kK O O O)<|zQd O O (kI O O O)<|zQd O O (kI O O O)<|zVm<|u9<|si<|si<|si<|si<|si<|si<|si<|si<|si<|GN<|GN<|zQe (wY (yA O v))<|u7<|zOi ?_
 rintro _ _ ⟨b3,rfl,rfl⟩
 refine zRw ?_
 refine ⟨_,yP O D O O O (tc 0 O O),xV5,?_⟩
 rintro _ _ ⟨rfl,rfl⟩
 refine ou O (yK O O)<|yY<|om O<|zF<|oo O O<|kQ O<|zA<|zK O ?_ ?_<;>intro c1<;>try simp only [sx] at c1
 ·refine Y O<|yI O v pr<|ow 1 D O<|om O<|zT _ (Weak.mem [false,true,false,true,true] O)<|zM<|oJ (zY yD O (J 0 O) O) (ox O) ?_
  exact ⟨by rw [Lk c1];rfl,[_],O⟩
 ·refine zJ<|zF<|Y O<|zC O kX<|zE uB (J 2 O) O<|qC O oO<|G O<|qC O oS<|yL O<|zA<|zK O ?_ ?_<;>intro c2<;>try simp only [sx] at c2
  ·refine Y O<|yI O v pr<|ow 1 D O<|om O<|zT _ (Weak.mem [false,true,false,true,true] O)<|zM<|oJ (zY yD O (J 0 O) O) (ox O) ?_
   exact ⟨by rw [FY c1 zB];rfl,[_],O⟩
  ·refine zJ<|zF<|Y O<|zC O kX<|zE uB (J 2 O) O<|qC O oO<|om O<|zS<|zT ⟨[(36,.c _),(0,.c _),(4,.c _),(6,.c _),(34,.c _),(35,.c _)],[_,_,_,_]⟩ (oz [true,true,false,true,true] oH O)<|qG 1 0 O O (Nat) (λk=>[(36,vI k)]) (λk=>[]) (λk=>k<=e.Idx.length/\(fS p.en (kn m) e.Idx=fS p.en (kn m) (e.Idx.drop k))) (λk=>e.Idx.length-k) ⟨0,⟨zB,O⟩,oz [true,true,true,true] oH O⟩ ?_
   rintro k ⟨hk,hp⟩
   refine Y O<|yC O<|zA<|zF<|zK O ?_ ?_<;>intro c3<;>try simp only [sx] at c3
   ·obtain ⟨x,hx⟩:=qX e.Idx k zB
    refine zJ<|zF<|zS<|Y O<|qF O oO zB (oI uC)<|zN vf qE O<|oM O (qJ nv O qk O) λb4=>ow 0 sh O<|zA<|oo O O<|zN vf (J 0 O) O<|zX O (kL [3,3] O uB (GR b mb p m x hP (by have:=Ss (qD hx);omega)) (oy O) O)<|om O<|oo O O<|yL O<|zA<|zK O ?_ ?_<;>intro c4<;>try simp only [sx] at c4
    ·refine Y O<|yI O v pr<|G O<|ow 2 D O<|om O<|zT _ (Weak.mem [false,false,true,true,true] O)<|zM<|oJ (zY yD O (J 0 O) O) (ox O) ?_
     exact ⟨by rw [Ll c1 zB (by rw [hp,zZf hx c4];exact c4),hp,zZf hx c4];rfl,[_],O⟩
    ·refine zJ<|zP O<|qH O ⟨zB,zB⟩<|G O<|zA ?_
     refine ⟨k+1,⟨zB,hp.trans (zPp hx c4)⟩,zB,oz [false,true,true,true,true] oH O⟩
   ·refine qL<|Y O<|zN yD (J 0 O) O<|ow 1 D O<|om O<|zT _ (Weak.mem [false,true,true,true] O)<|zM<|oJ (zY yD O (J 0 O) O) (ox O) ?_
    exact ⟨by rw [u3 c1 zB (by rw [hp,z6 zB];rfl)];rfl,[_],O⟩
def zJm (a b:Ty):
    oK cfg 222 [rq a,rq b] (vI (lN a b)):=by
 refine zW func222 O ntmps222 results222 O λz hz=>Y O<|oi O λb1=>oi O λb2=>om O<|zF<|Y O<|zN yD (J 1 O) O<|zN yD (J 0 O) O<|zX O (JE O tf O O O)<|zA<|zK O (λc1=>?_) (λc1=>?_)
 ·have hu:=N4 (Z0 c1)
  refine ol O O<|zM<|zV O ?_
  rw [hu]
 ·have hu:=RX (WY c1)
  refine zJ<|ol O O<|zM<|zV O ?_
  rw [hu]
def AB (b mb:Nat) (p:Pg) (m:Kn) (hP:p.Ok) (e:Ex) (ih:∀a,a∈e.Args->fJ a=0->a.wt<=4294967296->Con cfg 180 [vP b,vE a] (Ow b mb p m) λr μ'=>r=.tup [rq (bP (qd p.en (kn m)) a).1,vI (bP (qd p.en (kn m)) a).2]/\μ'=Ow b mb p m) (hpart:fJ e=0) (he:e.wt<=4294967296):
    Con cfg 180 [vP b,vE e] (Ow b mb p m) λr μ'=>r=.tup [rq (bP (qd p.en (kn m)) e).1,vI (bP (qd p.en (kn m)) e).2]/\μ'=Ow b mb p m:=by
 refine Con.drop<|zW func180 O ntmps180 results180 O ?_
 intro z hz
 obtain ⟨hLl,hIl,hAl⟩:=e.parts he
 have hwt:=Ex.wt_eq e
 refine Y O<|oi O λb1=>oM O (yA O v) λb2=>om O<|oo O O<|yQ _ (kD 56 5)<|zA<|zF<|Y O<|zC O rn<|zE uB (J 2 O) O<|qC O pa<|om O<|zS<|zT ⟨[(15,.c _),(6,.c _),(0,.c _),(3,.c _),(4,.c _),(13,.c _),(14,.c _)],[_,_,_,_,_]⟩ (oz [true,true,true,true,true] oH O)<|qG 2 1 O O (Nat×Value) (λ⟨k,sv⟩=>[(15,vI k),(6,.c (.lit sv))]) (λ⟨k,sv⟩=>[E.vec sv 56 5 ((bG (qd p.en (kn m)) (e.Args.take k)).1.map zl)]) (λ⟨k,sv⟩=>k<=e.Args.length/\((bG (qd p.en (kn m)) (e.Args.take k)).2=0)) (λ⟨k,sv⟩=>e.Args.length-k) ⟨⟨0,(.slice none 0 0)⟩,⟨zB,O⟩,oz [true,true,true,true,true] oH O⟩ ?_
 rintro ⟨k,sv⟩ ⟨hk,hp⟩
 show oU _ _ _ _ _ ⟨[(15,vI k),(6,.c (.lit sv))]++_,[E.vec sv 56 5 ((bG (qd p.en (kn m)) (e.Args.take k)).1.map zl)]++_⟩
 refine Y O<|yC O<|zA<|zF<|zK O ?_ ?_<;>intro c1<;>try simp only [sx] at c1
 ·obtain ⟨x,hx⟩:=qX e.Args k zB
  have hll:=SY _ _ hp
  refine zJ<|zF<|zS<|Y O<|qF O pa zB (Aa uC)<|zN yX qE O<|oM O (qJ nt O pd O) λb4=>ow 0 ph O<|zA<|oo O O<|zN yX (J 0 O) O<|zX O (kL [4,4] O uB (ih x (qD hx) (zJq hpart (qD hx)) (by have:=Ex.arg_wt (qD hx);omega)) (oy O) O)<|qW O<|kG O<|yF O<|oM O (yA O v) λb5=>ow 0 D O<|om O<|zF<|oo O O<|yL O<|zA<|zK O ?_ ?_<;>intro c2<;>try simp only [sx] at c2
  ·refine Y O<|yI O v pr<|G O<|ow 3 D O<|om O<|zT _ (Weak.mem [false,false,false,true,false,true,true] O)<|zM<|oJ (zY yD O (J 0 O) O) (ox O) ?_
   exact ⟨by rw [zVu hx hp c2];rfl,[_],O⟩
  ·refine zJ<|zP O<|G O<|zN yD (J 0 O) O<|yT O wR v<|oM O (qZ 2 O wR O O O xJ1 xJ1) λsv6=>om O<|zP O<|qH O ⟨zB,zB⟩<|G O<|zA ?_
   refine ⟨⟨k+1,sv6⟩,⟨zB,by rw [WW hx hp c2]⟩,(by show e.Args.length-(k+1)<e.Args.length-k;omega),oz [false,false,true,true,true,true,true] oH (by show _=[E.vec sv6 _ 5 ((bG (qd p.en (kn m)) (e.Args.take (k+1))).1.map zl)]++_;rw [WW hx hp c2];simp only [ah];rfl)⟩
 ·have hll:=SY _ _ hp
  have hta:e.Args.take k=e.Args:=yG zB
  rw [hta] at hll
  have hg:∀i,i<e.Args.length->((bG (qd p.en (kn m)) (e.Args.take k)).1.map zl)[i]? =some (zl (bU (bG (qd p.en (kn m)) (e.Args.take k)).1 i)):=λi hi=>zIt (by rw [hta];omega)
  have hT:bP (qd p.en (kn m)) e=(qd p.en (kn m)) e (bG (qd p.en (kn m)) (e.Args.take k)).1:=zVt hta hp
  have hlk:(bG (qd p.en (kn m)) (e.Args.take k)).1.length=e.Args.length:=by rw [hta];exact hll
  refine qL<|ol O O<|zF<|Y O<|zC O wJ<|zE uB (J 2 O) O<|zA<|zS<|zF<|Y O<|yR O<|om O<|qQ O (λc3=>?_) (λc3=>?_)
  ·refine zJ<|zK O ?_ ?_<;>intro c4<;>try simp only [sx] at c4
   ·refine Y O<|zC O D9<|zN yD (J 2 O) O<|ow 1 D O<|om O<|zT _ (Weak.mem [false,true,false,true,true] O)<|zM<|oJ (zY yD O (J 0 O) O) (ox O) ?_
    exact w8
   ·exact absurd c3 c4
  ·refine zP O<|yR O<|om O<|qQ O (λc4=>?_) (λc4=>?_)
   ·refine Y O<|zC O D9<|zN yD (J 2 O) O<|ow 1 D O<|om O<|zT _ (Weak.mem [false,true,false,true,true] O)<|zM<|oJ (zY yD O (J 0 O) O) (ox O) ?_
    exact w8
   ·refine Y O<|yR O<|om O<|qQ O (λc5=>?_) (λc5=>?_)
    ·refine Y O<|yI O v pr<|G O<|zC O Ae<|zN yV (J 2 O) O<|zX O (kL [3,3] O uB (zSd b mb p m e.Lin hLl) (oy O) O)<|ow 1 D O<|om O<|zT _ (Weak.mem [false,true,false,true,true] O)<|zM<|oJ (zY yD O (J 0 O) O) (ox O) ?_
     exact w8
    ·refine Y O<|yR O<|om O<|qQ O (λc6=>?_) (λc6=>?_)
     ·refine oo O O<|zN yX (J 2 O) O<|zX O (kL [3,3] O uB (Jw b mb p m e hP he) (oy O) O)<|kG O<|yF O<|ow 1 D O<|om O<|zT _ (Weak.mem [false,true,false,true,true] O)<|zM<|oJ (zY yD O (J 0 O) O) (ox O) ?_
      exact w8
     ·refine Y O<|yR O<|om O<|qQ O (λc7=>?_) (λc7=>?_)
      ·have hlen1:=zWs hpart zB
       refine oo O O<|zX O (qU 0 O wR O O O zB uI)<|zN yD (kP 0 O (hg 0 zB)) O<|ow 1 D O<|om O<|zT _ (Weak.mem [false,true,false,true,true] O)<|zM<|oJ (zY yD O (J 0 O) O) (ox O) ?_
       exact w8
      ·refine Y O<|yR O<|om O<|qQ O (λc8=>?_) (λc8=>?_)
       ·have hlen3:=AK hpart c8
        refine zF<|yE 11 mixed uB O O<|ou O (zQ O O)<|ou O (qU 0 O wR O O O zB uI)<|ou O (qA O yD O (kP 0 O (hg 1 zB)) O)<|ou O (zQ O O)<|ou O (zQ O O)<|ou O (qU 0 O wR O O O zB uI)<|ou O (qA O yD O (kP 0 O (hg 1 zB)) O)<|ou O (zQ O O)<|ou O (qU 0 O wR O O O zB uI)<|ou O (qA O yD O (kP 0 O (hg 2 zB)) O)<|ou O (zFd O O uB (zJm _ _) (oy O))<|yY<|ow 1 D O<|om O<|zT _ (Weak.mem [false,true,false,true,true] O)<|zM<|oJ (zY yD O (J 0 O) O) (ox O) ?_
        exact w8
       ·refine zF<|Y O<|yR O<|om O<|qQ O (λc9=>?_) (λc9=>?_)
        ·refine zJ<|zK O ?_ ?_<;>intro c11<;>try simp only [sx] at c11
         ·exact v42
         ·exact absurd c9 c11
        ·refine Y O<|yR O<|om O<|qQ O (λc10=>?_) (λc10=>?_)
         ·refine zJ<|zK O ?_ ?_<;>intro c11<;>try simp only [sx] at c11
          ·exact v42
          ·exact absurd c10 c11
         ·refine zP O<|yR O<|om O<|qQ O (λc11=>?_) (λc11=>?_)
          ·exact v42
          ·refine zF<|Y O<|yR O<|om O<|qQ O (λc12=>?_) (λc12=>?_)
           ·refine zJ<|zK O ?_ ?_<;>intro c14<;>try simp only [sx] at c14
            ·exact p7
            ·exact absurd c12 c14
           ·refine Y O<|yR O<|om O<|qQ O (λc13=>?_) (λc13=>?_)
            ·refine zJ<|zK O ?_ ?_<;>intro c14<;>try simp only [sx] at c14
             ·exact p7
             ·exact absurd c13 c14
            ·refine zP O<|yR O<|om O<|qQ O (λc14=>?_) (λc14=>?_)
             ·exact p7
             ·have hlen2:=zDs hpart zB
              refine zJ<|zF<|yE 11 mixed uB O O<|ou O (zQ O O)<|ou O (qU 0 O wR O O O zB uI)<|ou O (qA O yD O (kP 0 O (hg 0 zB)) O)<|ou O (zQ O O)<|ou O (zQ O O)<|ou O (qU 0 O wR O O O zB uI)<|ou O (qA O yD O (kP 0 O (hg 0 zB)) O)<|ou O (zQ O O)<|ou O (qU 0 O wR O O O zB uI)<|ou O (qA O yD O (kP 0 O (hg 1 zB)) O)<|ou O (zFd O O uB (zJm _ _) (oy O))<|yY<|ow 1 D O<|om O<|zT _ (Weak.mem [false,true,false,true,true] O)<|zM<|oJ (zY yD O (J 0 O) O) (ox O) ?_
              exact w8
def RW (b mb:Nat) (p:Pg) (m:Kn) (hP:p.Ok) (e:Ex) (hpart:fJ e=0) (he:e.wt<=4294967296):Con cfg 180 [vP b,vE e] (Ow b mb p m) λr μ'=>r=.tup [rq (bP (qd p.en (kn m)) e).1,vI (bP (qd p.en (kn m)) e).2]/\μ'=Ow b mb p m:=by
  induction e using Ex.ind with
  |_ e ih=>exact AB b mb p m hP e (λa ha h1 h2=>ih a ha h1 h2) hpart he
def yt (p:Pg) (vars:List nq) (e:Ex) (hP:p.Ok) (hv:vars.length<=4294967296) (he:e.wt<=4294967296):
    oK cfg 117 [rf p,sy vars,vE e] (.tup [rq (jB p.en vars e).1,vI (jB p.en vars e).2]):=by
 refine zW func117 O ntmps117 results117 O ?_
 intro z hz
 have hsz:=hP.sizes
 refine Y O<|oi O λb1=>oi O λb2=>oM O (yA O v) λb3=>om O<|zF<|Y O<|zN yX (J 1 O) O<|qK O uB (zRi e zB) (oy O)<|om O<|oo O O<|yL O<|zA<|zK O ?_ ?_<;>intro c1<;>try simp only [sx] at c1
 ·refine Y O<|yI O v pr<|G O<|ow 0 D O<|om O<|zM<|oJ (zY yD O (J 0 O) O) (ox O) ?_
  rw [N2 c1];rfl
 ·refine zJ<|zF<|Y O<|zN yX (J 1 O) O<|qK O uB (wT e) (oy O)<|zA<|zK O ?_ ?_<;>intro c2<;>try simp only [sx] at c2
  ·refine Y O<|yI O v pr<|ow 0 D O<|om O<|zM<|oJ (zY yD O (J 0 O) O) (ox O) ?_
   rw [Ju c1 c2];rfl
  ·refine zJ<|Y O<|zN qv (J 2 O) O<|oM O (zQq vI O O) λb4=>yI O zr236 pl236<|oi O λb5=>om O<|zF<|Y O<|zC O ve<|zE uB (J 4 O) O<|qC O oR<|om O<|zS<|zT ⟨[(32,.c _),(1,.c _),(5,.c _),(6,.c _),(9,.c _),(30,.c _),(31,.c _)],[_,_,_,_]⟩ (oz [true,true,true,true,false] oH O)<|qG 1 2 O O (Nat) (λk=>[(32,vI k)]) (λk=>[sV 236 b5 b4 p,E.blk b4 (MapR vI (jN [] (p.Sizes.take k) 1))]) (λk=>k<=p.Sizes.length) (λk=>p.Sizes.length-k) ⟨0,zB,oz [true,true,true,true] oH O⟩ ?_
   rintro k hk
   refine Y O<|yC O<|zA<|zF<|zK O ?_ ?_<;>intro c3<;>try simp only [sx] at c3
   ·obtain ⟨x,hx⟩:=qX p.Sizes k zB
    refine zJ<|zF<|zS<|Y O<|qF O oR zB (oI uC)<|zE uB qE O<|om O<|zP O<|G O<|zZ O<|zC O CO<|zE uB (J 0 O) O<|G O<|wO O O (zJz 1 1 O ug O O O (zD) O)<|zA<|zP O<|qH O ⟨zB,zB⟩<|G O<|zA ?_
    refine ⟨k+1,zB,zB,oz [true,true,true,true] oH (by show _=[sV 236 b5 b4 p,E.blk b4 (MapR vI (jN [] (p.Sizes.take (k+1)) 1))]++_;rw [zQf hx];rfl)⟩
   ·rw [yG (l:=p.Sizes) (k:=k) zB]
    refine qL<|zF<|oo O O<|qC O oR<|om O<|zS<|zT ⟨[(44,.c _),(5,.c _),(6,.c _),(9,.c _),(42,.c _),(43,.c _)],[_,_,_,_]⟩ (oz [true,true,true,true] oH O)<|qG 1 2 O O (Nat) (λj=>[(44,vI j)]) (λj=>[sV 236 b5 b4 p,E.blk b4 (MapR vI (jN (jN [] p.Sizes 1) (vars.take j) 3))]) (λj=>j<=vars.length) (λj=>vars.length-j) ⟨0,zB,oz [true,true,true,true] oH O⟩ ?_
    rintro j hj
    refine Y O<|yC O<|zA<|zF<|zK O ?_ ?_<;>intro c4<;>try simp only [sx] at c4
    ·obtain ⟨y,hy⟩:=qX vars j zB
     refine zJ<|zF<|zS<|Y O<|qF O oR zB (oI uC)<|zE uB qE O<|om O<|zP O<|G O<|zZ O<|zC O CO<|zE uB (J 0 O) O<|G O<|wO O O (zJz 1 3 O ug O O O (zD) O)<|zA<|zP O<|qH O ⟨zB,zB⟩<|G O<|zA ?_
     refine ⟨j+1,zB,zB,oz [true,true,true,true] oH (by show _=[sV 236 b5 b4 p,E.blk b4 (MapR vI (jN (jN [] p.Sizes 1) (vars.take (j+1)) 3))]++_;rw [zQf hy];rfl)⟩
    ·rw [yG (l:=vars) (k:=j) zB]
     have hTo:=zm (n:=p.en) (Ys p.Sizes vars) c1 c2
     refine qL<|oo O O<|zN yX (J 3 O) O<|zX O (kL [0,0] O uB (RW b5 b4 p _ hP e (VG c1) he) (oy O) O)<|qW O<|kG O<|yF O<|oM O (yA O v) λb6=>ow 0 D O<|om O<|zF<|oo O O<|yL O<|zA<|zK O ?_ ?_<;>intro c5<;>try simp only [sx] at c5
     ·refine Y O<|yI O v pr<|G O<|ow 3 D O<|om O<|zM<|oJ (zY yD O (J 3 O) O) (ox O) ?_
      rw [hTo,aa c5];rfl
     ·refine zJ<|Y O<|zN yD (J 0 O) O<|ow 3 D O<|om O<|zM<|oJ (zY yD O (J 3 O) O) (ox O) ?_
      rw [hTo,ab c5];rfl
end Go.W
end
section
set_option maxRecDepth 10000
namespace Go.W
open Go Go.Eng Go.Proofs Go.L41 Go.Br Tryz
attribute [local irreducible] oU oX TD gF
def ww:bH prog 70 5=some (9,62):=by kernel_rfl
def CM:bH prog 119 0=some (0,30):=by kernel_rfl
def pl119:fD prog 119=some [(0,5),(5,1)]:=by kernel_rfl
def sz28:(prog.info? 28).map (·.size)=some 1:=by kernel_rfl
def sz30:(prog.info? 30).map (·.size)=some 5:=by kernel_rfl
def Vi:(prog.info? 70).map (·.size)=some 22:=by kernel_rfl
def WH:(prog.info? 123).map (·.size)=some 3:=by kernel_rfl
def VZ:dZ prog 30=some [qn,qn,qn,qn,qn]:=by kernel_rfl
def Ot:dZ prog 70=some [Hj,pn,pn,pn,pn,pn,qn,qn,pn,pn,Hj,pn,pn,pn,pn,pn,pn,pn,pn,qn,qn,qn]:=by kernel_rfl
def zr119:dZ prog 119=some [qn,qn,qn,qn,qn,(Value.map none)]:=by kernel_rfl
def Xo:dZ prog 123=some [pn,qn,(Value.bool false)]:=by kernel_rfl
def Eo (b mb:Nat) (p:Pg) (m:Kn) (hP:p.Ok) (k:Nat) (d:Df) (hd:p.Defs[k]? =some d):
    Con cfg 62 [vP b,vI k] (Ov b mb p m) λr μ'=>r=vI (rB m ⟨p.Sizes,p.Params,p.Defs.take k⟩ d)/\μ'=Ov b mb p (jI m d.Name 2):=by
 refine zW func62 O ntmps62 results62 O ?_
 intro z hz
 obtain ⟨hD,hR,hA,hA2,hB⟩:=hP.ds d (qD hd)
 have hlen:=zTm hd
 have hpd:=hP.defs
 refine ol O O<|oo O O<|zZ O<|zC O CM<|zC O ry<|zE uB (J 0 O) O<|G O<|qF O pt zB (oI uC)<|zN Ec qE O<|oM O (qJ oa O Ot O) λb1=>ow 0 Vi O<|zA<|zF<|oo O O<|zC O ub<|zE uB (J 0 O) O<|zX O (kL [1,1] O uB (zNo b mb p m d.Name 2) (oy O) O)<|om O<|oo O O<|yL O<|zA<|zK O ?_ ?_<;>intro c1<;>try simp only [sx] at c1
 ·refine oo O O<|om O<|zT _ (Weak.mem [false,true,true] O)<|zM<|zV O ?_
  exact ⟨by rw [def_1 c1],O⟩
 ·refine zJ<|zF<|Y O<|zC O On<|zN yD (J 0 O) O<|zC O D8<|zE uB (J 0 O) O<|qC O pg<|zC O Ce<|zE uB (J 0 O) O<|qC O pg<|yT O pf Oq<|qK O uB (zLj d.T [(d.Dims.length:Int),(d.Red.length:Int)] _ O uF) (oy O)<|om O<|oo O O<|yL O<|zA<|zK O ?_ ?_<;>intro c2<;>try simp only [sx] at c2
  ·refine oo O O<|om O<|zT _ (Weak.mem [false,true,true] O)<|zM<|zV O ?_
   exact ⟨by rw [def_2 c1 c2],O⟩
  ·have hX:=XG (n:=⟨p.Sizes,p.Params,p.Defs.take k⟩) c1 c2
   refine zJ<|zF<|oo O O<|zN Ec (J 0 O) O<|zX O (kL [1,1] O uB (Cu b mb p (jI m d.Name 2) d hD hR hA hA2) (oy O) O)<|om O<|oo O O<|yL O<|zA<|zK O ?_ ?_<;>intro c3<;>try simp only [sx] at c3
   ·refine oo O O<|om O<|zT _ (Weak.mem [false,true,true] O)<|zM<|zV O ?_
    exact ⟨by rw [hX,aa c3],O⟩
   ·rw [ab c3] at hX
    refine zJ<|zF<|Y O<|zN Ec (J 0 O) O<|qK O uB (Dz d) (oy O)<|om O<|oo O O<|yL O<|zA<|zK O ?_ ?_<;>intro c4<;>try simp only [sx] at c4
    ·refine oo O O<|om O<|zT _ (Weak.mem [false,true,true] O)<|zM<|zV O ?_
     exact ⟨by rw [hX,aa c4],O⟩
    ·rw [ab c4] at hX
     unfold rU at hX
     refine zJ<|oo O O<|zZ O<|zC O CM<|zN qv (J 1 O) O<|oM O (qJ og O VZ O) λb2=>ow 0 sz30 O<|zA<|oo O O<|zZ O<|zC O CM<|zC O ry<|zE uB (J 2 O) O<|G O<|zX O (ZZ O pt O O zB)<|zC O ry<|ow 0 sz28 O<|zA<|zF<|Hu 10 [.q,.q,.q,.q,.q,.q,.q,.q,.u,.f]  mixed uB O O O<|wV O O (qA O qv O (J 0 O) O)<|wV O O (qA O Ec O (J 1 O) O)<|wV O O (qP O uB (OwnR.pur (zQo d hD hR)) (oy O))<|wV O O (zG O ww O)<|wV O O (qA O yX O (J 1 O) O)<|wV O O (qP O uB (yt (⟨p.Sizes,p.Where,p.Params,p.Defs.take k,p.Outs⟩:Pg) (bD d) d.Body (hP.take k) (by rw [bD,qp,pc,pc];omega) hB) (oy O))<|wV O O (yS O O)<|wV O O (kK O O O)<|zQd O O (kI O O O)<|zVm<|u9<|si<|si<|si<|si<|si<|si<|si<|si<|GN<|zQe (wY (yA O v))<|u7<|zOi ?_
     rintro _ _ ⟨b3,rfl,rfl⟩
     refine zRw ?_
     refine ⟨_,yP O D O O O (tc 0 O O),xV5,?_⟩
     rintro _ _ ⟨rfl,rfl⟩
     refine om O<|zF<|oo O O<|yL O<|zA<|zK O ?_ ?_<;>intro c5<;>try simp only [sx] at c5
     ·refine oo O O<|om O<|zT _ (Weak.mem [false,false,false,true,true] O)<|zM<|zV O ?_
      exact ⟨by rw [hX,aa (show ¬(jB ⟨p.Sizes,p.Params,p.Defs.take k⟩ (bD d) d.Body).2=0 from c5)];rfl,O⟩
     ·rw [ab (show (jB ⟨p.Sizes,p.Params,p.Defs.take k⟩ (bD d) d.Body).2=0 from c5)] at hX
      refine zJ<|zF<|Y O<|zN yD (J 0 O) O<|zC O On<|zN yD (J 2 O) O<|zX O (JE O tf O O O)<|zA<|zK O (λc6=>?_) (λc6=>?_)
      ·refine ol O O<|zT _ (Weak.mem [false,false,false,true,true] O)<|zM<|zV O ?_
       exact ⟨by rw [hX,aa (show ¬(jB (⟨p.Sizes,p.Params,p.Defs.take k⟩:En) (bD d) d.Body).1=d.T from Z0 c6)],O⟩
      ·refine zJ<|ol O O<|zT _ (Weak.mem [false,false,false,true,true] O)<|zM<|zV O ?_
       exact ⟨by rw [hX,ab (show (jB (⟨p.Sizes,p.Params,p.Defs.take k⟩:En) (bD d) d.Body).1=d.T from WY c6)],O⟩
def zHd (p:Pg) (hP:p.Ok):
    oK cfg 22 [rf p] (.tup [vI (bK p).1,vI (bK p).2]):=by
 refine zW func22 O ntmps22 results22 O ?_
 intro z hz
 have hps:=hP.sizes
 have hpw:=hP.wh
 have hpp:=hP.params
 have hpd:=hP.defs
 have hpo:=hP.outs
 refine Y O<|oi O λb1=>G O<|om O<|zF<|Y O<|zN qv (J 0 O) O<|qK O uB (yu p) (oy O)<|kQ O<|zA<|zK O (λc1=>?_) (λc1=>?_)
 ·have hl:¬dP p:=by simpa using c1
  refine oo O O<|om O<|zM<|oJ (ox O) (ox O) ?_
  rw [RY hl]
 ·have hl:dP p:=by simpa using c1
  have ho64:p.Outs.length<=64:=hl.2.2.2.1
  refine zJ<|Y O<|zN qv (J 0 O) O<|oM O (zQq vI O O) λb2=>yI O zr119 pl119<|oi O λb3=>om O<|zF<|Y O<|zC O ve<|zE uB (J 2 O) O<|qC O oR<|om O<|zS<|zT ⟨[(29,.c _),(1,.c _),(4,.c _),(27,.c _),(28,.c _)],[_,_,_]⟩ (oz [true,true,true] oH O)<|qG 1 2 O O (Nat) (λk=>[(29,vI k)]) (λk=>[sV 119 b3 b2 p,E.blk b2 (MapR vI (jN [] (p.Sizes.take k) 1))]) (λk=>k<=p.Sizes.length/\(jH [] p.Sizes=jH (jN [] (p.Sizes.take k) 1) (p.Sizes.drop k))) (λk=>p.Sizes.length-k) ⟨0,⟨zB,O⟩,oz [true,true,true] oH O⟩ ?_
  rintro k ⟨hk,hp⟩
  refine Y O<|yC O<|zA<|zF<|zK O ?_ ?_<;>intro c2<;>try simp only [sx] at c2
  ·obtain ⟨x,hx⟩:=qX p.Sizes k zB
   refine zJ<|zF<|zS<|Y O<|qF O oR zB (oI uC)<|zE uB qE O<|om O<|oo O O<|G O<|zX O (kL [0,0] O uB (zNo b3 b2 p (jN [] (p.Sizes.take k) 1) x 1) (oy O) O)<|om O<|oo O O<|yL O<|zA<|zK O ?_ ?_<;>intro c3<;>try simp only [sx] at c3
   ·refine oo O O<|G O<|om O<|zM<|oJ (ox O) (ox O) ?_
    rw [R0 hl (by rw [hp,BP hx c3];exact c3),hp,BP hx c3]
   ·rw [zTc c3]
    refine zJ<|zP O<|qH O ⟨zB,zB⟩<|G O<|zA ?_
    refine ⟨k+1,⟨zB,by rw [hp,Gx hx c3,zQf hx]⟩,zB,oz [true,true,true] oH (by show _=[sV 119 b3 b2 p,E.blk b2 (MapR vI (jN [] (p.Sizes.take (k+1)) 1))]++_;rw [zQf hx];rfl)⟩
  ·rw [yG (l:=p.Sizes) (k:=k) zB]
   rw [z6 (l:=p.Sizes) (k:=k) zB] at hp
   have hs0:jH [] p.Sizes=0:=hp
   refine qL<|zF<|Y O<|zC O VW<|zE uB (J 2 O) O<|qC O wl<|om O<|zS<|zT ⟨[(43,.c _),(1,.c _),(4,.c _),(41,.c _),(42,.c _)],[_,_,_]⟩ (oz [true,true,true] oH O)<|qG 1 0 O O (Nat) (λk=>[(43,vI k)]) (λk=>[]) (λk=>k<=p.Where.length/\(lD (jN [] p.Sizes 1) p.Where=lD (jN [] p.Sizes 1) (p.Where.drop k))) (λk=>p.Where.length-k) ⟨0,⟨zB,O⟩,oz [true,true,true] oH O⟩ ?_
   rintro k ⟨hk,hp⟩
   refine Y O<|yC O<|zA<|zF<|zK O ?_ ?_<;>intro c4<;>try simp only [sx] at c4
   ·obtain ⟨x,hx⟩:=qX p.Where k zB
    refine zJ<|zF<|zS<|Y O<|qF O wl zB (oI uC)<|zN tp qE O<|oM O (qJ [none,some 2,none] O Xo O) λb4=>ow 0 WH O<|zA<|oo O O<|zN tp (J 0 O) O<|zX O (kL [1,1] O uB (zRs b3 b2 p (jN [] p.Sizes 1) x (hP.whs x (qD hx))) (oy O) O)<|om O<|oo O O<|yL O<|zA<|zK O ?_ ?_<;>intro c5<;>try simp only [sx] at c5
    ·refine oo O O<|G O<|om O<|zM<|oJ (ox O) (ox O) ?_
     rw [R1 hl hs0 (by rw [hp,B8 hx c5];exact c5),hp,B8 hx c5]
    ·refine zJ<|zP O<|qH O ⟨zB,zB⟩<|G O<|zA ?_
     refine ⟨k+1,⟨zB,hp.trans (G3 hx c5)⟩,zB,oz [false,true,true,true] oH O⟩
   ·rw [z6 (l:=p.Where) (k:=k) zB] at hp
    have hw0:lD (jN [] p.Sizes 1) p.Where=0:=hp
    have hV:=RZ hl hs0 hw0
    refine qL<|ol O O<|zF<|Y O<|zC O uc<|zE uB (J 2 O) O<|qC O qg<|om O<|zS<|zT ⟨[(57,.c _),(11,.c _),(1,.c _),(4,.c _),(55,.c _),(56,.c _)],[_,_,_]⟩ (oz [true,true,true] oH O)<|qG 2 2 O O (Nat) (λk=>[(57,vI k),(11,vI (2+(k:Int)))]) (λk=>[sV 119 b3 b2 p,E.blk b2 (MapR vI (sS (jN [] p.Sizes 1) (p.Params.take k)))]) (λk=>k<=p.Params.length/\(bK p=jZ p (2+(k:Int)) (sS (jN [] p.Sizes 1) (p.Params.take k)) (p.Params.drop k))) (λk=>p.Params.length-k) ⟨0,⟨zB,hV⟩,oz [true,true,true] ⟨zD,VLe.of_eq (O),zD,zD,zD,zD,T⟩ O⟩ ?_
    rintro k ⟨hk,hp⟩
    refine Y O<|yC O<|zA<|zF<|zK O ?_ ?_<;>intro c6<;>try simp only [sx] at c6
    ·obtain ⟨x,hx⟩:=qX p.Params k zB
     refine zJ<|zF<|zS<|Y O<|qF O qg zB (oI uC)<|zN AI qE O<|oM O (qJ oc O Ou O) λb5=>ow 0 Vk O<|zA<|zF<|oo O O<|zN AI (J 0 O) O<|zX O (kL [1,1] O uB (Ai b3 b2 p (sS (jN [] p.Sizes 1) (p.Params.take k)) x (hP.ps x (qD hx)).1 (hP.ps x (qD hx)).2) (oy O) O)<|om O<|oo O O<|yL O<|zA<|zK O ?_ ?_<;>intro c7<;>try simp only [sx] at c7
     ·refine oo O O<|G O<|G O<|om O<|zM<|oJ (ox O) (ox O) ?_
      rw [hp,IF hx c7]
     ·rw [Nl c7]
      refine zJ<|zP O<|G O<|qH O ⟨zB,zB⟩<|om O<|zP O<|qH O ⟨zB,zB⟩<|G O<|zA ?_
      refine ⟨k+1,⟨zB,by rw [hp,Dx hx c7,BX hx];congr 1<;>first|omega|rfl⟩,zB,oz [false,true,true,true] ⟨zD,VLe.of_eq (ai vI zB),zD,zD,zD,zD,T⟩ (by show _=[sV 119 b3 b2 p,E.blk b2 (MapR vI (sS (jN [] p.Sizes 1) (p.Params.take (k+1))))]++_;rw [BX hx];rfl)⟩
    ·rw [yG (l:=p.Params) (k:=k) zB]
     rw [z6 (l:=p.Params) (k:=k) zB,yG (l:=p.Params) (k:=k) zB,jZ] at hp
     refine qL<|zF<|Y O<|zC O ry<|zE uB (J 2 O) O<|qC O pt<|om O<|zS<|zT ⟨[(74,.c _),(11,.c _),(1,.c _),(4,.c _),(73,.c _)],[_,_,_]⟩ (oz [true,true,true] oH O) ?_
     refine qG 2 2 O O (Nat) (λk=>[(74,vI k),(11,vI (2+(p.Params.length:Int)+(k:Int)))]) (λk=>[sV 119 b3 b2 p,E.blk b2 (MapR vI (xR (sS (jN [] p.Sizes 1) p.Params) (p.Defs.take k)))]) (λk=>k<=p.Defs.length/\(bK p=pX p (2+(p.Params.length:Int)+(k:Int)) (xR (sS (jN [] p.Sizes 1) p.Params) (p.Defs.take k)) (p.Defs.take k) (p.Defs.drop k))) (λk=>p.Defs.length-k) ⟨0,⟨zB,by rw [hp];congr 1<;>first|omega|rfl⟩,oz [true,true,true] ⟨zD,VLe.of_eq (ai vI zB),zD,zD,zD,T⟩ O⟩ ?_
     rintro k ⟨hk,hq⟩
     refine Y O<|yC O<|zA<|zF<|zK O ?_ ?_<;>intro c8<;>try simp only [sx] at c8
     ·obtain ⟨x,hx⟩:=qX p.Defs k zB
      refine zJ<|zF<|zS<|oo O O<|om O<|zF<|oo O O<|G O<|zX O (kL [0,0] O uB (Eo b3 b2 p (xR (sS (jN [] p.Sizes 1) p.Params) (p.Defs.take k)) hP k x hx) (oy O) O)<|om O<|oo O O<|yL O<|zA<|zK O ?_ ?_<;>intro c9<;>try simp only [sx] at c9
      ·refine oo O O<|G O<|G O<|om O<|zM<|oJ (ox O) (ox O) ?_
       rw [hq,O9 hx c9]
      ·rw [TB c9]
       refine zJ<|zP O<|G O<|qH O ⟨zB,zB⟩<|om O<|zP O<|qH O ⟨zB,zB⟩<|G O<|zA ?_
       refine ⟨k+1,⟨zB,by rw [hq,HH hx c9,BW hx];congr 1<;>first|omega|rfl⟩,zB,oz [true,true,true] ⟨zD,VLe.of_eq (ai vI zB),zD,zD,zD,T⟩ (by show _=[sV 119 b3 b2 p,E.blk b2 (MapR vI (xR (sS (jN [] p.Sizes 1) p.Params) (p.Defs.take (k+1))))]++_;rw [BW hx];rfl)⟩
     ·rw [yG (l:=p.Defs) (k:=k) zB]
      rw [z6 (l:=p.Defs) (k:=k) zB,yG (l:=p.Defs) (k:=k) zB,pX] at hq
      refine qL<|zF<|Y O<|zC O Oo<|zE uB (J 2 O) O<|qC O oR<|om O<|zS<|zT ⟨[(90,.c _),(11,.c _),(1,.c _),(4,.c _),(88,.c _),(89,.c _)],[_,_,_]⟩ (oz [true,true,true] oH O) ?_
      refine qG 2 0 O O (Nat) (λk=>[(90,vI k),(11,vI (2+(p.Params.length:Int)+(p.Defs.length:Int)+(k:Int)))]) (λk=>[]) (λk=>k<=p.Outs.length/\(bK p=pV (xR (sS (jN [] p.Sizes 1) p.Params) p.Defs) (2+(p.Params.length:Int)+(p.Defs.length:Int)+(k:Int)) (p.Outs.take k) (p.Outs.drop k))) (λk=>p.Outs.length-k) ⟨0,⟨zB,by rw [hq];congr 1<;>first|omega|rfl⟩,oz [true,true,true] ⟨zD,VLe.of_eq (ai vI zB),zD,zD,zD,zD,T⟩ O⟩ ?_
      rintro k ⟨hk,ho⟩
      refine Y O<|yC O<|zA<|zF<|zK O ?_ ?_<;>intro c10<;>try simp only [sx] at c10
      ·obtain ⟨x,hx⟩:=qX p.Outs k zB
       refine zJ<|zF<|zS<|oo O O<|qF O oR zB (oI uC)<|zE uB qE O<|G O<|om O<|zF<|zS<|oo O O<|zZ O<|zC O zZr<|zE uB (J 0 O) O<|G O<|zX O (zHu 1 (0:Int) O ug O O O (λ_ _=>CRep.lit _ O))<|yL O<|om O<|zK O ?_ ?_<;>intro c11<;>try simp only [sx] at c11
       ·refine oo O O<|G O<|om O<|zM<|oJ (ox O) (ox O) ?_
        rw [ho,UH hx c11]
       ·refine Y O<|zC O Oo<|zE uB (J 2 O) O<|G O<|zX O (ZZ O oR O O zB)<|G O<|qK O uB (zBi (p.Outs.take k) x (by rw [ap];omega)) (oy O)<|om O<|zK O ?_ ?_<;>intro c12<;>try simp only [sx] at c12
        ·refine oo O O<|G O<|om O<|zM<|oJ (ox O) (ox O) ?_
         rw [ho,UG hx c11 c12]
        ·refine zJ<|zP O<|G O<|qH O ⟨zB,zB⟩<|om O<|zP O<|qH O ⟨zB,zB⟩<|G O<|zA ?_
         refine ⟨k+1,⟨zB,by rw [ho,ID hx c11 c12];congr 1<;>first|omega|rfl⟩,zB,oz [true,true,true] ⟨zD,VLe.of_eq (ai vI zB),zD,zD,zD,zD,T⟩ O⟩
      ·refine qL<|oo O O<|om O<|zM<|oJ (ox O) (ox O) ?_
       rw [ho,z6 zB];rfl
end Go.W
end
section
set_option maxRecDepth 10000
namespace Go.W
open Go Go.Eng Go.Proofs Go.L41 Go.Br Tryz
attribute [local irreducible] oU oX TD gF
def zSp (p:Pg) (s:nq) (hP:p.Ok):
    oK cfg 84 [rf p,vS s] (.tup [rq (p.en.find s).ty,mL (p.en.find s).dims,vB (p.en.find s).ok]):=by
 refine zW func84 O ntmps84 results84 O ?_
 intro z hz
 have hpl:=hP.params
 have hpd:=hP.defs
 refine Y O<|oi O λb1=>oM O (yA O v) λb2=>qY 2 O<|om O<|zF<|ol O O<|zS<|zT ⟨[(7,.c _),(1,.c _),(2,.c _),(4,.c _)],[_,_]⟩ (oz [true,true] oH O)<|qG 1 0 O O (Nat) (λk=>[(7,vI k)]) (λk=>[]) (λk=>k<=p.Params.length/\(gC s p.Defs p.Params=gC s p.Defs (p.Params.drop k))) (λk=>p.Params.length-k) ⟨0,⟨zB,O⟩,oz [true,true] oH O⟩ ?_
 rintro k ⟨hk,hp⟩
 refine zF<|oo O O<|zC O uc<|zE uB (J 1 O) O<|qC O qg<|yC O<|zA<|zK O ?_ ?_<;>intro c1<;>try simp only [sx] at c1
 ·obtain ⟨x,hx⟩:=qX p.Params k zB
  refine zJ<|zF<|zS<|Y O<|zC O uc<|zE uB (J 1 O) O<|G O<|qF O qg zB (oI uC)<|qS O OE<|zE uB qE O<|G O<|wF O<|zA<|zK O (λc2=>?_) (λc2=>?_)
  ·try simp only [sx] at c2
   refine zF<|yN 13 0 [⟨0,.q []⟩,⟨1,.q [1]⟩,⟨2,.q []⟩,⟨3,.q []⟩,⟨4,.q []⟩,⟨5,.q []⟩,⟨6,.q []⟩,⟨7,.q [1]⟩,⟨8,.q []⟩,⟨9,.q []⟩,⟨10,.q []⟩,⟨11,.q []⟩,⟨12,.e 0 []⟩] mixed uB uB O O O<|zR O<|zR O<|zR O<|zR O<|zR O<|zR O<|zR O<|zR O<|zR O<|zR O<|zR O<|zR O<|zR O<|wG<|ot O (zG O uc O)<|ot O (zH O uB O (J 0 O) O)<|ot O (zQ O O)<|ot O (qI O qg O O zB (oI uC))<|ot O (qO O zZn O)<|ot O (qA O yD O qE O)<|ot O (zG O uc O)<|ot O (zH O uB O (J 0 O) O)<|ot O (zQ O O)<|ot O (qI O qg O O zB (oI uC))<|ot O (qO O VU O)<|ot O (zH O uB O qE O)<|uh O O uA O O (yP O D O O O (tc 0 O O)) ?_
   rintro _ _ ⟨rfl,rfl⟩
   refine ⟨_,O,?_⟩
   refine wE O<|G O<|om O<|zM<|tr (zY yD O (J 0 O) O) (ox O) (ox O) ?_
   exact v92
  ·exact v80
 ·have hF:p.en.find s=fI s p.Defs:=by rw [En.find,show p.en.pm=p.Params from rfl,show p.en.df=p.Defs from rfl,hp,z6 zB];rfl
  refine qL<|zF<|ol O O<|zS<|zT ⟨[(8,.c _),(1,.c _),(2,.c _),(4,.c _)],[_,_]⟩ (oz [true,true] oH O)<|qG 1 0 O O (Nat) (λk=>[(8,vI k)]) (λk=>[]) (λk=>k<=p.Defs.length/\(fI s p.Defs=fI s (p.Defs.drop k))) (λk=>p.Defs.length-k) ⟨0,⟨zB,O⟩,oz [true,true] oH O⟩ ?_
  rintro k ⟨hk,hq⟩
  refine zF<|oo O O<|zC O ry<|zE uB (J 1 O) O<|qC O pt<|yC O<|zA<|zK O ?_ ?_<;>intro c3<;>try simp only [sx] at c3
  ·obtain ⟨d,hd⟩:=qX p.Defs k zB
   refine zJ<|zF<|zS<|Y O<|zC O ry<|zE uB (J 1 O) O<|G O<|qF O pt zB (oI uC)<|qS O ub<|zE uB qE O<|G O<|wF O<|zA<|zK O (λc4=>?_) (λc4=>?_)
   ·try simp only [sx] at c4
    have hdd:=(hP.ds d (qD hd)).1
    refine oo O O<|yQ _ (kD 59 2)<|zA<|zF<|ol O O<|zS<|zT ⟨[(10,.c _),(9,.c _),(2,.c _),(4,.c _),(8,.c _)],[_,_,_]⟩ (oz [true,true,true] oH O)<|qG 2 1 O O (Nat×Value) (λ⟨j,sv⟩=>[(10,vI j),(9,.c (.lit sv))]) (λ⟨j,sv⟩=>[E.vec sv 59 2 ((d.Dims.take j).map λa=>a.Size.cells)]) (λ⟨j,sv⟩=>j<=d.Dims.length) (λ⟨j,sv⟩=>d.Dims.length-j) ⟨⟨0,(.slice none 0 0)⟩,zB,oz [true,true,true] oH O⟩ ?_
    rintro ⟨j,sv⟩ hj
    show oU _ _ _ _ _ ⟨[(10,vI j),(9,.c (.lit sv))]++_,[E.vec sv 59 2 ((d.Dims.take j).map λa=>a.Size.cells)]++_⟩
    refine zF<|oo O O<|zC O ry<|zE uB (J 2 O) O<|G O<|qF O pt zB (oI uC)<|qS O D8<|zE uB qE O<|qC O pg<|yC O<|zA<|zK O (λc5=>?_) (λc5=>?_)
    ·exact n7
    ·try simp only [sx] at c5
     refine qL<|Y O<|zC O ry<|zE uB (J 2 O) O<|G O<|qF O pt zB (oI uC)<|qS O On<|zN yD qE O<|G O<|ow 1 D O<|G O<|om O<|zT _ (yJ 0 O (regs':=[(9,_),(83,_),(5,_)]) (μ':=[_,_]) ⟨FLe.sl,FLe.sl,FLe.sl,T⟩ ⟨EFle.refl _,EFle.refl _,T⟩)<|zM<|tr (zY yD O (J 0 O) O) (ox O) (ox O) ?_
     rw [hF,hq,ER hd c4,yG (l:=d.Dims) (k:=j) zB];simp only [mL,fx];rfl
   ·exact v74
  ·refine qL<|Y O<|yI O v pr<|ow 0 D O<|qY 2 O<|om O<|zM<|tr (zY yD O (J 0 O) O) (ox O) (ox O) ?_
   rw [hF,hq,z6 (l:=p.Defs) zB];rfl
def zHb (d:Df) (hD:d.Dims.length<=1073741824) (hR:d.Red.length<=1073741824):
    OwnR cfg 38 [SP d] 9 1 ((bD d).map λs=>[cS s]):=by
 refine zW func38 O ntmps38 results38 O λz hz=>Y O<|oi O λb1=>qY 1 O<|zA<|oo O O<|yQ _ (kD 9 1)<|zA<|zF<|ol O O<|zS<|zT ⟨[(4,.c _),(3,.c _),(1,.c _)],[_,_]⟩ (oz [true,true] oH O)<|qG 2 1 O O (Nat×Value) (λ⟨k,sv⟩=>[(4,vI k),(3,.c (.lit sv))]) (λ⟨k,sv⟩=>[E.vec sv 9 1 ((d.Dims.take k).map λa=>[cS a.Name])]) (λ⟨k,sv⟩=>k<=d.Dims.length) (λ⟨k,sv⟩=>d.Dims.length-k) ⟨⟨0,(.slice none 0 0)⟩,zB,oz [true,true] oH O⟩ ?_
 rintro ⟨k,sv⟩ hk
 show oU _ _ _ _ _ ⟨[(4,vI k),(3,.c (.lit sv))]++_,[E.vec sv 9 1 ((d.Dims.take k).map λa=>[cS a.Name])]++_⟩
 refine zF<|oo O O<|zC O D8<|zE uB (J 1 O) O<|qC O pg<|yC O<|zA<|zK O ?_ ?_<;>intro c1<;>try simp only [sx] at c1
 ·obtain ⟨x,hx⟩:=qX d.Dims k zB
  refine zJ<|zF<|zS<|zP O<|G O<|zC O D8<|zE uB (J 1 O) O<|G O<|qF O pg zB (oI uC)<|qS O L1<|zE uB qE O<|yT O oR Hf<|oM O (qZ 0 O oR O O O uH uH) λsv3=>om O<|zP O<|G O<|qH O ⟨zB,zB⟩<|G O<|zA ?_
  refine ⟨⟨k+1,sv3⟩,zB,(by show d.Dims.length-(k+1)<d.Dims.length-k;omega),oz [true,true] oH (by show _=[E.vec sv3 _ 1 ((d.Dims.take (k+1)).map λa=>[cS a.Name])]++_;rw [yB hx,ah (f:=λa:Ax=>[cS a.Name])];rfl)⟩
 ·refine qL<|zF<|ol O O<|zS<|zT ⟨[(5,.c _),(3,.c _),(1,.c _)],[_,_]⟩ (oz [true,true] oH O)<|qG 2 1 O O (Nat×Value) (λ⟨k,sw⟩=>[(5,vI k),(3,.c (.lit sw))]) (λ⟨k,sw⟩=>[E.vec sw 9 1 ((d.Dims.map λa=>[cS a.Name])++(d.Red.take k).map λa=>[cS a.Name])]) (λ⟨k,sw⟩=>k<=d.Red.length) (λ⟨k,sw⟩=>d.Red.length-k) ⟨⟨0,sv⟩,zB,oz [true,true] oH (by show _=[E.vec sv _ 1 ((d.Dims.map λa=>[cS a.Name])++[])]++_;rw [yG (l:=d.Dims) zB,rk];rfl)⟩ ?_
  rintro ⟨k,sw⟩ hk2
  show oU _ _ _ _ _ ⟨[(5,vI k),(3,.c (.lit sw))]++_,[E.vec sw 9 1 ((d.Dims.map λa=>[cS a.Name])++(d.Red.take k).map λa=>[cS a.Name])]++_⟩
  refine zF<|oo O O<|zC O Ce<|zE uB (J 1 O) O<|qC O pg<|yC O<|zA<|zK O ?_ ?_<;>intro c2<;>try simp only [sx] at c2
  ·obtain ⟨x,hx⟩:=qX d.Red k zB
   refine zJ<|zF<|zS<|zP O<|G O<|zC O Ce<|zE uB (J 1 O) O<|G O<|qF O pg zB (oI uC)<|qS O L1<|zE uB qE O<|yT O oR Hf<|oM O (qZ 0 O oR O O O uH uH) λsv4=>om O<|zP O<|G O<|qH O ⟨zB,zB⟩<|G O<|zA ?_
   refine ⟨⟨k+1,sv4⟩,zB,(by show d.Red.length-(k+1)<d.Red.length-k;omega),oz [true,true] oH (by show _=[E.vec sv4 _ 1 ((d.Dims.map λa=>[cS a.Name])++(d.Red.take (k+1)).map λa=>[cS a.Name])]++_;rw [yB hx,ah (f:=λa:Ax=>[cS a.Name]),<-tu];rfl)⟩
  ·refine qL<|oo O O<|om O<|zT _ (Weak.mem [true,false] O)<|zM<|zV O ?_
   exact ⟨_,O,by rw [yG (l:=d.Red) zB,<-ah (f:=λa:Ax=>[cS a.Name]),yf];rfl⟩
def zXy (p:Pg) (vars:List nq) (l:List Lf) (hz0:p.Sizes.length<=4294967296) (hv:vars.length<=4294967296) (hl0:l.length<=4294967296) (hx0:∀x,x∈l->x.L.length<=5864062014805):
    oK cfg 242 [rf p,sy vars,mL l] (vI (mC (qt p.Sizes vars) l)):=by
 refine zW func242 O ntmps242 results242 O λz hz=>Y O<|oi O λb1=>om O<|zF<|ol O O<|zS<|zT ⟨[(7,.c _),(1,.c _),(2,.c _),(3,.c _)],[_]⟩ (oz [true] oH O)<|qG 1 0 O O (Nat) (λk=>[(7,vI k)]) (λk=>[]) (λk=>k<=l.length/\((l.take k).all (λx=>rc (qt p.Sizes vars) x.L)=true)) (λk=>l.length-k) ⟨0,⟨zB,O⟩,oz [true] oH O⟩ ?_
 rintro k ⟨hk,hp⟩
 refine zF<|oo O O<|G O<|qC O oS<|yC O<|zA<|zK O ?_ ?_<;>intro c1<;>try simp only [sx] at c1
 ·obtain ⟨x,hx⟩:=qX l k zB
  refine zJ<|zF<|zS<|zF<|yE 9 mixed uB O O<|ou O (zQ O O)<|ou O (zQ O O)<|ou O (qI O oS O O zB (oI uC))<|ou O (qA O yV O qE O)<|ou O (zQ O O)<|ou O (zG O ve O)<|ou O (zH O uB O (J 0 O) O)<|ou O (qP O uB (zPk x vars p.Sizes (hx0 x (qD hx)) hv hz0) (oy O))<|ou O (wM O O)<|yY<|zA<|zK O ?_ ?_<;>intro c2<;>try simp only [sx] at c2
  ·refine ol O O<|zM<|zV O ?_
   rw [HZ hx c2]
  ·refine zJ<|zP O<|G O<|qH O ⟨zB,zB⟩<|G O<|zA ?_
   refine ⟨k+1,⟨zB,CR hx hp c2⟩,zB,oz [true] oH O⟩
 ·refine qL<|ol O O<|zM<|zV O ?_
  rw [yG zB] at hp;rw [A8 hp]
def IU (p:Pg) (vars:List nq) (e:Ex) (hP:p.Ok) (hv:vars.length<=4294967296) (he:e.wt<=4294967296):
    oK cfg 243 [rf p,sy vars,vE e] (.tup [rq (lA p.en (qt p.Sizes vars) e).1,vI (lA p.en (qt p.Sizes vars) e).2]):=by
 refine zW func243 O ntmps243 results243 O ?_
 intro z hz
 obtain ⟨hLl,hIl,hAl⟩:=e.parts he
 have hwt:=Ex.wt_eq e
 have hz0:=hP.sizes
 refine Y O<|oi O λb1=>oi O λb2=>oM O (yA O v) λb3=>om O<|Y O<|zN qv (J 2 O) O<|zC O Hc<|zE uB (J 1 O) O<|qK O uB (zSp p e.Name hP) (oy O)<|qW O<|kG O<|yF O<|yF O<|oM O (yA O v) λb4=>ow 0 D O<|G O<|om O<|zF<|oo O O<|kQ O<|zA<|zK O ?_ ?_<;>intro c1<;>try simp only [sx] at c1
 ·refine Y O<|yI O v pr<|ow 1 D O<|om O<|zM<|oJ (zY yD O (J 1 O) O) (ox O) ?_
  rw [Lk c1];rfl
 ·refine zJ<|zF<|oo O O<|qC O oS<|zC O kX<|zE uB (J 2 O) O<|qC O oO<|yL O<|zA<|zK O ?_ ?_<;>intro c2<;>try simp only [sx] at c2
  ·refine Y O<|yI O v pr<|ow 1 D O<|om O<|zM<|oJ (zY yD O (J 1 O) O) (ox O) ?_
   rw [FY c1 zB];rfl
  ·refine zJ<|zF<|ol O O<|zS<|zT ⟨[(11,.c _),(1,.c _),(3,.c _),(5,.c _),(6,.c _),(8,.c _)],[_,_,_,_]⟩ (oz [true,true,true,true] oH O)<|qG 1 0 O O (Nat) (λk=>[(11,vI k)]) (λk=>[]) (λk=>k<=e.Idx.length/\(fS p.en (qt p.Sizes vars) e.Idx=fS p.en (qt p.Sizes vars) (e.Idx.drop k))) (λk=>e.Idx.length-k) ⟨0,⟨zB,O⟩,oz [true,true,true,true] oH O⟩ ?_
   rintro k ⟨hk,hp⟩
   refine zF<|oo O O<|zC O kX<|zE uB (J 2 O) O<|qC O oO<|yC O<|zA<|zK O ?_ ?_<;>intro c3<;>try simp only [sx] at c3
   ·obtain ⟨x,hx⟩:=qX e.Idx k zB
    have hxw:=Ex.idx_wt (qD hx)
    refine zJ<|zF<|zS<|Y O<|zC O kX<|zE uB (J 2 O) O<|G O<|qF O oO zB (oI uC)<|zN vf qE O<|oM O (qJ nv O qk O) λb5=>ow 0 sh O<|zA<|zF<|Y O<|zC O AE<|zE uB (J 0 O) O<|wF O<|zA<|zK O ?_ ?_<;>intro c4<;>try simp only [sx] at c4
    ·refine zF<|Y O<|zC O vc<|zN yV (J 0 O) O<|G O<|zC O ve<|zE uB (J 4 O) O<|qK O uB (zPk x.Lin vars p.Sizes zB hv hz0) (oy O)<|kQ O<|zA<|zK O ?_ ?_<;>intro c5<;>try simp only [sx] at c5
     ·refine Y O<|yI O v pr<|ow 2 D O<|om O<|zM<|oJ (zY yD O (J 2 O) O) (ox O) ?_
      rw [zQm c1 zB hp hx ((xg c4).trans (zOd c5)) uA];rfl
     ·have hix:dN p.en (qt p.Sizes vars) x=0:=by rw [xg c4,zWd c5]
      refine zJ<|qL<|zP O<|G O<|qH O ⟨zB,zB⟩<|G O<|zA ?_
      refine ⟨k+1,⟨zB,hp.trans (zPp hx hix)⟩,zB,oz [false,true,true,true,true] oH O⟩
    ·refine zJ<|Y O<|zN qv (J 4 O) O<|zC O AE<|zE uB (J 0 O) O<|qK O uB (zSp p x.From hP) (oy O)<|qW O<|kG O<|yF O<|yF O<|oM O (yA O v) λb6=>ow 0 D O<|G O<|om O<|zF<|oo O O<|kQ O<|zA<|zK O ?_ ?_<;>intro c6<;>try simp only [sx] at c6
     ·refine Y O<|yI O v pr<|ow 3 D O<|om O<|zM<|oJ (zY yD O (J 3 O) O) (ox O) ?_
      rw [zQm c1 zB hp hx (PT c4 c6) uA];rfl
     ·refine zJ<|zF<|Y O<|zC O Hd<|zE uB (J 0 O) O<|yL O<|zA<|zK O ?_ ?_<;>intro c7<;>try simp only [sx] at c7
      ·refine Y O<|yI O v pr<|ow 3 D O<|om O<|zM<|oJ (zY yD O (J 3 O) O) (ox O) ?_
       rw [zQm c1 zB hp hx (My c4 c6 c7) uA];rfl
      ·refine zJ<|zF<|oo O O<|qC O oS<|zC O rt<|zE uB (J 1 O) O<|qC O oS<|yL O<|zA<|zK O ?_ ?_<;>intro c8<;>try simp only [sx] at c8
       ·refine Y O<|yI O v pr<|ow 3 D O<|om O<|zM<|oJ (zY yD O (J 3 O) O) (ox O) ?_
        rw [zQm c1 zB hp hx (Mz c4 c6 c7 zB) uA];rfl
       ·refine zJ<|Y O<|zN qv (J 5 O) O<|G O<|zC O rt<|zE uB (J 1 O) O<|qK O uB (zXy p vars x.At hz0 hv zB (λl hl=>by have:=Sr hl;omega)) (oy O)<|om O<|oo O O<|yL O<|zA<|zK O ?_ ?_<;>intro c9<;>try simp only [sx] at c9
        ·refine Y O<|yI O v pr<|G O<|ow 3 D O<|om O<|zM<|oJ (zY yD O (J 3 O) O) (ox O) ?_
         rw [zQm c1 zB hp hx (Bg c4 c6 c7 zB) c9];rfl
        ·have hix:dN p.en (qt p.Sizes vars) x=0:=by rw [Bg c4 c6 c7 zB];exact c9
         refine zJ<|zP O<|G O<|qH O ⟨zB,zB⟩<|G O<|zA ?_
         refine ⟨k+1,⟨zB,hp.trans (zPp hx hix)⟩,zB,oz [false,false,true,true,true,true] oH O⟩
   ·refine qL<|Y O<|zN yD (J 0 O) O<|ow 1 D O<|om O<|zM<|oJ (zY yD O (J 1 O) O) (ox O) ?_
    rw [u3 c1 zB (by rw [hp,z6 zB];rfl)];rfl
def zXx (p:Pg) (vars:List nq) (hP:p.Ok) (hv:vars.length<=4294967296) (e:Ex) (ih:∀a,a∈e.Args->fJ a=0->a.wt<=4294967296->oK cfg 198 [rf p,sy vars,vE a] (.tup [rq (bP (gK p.en (qt p.Sizes vars)) a).1,vI (bP (gK p.en (qt p.Sizes vars)) a).2])) (hpart:fJ e=0) (he:e.wt<=4294967296):
    oK cfg 198 [rf p,sy vars,vE e] (.tup [rq (bP (gK p.en (qt p.Sizes vars)) e).1,vI (bP (gK p.en (qt p.Sizes vars)) e).2]):=by
 refine zW func198 O ntmps198 results198 O ?_
 intro z hz
 obtain ⟨hLl,hIl,hAl⟩:=e.parts he
 have hwt:=Ex.wt_eq e
 have hz0:=hP.sizes
 refine Y O<|oi O λb1=>oi O λb2=>oM O (yA O v) λb3=>om O<|oo O O<|yQ _ (kD 56 5)<|zA<|zF<|ol O O<|zS<|zT ⟨[(9,.c _),(8,.c _),(1,.c _),(3,.c _),(5,.c _),(6,.c _)],[_,_,_,_]⟩ (oz [true,true,true,true] oH O)<|qG 2 1 O O (Nat×Value) (λ⟨k,sv⟩=>[(9,vI k),(8,.c (.lit sv))]) (λ⟨k,sv⟩=>[E.vec sv 56 5 ((bG (gK p.en (qt p.Sizes vars)) (e.Args.take k)).1.map zl)]) (λ⟨k,sv⟩=>k<=e.Args.length/\((bG (gK p.en (qt p.Sizes vars)) (e.Args.take k)).2=0)) (λ⟨k,sv⟩=>e.Args.length-k) ⟨⟨0,(.slice none 0 0)⟩,⟨zB,O⟩,oz [true,true,true,true] oH O⟩ ?_
 rintro ⟨k,sv⟩ ⟨hk,hp⟩
 show oU _ _ _ _ _ ⟨[(9,vI k),(8,.c (.lit sv))]++_,[E.vec sv 56 5 ((bG (gK p.en (qt p.Sizes vars)) (e.Args.take k)).1.map zl)]++_⟩
 refine zF<|oo O O<|zC O rn<|zE uB (J 2 O) O<|qC O pa<|yC O<|zA<|zK O ?_ ?_<;>intro c1<;>try simp only [sx] at c1
 ·obtain ⟨x,hx⟩:=qX e.Args k zB
  have hll:=SY _ _ hp
  refine zJ<|zF<|zS<|zF<|yN 13 1 [⟨0,.q [4]⟩,⟨1,.q []⟩,⟨2,.q []⟩,⟨3,.q [3]⟩,⟨4,.q []⟩,⟨5,.q []⟩,⟨6,.q []⟩,⟨7,.q []⟩,⟨8,.q []⟩,⟨9,.q []⟩,⟨10,.q []⟩,⟨11,.e 0 []⟩,⟨12,.e 0 []⟩] mixed uB uB O O O<|zR O<|zR O<|zR O<|zR O<|zR O<|zR O<|zR O<|zR O<|zR O<|zR O<|zR O<|zR O<|zR O<|wG<|ot O (qA O qv O (J 0 O) O)<|ot O (zQ O O)<|ot O (zG O rn O)<|ot O (zH O uB O (J 0 O) O)<|ot O (zQ O O)<|ot O (qI O pa O O zB (Aa uC))<|ot O (qA O yX O qE O)<|ot O (qP O uB (ih x (qD hx) (zJq hpart (qD hx)) (by have:=Ex.arg_wt (qD hx);omega)) (oy O))<|ot O (yS O O)<|ot O (kK O O O)<|ot O (kI O O O)<|sk O O uA O O (yA O v) ?_
  rintro _ _ ⟨b5,rfl,rfl⟩
  refine ⟨_,O,?_⟩
  refine uh O O uA O O (yP O D O O O (tc 0 O O)) ?_
  rintro _ _ ⟨rfl,rfl⟩
  refine ⟨_,O,?_⟩
  refine wE O<|om O<|zF<|oo O O<|yL O<|zA<|zK O ?_ ?_<;>intro c2<;>try simp only [sx] at c2
  ·refine Y O<|yI O v pr<|G O<|ow 2 D O<|om O<|zM<|oJ (zY yD O (J 2 O) O) (ox O) ?_
   rw [zVu hx hp c2];rfl
  ·refine zJ<|zP O<|G O<|zN yD (J 0 O) O<|yT O wR v<|oM O (qZ 1 O wR O O O xJ1 xJ1) λsv6=>om O<|zP O<|G O<|qH O ⟨zB,zB⟩<|G O<|zA ?_
   refine ⟨⟨k+1,sv6⟩,⟨zB,by rw [WW hx hp c2]⟩,(by show e.Args.length-(k+1)<e.Args.length-k;omega),oz [false,true,true,true,true] oH (by show _=[E.vec sv6 _ 5 ((bG (gK p.en (qt p.Sizes vars)) (e.Args.take (k+1))).1.map zl)]++_;rw [WW hx hp c2];simp only [ah];rfl)⟩
 ·have hll:=SY _ _ hp
  have hta:e.Args.take k=e.Args:=yG zB
  rw [hta] at hll
  have hg:∀i,i<e.Args.length->((bG (gK p.en (qt p.Sizes vars)) (e.Args.take k)).1.map zl)[i]? =some (zl (bU (bG (gK p.en (qt p.Sizes vars)) (e.Args.take k)).1 i)):=λi hi=>zIt (by rw [hta];omega)
  have hT:bP (gK p.en (qt p.Sizes vars)) e=(gK p.en (qt p.Sizes vars)) e (bG (gK p.en (qt p.Sizes vars)) (e.Args.take k)).1:=zVt hta hp
  have hlk:(bG (gK p.en (qt p.Sizes vars)) (e.Args.take k)).1.length=e.Args.length:=by rw [hta];exact hll
  refine qL<|zF<|zS<|Y O<|zC O wJ<|zE uB (J 2 O) O<|yR O<|G O<|oL O (λg9_3=>zG O wJ O) O<|oG 43 O (λg9_3=>zH O uB O (J 2 O) O) O<|oG 44 O (λg9_3=>yU O O O) O<|oN O (λh=>(oY h))<|om O<|zK O ?_ ?_<;>intro c3<;>try simp only [sx] at c3
  ·refine Y O<|zC O D9<|zN yD (J 2 O) O<|ow 1 D O<|om O<|zM<|oJ (zY yD O (J 1 O) O) (ox O) ?_
   exact by rw [hT,Y6 c3];rfl
  ·refine Y O<|zC O wJ<|zE uB (J 2 O) O<|yR O<|om O<|qQ O (λc4=>?_) (λc4=>?_)
   ·refine Y O<|yI O v pr<|zN qv (J 3 O) O<|G O<|zC O Ae<|zN yV (J 2 O) O<|yT O oS U<|qK O uB (zXy p vars [e.Lin] hz0 hv uF (λx hx=>by rw [aR.1 hx];omega)) (oy O)<|ow 1 D O<|om O<|zM<|oJ (zY yD O (J 1 O) O) (ox O) ?_
    exact by rw [hT,Y7 c4];rfl
   ·refine Y O<|zC O wJ<|zE uB (J 2 O) O<|yR O<|om O<|qQ O (λc5=>?_) (λc5=>?_)
    ·refine Y O<|zN qv (J 3 O) O<|G O<|zN yX (J 2 O) O<|qK O uB (IU p vars e hP hv he) (oy O)<|kG O<|yF O<|ow 1 D O<|om O<|zM<|oJ (zY yD O (J 1 O) O) (ox O) ?_
     exact by rw [hT,Y8 c5];rfl
    ·refine Y O<|zC O wJ<|zE uB (J 2 O) O<|yR O<|om O<|qQ O (λc6=>?_) (λc6=>?_)
     ·have hlen3:=AK hpart c6
      refine zF<|zF<|yE 7 mixed uB O O<|ou O (zQ O O)<|ou O (qU 0 O wR O O O zB uI)<|ou O (qA O yD O (kP 0 O (hg 1 zB)) O)<|ou O (zQ O O)<|ou O (qU 0 O wR O O O zB uI)<|ou O (qA O yD O (kP 0 O (hg 2 zB)) O)<|ou O (JE O tf O O O)<|yY<|zA<|zK O (λc7=>?_) (λc7=>?_)
      ·refine Y O<|yI O v pr<|ow 1 D O<|om O<|zM<|oJ (zY yD O (J 1 O) O) (ox O) ?_
       exact by rw [hT,Q7 c6 (Z0 c7)];rfl
      ·refine zJ<|oo O O<|zX O (qU 0 O wR O O O zB uI)<|zN yD (kP 0 O (hg 1 zB)) O<|ow 1 D O<|om O<|zM<|oJ (zY yD O (J 1 O) O) (ox O) ?_
       exact by rw [hT,UQ c6 (WY c7)];rfl
     ·refine Y O<|zC O wJ<|zE uB (J 2 O) O<|yR O<|om O<|qQ O (λc8=>?_) (λc8=>?_)
      ·have hlen1:=zWs hpart zB
       refine oo O O<|zX O (qU 0 O wR O O O zB uI)<|zN yD (kP 0 O (hg 0 zB)) O<|ow 1 D O<|om O<|zM<|oJ (zY yD O (J 1 O) O) (ox O) ?_
       exact by rw [hT,Y9 c8];rfl
      ·refine Y O<|zC O wJ<|zE uB (J 2 O) O<|zX O (wN O O O)<|om O<|zK O ?_ ?_<;>intro c9<;>try simp only [sx] at c9
       ·refine Y O<|yI O v pr<|ow 1 D O<|om O<|zM<|oJ (zY yD O (J 1 O) O) (ox O) ?_
        exact by rw [hT,UT c9];rfl
       ·have hlen2:=zDs hpart zB
        refine zJ<|zF<|zF<|yE 7 mixed uB O O<|ou O (zQ O O)<|ou O (qU 0 O wR O O O zB uI)<|ou O (qA O yD O (kP 0 O (hg 0 zB)) O)<|ou O (zQ O O)<|ou O (qU 0 O wR O O O zB uI)<|ou O (qA O yD O (kP 0 O (hg 1 zB)) O)<|ou O (JE O tf O O O)<|yY<|zA<|zK O (λc10=>?_) (λc10=>?_)
        ·refine Y O<|yI O v pr<|ow 1 D O<|om O<|zM<|oJ (zY yD O (J 1 O) O) (ox O) ?_
         exact by rw [hT,UU zB (Z0 c10)];rfl
        ·refine zJ<|zF<|Y O<|zC O wJ<|zE uB (J 2 O) O<|zX O (wN O O O)<|zA<|zK O ?_ ?_<;>intro c11<;>try simp only [sx] at c11
         ·refine Y O<|yI O v pr<|ow 1 D O<|om O<|zM<|oJ (zY yD O (J 1 O) O) (ox O) ?_
          exact by rw [hT,UR zB (WY c10) c11];rfl
         ·refine zJ<|oo O O<|zX O (qU 0 O wR O O O zB uI)<|zN yD (kP 0 O (hg 0 zB)) O<|ow 1 D O<|om O<|zM<|oJ (zY yD O (J 1 O) O) (ox O) ?_
          exact by rw [hT,Za zB (WY c10)];rfl
def IT (p:Pg) (vars:List nq) (e:Ex) (hP:p.Ok) (hv:vars.length<=4294967296) (hpart:fJ e=0) (he:e.wt<=4294967296):oK cfg 198 [rf p,sy vars,vE e] (.tup [rq (bP (gK p.en (qt p.Sizes vars)) e).1,vI (bP (gK p.en (qt p.Sizes vars)) e).2]):=by
  induction e using Ex.ind with
  |_ e ih=>exact zXx p vars hP hv e (λa ha h1 h2=>ih a ha h1 h2) hpart he
def DE (p:Pg) (vars:List nq) (e:Ex) (hP:p.Ok) (hv:vars.length<=4294967296) (he:e.wt<=4294967296):
    oK cfg 150 [rf p,sy vars,vE e] (.tup [rq (nG p.en vars e).1,vI (nG p.en vars e).2]):=by
 refine zW func150 O ntmps150 results150 O λz hz=>Y O<|oi O λb1=>oi O λb2=>oM O (yA O v) λb3=>om O<|zF<|Y O<|zN yX (J 1 O) O<|qK O uB (zOs e zB) (oy O)<|om O<|oo O O<|yL O<|zA<|zK O ?_ ?_<;>intro c1<;>try simp only [sx] at c1
 ·refine Y O<|yI O v pr<|G O<|ow 0 D O<|om O<|zM<|oJ (zY yD O (J 0 O) O) (ox O) ?_
  rw [N1 c1];rfl
 ·refine zJ<|zF<|Y O<|zN yX (J 1 O) O<|qK O uB (kZ e) (oy O)<|zA<|zK O ?_ ?_<;>intro c2<;>try simp only [sx] at c2
  ·refine Y O<|yI O v pr<|ow 0 D O<|om O<|zM<|oJ (zY yD O (J 0 O) O) (ox O) ?_
   rw [Jt c1 c2];rfl
  ·have hTo:=RV (n:=p.en) (vars:=vars) c1 c2
   refine zJ<|Y O<|zN qv (J 2 O) O<|G O<|zN yX (J 1 O) O<|qK O uB (IT p vars e hP hv (VG c1) he) (oy O)<|qW O<|kG O<|yF O<|oM O (yA O v) λb4=>ow 0 D O<|om O<|zF<|oo O O<|yL O<|zA<|zK O ?_ ?_<;>intro c3<;>try simp only [sx] at c3
   ·refine Y O<|yI O v pr<|G O<|ow 1 D O<|om O<|zM<|oJ (zY yD O (J 1 O) O) (ox O) ?_
    rw [hTo,aa (show ¬(bP (gK p.en (qt p.en.sz vars)) e).2=0 from c3)];rfl
   ·refine zJ<|Y O<|zN yD (J 0 O) O<|ow 1 D O<|om O<|zM<|oJ (zY yD O (J 1 O) O) (ox O) ?_
    rw [hTo,ab (show (bP (gK p.en (qt p.en.sz vars)) e).2=0 from c3)];rfl
end Go.W
end
section
set_option maxRecDepth 10000
namespace Go.W
open Go Go.Eng Go.Proofs Go.L41 Go.Br Tryz
attribute [local irreducible] oU oX TD gF
def pl30:fD prog 30=some [(0,1),(1,1),(2,1),(3,1),(4,1)]:=by kernel_rfl
def zSo (l:Lf) (sz:List nq) (hl:l.L.length<=5864062014805) (hz0:sz.length<=4294967296):
    oK cfg 81 [dF l,sy sz] (vI (jE l sz)):=by
 refine zW func81 O ntmps81 results81 O λz hz=>Y O<|oi O λb1=>om O<|zF<|Y O<|zN yV (J 0 O) O<|qK O uB (ZU l zB) (oy O)<|kQ O<|zA<|zK O ?_ ?_<;>intro c1<;>try simp only [sx] at c1
 ·refine ol O O<|zM<|zV O ?_
  rw [TW c1]
 ·refine zJ<|zF<|Y O<|zN yV (J 0 O) O<|G O<|qK O uB (zPk l [] sz hl uF hz0) ⟨zD,O,VLe.nil,O,zD,O,T⟩<|kQ O<|zA<|zK O ?_ ?_<;>intro c2<;>try simp only [sx] at c2
  ·refine ol O O<|zM<|zV O ?_
   rw [TX c1 c2]
  ·refine zJ<|ol O O<|zM<|zV O ?_
   rw [TV c1 c2]
def zNt (s:nq) (t:List nq) (ht:t.length<=4294967296):
    oK cfg 145 [vS s,sy t] (vI (dJ s t)):=by
 refine zW func145 O ntmps145 results145 O λz hz=>ol O O<|zF<|oo O O<|qK O uB (VI s) (oy O)<|kQ O<|zA<|zK O ?_ ?_<;>intro c1<;>try simp only [sx] at c1
 ·refine ol O O<|zM<|zV O ?_
  rw [Uq c1]
 ·refine zJ<|zF<|oo O O<|G O<|qK O uB (VM t s zB) (oy O)<|zA<|zK O ?_ ?_<;>intro c2<;>try simp only [sx] at c2
  ·refine ol O O<|zM<|zV O ?_
   rw [Ur c1 c2]
  ·refine zJ<|ol O O<|zM<|zV O ?_
   rw [Up c1 (by simpa using c2)]
def Ga (x:Pm) (sz t:List nq) (hl0:x.Dims.length<=4294967296) (hx0:∀l,l∈x.Dims->l.L.length<=5864062014805) (hz0:sz.length<=4294967296) (ht:t.length<=4294967296):
    oK cfg 82 [vPm x,sy sz,sy t] (vI (jO x sz t)):=by
 refine zW func82 O ntmps82 results82 O λz hz=>Y O<|oi O λb1=>om O<|zF<|Y O<|zC O OE<|zE uB (J 0 O) O<|G O<|qK O uB (zNt x.Name t ht) (oy O)<|om O<|oo O O<|yL O<|zA<|zK O ?_ ?_<;>intro c1<;>try simp only [sx] at c1
 ·refine oo O O<|om O<|zM<|zV O ?_
  rw [QU c1]
 ·refine zJ<|zF<|Y O<|zC O zZn<|zN yD (J 0 O) O<|qK O uB (zIr x.T) (oy O)<|kQ O<|zA<|zK O ?_ ?_<;>intro c2<;>try simp only [sx] at c2
  ·refine ol O O<|zM<|zV O ?_
   rw [Ni c1 c2]
  ·refine zJ<|zF<|Y O<|zC O VU<|zE uB (J 0 O) O<|qC O oS<|sf O<|zA<|zK O ?_ ?_<;>intro c3<;>try simp only [sx] at c3
   ·refine ol O O<|zM<|zV O ?_
    rw [Nj c1 c2 zB]
   ·refine zJ<|zF<|ol O O<|zS<|zT ⟨[(8,.c _),(1,.c _),(3,.c _)],[_]⟩ (oz [true] oH O)<|qG 1 0 O O (Nat) (λk=>[(8,vI k)]) (λk=>[]) (λk=>k<=x.Dims.length/\(nF sz x.Dims=nF sz (x.Dims.drop k))) (λk=>x.Dims.length-k) ⟨0,⟨zB,O⟩,oz [true] oH O⟩ ?_
    rintro k ⟨hk,hp⟩
    refine zF<|oo O O<|zC O VU<|zE uB (J 0 O) O<|qC O oS<|yC O<|zA<|zK O ?_ ?_<;>intro c4<;>try simp only [sx] at c4
    ·obtain ⟨y,hy⟩:=qX x.Dims k zB
     refine zJ<|zF<|zS<|Y O<|zC O VU<|zE uB (J 0 O) O<|G O<|qF O oS zB (oI uC)<|zN yV qE O<|G O<|qK O uB (zSo y sz (hx0 y (qD hy)) hz0) (oy O)<|om O<|oo O O<|yL O<|zA<|zK O ?_ ?_<;>intro c5<;>try simp only [sx] at c5
     ·refine oo O O<|om O<|zM<|zV O ?_
      rw [FT c1 c2 zB,hp,Mo hy c5]
     ·refine zJ<|zP O<|G O<|qH O ⟨zB,zB⟩<|G O<|zA ?_
      refine ⟨k+1,⟨zB,hp.trans (E2 hy c5)⟩,zB,oz [true] oH O⟩
    ·refine qL<|ol O O<|zM<|zV O ?_
     rw [FT c1 c2 zB,hp,z6 zB];rfl
def IS (l:List Ax) (sz:List nq) (hl0:l.length<=2147483648) (hx0:∀a,a∈l->a.Size.L.length<=5864062014805) (hz0:sz.length<=4194304):
    oK cfg 148 [.c (.sl 3 (l.map Ax.cells)),sy sz] (vI (jU sz sz l)):=by
 refine zW func148 O ntmps148 results148 O λz hz=>ol O O<|Y O<|oM O (LS O oR Hf O O O O) λsv1=>G O<|oM O (qZ 0 O oR O O O uH uH) λsv2=>om O<|zF<|ol O O<|zS<|zT ⟨[(6,.c _),(5,.c _),(0,.c _),(1,.c _)],[_]⟩ (oz [true] oH O)<|qG 2 1 O O (Nat×Value) (λ⟨k,sv⟩=>[(6,vI k),(5,.c (.lit sv))]) (λ⟨k,sv⟩=>[E.vec sv 9 1 ((sz++(l.take k).map Ax.Name).map λs=>[cS s])]) (λ⟨k,sv⟩=>k<=l.length/\(jU sz sz l=jU sz (sz++(l.take k).map Ax.Name) (l.drop k))) (λ⟨k,sv⟩=>l.length-k) ⟨⟨0,_⟩,⟨zB,uF⟩,oz [true] oH (by show _=[E.vec _ _ 1 ((sz++[]).map λs=>[cS s])]++_;rw [rk sz];rfl)⟩ ?_
 rintro ⟨k,sv⟩ ⟨hk,hp⟩
 show oU _ _ _ _ _ ⟨[(6,vI k),(5,.c (.lit sv))]++_,[E.vec sv 9 1 ((sz++(l.take k).map Ax.Name).map λs=>[cS s])]++_⟩
 refine zF<|oo O O<|G O<|qC O pg<|yC O<|zA<|zK O ?_ ?_<;>intro c1<;>try simp only [sx] at c1
 ·obtain ⟨x,hx⟩:=qX l k zB
  refine zJ<|zF<|zS<|zF<|oo O O<|G O<|qF O pg zB (oI uC)<|qS O L1<|zE uB qE O<|G O<|zX O (ZT 0 O uB O (zNt x.Name (sz++(l.take k).map Ax.Name) uH) O ⟨.inr ⟨zD,O⟩,.inl ⟨O,O⟩,T⟩)<|om O<|oo O O<|yL O<|zA<|zK O ?_ ?_<;>intro c2<;>try simp only [sx] at c2
  ·refine oo O O<|om O<|zM<|zV O ?_
   rw [hp,Tk hx c2]
  ·refine zJ<|zF<|oo O O<|G O<|qF O pg zB (oI uC)<|qS O zZm<|zN yV qE O<|G O<|qK O uB (zSo x.Size sz (hx0 x (qD hx)) zB) (oy O)<|om O<|oo O O<|yL O<|zA<|zK O ?_ ?_<;>intro c3<;>try simp only [sx] at c3
   ·refine oo O O<|om O<|zM<|zV O ?_
    rw [hp,Tj hx c2 c3]
   ·refine zJ<|zP O<|G O<|G O<|G O<|qF O pg zB (oI uC)<|qS O L1<|zE uB qE O<|yT O oR Hf<|oM O (qZ 0 O oR O O O uH uH) λsv3=>om O<|zP O<|G O<|qH O ⟨zB,zB⟩<|G O<|zA ?_
    refine ⟨⟨k+1,sv3⟩,⟨zB,by rw [hp,Hv hx c2 c3,yB hx,ah,<-tu];rfl⟩,(by show l.length-(k+1)<l.length-k;omega),oz [true] oH (by show _=[E.vec sv3 _ 1 ((sz++(l.take (k+1)).map Ax.Name).map λs=>[cS s])]++_;rw [yB hx,ah (f:=Ax.Name),<-tu,ah (f:=λs=>[cS s]) (l₁:=sz++(l.take k).map Ax.Name)];rfl)⟩
 ·refine qL<|ol O O<|zM<|zV O ?_
  rw [hp,z6 zB];rfl
def zXw (d:Df):
    oK cfg 149 [SP d] (vI (pJ d)):=by
 refine zW func149 O ntmps149 results149 O λz hz=>Y O<|oi O λb1=>om O<|zF<|Y O<|zC O L2<|zE uB (J 0 O) O<|yC O<|G O<|oL O (λg1_3=>zG O L2 O) O<|oG 8 O (λg1_3=>zH O uB O (J 0 O) O) O<|oG 9 O (λg1_3=>kE O O O) O<|oN O (λh=>(oY h))<|zA<|zK O (λc1=>?_) (λc1=>?_)
 ·have h1:=(red1 d).1 c1
  refine ol O O<|zM<|zV O ?_
  rw [pJ,ab h1]
 ·have h1:=(red1 d).2 c1
  refine zJ<|Y O<|zC O L2<|zE uB (J 0 O) O<|yR O<|G O<|oL O (λg3_3=>zG O L2 O) O<|oG 16 O (λg3_3=>zH O uB O (J 0 O) O) O<|oG 17 O (λg3_3=>yU O O O) O<|oN O (λh=>(oY h))<|om O<|zF<|oo O O<|zC O Ce<|zE uB (J 0 O) O<|qC O pg<|yR O<|zX O (zKz O WJ O O)<|G O<|oL O (λg4_6=>zG O L2 O) O<|oG 27 O (λg4_6=>zH O uB O (J 0 O) O) O<|oG 28 O (λg4_6=>yU O O O) O<|oG 29 O (λg4_6=>zQ O O) O<|oV [] O oW T (λg4_10=>zG O D8 O) O<|oV [(31,_)] O oW ⟨O,O,T⟩ (λg4_10=>zH O uB O (J 0 O) O) O<|oV [(32,_)] O oW ⟨O,O,T⟩ (λg4_10=>yH O pg O) O<|oV [(33,_)] O oW ⟨O,O,T⟩ (λg4_10=>yU O O O) O<|oG 30 O (λg4_6=>wX O O O (λh=>kO uC h) O) O<|oN O (λh=>(oY h))<|zA<|zK O (λc2=>?_) (λc2=>?_)
  ·refine ol O O<|zM<|zV O ?_
   rw [pJ,aa h1,ab (red2 c2)]
  ·refine zJ<|ol O O<|zM<|zV O ?_
   rw [pJ,aa h1,aa (red3 c2)]
def Nt (p:Pg) (hP:p.Ok) (hz0:p.Sizes.length<=64) (k:Nat) (d:Df) (hd:p.Defs[k]? =some d) (t:List nq) (ht:t.length<=4294967296):
    oK cfg 83 [rf p,vI k,sy t] (vI (nM ⟨p.Sizes,p.Params,p.Defs.take k⟩ d t)):=by
 refine zW func83 O ntmps83 results83 O ?_
 intro z hz
 obtain ⟨hD,hR,hA,hA2,hB⟩:=hP.ds d (qD hd)
 have hlen:=zTm hd
 have hpd:=hP.defs
 have hDR:(d.Dims++d.Red).length=d.Dims.length+d.Red.length:=qp
 have hAx:∀a,a∈d.Dims++d.Red->a.Size.L.length<=5864062014805:=λa ha=>by rcases aq.1 ha with h|h;exact hA a h;exact hA2 a h
 have hrows:[]++d.Dims.map Ax.cells++d.Red.map Ax.cells=(d.Dims++d.Red).map Ax.cells:=by simp
 have hax:oK cfg 148 [.c (.sl 3 ([]++d.Dims.map Ax.cells++d.Red.map Ax.cells)),sy p.Sizes] (vI (jU p.Sizes p.Sizes (d.Dims++d.Red))):=by rw [hrows];exact IS (d.Dims++d.Red) p.Sizes zB hAx zB
 have hP2:(⟨p.Sizes,[],p.Params,p.Defs.take k,[]⟩:Pg).Ok:=⟨hP.sizes,uF,hP.params,(hP.take k).defs,uF,λc hc=>(by cases hc),hP.ps,(hP.take k).ds⟩
 refine Y O<|oi O λb1=>om O<|Y O<|zC O ry<|zE uB (J 0 O) O<|G O<|qF O pt zB (oI uC)<|zN Ec qE O<|oM O (qJ oa O Ot O) λb2=>ow 0 Vi O<|zA<|zF<|Y O<|zC O ub<|zE uB (J 0 O) O<|G O<|qK O uB (zNt d.Name t ht) (oy O)<|om O<|oo O O<|yL O<|zA<|zK O ?_ ?_<;>intro c1<;>try simp only [sx] at c1
 ·refine oo O O<|om O<|zM<|zV O ?_
  rw [wa c1]
 ·refine zJ<|zF<|Y O<|zC O On<|zN yD (J 0 O) O<|qK O uB (zIr d.T) (oy O)<|kQ O<|zA<|zK O ?_ ?_<;>intro c2<;>try simp only [sx] at c2
  ·refine ol O O<|zM<|zV O ?_
   rw [uy c1 c2]
  ·refine zJ<|zF<|Y O<|zC O D8<|zE uB (J 0 O) O<|qC O pg<|sf O<|G O<|oL O (λg7_4=>zG O Ce O) O<|oG 34 O (λg7_4=>zH O uB O (J 0 O) O) O<|oG 35 O (λg7_4=>yH O pg O) O<|oG 36 O (λg7_4=>kE O O O) O<|oN O (λh=>(oY h))<|zA<|zK O ?_ ?_<;>intro c3<;>try simp only [sx] at c3
   ·refine ol O O<|zM<|zV O ?_
    rw [uz c1 c2 zB]
   ·have hX:=Cw (n:=⟨p.Sizes,p.Params,p.Defs.take k⟩) c1 c2 zB
    refine zJ<|zF<|zF<|yN 9 1 [⟨1,.q []⟩,⟨2,.q [1]⟩,⟨4,.q []⟩,⟨5,.q [1]⟩,⟨7,.q []⟩,⟨8,.q [2]⟩,⟨0,.e 0 []⟩,⟨3,.e 0 []⟩,⟨6,.e 0 []⟩] mixed uB uB O O O<|zR O<|zR O<|zR O<|zR O<|zR O<|zR O<|zR O<|zR O<|zR O<|wG<|ot O (zG O D8 O)<|ot O (zH O uB O (J 0 O) O)<|ot O (zG O Ce O)<|ot O (zH O uB O (J 0 O) O)<|ot O (zG O ve O)<|ot O (zH O uB O (J 0 O) O)<|sk O O uA O O (LS O pg Hg O O O O) ?_
    rintro _ _ ⟨sv3,rfl,rfl⟩
    refine ⟨_,O,?_⟩
    refine sk O O uA O O (qZ 0 O pg O O O uH uH) ?_
    rintro _ _ ⟨sv4,rfl,rfl⟩
    refine ⟨_,O,?_⟩
    refine sk O O uA O O (qZ 0 O pg O O O uH uH) ?_
    rintro _ _ ⟨sv5,rfl,rfl⟩
    refine ⟨_,O,?_⟩
    refine wE O<|zX O (ZT 0 O uB O hax O ⟨.inl ⟨O,O⟩,.inr ⟨zD,O⟩,T⟩)<|om O<|oo O O<|yL O<|zA<|zK O ?_ ?_<;>intro c4<;>try simp only [sx] at c4
    ·refine oo O O<|om O<|zM<|zV O ?_
     rw [hX,aa c4]
    ·rw [ab c4] at hX
     refine zJ<|zF<|Y O<|zN Ec (J 1 O) O<|qK O uB (zXw d) (oy O)<|om O<|oo O O<|yL O<|zA<|zK O ?_ ?_<;>intro c5<;>try simp only [sx] at c5
     ·refine oo O O<|om O<|zM<|zV O ?_
      rw [hX,aa c5]
     ·rw [ab c5] at hX
      unfold rU at hX
      refine zJ<|zF<|yN 19 1 [⟨0,.q []⟩,⟨1,.q [3]⟩,⟨2,.q []⟩,⟨3,.q [3]⟩,⟨4,.q []⟩,⟨5,.q [3]⟩,⟨6,.q []⟩,⟨7,.q []⟩,⟨8,.q []⟩,⟨9,.q [2]⟩,⟨10,.q []⟩,⟨11,.q []⟩,⟨12,.q [2]⟩,⟨13,.q []⟩,⟨14,.q []⟩,⟨15,.q []⟩,⟨16,.q []⟩,⟨17,.e 0 []⟩,⟨18,.e 0 []⟩] mixed uB uB O O O<|zR O<|zR O<|zR O<|zR O<|zR O<|zR O<|zR O<|zR O<|zR O<|zR O<|zR O<|zR O<|zR O<|zR O<|zR O<|zR O<|zR O<|zR O<|zR O<|wG<|ot O (zG O ve O)<|ot O (zH O uB O (J 0 O) O)<|ot O (zG O uc O)<|ot O (zH O uB O (J 0 O) O)<|ot O (zG O ry O)<|ot O (zH O uB O (J 0 O) O)<|ot O (zQ O O)<|ot O (ZZ O pt O O zB)<|ot O (LT [none,some 3,none,none,some 1] O VZ pl30 O O)<|ot O (qA O Ec O (J 0 O) O)<|ot O (qP O uB (OwnR.pur (zHb d hD hR)) (oy O))<|ot O (zG O ww O)<|ot O (qA O yX O (J 0 O) O)<|ot O (qP O uB (DE (⟨p.Sizes,[],p.Params,p.Defs.take k,[]⟩:Pg) (bD d) d.Body hP2 (by rw [bD,qp,pc,pc];omega) hB) (oy O))<|ot O (yS O O)<|ot O (kK O O O)<|ot O (kI O O O)<|sk O O uA O O (yA O v) ?_
      rintro _ _ ⟨b6,rfl,rfl⟩
      refine ⟨_,O,?_⟩
      refine uh O O uA O O (yP O D O O O (tc 0 O O)) ?_
      rintro _ _ ⟨rfl,rfl⟩
      refine ⟨_,O,?_⟩
      refine wE O<|om O<|zF<|oo O O<|yL O<|zA<|zK O ?_ ?_<;>intro c6<;>try simp only [sx] at c6
      ·refine oo O O<|om O<|zM<|zV O ?_
       rw [hX,aa (show ¬(nG (⟨p.Sizes,p.Params,p.Defs.take k⟩:En) (bD d) d.Body).2=0 from c6)];rfl
      ·rw [ab (show (nG (⟨p.Sizes,p.Params,p.Defs.take k⟩:En) (bD d) d.Body).2=0 from c6)] at hX
       refine zJ<|zF<|Y O<|zN yD (J 0 O) O<|zC O On<|zN yD (J 2 O) O<|zX O (JE O tf O O O)<|zA<|zK O (λc7=>?_) (λc7=>?_)
       ·refine ol O O<|zM<|zV O ?_
        rw [hX,aa (show ¬(nG (⟨p.Sizes,p.Params,p.Defs.take k⟩:En) (bD d) d.Body).1=d.T from Z0 c7)]
       ·refine zJ<|ol O O<|zM<|zV O ?_
        rw [hX,ab (show (nG (⟨p.Sizes,p.Params,p.Defs.take k⟩:En) (bD d) d.Body).1=d.T from WY c7)]
def Gb (p:Pg) (hP:p.Ok):
    oK cfg 80 [rf p] (vI (lY p)):=by
 refine zW func80 O ntmps80 results80 O ?_
 intro z hz
 have hpz:=hP.sizes
 refine Y O<|oi O λb1=>om O<|zF<|Y O<|zC O ve<|zE uB (J 0 O) O<|qC O oR<|sf O<|G O<|oL O (λg1_4=>zG O uc O) O<|oG 10 O (λg1_4=>zH O uB O (J 0 O) O) O<|oG 11 O (λg1_4=>yH O qg O) O<|oG 12 O (λg1_4=>kE O O O) O<|oN O (λh=>(oY h))<|G O<|oL O (λg1_10=>zG O ry O) O<|oG 16 O (λg1_10=>zH O uB O (J 0 O) O) O<|oG 17 O (λg1_10=>yH O pt O) O<|oG 18 O (λg1_10=>kE O O O) O<|oN O (λh=>(oY h))<|G O<|oL O (λg1_16=>zG O Oo O) O<|oG 22 O (λg1_16=>zH O uB O (J 0 O) O) O<|oG 23 O (λg1_16=>yH O oR O) O<|oG 24 O (λg1_16=>kE O O O) O<|oN O (λh=>(oY h))<|G O<|oL O (λg1_22=>zG O VW O) O<|oG 28 O (λg1_22=>zH O uB O (J 0 O) O) O<|oG 29 O (λg1_22=>yH O wl O) O<|oG 30 O (λg1_22=>kE O O O) O<|oN O (λh=>(oY h))<|zA<|zK O (λc1=>?_) (λc1=>?_)
 ·have hl:¬dP p:=Yx c1
  refine ol O O<|zM<|zV O ?_
  rw [lY,aa hl]
 ·have hl:dP p:=T8 c1
  have hz:lY p=jG [] p.Sizes:=by unfold lY;rw [ab hl]
  refine zJ<|zF<|ol O O<|zS<|zT ⟨[(3,.c _),(1,.c _)],[_]⟩ (oz [true] oH O)<|qG 1 0 O O (Nat) (λk=>[(3,vI k)]) (λk=>[]) (λk=>k<=p.Sizes.length/\(jG [] p.Sizes=jG (p.Sizes.take k) (p.Sizes.drop k))) (λk=>p.Sizes.length-k) ⟨0,⟨zB,O⟩,oz [true] oH O⟩ ?_
  rintro k ⟨hk,hp⟩
  refine zF<|oo O O<|zC O ve<|zE uB (J 0 O) O<|qC O oR<|yC O<|zA<|zK O ?_ ?_<;>intro c2<;>try simp only [sx] at c2
  ·obtain ⟨x,hx⟩:=qX p.Sizes k zB
   refine zJ<|zF<|zS<|zF<|yE 11 mixed uB O O<|ou O (zG O ve O)<|ou O (zH O uB O (J 0 O) O)<|ou O (zQ O O)<|ou O (qI O oR O O zB (oI uC))<|ou O (zH O uB O qE O)<|ou O (zG O ve O)<|ou O (zH O uB O (J 0 O) O)<|ou O (zQ O O)<|ou O (ZZ O oR O O zB)<|ou O (qP O uB (zNt x (p.Sizes.take k) (by rw [ap];omega)) (oy O))<|ou O (yK O O)<|yY<|zA<|oo O O<|yL O<|zA<|zK O ?_ ?_<;>intro c3<;>try simp only [sx] at c3
   ·refine oo O O<|om O<|zM<|zV O ?_
    rw [hz,hp,NO hx c3]
   ·refine zJ<|zP O<|G O<|qH O ⟨zB,zB⟩<|G O<|zA ?_
    refine ⟨k+1,⟨zB,hp.trans (Gy hx c3)⟩,zB,oz [true] oH O⟩
  ·refine qL<|ol O O<|zM<|zV O ?_
   rw [hz,hp,z6 zB];rfl
def zJg (p:Pg) (hP:p.Ok):
    oK cfg 34 [rf p] (.tup [vI (lM p).1,vI (lM p).2]):=by
 refine zW func34 O ntmps34 results34 O ?_
 intro z hz
 have hps:=hP.sizes
 have hpw:=hP.wh
 have hpp:=hP.params
 have hpd:=hP.defs
 have hpo:=hP.outs
 refine Y O<|oi O λb1=>G O<|om O<|zF<|Y O<|zN qv (J 0 O) O<|qK O uB (Gb p hP) (oy O)<|om O<|oo O O<|yL O<|zA<|zK O ?_ ?_<;>intro c1<;>try simp only [sx] at c1
 ·refine oo O O<|G O<|om O<|zM<|oJ (ox O) (ox O) ?_
  rw [R3 c1]
 ·have hlm:dP p:=(zSj c1).1
  have hlp:p.Params.length<=64:=hlm.2.1
  have hld:p.Defs.length<=64:=hlm.2.2.1
  have hlz:p.Sizes.length<=64:=hlm.1
  refine zJ<|zF<|ol O O<|zS<|zT ⟨[(5,.c _),(1,.c _)],[_]⟩ (oz [true] oH O)<|qG 1 0 O O (Nat) (λk=>[(5,vI k)]) (λk=>[]) (λk=>k<=p.Where.length/\(jV p.Sizes p.Where=jV p.Sizes (p.Where.drop k))) (λk=>p.Where.length-k) ⟨0,⟨zB,O⟩,oz [true] oH O⟩ ?_
  rintro k ⟨hk,hp⟩
  refine zF<|oo O O<|zC O VW<|zE uB (J 0 O) O<|qC O wl<|yC O<|zA<|zK O ?_ ?_<;>intro c2<;>try simp only [sx] at c2
  ·obtain ⟨x,hx⟩:=qX p.Where k zB
   refine zJ<|zF<|zS<|zF<|yE 10 mixed uB O O<|ou O (zG O VW O)<|ou O (zH O uB O (J 0 O) O)<|ou O (zQ O O)<|ou O (qI O wl O O zB (oI uC))<|ou O (qO O zZq O)<|ou O (qA O yV O qE O)<|ou O (zG O ve O)<|ou O (zH O uB O (J 0 O) O)<|ou O (qP O uB (zSo x.Lin p.Sizes (hP.whs x (qD hx)) zB) (oy O))<|ou O (yK O O)<|yY<|zA<|oo O O<|yL O<|zA<|zK O ?_ ?_<;>intro c3<;>try simp only [sx] at c3
   ·refine oo O O<|G O<|om O<|zM<|oJ (ox O) (ox O) ?_
    rw [R4 c1 (by rw [hp,B9 hx c3];exact c3),hp,B9 hx c3]
   ·refine zJ<|zP O<|G O<|qH O ⟨zB,zB⟩<|G O<|zA ?_
    refine ⟨k+1,⟨zB,hp.trans (G4 hx c3)⟩,zB,oz [true] oH O⟩
  ·rw [z6 (l:=p.Where) (k:=k) zB] at hp
   have hV:=R2 c1 hp
   refine qL<|Y O<|oM O (LS O oR Hf O O O O) λsv2=>zC O ve<|zE uB (J 1 O) O<|oM O (qZ 0 O oR O O O uH uH) λsv3=>om O<|ol O O<|zF<|ol O O<|zS<|zT ⟨[(9,.c _),(7,.c _),(8,.c _),(1,.c _)],[_,_]⟩ (oz [true,true] oH O)<|qG 3 1 O O (Nat×Value) (λ⟨k,sv⟩=>[(9,vI k),(7,.c (.lit sv)),(8,vI (2+(k:Int)))]) (λ⟨k,sv⟩=>[E.vec sv 9 1 ((p.Sizes++(p.Params.take k).map Pm.Name).map λs=>[cS s])]) (λ⟨k,sv⟩=>k<=p.Params.length/\(lM p=gA p (2+(k:Int)) (p.Sizes++(p.Params.take k).map Pm.Name) (p.Params.drop k))) (λ⟨k,sv⟩=>p.Params.length-k) ⟨⟨0,_⟩,⟨zB,by rw [hV];simp⟩,oz [true,true] oH (by show _=[E.vec _ _ 1 ((p.Sizes++[]).map λs=>[cS s])]++_;rw [rk p.Sizes];rfl)⟩ ?_
   rintro ⟨k,sv⟩ ⟨hk,hp⟩
   show oU _ _ _ _ _ ⟨[(9,vI k),(7,.c (.lit sv)),(8,vI (2+(k:Int)))]++_,[E.vec sv 9 1 ((p.Sizes++(p.Params.take k).map Pm.Name).map λs=>[cS s])]++_⟩
   refine zF<|oo O O<|zC O uc<|zE uB (J 1 O) O<|qC O qg<|yC O<|zA<|zK O ?_ ?_<;>intro c4<;>try simp only [sx] at c4
   ·obtain ⟨x,hx⟩:=qX p.Params k zB
    refine zJ<|zF<|zS<|zF<|zF<|yE 8 mixed uB O O<|ou O (zG O uc O)<|ou O (zH O uB O (J 1 O) O)<|ou O (zQ O O)<|ou O (qI O qg O O zB (oI uC))<|ou O (qA O AI O qE O)<|ou O (zG O ve O)<|ou O (zH O uB O (J 1 O) O)<|ou O (zQ O O)<|yY<|zX O (ZT 0 O uB O (Ga x p.Sizes (p.Sizes++(p.Params.take k).map Pm.Name) (hP.ps x (qD hx)).1 (hP.ps x (qD hx)).2 zB uH) O ⟨.inr ⟨zD,O⟩,.inr ⟨zD,O⟩,.inl ⟨O,O⟩,T⟩)<|om O<|oo O O<|yL O<|zA<|zK O ?_ ?_<;>intro c5<;>try simp only [sx] at c5
    ·refine oo O O<|G O<|G O<|om O<|zM<|oJ (ox O) (ox O) ?_
     rw [hp,IG hx c5]
    ·refine zJ<|oo O O<|zC O uc<|zE uB (J 1 O) O<|G O<|qF O qg zB (oI uC)<|qS O OE<|zE uB qE O<|yT O oR Hf<|oM O (qZ 0 O oR O O O uH uH) λsv4=>om O<|zP O<|G O<|qH O ⟨zB,zB⟩<|om O<|zP O<|G O<|qH O ⟨zB,zB⟩<|G O<|zA ?_
     refine ⟨⟨k+1,sv4⟩,⟨zB,by rw [hp,Dy hx c5,yB hx,ah,<-tu];congr 1<;>first|omega|rfl⟩,(by show p.Params.length-(k+1)<p.Params.length-k;omega),oz [true,true] ⟨zD,zD,VLe.of_eq (ai vI zB),zD,T⟩ (by show _=[E.vec sv4 _ 1 ((p.Sizes++(p.Params.take (k+1)).map Pm.Name).map λs=>[cS s])]++_;rw [yB hx,ah (f:=Pm.Name),<-tu,ah (f:=λs=>[cS s]) (l₁:=p.Sizes++(p.Params.take k).map Pm.Name)];rfl)⟩
   ·rw [yG (l:=p.Params) (k:=k) zB]
    rw [z6 (l:=p.Params) (k:=k) zB,yG (l:=p.Params) (k:=k) zB,gA] at hp
    refine qL<|zF<|ol O O<|zS<|zT ⟨[(11,.c _),(7,.c _),(8,.c _),(1,.c _)],[_,_]⟩ (oz [true,true] oH O) ?_
    refine qG 3 1 O O (Nat×Value) (λ⟨k,sv⟩=>[(11,vI k),(7,.c (.lit sv)),(8,vI (2+(p.Params.length:Int)+(k:Int)))]) (λ⟨k,sv⟩=>[E.vec sv 9 1 ((p.Sizes++p.Params.map Pm.Name++(p.Defs.take k).map Df.Name).map λs=>[cS s])]) (λ⟨k,sv⟩=>k<=p.Defs.length/\(lM p=nJ p (2+(p.Params.length:Int)+(k:Int)) (p.Sizes++p.Params.map Pm.Name++(p.Defs.take k).map Df.Name) (p.Defs.take k) (p.Defs.drop k))) (λ⟨k,sv⟩=>p.Defs.length-k) ⟨⟨0,sv⟩,⟨zB,by rw [hp];simp only [aS,bt,rk,aQ];congr 1<;>omega⟩,oz [true,true] ⟨zD,zD,VLe.of_eq (ai vI zB),zD,T⟩ (by show _=[E.vec _ _ 1 ((p.Sizes++p.Params.map Pm.Name++[]).map λs=>[cS s])]++_;rw [rk (p.Sizes++p.Params.map Pm.Name)];rfl)⟩ ?_
    rintro ⟨k,sv⟩ ⟨hk,hq⟩
    show oU _ _ _ _ _ ⟨[(11,vI k),(7,.c (.lit sv)),(8,vI (2+(p.Params.length:Int)+(k:Int)))]++_,[E.vec sv 9 1 ((p.Sizes++p.Params.map Pm.Name++(p.Defs.take k).map Df.Name).map λs=>[cS s])]++_⟩
    refine zF<|oo O O<|zC O ry<|zE uB (J 1 O) O<|qC O pt<|yC O<|zA<|zK O ?_ ?_<;>intro c6<;>try simp only [sx] at c6
    ·obtain ⟨x,hx⟩:=qX p.Defs k zB
     refine zJ<|zF<|zS<|zF<|Y O<|zN qv (J 1 O) O<|G O<|G O<|zX O (ZT 0 O uB O (Nt p hP hlm.1 k x hx (p.Sizes++p.Params.map Pm.Name++(p.Defs.take k).map Df.Name) uH) O ⟨.inr ⟨zD,O⟩,.inr ⟨zD,O⟩,.inl ⟨O,O⟩,T⟩)<|om O<|oo O O<|yL O<|zA<|zK O ?_ ?_<;>intro c7<;>try simp only [sx] at c7
     ·refine oo O O<|G O<|G O<|om O<|zM<|oJ (ox O) (ox O) ?_
      rw [hq,Pa hx c7]
     ·refine zJ<|oo O O<|zC O ry<|zE uB (J 1 O) O<|G O<|qF O pt zB (oI uC)<|qS O ub<|zE uB qE O<|yT O oR Hf<|oM O (qZ 0 O oR O O O uH uH) λsv5=>om O<|zP O<|G O<|qH O ⟨zB,zB⟩<|om O<|zP O<|G O<|qH O ⟨zB,zB⟩<|G O<|zA ?_
      refine ⟨⟨k+1,sv5⟩,⟨zB,by rw [hq,HI hx c7,yB hx,ah,<-tu];congr 1<;>first|omega|rfl⟩,(by show p.Defs.length-(k+1)<p.Defs.length-k;omega),oz [true,true] ⟨zD,zD,VLe.of_eq (ai vI zB),zD,T⟩ (by show _=[E.vec sv5 _ 1 ((p.Sizes++p.Params.map Pm.Name++(p.Defs.take (k+1)).map Df.Name).map λs=>[cS s])]++_;rw [yB hx,ah (f:=Df.Name),<-tu,ah (f:=λs=>[cS s]) (l₁:=p.Sizes++p.Params.map Pm.Name++(p.Defs.take k).map Df.Name)];rfl)⟩
    ·rw [z6 (l:=p.Defs) (k:=k) zB,yG (l:=p.Defs) (k:=k) zB,nJ] at hq
     refine qL<|zF<|ol O O<|zS<|zT ⟨[(13,.c _),(8,.c _),(1,.c _)],[_]⟩ (oz [false,true] oH O) ?_
     refine qG 2 0 O O (Nat) (λk=>[(13,vI k),(8,vI (2+(p.Params.length:Int)+(p.Defs.length:Int)+(k:Int)))]) (λk=>[]) (λk=>k<=p.Outs.length/\(lM p=pU p.en (2+(p.Params.length:Int)+(p.Defs.length:Int)+(k:Int)) (p.Outs.take k) (p.Outs.drop k))) (λk=>p.Outs.length-k) ⟨0,⟨zB,by rw [hq];congr 1;omega⟩,oz [true] ⟨zD,VLe.of_eq (ai vI zB),zD,T⟩ O⟩ ?_
     rintro k ⟨hk,ho⟩
     refine zF<|oo O O<|zC O Oo<|zE uB (J 0 O) O<|qC O oR<|yC O<|zA<|zK O ?_ ?_<;>intro c8<;>try simp only [sx] at c8
     ·obtain ⟨x,hx⟩:=qX p.Outs k zB
      refine zJ<|zF<|zS<|zF<|zF<|yN 14 1 [⟨0,.q [1]⟩,⟨1,.q []⟩,⟨2,.q [1]⟩,⟨3,.q []⟩,⟨4,.q []⟩,⟨5,.q []⟩,⟨6,.q []⟩,⟨7,.q []⟩,⟨8,.q []⟩,⟨9,.q []⟩,⟨10,.q []⟩,⟨11,.e 0 []⟩,⟨12,.e 0 []⟩,⟨13,.q []⟩] mixed uB uB O O O<|zR O<|zR O<|zR O<|zR O<|zR O<|zR O<|zR O<|zR O<|zR O<|zR O<|zR O<|zR O<|zR O<|zR O<|wG<|ot O (qA O qv O (J 0 O) O)<|ot O (zG O Oo O)<|ot O (zH O uB O (J 0 O) O)<|ot O (zQ O O)<|ot O (qI O oR O O zB (oI uC))<|ot O (zH O uB O qE O)<|ot O (qP O uB (zSp p x hP) (oy O))<|ot O (yS O O)<|ot O (kK O O O)<|ot O (kI O O O)<|ot O (kI O O O)<|sk O O uA O O (yA O v) ?_
      rintro _ _ ⟨b6,rfl,rfl⟩
      refine ⟨_,O,?_⟩
      refine uh O O uA O O (yP O D O O O (tc 0 O O)) ?_
      rintro _ _ ⟨rfl,rfl⟩
      refine ⟨_,O,?_⟩
      refine ot O (yK O O)<|wE O<|om O<|oo O O<|kQ O<|zA<|zK O ?_ ?_<;>intro c9<;>try simp only [sx] at c9
      ·refine oo O O<|G O<|om O<|zM<|oJ (ox O) (ox O) ?_
       rw [ho,UJ hx c9]
      ·refine zJ<|zF<|zF<|yE 10 mixed uB O O<|ou O (zG O Oo O)<|ou O (zH O uB O (J 1 O) O)<|ou O (zQ O O)<|ou O (ZZ O oR O O zB)<|ou O (zG O Oo O)<|ou O (zH O uB O (J 1 O) O)<|ou O (zQ O O)<|ou O (qI O oR O O zB (oI uC))<|ou O (zH O uB O qE O)<|ou O (qP O uB (VM (p.Outs.take k) x (by rw [ap];omega)) (oy O))<|yY<|zA<|zK O ?_ ?_<;>intro c10<;>try simp only [sx] at c10
       ·refine oo O O<|G O<|om O<|zM<|oJ (ox O) (ox O) ?_
        rw [ho,UI hx c9 c10]
       ·refine zJ<|zP O<|G O<|qH O ⟨zB,zB⟩<|om O<|zP O<|G O<|qH O ⟨zB,zB⟩<|G O<|zA ?_
        refine ⟨k+1,⟨zB,by rw [ho,IE hx c9 (by simpa using c10)];congr 1<;>omega⟩,zB,oz [false,true] ⟨zD,VLe.of_eq (ai vI zB),zD,T⟩ O⟩
     ·refine qL<|oo O O<|om O<|zM<|oJ (ox O) (ox O) ?_
      rw [ho,z6 zB];rfl
end Go.W
end
section
set_option maxRecDepth 10000
namespace Go.W
open Go Go.Eng Go.Proofs Go.L41 Go.Br Tryz
attribute [local irreducible] oU oX TD gF
def zRl (a:Int):
    oK cfg 316 [vI a] (vB false):=by
 refine zW func316 O ntmps316 results316 O λz hz=>ol O O<|oo O O<|G O<|yL O<|om O<|zM<|zV O ?_
 exact ai vB uF
def VA (a b:Int):
    oK cfg 308 [vI a,vI b] (vI (lH a b)):=by
 refine zW func308 O ntmps308 results308 O λz hz=>ol O O<|oo O O<|qK O uB (zRl a) (oy O)<|om O<|oo O O<|qK O uB (zRl b) (oy O)<|om O<|zF<|ol O O<|zK O (λc1=>?_) (λc1=>?_)
 ·exact absurd c1 uA
 ·exact k8
def zRm (a:Int):
    oK cfg 317 [vI a] (vB false):=by
 refine zW func317 O ntmps317 results317 O λz hz=>ol O O<|oo O O<|G O<|yL O<|om O<|zM<|zV O ?_
 exact ai vB uF
def zNm (a b:Int):
    oK cfg 309 [vI a,vI b] (vI (lH a b)):=by
 refine zW func309 O ntmps309 results309 O λz hz=>ol O O<|oo O O<|qK O uB (zRm a) (oy O)<|om O<|oo O O<|qK O uB (zRm b) (oy O)<|om O<|zF<|ol O O<|zK O (λc1=>?_) (λc1=>?_)
 ·exact absurd c1 uA
 ·exact k8
def vz (l:List Int) (hl:l.length<=4294967296):
    oK cfg 307 [.c (.sl 1 (l.map λn=>[cI n]))] (vI (Ld l)):=by
 refine zW func307 O ntmps307 results307 O λz hz=>ol O O<|ol O O<|zF<|oo O O<|qC O pf<|om O<|zS<|zT ⟨[(8,.c _),(3,.c _),(6,.c _),(7,.c _)],[]⟩ (oz [] oH O)<|qG 1 0 O O (Nat) (λk=>[(8,vI k)]) (λk=>[]) (λk=>k<=l.length/\(Ld l=Ld (l.drop k))) (λk=>l.length-k) ⟨0,⟨zB,O⟩,oz [] oH O⟩ ?_
 rintro k ⟨hk,hp⟩
 refine Y O<|yC O<|zA<|zF<|zK O ?_ ?_<;>intro c1<;>try simp only [sx] at c1
 ·obtain ⟨x,hx⟩:=qX l k zB
  refine zJ<|zF<|zS<|Y O<|qF O pf zB (oI uC)<|zE uB qE O<|om O<|oo O O<|G O<|yL O<|zA<|zK O ?_ ?_<;>intro c2<;>try simp only [sx] at c2
  ·refine oo O O<|om O<|zM<|zV O ?_
   rw [hp,YZ hx c2]
  ·refine zJ<|zP O<|qH O ⟨zB,zB⟩<|G O<|zA ?_
   refine ⟨k+1,⟨zB,hp.trans (QR hx c2)⟩,zB,oz [] oH O⟩
 ·refine qL<|oo O O<|om O<|zM<|zV O ?_
  rw [hp,kN zB];rfl
def zKj (a b:List Mono) (c:C) (f:Mono->Mono->Int) (ha:a.length<=4294967296) (hb:b.length<=4294967296) (hc:∀x,x∈a->∀y,y∈b->FnPur cfg c [tG x,tG y] (vI (f x y))):
    oK cfg 318 [.c (.sl 2 (a.map Mono.cells)),.c (.sl 2 (b.map Mono.cells)),.c c] (vI (lK f a b)):=by
 refine zW func318 O ntmps318 results318 O λz hz=>ol O O<|zF<|oo O O<|qC O N<|om O<|zS<|zT ⟨[(13,.c _),(0,.c _),(1,.c _),(2,.c _),(11,.c _),(12,.c _)],[]⟩ (oz [] oH O)<|qG 1 0 O O (Nat) (λk=>[(13,vI k)]) (λk=>[]) (λk=>k<=a.length/\(lK f a b=lK f (a.drop k) (b.drop k))/\(k<=b.length)) (λk=>a.length-k) ⟨0,⟨zB,O,zB⟩,oz [] oH O⟩ ?_
 rintro k ⟨hk,hp,hq⟩
 refine Y O<|yC O<|zA<|zF<|zK O ?_ ?_<;>intro c1<;>try simp only [sx] at c1
 ·obtain ⟨x,hx⟩:=qX a k zB
  refine zJ<|zF<|zS<|oo O O<|qF O N zB (oI uC)<|zN Eb qE O<|oM O (yA O te) λb1=>G O<|ow 0 tg O<|zA<|zF<|oo O O<|G O<|qC O N<|zX O (wN O O O)<|zA<|zK O (λc2=>?_) (λc2=>?_)
  ·exact v62
  ·try simp only [sx] at c2
   obtain ⟨y,hy⟩:=qX b k zB
   refine zJ<|oo O O<|G O<|qF O N zB (oI uC)<|zN Eb qE O<|oM O (yA O te) λb2=>ow 0 tg O<|zA<|oo O O<|zN Eb (J 1 O) O<|zN Eb (J 0 O) O<|zX O (wS O O (hc _ (qD hx) _ (qD hy)) (oy O))<|om O<|oo O O<|yL O<|zA<|zK O (λc3=>?_) (λc3=>?_)
   ·exact v56
   ·exact l8
 ·refine qL<|zF<|oo O O<|qC O N<|G O<|qC O N<|yC O<|zA<|zK O (λc4=>?_) (λc4=>?_)
  ·exact v52
  ·exact v44
def zMa (a b:List Ix) (c:C) (f:Ix->Ix->Int) (ha:a.length<=4294967296) (hb:b.length<=4294967296) (hc:∀x,x∈a->∀y,y∈b->FnPur cfg c [jW x,jW y] (vI (f x y))):
    oK cfg 321 [.c (.sl 4 (a.map Ix.cells)),.c (.sl 4 (b.map Ix.cells)),.c c] (vI (lK f a b)):=by
 refine zW func321 O ntmps321 results321 O λz hz=>ol O O<|zF<|oo O O<|qC O oO<|om O<|zS<|zT ⟨[(13,.c _),(0,.c _),(1,.c _),(2,.c _),(11,.c _),(12,.c _)],[]⟩ (oz [] oH O)<|qG 1 0 O O (Nat) (λk=>[(13,vI k)]) (λk=>[]) (λk=>k<=a.length/\(lK f a b=lK f (a.drop k) (b.drop k))/\(k<=b.length)) (λk=>a.length-k) ⟨0,⟨zB,O,zB⟩,oz [] oH O⟩ ?_
 rintro k ⟨hk,hp,hq⟩
 refine Y O<|yC O<|zA<|zF<|zK O ?_ ?_<;>intro c1<;>try simp only [sx] at c1
 ·obtain ⟨x,hx⟩:=qX a k zB
  refine zJ<|zF<|zS<|oo O O<|qF O oO zB (oI uC)<|zN vf qE O<|oM O (qJ nv O qk O) λb1=>G O<|ow 0 sh O<|zA<|zF<|oo O O<|G O<|qC O oO<|zX O (wN O O O)<|zA<|zK O (λc2=>?_) (λc2=>?_)
  ·exact v62
  ·try simp only [sx] at c2
   obtain ⟨y,hy⟩:=qX b k zB
   refine zJ<|oo O O<|G O<|qF O oO zB (oI uC)<|zN vf qE O<|oM O (qJ nv O qk O) λb2=>ow 0 sh O<|zA<|oo O O<|zN vf (J 1 O) O<|zN vf (J 0 O) O<|zX O (wS O O (hc _ (qD hx) _ (qD hy)) (oy O))<|om O<|oo O O<|yL O<|zA<|zK O (λc3=>?_) (λc3=>?_)
   ·exact v56
   ·exact l8
 ·refine qL<|zF<|oo O O<|qC O oO<|G O<|qC O oO<|yC O<|zA<|zK O (λc4=>?_) (λc4=>?_)
  ·exact v52
  ·exact v44
def zLz (a b:List Lf) (c:C) (f:Lf->Lf->Int) (ha:a.length<=4294967296) (hb:b.length<=4294967296) (hc:∀x,x∈a->∀y,y∈b->FnPur cfg c [dF x,dF y] (vI (f x y))):
    oK cfg 324 [.c (.sl 2 (a.map Lf.cells)),.c (.sl 2 (b.map Lf.cells)),.c c] (vI (lK f a b)):=by
 refine zW func324 O ntmps324 results324 O λz hz=>ol O O<|zF<|oo O O<|qC O oS<|om O<|zS<|zT ⟨[(13,.c _),(0,.c _),(1,.c _),(2,.c _),(11,.c _),(12,.c _)],[]⟩ (oz [] oH O)<|qG 1 0 O O (Nat) (λk=>[(13,vI k)]) (λk=>[]) (λk=>k<=a.length/\(lK f a b=lK f (a.drop k) (b.drop k))/\(k<=b.length)) (λk=>a.length-k) ⟨0,⟨zB,O,zB⟩,oz [] oH O⟩ ?_
 rintro k ⟨hk,hp,hq⟩
 refine Y O<|yC O<|zA<|zF<|zK O ?_ ?_<;>intro c1<;>try simp only [sx] at c1
 ·obtain ⟨x,hx⟩:=qX a k zB
  refine zJ<|zF<|zS<|oo O O<|qF O oS zB (oI uC)<|zN yV qE O<|oM O (qJ [none,some 2] O U O) λb1=>G O<|ow 0 oZ O<|zA<|zF<|oo O O<|G O<|qC O oS<|zX O (wN O O O)<|zA<|zK O (λc2=>?_) (λc2=>?_)
  ·exact v62
  ·try simp only [sx] at c2
   obtain ⟨y,hy⟩:=qX b k zB
   refine zJ<|oo O O<|G O<|qF O oS zB (oI uC)<|zN yV qE O<|oM O (qJ [none,some 2] O U O) λb2=>ow 0 oZ O<|zA<|oo O O<|zN yV (J 1 O) O<|zN yV (J 0 O) O<|zX O (wS O O (hc _ (qD hx) _ (qD hy)) (oy O))<|om O<|oo O O<|yL O<|zA<|zK O (λc3=>?_) (λc3=>?_)
   ·exact v56
   ·exact l8
 ·refine qL<|zF<|oo O O<|qC O oS<|G O<|qC O oS<|yC O<|zA<|zK O (λc4=>?_) (λc4=>?_)
  ·exact v52
  ·exact v44
def zMb (a b:List Ex) (c:C) (f:Ex->Ex->Int) (ha:a.length<=4294967296) (hb:b.length<=4294967296) (hc:∀x,x∈a->∀y,y∈b->FnPur cfg c [vE x,vE y] (vI (f x y))):
    oK cfg 323 [.c (.sl 13 (a.map Ex.cells)),.c (.sl 13 (b.map Ex.cells)),.c c] (vI (lK f a b)):=by
 refine zW func323 O ntmps323 results323 O λz hz=>ol O O<|zF<|oo O O<|qC O pa<|om O<|zS<|zT ⟨[(13,.c _),(0,.c _),(1,.c _),(2,.c _),(11,.c _),(12,.c _)],[]⟩ (oz [] oH O)<|qG 1 0 O O (Nat) (λk=>[(13,vI k)]) (λk=>[]) (λk=>k<=a.length/\(lK f a b=lK f (a.drop k) (b.drop k))/\(k<=b.length)) (λk=>a.length-k) ⟨0,⟨zB,O,zB⟩,oz [] oH O⟩ ?_
 rintro k ⟨hk,hp,hq⟩
 refine Y O<|yC O<|zA<|zF<|zK O ?_ ?_<;>intro c1<;>try simp only [sx] at c1
 ·obtain ⟨x,hx⟩:=qX a k zB
  refine zJ<|zF<|zS<|oo O O<|qF O pa zB (Aa uC)<|zN yX qE O<|oM O (qJ nt O pd O) λb1=>G O<|ow 0 ph O<|zA<|zF<|oo O O<|G O<|qC O pa<|zX O (wN O O O)<|zA<|zK O (λc2=>?_) (λc2=>?_)
  ·exact v62
  ·try simp only [sx] at c2
   obtain ⟨y,hy⟩:=qX b k zB
   refine zJ<|oo O O<|G O<|qF O pa zB (Aa uC)<|zN yX qE O<|oM O (qJ nt O pd O) λb2=>ow 0 ph O<|zA<|oo O O<|zN yX (J 1 O) O<|zN yX (J 0 O) O<|zX O (wS O O (hc _ (qD hx) _ (qD hy)) (oy O))<|om O<|oo O O<|yL O<|zA<|zK O (λc3=>?_) (λc3=>?_)
   ·exact v56
   ·exact l8
 ·refine qL<|zF<|oo O O<|qC O pa<|G O<|qC O pa<|yC O<|zA<|zK O (λc4=>?_) (λc4=>?_)
  ·exact v52
  ·exact v44
def qAl (a b:List Ix) (c:C) (f:Ix->Ix->Int) (ha:a.length<=4294967296) (hb:b.length<=4294967296) (hc:∀x,x∈a->∀y,y∈b->FnPur cfg c [jW x,jW y] (vI (f x y))):
    oK cfg 312 [.c (.sl 4 (a.map Ix.cells)),.c (.sl 4 (b.map Ix.cells)),.c c] (vI (mP f a b)):=by
 refine zW func312 O ntmps312 results312 O λz hz=>ol O O<|zF<|oo O O<|qC O oO<|G O<|qC O oO<|qK O uB (VA _ _) (oy O)<|om O<|oo O O<|yL O<|zA<|zK O ?_ ?_<;>intro c1<;>try simp only [sx] at c1
 ·refine oo O O<|om O<|zM<|zV O ?_
  rw [mP,aa c1]
 ·refine zJ<|oo O O<|G O<|G O<|qK O uB (zMa a b c f ha hb hc) (oy O)<|om O<|zM<|zV O ?_
  rw [mP,ab c1]
def qAk (a b:List Lf) (c:C) (f:Lf->Lf->Int) (ha:a.length<=4294967296) (hb:b.length<=4294967296) (hc:∀x,x∈a->∀y,y∈b->FnPur cfg c [dF x,dF y] (vI (f x y))):
    oK cfg 322 [.c (.sl 2 (a.map Lf.cells)),.c (.sl 2 (b.map Lf.cells)),.c c] (vI (mP f a b)):=by
 refine zW func322 O ntmps322 results322 O λz hz=>ol O O<|zF<|oo O O<|qC O oS<|G O<|qC O oS<|qK O uB (VA _ _) (oy O)<|om O<|oo O O<|yL O<|zA<|zK O ?_ ?_<;>intro c1<;>try simp only [sx] at c1
 ·refine oo O O<|om O<|zM<|zV O ?_
  rw [mP,aa c1]
 ·refine zJ<|oo O O<|G O<|G O<|qK O uB (zLz a b c f ha hb hc) (oy O)<|om O<|zM<|zV O ?_
  rw [mP,ab c1]
def qAm (a b:List Ex) (c:C) (f:Ex->Ex->Int) (ha:a.length<=4294967296) (hb:b.length<=4294967296) (hc:∀x,x∈a->∀y,y∈b->FnPur cfg c [vE x,vE y] (vI (f x y))):
    oK cfg 314 [.c (.sl 13 (a.map Ex.cells)),.c (.sl 13 (b.map Ex.cells)),.c c] (vI (mP f a b)):=by
 refine zW func314 O ntmps314 results314 O λz hz=>ol O O<|zF<|oo O O<|qC O pa<|G O<|qC O pa<|qK O uB (VA _ _) (oy O)<|om O<|oo O O<|yL O<|zA<|zK O ?_ ?_<;>intro c1<;>try simp only [sx] at c1
 ·refine oo O O<|om O<|zM<|zV O ?_
  rw [mP,aa c1]
 ·refine zJ<|oo O O<|G O<|G O<|qK O uB (zMb a b c f ha hb hc) (oy O)<|om O<|zM<|zV O ?_
  rw [mP,ab c1]
def Bp (a b:Int):
    oK cfg 320 [vI a,vI b] (vI (lH a b)):=by
 refine zW func320 O ntmps320 results320 O λz hz=>ol O O<|zF<|zS<|oo O O<|G O<|yC O<|om O<|zK O ?_ ?_<;>intro c1<;>try simp only [sx] at c1
 ·refine ol O O<|zM<|zV O ?_
  rw [JY c1]
 ·refine oo O O<|G O<|sf O<|om O<|zK O ?_ ?_<;>intro c2<;>try simp only [sx] at c2
  ·refine ol O O<|zM<|zV O ?_
   rw [JX c2]
  ·refine zJ<|ol O O<|zM<|zV O ?_
   rw [JW zB zB]
def Ao (x y:Mono):
    oK cfg 319 [tG x,tG y] (vI (vM x y)):=by
 refine zW func319 O ntmps319 results319 O λz hz=>Y O<|oi O λb1=>oi O λb2=>om O<|zF<|Y O<|zC O wH<|zE uB (J 1 O) O<|zC O wH<|zE uB (J 0 O) O<|zX O (S4 O O O)<|zA<|zK O ?_ ?_<;>intro c1<;>try simp only [sx] at c1
 ·refine Y O<|zC O wH<|zE uB (J 1 O) O<|zC O wH<|zE uB (J 0 O) O<|qK O uB (strings_Compare _ _) (oy O)<|om O<|zM<|zV O ?_
  rw [vM,aa c1]
 ·refine zJ<|Y O<|zC O AD<|zE W (J 1 O) O<|zC O AD<|zE W (J 0 O) O<|qK O uB (Bp _ _) (oy O)<|om O<|zM<|zV O ?_
  rw [vM,ab c1]
def zPo (a b:Lf) (ha:a.L.length<=4294967296) (hb:b.L.length<=4294967296):
    oK cfg 311 [dF a,dF b] (vI (pL a b)):=by
 refine zW func311 O ntmps311 results311 O λz hz=>Y O<|oi O λb1=>oi O λb2=>om O<|Y O<|zC O kA<|zE uB (J 1 O) O<|zC O kA<|zE uB (J 0 O) O<|qK O uB (zKj a.L b.L _ vM ha hb (λx _ y _=>FnPur.of_pur (first:=[]) (cap:=[]) uB (Ao x y))) (oy O)<|om O<|zF<|oo O O<|yL O<|zA<|zK O ?_ ?_<;>intro c1<;>try simp only [sx] at c1
 ·refine oo O O<|om O<|zM<|zV O ?_
  rw [pL,aa c1]
 ·refine zJ<|Y O<|zC O ui<|zE W (J 1 O) O<|zC O ui<|zE W (J 0 O) O<|qK O uB (Bp _ _) (oy O)<|om O<|zM<|zV O ?_
  rw [pL,ab c1]
def zTq (a b:Ix) (ha:a.wt<=4294967296) (hb:b.wt<=4294967296):
    oK cfg 313 [jW a,jW b] (vI (pM a b)):=by
 refine zW func313 O ntmps313 results313 O ?_
 intro z hz
 have hwa:=ha
 have hwb:=hb
 unfold Ix.wt at hwa hwb
 refine Y O<|oi O λb1=>oi O λb2=>om O<|zF<|Y O<|zC O AE<|zE uB (J 1 O) O<|zC O AE<|zE uB (J 0 O) O<|qK O uB (strings_Compare _ _) (oy O)<|om O<|oo O O<|yL O<|zA<|zK O ?_ ?_<;>intro c1<;>try simp only [sx] at c1
 ·refine oo O O<|om O<|zM<|zV O ?_
  rw [pM,aa c1]
 ·refine zJ<|zF<|Y O<|zC O vc<|zN yV (J 1 O) O<|zC O vc<|zN yV (J 0 O) O<|qK O uB (zPo a.Lin b.Lin zB zB) (oy O)<|om O<|oo O O<|yL O<|zA<|zK O ?_ ?_<;>intro c2<;>try simp only [sx] at c2
  ·refine oo O O<|om O<|zM<|zV O ?_
   rw [pM,ab c1,aa c2]
  ·refine zJ<|Y O<|zC O rt<|zE uB (J 1 O) O<|zC O rt<|zE uB (J 0 O) O<|qK O uB (qAk a.At b.At _ pL zB zB (λx hx y hy=>FnPur.of_pur (first:=[]) (cap:=[]) uB (zPo x y (by have:=Sr hx;omega) (by have:=Sr hy;omega)))) (oy O)<|om O<|zM<|zV O ?_
   rw [pM,ab c1,ab c2]
def zVd (a b:Ty):
    oK cfg 310 [rq a,rq b] (vI (cD a b)):=by
 refine zW func310 O ntmps310 results310 O λz hz=>Y O<|oi O λb1=>oi O λb2=>om O<|zF<|yE 28 mixed uB O O<|ou O (zG O Hd O)<|ou O (zH O uB O (J 1 O) O)<|ou O (zG O Hd O)<|ou O (zH O uB O (J 0 O) O)<|ou O (qP O uB (VA _ _) (oy O))<|ou O (zG O Te O)<|ou O (zH O uB O (J 1 O) O)<|ou O (zG O Te O)<|ou O (zH O uB O (J 0 O) O)<|ou O (qP O uB (VA _ _) (oy O))<|ou O (zG O VV O)<|ou O (zH O uB O (J 1 O) O)<|ou O (zG O VV O)<|ou O (zH O uB O (J 0 O) O)<|ou O (qP O uB (VA _ _) (oy O))<|ou O (zG O zZp O)<|ou O (zH O uB O (J 1 O) O)<|ou O (zG O zZp O)<|ou O (zH O uB O (J 0 O) O)<|ou O (qP O uB (VA _ _) (oy O))<|ou O (zG O zZo O)<|ou O (zH O uB O (J 1 O) O)<|ou O (zG O zZo O)<|ou O (zH O uB O (J 0 O) O)<|ou O (qP O uB (VA _ _) (oy O))<|ou O (kV O pf Oq O O O O)<|ou O (qP O uB (vz [lH a.Kind b.Kind,lH a.Bits b.Bits,lH a.Frac b.Frac,lH a.Round b.Round,lH a.Over b.Over] uF) (oy O))<|ou O (yK O O)<|yY<|zA<|zM<|zV O ?_
 exact O
def zTs (a b:Ex) (ih:∀x,x∈a.Args->∀y,x.wt<=4294967296->y.wt<=4294967296->oK cfg 299 [vE x,vE y] (vI (sY x y))) (ha:a.wt<=4294967296) (hb:b.wt<=4294967296):
    oK cfg 299 [vE a,vE b] (vI (sY a b)):=by
 refine zW func299 O ntmps299 results299 O ?_
 intro z hz
 obtain ⟨hLa,hIa,hAa⟩:=a.parts ha
 obtain ⟨hLb,hIb,hAb⟩:=b.parts hb
 have hwa:=Ex.wt_eq a
 have hwb:=Ex.wt_eq b
 refine Y O<|oi O λb1=>oi O λb2=>om O<|zF<|yE 37 mixed uB O O<|ou O (zG O wJ O)<|ou O (zH O uB O (J 1 O) O)<|ou O (zG O wJ O)<|ou O (zH O uB O (J 0 O) O)<|ou O (qP O uB (VA _ _) (oy O))<|ou O (zG O Hc O)<|ou O (zH O uB O (J 1 O) O)<|ou O (zG O Hc O)<|ou O (zH O uB O (J 0 O) O)<|ou O (qP O uB (strings_Compare _ _) (oy O))<|ou O (zG O SH O)<|ou O (zG O L3 O)<|ou O (zH O W O (J 1 O) O)<|ou O (zG O SH O)<|ou O (zG O L3 O)<|ou O (zH O W O (J 0 O) O)<|ou O (qP O uB (zNm _ _) (oy O))<|ou O (zG O SH O)<|ou O (zG O OG O)<|ou O (zH O W O (J 1 O) O)<|ou O (zG O SH O)<|ou O (zG O OG O)<|ou O (zH O W O (J 0 O) O)<|ou O (qP O uB (zNm _ _) (oy O))<|ou O (zG O D9 O)<|ou O (qA O yD O (J 1 O) O)<|ou O (zG O D9 O)<|ou O (qA O yD O (J 0 O) O)<|ou O (qP O uB (zVd _ _) (oy O))<|ou O (zG O Ae O)<|ou O (qA O yV O (J 1 O) O)<|ou O (zG O Ae O)<|ou O (qA O yV O (J 0 O) O)<|ou O (qP O uB (zPo a.Lin b.Lin hLa hLb) (oy O))<|ou O (kV O pf Oq O O O O)<|ou O (qP O uB (vz [lH a.Op b.Op,sX a.Name b.Name,lH a.Val.N b.Val.N,lH a.Val.D b.Val.D,cD a.Ty b.Ty,pL a.Lin b.Lin] uF) (oy O))<|ou O (yK O O)<|yY<|zA<|zF<|oo O O<|yL O<|zA<|zK O ?_ ?_<;>intro c1<;>try simp only [sx] at c1
 ·refine oo O O<|om O<|zM<|zV O ?_
  rw [ux,aa (show ¬rT a b=0 from c1)];rfl
 ·refine zJ<|zF<|Y O<|zC O kX<|zE uB (J 1 O) O<|zC O kX<|zE uB (J 0 O) O<|qK O uB (qAl a.Idx b.Idx _ pM hIa hIb (λx hx y hy=>FnPur.of_pur (first:=[]) (cap:=[]) uB (zTq x y (by have:=Ss hx;omega) (by have:=Ss hy;omega)))) (oy O)<|om O<|oo O O<|yL O<|zA<|zK O ?_ ?_<;>intro c2<;>try simp only [sx] at c2
  ·refine oo O O<|om O<|zM<|zV O ?_
   rw [ux,ab (show rT a b=0 from c1),aa c2]
  ·refine zJ<|Y O<|zC O rn<|zE uB (J 1 O) O<|zC O rn<|zE uB (J 0 O) O<|qK O uB (qAm a.Args b.Args _ sY hAa hAb (λx hx y hy=>FnPur.of_pur (first:=[]) (cap:=[]) uB (ih x hx y (by have:=Ex.arg_wt hx;omega) (by have:=Ex.arg_wt hy;omega)))) (oy O)<|om O<|zM<|zV O ?_
   rw [ux,ab (show rT a b=0 from c1),ab c2]
def CK (a b:Ex) (ha:a.wt<=4294967296) (hb:b.wt<=4294967296):oK cfg 299 [vE a,vE b] (vI (sY a b)):=by
  induction a using Ex.ind generalizing b with
  |_ a ih=>exact zTs a b (λx hx y h1 h2=>ih x hx y h1 h2) ha hb
def Mi (a b:Ex) (ha:a.wt<=4294967296) (hb:b.wt<=4294967296):
    oK cfg 278 [vE a,vE b] (vB (decide (a=b))):=by
 refine zW func278 O ntmps278 results278 O λz hz=>Y O<|oi O λb1=>oi O λb2=>om O<|Y O<|zN yX (J 1 O) O<|zN yX (J 0 O) O<|qK O uB (CK a b ha hb) (oy O)<|yR O<|om O<|zM<|zV O ?_
 exact ai vB (dk.2 (Mb a b))
end Go.W
end
section
set_option maxRecDepth 10000
namespace Go.W
open Go Go.Eng Go.Proofs Go.L41 Go.Br Tryz
attribute [local irreducible] oU oX TD gF
end Go.W
end
section
set_option maxRecDepth 10000
namespace Go.W
open Go Go.Eng Go.Proofs Go.L41 Go.Br Tryz
attribute [local irreducible] oU oX TD gF
end Go.W
end
section
set_option maxRecDepth 10000
namespace Go.W
open Go Go.Eng Go.Proofs Go.L41 Go.Br Tryz
attribute [local irreducible] oU oX TD gF
def PR:vJ prog 2=some .i64:=by kernel_rfl
def AA:(prog.info? 57).map (·.size)=some 1:=by kernel_rfl
def Fk (a b:Int) (ha:oQ a) (hb:oQ b):
    oK cfg 185 [vI a,vI b] (.tup [vI (rh (a+b)),vB (decide (oQ (a+b)))]):=by
 refine zW func185 O ntmps185 results185 O λz hz=>oo O O<|om O<|oo O O<|G O<|zX O (qAj O O O)<|om O<|oo O O<|G O<|G O<|sf O<|G O<|sf O<|zX O (Pb O WJ O O)<|G O<|om O<|zM<|oJ (ox O) (ox O) ?_
 rw [<-UN ha hb];rfl
def zFl (x:Int) (hx:oQ x):
    oK cfg 124 [vI x] (qu x.natAbs):=by
 refine zW func124 O ntmps124 results124 O λz hz=>ol O O<|zF<|oo O O<|yC O<|zA<|zK O ?_ ?_<;>intro c1<;>try simp only [sx] at c1
 ·refine oo O O<|zX O (wA O uB SI O)<|zX O (S6 O O)<|om O<|zM<|zV O ?_
  exact ai (λn=>V.c (.lit (.int .u64 n))) (zVx hx c1)
 ·refine zJ<|oo O O<|zX O (wA O uB SI O)<|om O<|zM<|zV O ?_
  exact ai (λn=>V.c (.lit (.int .u64 n))) (zVw hx zB)
def zZc (a b:Nat) (ha:a<18446744073709551616) (hb:b<18446744073709551616):
    oK cfg 126 [qu a,qu b] (.tup [qu (CU a b),qu (a*b%18446744073709551616)]):=by
 refine zW func126 O ntmps126 results126 O ?_
 intro z hz
 obtain ⟨p1,p2,p3,p4⟩:=uZ ha hb
 obtain ⟨q1,q2,q3,q4⟩:=Mu ha hb
 refine oo O O<|om O<|oo O O<|zX O (JD O O O ha)<|G O<|zX O (JD O O O hb)<|zX O (wZ O O O zB)<|om O<|oo O O<|zX O (wC O O O )<|G O<|zX O (JD O O O hb)<|zX O (wZ O O O zB)<|G O<|zX O (wC O O O )<|zX O (wD O O O q1)<|om O<|oo O O<|zX O (JD O O O ha)<|G O<|zX O (wC O O O )<|zX O (wZ O O O zB)<|G O<|zX O (JD O O O q1)<|zX O (wD O O O q2)<|om O<|oo O O<|zX O (wC O O O )<|G O<|zX O (wC O O O )<|zX O (wZ O O O zB)<|G O<|zX O (wC O O O )<|zX O (wD O O O q3)<|G O<|zX O (wC O O O )<|zX O (wD O O O q4)<|G O<|G O<|zX O (Pi O O O )<|G O<|om O<|zM<|oJ (ox O) (ox O) ?_
 exact O
def Bq (x y:Int) (hx:oQ x) (hy:oQ y):
    oK cfg 184 [vI x,vI y] (.tup [vI (fP x y).1,vB (fP x y).2]):=by
 refine zW func184 O ntmps184 results184 O ?_
 intro z hz
 have hm1:=Cd hx
 have hm2:=Cd hy
 refine oo O O<|om O<|oo O O<|qK O uB (zFl x hx) (oy O)<|G O<|qK O uB (zFl y hy) (oy O)<|qK O uB (zZc x.natAbs y.natAbs zB zB) (oy O)<|qW O<|yF O<|yF O<|G O<|om O<|oo O O<|yC O<|G O<|yC O<|zX O (zKz O WJ O O)<|om O<|zF<|zS<|oo O O<|yL O<|G O<|oL O (λg3_2=>zQ O O) O<|oG 26 O (λg3_2=>kE O O O) O<|oN O (λh=>(oY h))<|G O<|oL O (λg3_6=>zQ O O) O<|oG 30 O (λg3_6=>yU O O O) O<|oG 31 O (λg3_6=>zQ O O) O<|oV [] O oW T (λg3_9=>zQ O O) O<|oV [(33,_)] O oW ⟨O,O,T⟩ (λg3_9=>wM O O) O<|oG 32 O (λg3_6=>wX O O O (λh=>kO uC h) O) O<|oN O (λh=>(oY h))<|om O<|zK O ?_ ?_<;>intro c1<;>try simp only [sx] at c1
 ·refine oo O O<|om O<|zM<|oJ (ox O) (ox O) ?_
  rw [Vn hx hy c1]
 ·refine oo O O<|om O<|zK O ?_ ?_<;>intro c2<;>try simp only [sx] at c2
  ·refine oo O O<|zX O (S6 O O)<|zX O (wA O uB PR O)<|G O<|om O<|zM<|oJ (ox O) (ox O) ?_
   rw [NY c2 (by have:=c1.1.1;omega) (by have:=c1.1.2;omega)]
  ·refine zJ<|oo O O<|zX O (wA O uB PR O)<|G O<|om O<|zM<|oJ (ox O) (ox O) ?_
   have hlt:x.natAbs*y.natAbs%18446744073709551616<9223372036854775808:=by
     have h1:=c1.1.2
     rcases c1.2 with h|h
     · omega
     · rw [c2] at h;cases h
   rw [NZ c2 (by have:=c1.1.1;omega) hlt]
def MP (l:Lf) (by_:Int) (hl:l.L.length<=4294967296) (hr:l.rng) (hb:oQ by_):
    oK cfg 131 [dF l,vI by_] (.tup [dF (fQ l by_).1,vI (fQ l by_).2]):=by
 refine zW func131 O ntmps131 results131 O λz hz=>Y O<|oi O λb1=>oM O (qJ [none,some 2] O U O) λb2=>om O<|zF<|Y O<|zN yV (J 1 O) O<|qK O uB (VE l zB) (oy O)<|yL O<|zA<|zK O ?_ ?_<;>intro c1<;>try simp only [sx] at c1
 ·have hl0:=zZd c1
  refine Y O<|yO [none,some 2] O U qe<|ow 0 oZ O<|om O<|zM<|oJ (zY yV O (J 0 O) O) (ox O) ?_
  rw [ND hl0];rfl
 ·have hl1:=Z5 c1
  refine zJ<|zF<|oo O O<|yR O<|zA<|qQ O (λc2=>?_) (λc2=>?_)
  ·refine Y O<|yO [none,some 2] O U qe<|ow 0 oZ O<|om O<|zM<|oJ (zY yV O (J 0 O) O) (ox O) ?_
   rw [Jb hl1 c2];rfl
  ·refine zJ<|Y O<|zC O ui<|zE W (J 1 O) O<|G O<|qK O uB (Bq l.K by_ hr.1 hb) (oy O)<|qW O<|yF O<|yF O<|G O<|om O<|oo O O<|yI O U qe<|oM O (yA O U) λb3=>yQ _ (kD 139 2)<|ow 1 oZ O<|zA<|zF<|Y O<|zC O kA<|zE uB (J 3 O) O<|qC O N<|om O<|zS<|zT ⟨[(32,.c _),(7,.c _),(1,.c _),(4,.c _),(8,.c _),(30,.c _),(31,.c _)],[_,_,_]⟩ (oz [true,true,true,false] oH O)<|qG 2 2 O O (Nat×Value) (λ⟨k,sv⟩=>[(32,vI k),(7,vB ((fP l.K by_).2&&pC by_ (l.L.take k)))]) (λ⟨k,sv⟩=>[E.vec sv 139 2 ((nO by_ (l.L.take k)).map Mono.cells),E.row b3 59 [cI (fP l.K by_).1,.lit sv]]) (λ⟨k,sv⟩=>k<=l.L.length) (λ⟨k,sv⟩=>l.L.length-k) ⟨⟨0,_⟩,zB,oz [true,true,true] ⟨zD,VLe.of_eq (by rw [show pC by_ (l.L.take 0)=true from rfl,bq];rfl),zD,zD,zD,zD,zD,T⟩ O⟩ ?_
   rintro ⟨k,sv⟩ hk
   show oU _ _ _ _ _ ⟨[(32,vI k),(7,vB ((fP l.K by_).2&&pC by_ (l.L.take k)))]++_,[E.vec sv 139 2 ((nO by_ (l.L.take k)).map Mono.cells),E.row b3 59 [cI (fP l.K by_).1,.lit sv]]++_⟩
   refine Y O<|yC O<|zA<|zF<|zK O ?_ ?_<;>intro c3<;>try simp only [sx] at c3
   ·obtain ⟨x,hx⟩:=qX l.L k zB
    refine zJ<|zF<|zS<|Y O<|qF O N zB (oI uC)<|zN Eb qE O<|oM O (yA O te) λb5=>ow 0 tg O<|zA<|Y O<|zC O AD<|zE W (J 0 O) O<|G O<|qK O uB (Bq x.By by_ (hr.2 x (qD hx)) hb) (oy O)<|qW O<|yF O<|yF O<|G O<|om O<|oo O O<|G O<|oL O (λg11_1=>zQ O O) O<|kF O (λh=>h)<|om O<|zP O<|zC O kA<|zE uB (J 2 O) O<|zC O wH<|zE uB (J 0 O) O<|G O<|yI O te uf<|yT O N te<|oM O (qZ 1 O N O O O (by simp only [pc,qp,pw,qw,y5,ap];omega) (by simp only [pc,qp,pw,qw,y5,ap];omega)) λsv6=>zC O kA<|ow 2 AA O<|zA<|zP O<|qH O ⟨zB,zB⟩<|G O<|zA ?_
    refine ⟨⟨k+1,sv6⟩,zB,(by show l.L.length-(k+1)<l.L.length-k;omega),oz [false,true,true,true] ⟨zD,VLe.of_eq (by rw [Gr hx,<-jn];rfl),zD,zD,zD,zD,zD,T⟩ (by show _=[E.vec sv6 _ 2 ((nO by_ (l.L.take (k+1))).map Mono.cells),E.row b3 _ [cI (fP l.K by_).1,.lit sv6]]++_;rw [Gs hx,ah];rfl)⟩
   ·rw [yG (l:=l.L) (k:=k) zB]
    refine qL<|zF<|oo O O<|kQ O<|zA<|zK O ?_ ?_<;>intro c4<;>try simp only [sx] at c4
    ·refine Y O<|yO [none,some 2] O U qe<|ow 2 oZ O<|om O<|zM<|oJ (zY yV O (J 2 O) O) (ox O) ?_
     rw [Rl hl1 c2 c4];rfl
    ·refine zJ<|Y O<|zN yV (J 1 O) O<|ow 2 oZ O<|om O<|zT _ (yJ 0 O (regs':=[(60,.agg [_,_])]) (μ':=[_,_]) ⟨FLe.agg ⟨.inl O,.inr ⟨O,O⟩,T⟩,T⟩ ⟨EFle.row (ds:=[_,_]) ⟨.inl O,.inr ⟨O,O⟩,T⟩,EFle.row (ds:=[_,_]) ⟨.inl O,.inr ⟨O,O⟩,T⟩,T⟩)<|zM<|oJ (zY yV O (J 1 O) O) (ox O) ?_
     rw [Rm hl1 c2 c4];rfl
end Go.W
end
section
set_option maxRecDepth 10000
namespace Go.W
open Go Go.Eng Go.Proofs Go.L41 Go.Br Tryz
attribute [local irreducible] oU oX TD gF
def sz2:(prog.info? 2).map (·.size)=some 1:=by kernel_rfl
def sz4:(prog.info? 4).map (·.size)=some 1:=by kernel_rfl
def zr4:dZ prog 4=some [(Value.bool false)]:=by kernel_rfl
def M4 (a0 b0:List Mono) (ha0:a0.length<=4294967296) (hb0:b0.length<=4294967296):
    ∀(y:C) (J:List Tr->List E->Prop) (μ:List E),(∀d t s m,bE a0 b0=d++t::s->J d m->FnCon cfg y [vS t.1,vI t.2.1,vI t.2.2] m λr m'=>r=.tup []/\J (d++[t]) m')->J [] μ->Con cfg 186 [.c (.sl 2 (a0.map Mono.cells)),.c (.sl 2 (b0.map Mono.cells)),.c y] μ λr μ'=>r=.tup []/\J (bE a0 b0) μ':=by
 intro y J μ hy h0
 refine zW func186 O ntmps186 results186 O λz hz=>zS<|zT ⟨[(0,.c _),(1,.c _),(2,.c _)],_⟩ (Weak.regs oH)<|zHw 2 O (List Mono×List Mono×List Tr×List E) (λ⟨a,b,d,m⟩=>[(0,.c (.sl 2 (a.map Mono.cells))),(1,.c (.sl 2 (b.map Mono.cells)))]) (λ⟨a,b,d,m⟩=>m) (λ⟨a,b,d,m⟩=>a.length<=4294967296/\b.length<=4294967296/\bE a0 b0=d++bE a b/\J d m) (λ⟨a,b,d,m⟩=>a.length+b.length) ⟨⟨a0,b0,[],μ⟩,⟨ha0,hb0,O,h0⟩,Weak.regs oH⟩ ?_
 rintro ⟨a,b,d,m⟩ ⟨hal,hbl,hm,hJ⟩
 refine zF<|oo O O<|qC O N<|sf O<|G O<|oL O (λg0_3=>zQ O O) O<|oG 10 O (λg0_3=>yH O N O) O<|oG 11 O (λg0_3=>kE O O O) O<|oN O (λh=>(oY h))<|zA<|zK O ?_ ?_<;>intro c1<;>try simp only [sx] at c1
 ·refine zJ<|zS<|zS<|zF<|yE 20 mixed uB O O<|ou O (zQ O O)<|ou O (yH O N O)<|ou O (yU O O O)<|ou O (zQ O O)<|qR [] O O O O oP T (λg3_3=>zQ O O) O<|qR [(37,_)] O O O O oP ⟨O,O,T⟩ (λg3_3=>yH O N O) O<|qR [(38,_)] O O O O oP ⟨O,O,T⟩ (λg3_3=>kE O O O) O<|qR [(39,_)] O O O O oP ⟨O,O,T⟩ (λg3_3=>zQ O O) O<|qR [] O O O O oW T (λg3_7=>zQ O O) O<|qR [(41,_)] O O O O oW ⟨O,O,T⟩ (λg3_7=>qI O N O O xK5 (oI (SF xK5))) O<|qR [(42,_)] O O O O oW ⟨O,O,T⟩ (λg3_7=>qO O wH O) O<|qR [(43,_)] O O O O oW ⟨O,O,T⟩ (λg3_7=>zH O uB O qE O) O<|qR [] O O O O oW T (λg3_7=>zQ O O) O<|qR [(45,_)] O O O O oW ⟨O,O,T⟩ (λg3_7=>qI O N O O xK5 (oI (SF xK5))) O<|qR [(46,_)] O O O O oW ⟨O,O,T⟩ (λg3_7=>qO O wH O) O<|qR [(47,_)] O O O O oW ⟨O,O,T⟩ (λg3_7=>zH O uB O qE O) O<|qR [(44,_),(48,_)] O O O O oW ⟨O,O,O,O,T⟩ (λg3_7=>EF O O O) O<|qR [(40,_)] O O O O oP ⟨O,O,T⟩ (λg3_3=>wX O O O (λh=>kO uC h) O) O<|ou O (tj O O O O (λh=>(oY h)))<|ou O (yK O O)<|yY<|zA<|zK O (λc2=>?_) (λc2=>?_)
  ·have hL:=Ir zB c2
   have hdec:(a.drop 1).length+(b).length<a.length+b.length:=by simp only [cu];omega
   have hm1:bE a0 b0=(d++[((ud a).Name,(ud a).By,0)])++bE (a.drop 1) (b):=by rw [hm,hL.2];simp
   refine zF<|yE 9 mixed uB O O<|ou O (zQ O O)<|ou O (zQ O O)<|ou O (qI O N O O zB (oI (SF zB)))<|ou O (qO O wH O)<|ou O (zH O uB O qE O)<|ou O (zQ O O)<|ou O (qI O N O O zB (oI (SF zB)))<|ou O (qO O AD O)<|ou O (zH O W O qE O)<|yY<|qB O O (VC O O (hy d ((ud a).Name,(ud a).By,0) _ m (by rw [hm1,tu];rfl) hJ) (oy O)) ?_
   rintro _ m1 ⟨rfl,hJ1⟩
   refine zA<|zP O<|G O<|zX O (zJc (k:=1) O N O O zB)<|G O<|zA ?_
   exact v18
  ·have hb1:=mC2_b c2
   refine zF<|yE 15 mixed uB O O<|ou O (zQ O O)<|ou O (yH O N O)<|ou O (yU O O O)<|ou O (zQ O O)<|qR [] O O O O oP T (λg6_3=>zQ O O) O<|qR [(69,_)] O O O O oP ⟨O,O,T⟩ (λg6_3=>qI O N O O xK6 (oI (SF xK6))) O<|qR [(70,_)] O O O O oP ⟨O,O,T⟩ (λg6_3=>qO O wH O) O<|qR [(71,_)] O O O O oP ⟨O,O,T⟩ (λg6_3=>zH O uB O qE O) O<|qR [] O O O O oP T (λg6_3=>zQ O O) O<|qR [(73,_)] O O O O oP ⟨O,O,T⟩ (λg6_3=>qI O N O O xK6 (oI (SF xK6))) O<|qR [(74,_)] O O O O oP ⟨O,O,T⟩ (λg6_3=>qO O wH O) O<|qR [(75,_)] O O O O oP ⟨O,O,T⟩ (λg6_3=>zH O uB O qE O) O<|qR [(72,_),(76,_)] O O O O oP ⟨O,O,O,O,T⟩ (λg6_3=>EF O O O) O<|ou O (tj O O O O (λh=>(oY h)))<|ou O (yK O O)<|yY<|zA<|zK O (λc3=>?_) (λc3=>?_)
   ·have hL:=Fx zB c2 c3
    have hdec:(a).length+(b.drop 1).length<a.length+b.length:=by simp only [cu];omega
    have hm1:bE a0 b0=(d++[((ud b).Name,0,(ud b).By)])++bE (a) (b.drop 1):=by rw [hm,hL.2];simp
    refine zF<|yE 9 mixed uB O O<|ou O (zQ O O)<|ou O (zQ O O)<|ou O (qI O N O O zB (oI (SF zB)))<|ou O (qO O wH O)<|ou O (zH O uB O qE O)<|ou O (zQ O O)<|ou O (qI O N O O zB (oI (SF zB)))<|ou O (qO O AD O)<|ou O (zH O W O qE O)<|yY<|qB O O (VC O O (hy d ((ud b).Name,0,(ud b).By) _ m (by rw [hm1,tu];rfl) hJ) (oy O)) ?_
    rintro _ m1 ⟨rfl,hJ1⟩
    refine zA<|zP O<|G O<|zX O (zJc (k:=1) O N O O zB)<|G O<|zA ?_
    exact v18
   ·have hL:=Iq c2 c3
    have hdec:(a.drop 1).length+(b.drop 1).length<a.length+b.length:=by simp only [cu];omega
    have hm1:bE a0 b0=(d++[((ud a).Name,(ud a).By,(ud b).By)])++bE (a.drop 1) (b.drop 1):=by rw [hm,hL.2.2];simp
    refine zF<|yE 13 mixed uB O O<|ou O (zQ O O)<|ou O (zQ O O)<|ou O (qI O N O O zB (oI (SF zB)))<|ou O (qO O wH O)<|ou O (zH O uB O qE O)<|ou O (zQ O O)<|ou O (qI O N O O zB (oI (SF zB)))<|ou O (qO O AD O)<|ou O (zH O W O qE O)<|ou O (zQ O O)<|ou O (qI O N O O zB (oI (SF zB)))<|ou O (qO O AD O)<|ou O (zH O W O qE O)<|yY<|qB O O (VC O O (hy d ((ud a).Name,(ud a).By,(ud b).By) _ m (by rw [hm1,tu];rfl) hJ) (oy O)) ?_
    rintro _ m1 ⟨rfl,hJ1⟩
    refine zA<|yE 6 mixed uB O O<|ou O (zQ O O)<|ou O (zJc (k:=1) O N O O zB)<|ou O (zQ O O)<|ou O (zJc (k:=1) O N O O zB)<|ou O (yK O O)<|ou O (yK O O)<|yY<|zA ?_
    exact v18
 ·refine qL ?_
  repeat (first|refine kJ ?_|refine kB ?_)
  refine wK<|CQ ?_
  exact ⟨O,by rw [hm,show a=[] from bi zB,show b=[] from bi zB,zHt,rk];exact hJ⟩
def MO (bo bl:Nat) (ok:Bool) (K:Int) (sv:Value) (d:List Tr) (t:Tr) (h1:oQ t.2.1) (h2:oQ t.2.2) (hd:d.length<=8589934592):
    Con cfg 187 [vS t.1,vI t.2.1,vI t.2.2,.c (.lit (.pointer (some ⟨bo,0,none⟩))),.c (.lit (.pointer (some ⟨bl,0,none⟩)))] [E.row bo 4 [cB (IC ok (d))],E.vec sv 139 2 ((lP (d)).map Mono.cells),E.row bl 59 [cI K,.lit sv]] λr μ'=>r=.tup []/\∃sv',μ'=[E.row bo 4 [cB (IC ok (d++[t]))],E.vec sv' 139 2 ((lP (d++[t])).map Mono.cells),E.row bl 59 [cI K,.lit sv']]:=by
 refine zW func187 O ntmps187 results187 O λz hz=>oo O O<|G O<|qK O uB (Fk t.2.1 t.2.2 h1 h2) (oy O)<|qW O<|yF O<|yF O<|G O<|om O<|Y O<|zE uB (J 0 O) O<|G O<|oL O (λg1_1=>zQ O O) O<|kF O (λh=>h)<|ow 0 sz4 O<|zA<|oo O O<|yL O<|zA<|zK O ?_ ?_<;>intro c1<;>try simp only [sx] at c1
 ·refine zP O<|zC O kA<|zE uB (J 2 O) O<|G O<|G O<|yI O te uf<|yT O N te<|oM O (qZ 1 O N O O O (by have:=zVn d;simp only [pc,qp,pw,qw];omega) (by have:=zVn d;simp only [pc,qp,pw,qw];omega)) λsv1=>zC O kA<|ow 2 AA O<|zA ?_
  repeat (first|refine kJ ?_|refine kB ?_)
  refine wK<|CQ ?_
  exact ⟨O,_,by rw [zIv,W5,aa (show ¬rh (ti t)=0 from c1),ah];rfl⟩
 ·refine zJ ?_
  repeat (first|refine kJ ?_|refine kB ?_)
  refine wK<|CQ ?_
  exact ⟨O,_,by rw [zIv,W5,ab (show rh (ti t)=0 from c1),rk];rfl⟩
def C1 (a b:Lf) (ha:a.L.length<=4294967296) (hb:b.L.length<=4294967296) (hra:a.rng) (hrb:b.rng):
    oK cfg 132 [dF a,dF b] (.tup [dF (gS a b).1,vI (gS a b).2]):=by
 refine zW func132 O ntmps132 results132 O λz hz=>Y O<|oi O λb1=>oi O λb2=>oM O (qJ [none,some 2] O U O) λb3=>om O<|zF<|Y O<|zN yV (J 2 O) O<|qK O uB (VE a zB) (oy O)<|yL O<|G O<|oL O (λg1_3=>qA O yV O (J 1 O) O) O<|oG 12 O (λg1_3=>qP O uB (VE b zB) (oy O)) O<|oG 13 O (λg1_3=>wI O O O) O<|oN O (λh=>(oY h))<|zA<|zK O ?_ ?_<;>intro c1<;>try simp only [sx] at c1
 ·refine Y O<|yO [none,some 2] O U qe<|ow 0 oZ O<|om O<|zM<|oJ (zY yV O (J 0 O) O) (ox O) ?_
  rw [Xp c1];rfl
 ·have hla:=Z5 c1.1
  have hlb:=Z5 c1.2
  refine zJ<|Y O<|oM O (yA O U) λb4=>yQ _ (kD 139 2)<|zA<|Y O<|oM O (yA O zr4) λb6=>zA<|Y O<|zC O ui<|zE W (J 5 O) O<|zC O ui<|zE W (J 4 O) O<|qK O uB (Fk a.K b.K hra.1 hrb.1) (oy O)<|qW O<|yF O<|yF O<|zC O ui<|ow 2 sz2 O<|ow 0 sz4 O<|zA<|Y O<|zC O kA<|zE uB (J 5 O) O<|zC O kA<|zE uB (J 4 O) O<|zX O (VJ O O O O O)<|qB O O (Sz O uB (Con.frame (M4 a.L b.L ha hb _ (λd m=>∃sv,m=[E.row b6 4 [cB (IC (decide (oQ (a.K+b.K))) (d))],E.vec sv 139 2 ((lP (d)).map Mono.cells),E.row b4 59 [cI (rh (a.K+b.K)),.lit sv]]) _ (λd t s m he hj=>by obtain ⟨sv,rfl⟩:=hj;obtain ⟨k1,k2,k3⟩:=M5 hra.2 hrb.2 he;exact FnCon.of_con (first:=[]) (cap:=[.lit (.pointer (some ⟨b6,0,none⟩)),.lit (.pointer (some ⟨b4,0,none⟩))]) uB (MO b6 b4 (decide (oQ (a.K+b.K))) (rh (a.K+b.K)) sv d t k1 k2 zB)) ⟨_,O⟩) _) (oy O)) ?_
  rintro _ _ ⟨_,⟨rfl,sv7,rfl⟩,rfl⟩
  refine zA<|zF<|Y O<|zE uB (J 0 O) O<|kQ O<|zA<|zK O ?_ ?_<;>intro c2<;>try simp only [sx] at c2
  ·refine Y O<|yO [none,some 2] O U qe<|ow 3 oZ O<|om O<|zM<|oJ (zY yV O (J 3 O) O) (ox O) ?_
   rw [Xr hla hlb c2];rfl
  ·refine zJ<|Y O<|zN yV (J 2 O) O<|ow 3 oZ O<|om O<|zT _ (yJ 1 O (regs':=[(35,.agg [_,_])]) (μ':=[_,_,_,_,_]) ⟨FLe.agg ⟨.inl O,.inr ⟨O,O⟩,T⟩,T⟩ ⟨EFle.refl _,EFle.row (ds:=[_,_]) ⟨.inl O,.inr ⟨O,O⟩,T⟩,EFle.row (ds:=[_,_]) ⟨.inl O,.inr ⟨O,O⟩,T⟩,EFle.refl _,EFle.refl _,T⟩)<|zM<|oJ (zY yV O (J 2 O) O) (ox O) ?_
   rw [Xs hla hlb c2];rfl
def xt (l:Lf) (s:nq) (u:Lf) (hl:l.L.length<=4294967296) (ht:u.L.length<=4294967296) (hrl:l.rng) (hrt:u.rng):
    oK cfg 71 [dF l,vS s,dF u] (.tup [dF (bX l s u).1,vI (bX l s u).2]):=by
 refine zW func71 O ntmps71 results71 O ?_
 intro z hz
 obtain ⟨hs1,hs2⟩:=NE u (bO l.L s)
 obtain ⟨hr1,hr2⟩:=Gl hrl s
 refine Y O<|oi O λb1=>oi O λb2=>oM O (qJ [none,some 2] O U O) λb3=>om O<|zF<|Y O<|zN yV (J 2 O) O<|qK O uB (VE l zB) (oy O)<|yL O<|G O<|oL O (λg1_3=>zQ O O) O<|oG 18 O (λg1_3=>qP O uB (zJj s) (oy O)) O<|oG 19 O (λg1_3=>wM O O) O<|oN O (λh=>(oY h))<|G O<|oL O (λg1_8=>qA O yV O (J 1 O) O) O<|oG 23 O (λg1_8=>qP O uB (VE u zB) (oy O)) O<|oG 24 O (λg1_8=>wI O O O) O<|oN O (λh=>(oY h))<|zA<|zK O ?_ ?_<;>intro c1<;>try simp only [sx] at c1
 ·refine Y O<|yO [none,some 2] O U qe<|ow 0 oZ O<|om O<|zM<|oJ (zY yV O (J 0 O) O) (ox O) ?_
  rw [RI c1];rfl
 ·refine zJ<|Y O<|zC O ui<|zE W (J 2 O) O<|yI O U qe<|oM O (yA O U) λb4=>yQ _ (kD 139 2)<|ow 1 oZ O<|zA<|ol O O<|zF<|Y O<|zC O kA<|zE uB (J 4 O) O<|qC O N<|om O<|zS<|zT ⟨[(34,.c _),(9,.c _),(1,.c _),(5,.c _),(6,.c _),(8,.c _),(32,.c _),(33,.c _)],[_,_,_,_]⟩ (oz [true,true,true,true,false] oH O)<|qG 2 2 O O (Nat×Value) (λ⟨k,sv⟩=>[(34,vI k),(9,vI (bO (l.L.take k) s))]) (λ⟨k,sv⟩=>[E.vec sv 139 2 (((l.L.take k).filter (λm=> !decide (m.Name=s))).map Mono.cells),E.row b4 59 [cI l.K,.lit sv]]) (λ⟨k,sv⟩=>k<=l.L.length) (λ⟨k,sv⟩=>l.L.length-k) ⟨⟨0,_⟩,zB,oz [true,true,true,true] ⟨zD,VLe.of_eq (O),zD,zD,zD,zD,zD,zD,T⟩ O⟩ ?_
  rintro ⟨k,sv⟩ hk
  show oU _ _ _ _ _ ⟨[(34,vI k),(9,vI (bO (l.L.take k) s))]++_,[E.vec sv 139 2 (((l.L.take k).filter (λm=> !decide (m.Name=s))).map Mono.cells),E.row b4 59 [cI l.K,.lit sv]]++_⟩
  refine Y O<|yC O<|zA<|zF<|zK O ?_ ?_<;>intro c2<;>try simp only [sx] at c2
  ·obtain ⟨x,hx⟩:=qX l.L k zB
   refine zJ<|zF<|zS<|Y O<|qF O N zB (oI uC)<|zN Eb qE O<|oM O (yA O te) λb6=>ow 0 tg O<|zA<|zF<|Y O<|zC O wH<|zE uB (J 0 O) O<|G O<|wF O<|zA<|zK O ?_ ?_<;>intro c3<;>try simp only [sx] at c3
   ·refine Y O<|zC O AD<|zE W (J 0 O) O<|om O<|qL<|zP O<|qH O ⟨zB,zB⟩<|G O<|zA ?_
    exact v29
   ·refine zJ<|zP O<|zC O kA<|zE uB (J 2 O) O<|zN Eb (J 0 O) O<|yT O N te<|oM O (qZ 1 O N O O O (by have:=dw (λm:Mono=> !decide (m.Name=s)) (l.L.take k);simp only [pc,qp,pw,qw,ap] at *;omega) (by have:=dw (λm:Mono=> !decide (m.Name=s)) (l.L.take k);simp only [pc,qp,pw,qw,ap] at *;omega)) λsv7=>zC O kA<|ow 2 AA O<|zA<|zP O<|qH O ⟨zB,zB⟩<|G O<|zA ?_
    exact v29
  ·rw [yG (l:=l.L) (k:=k) zB]
   refine qL<|Y O<|zN yV (J 3 O) O<|G O<|qK O uB (MP u (bO l.L s) ht hrt (zQz hrl s)) (oy O)<|qW O<|kG O<|yF O<|oM O (qJ [none,some 2] O U O) λb8=>ow 0 oZ O<|om O<|zF<|oo O O<|yL O<|zA<|zK O ?_ ?_<;>intro c4<;>try simp only [sx] at c4
   ·refine Y O<|yO [none,some 2] O U qe<|G O<|ow 3 oZ O<|om O<|zM<|oJ (zY yV O (J 3 O) O) (ox O) ?_
    rw [RJ c1 c4];rfl
   ·refine zT _ (yJ 1 O (regs':=[]) (μ':=[_,_,_,_]) T ⟨EFle.refl _,EFle.row (ds:=[_,_]) ⟨.inl O,.inr ⟨O,O⟩,T⟩,EFle.refl _,EFle.refl _,T⟩)<|zJ<|Y O<|zN yV (J 1 O) O<|zN yV (J 0 O) O<|qK O uB (C1 (lZ l s) (fQ u (bO l.L s)).1 zB zB hr1 hs1) (oy O)<|kG O<|yF O<|ow 2 oZ O<|om O<|zM<|oJ (zY yV O (J 2 O) O) (ox O) ?_
    rw [RK c1 c4];rfl
end Go.W
end
section
set_option maxRecDepth 10000
namespace Go.W
open Go Go.Eng Go.Proofs Go.L41 Go.Br Tryz
attribute [local irreducible] oU oX TD gF
def IR (x y:Int) (hx:oQ x) (hy:oQ y):
    oK cfg 277 [vI x,vI y] (.tup [vI ((x*y)/18446744073709551616),qu ((x*y)%18446744073709551616).toNat]):=by
 refine zW func277 O ntmps277 results277 O ?_
 intro z hz
 have hA:=Cd hx
 have hB:=Cd hy
 obtain ⟨p1,p2,p3,p4⟩:=uZ (a:=x.natAbs) (b:=y.natAbs) zB zB
 obtain ⟨w1,w2⟩:=Vt hx hy
 have hmid:xB x.natAbs y.natAbs<18446744073709551616:=by unfold xB;omega
 refine oo O O<|om O<|oo O O<|yC O<|G O<|yC O<|zX O (zKz O WJ O O)<|om O<|oo O O<|zX O (wA O uB SI O)<|G O<|zX O (wA O uB SI O)<|G O<|om O<|zF<|oo O O<|yC O<|zA<|zK O ?_ ?_<;>intro c1<;>try simp only [sx] at c1
 ·refine zP O<|G O<|zX O (S6 O O) ?_
  rw [zVx hx c1]
  refine om O<|zF<|oo O O<|yC O<|zA<|zK O (λc2=>?_) (λc2=>?_)
  ·exact r8
  ·exact p6
 ·rw [zVw hx zB]
  refine zJ<|zF<|oo O O<|yC O<|zA<|zK O (λc2=>?_) (λc2=>?_)
  ·exact r8
  ·exact p6
def zHo (a b c:Int) (ha:oQ a) (hb:oQ b) (hc:oQ c):
    oK cfg 244 [vI a,vI b,vI c] (.tup [vI (rh (a+b*c)),vB (decide (oQ (a+b*c)))]):=by
 refine zW func244 O ntmps244 results244 O ?_
 intro z hz
 obtain ⟨z1,z2⟩:=UO hb hc
 refine oo O O<|om O<|oo O O<|G O<|qK O uB (IR b c hb hc) (oy O)<|qW O<|yF O<|yF O<|G O<|om O<|oo O O<|G O<|zX O (wA O uB SI O)<|zX O (qAj O O O)<|om O<|ol O O<|zF<|oo O O<|G O<|yC O<|zA<|zK O ?_ ?_<;>intro c1<;>try simp only [sx] at c1
 ·refine zP O<|om O<|oo O O<|G O<|qH O ⟨zB,zB⟩<|om O<|zF<|oo O O<|yC O<|zA<|zK O (λc2=>?_) (λc2=>?_)
  ·exact n9
  ·exact m9
 ·refine zJ<|oo O O<|G O<|qH O ⟨zB,zB⟩<|om O<|zF<|oo O O<|yC O<|zA<|zK O (λc2=>?_) (λc2=>?_)
  ·exact n9
  ·exact m9
def DD (l:Lf) (by_:Int) (hl:l.L.length<=4294967296) (hr:l.rng) (hb:oQ by_):
    oK cfg 199 [dF l,vI by_] (vB (decide (oQ (l.K*by_))&&gO by_ l.L)):=by
 refine zW func199 O ntmps199 results199 O ?_
 intro z hz
 have z0:oQ 0:=by unfold oQ;omega
 refine Y O<|oi O λb1=>om O<|zF<|Y O<|zC O ui<|zE W (J 0 O) O<|G O<|qK O uB (zHo 0 l.K by_ z0 hr.1 hb) (oy O)<|qW O<|yF O<|yF O<|G O<|om O<|oo O O<|kQ O<|zA<|zK O ?_ ?_<;>intro c1<;>try simp only [sx] at c1
 ·rw [jf] at c1
  refine ol O O<|zM<|zV O ?_
  rw [am c1];rfl
 ·rw [jf] at c1
  refine zJ<|zF<|ol O O<|zS<|zT ⟨[(7,.c _),(1,.c _),(2,.c _)],[_]⟩ (oz [true] oH O)<|qG 1 0 O O (Nat) (λk=>[(7,vI k)]) (λk=>[]) (λk=>k<=l.L.length/\(gO by_ (l.L.take k)=true)) (λk=>l.L.length-k) ⟨0,⟨zB,O⟩,oz [true] oH O⟩ ?_
  rintro k ⟨hk,hp⟩
  refine zF<|oo O O<|zC O kA<|zE uB (J 0 O) O<|qC O N<|yC O<|zA<|zK O ?_ ?_<;>intro c2<;>try simp only [sx] at c2
  ·obtain ⟨x,hx⟩:=qX l.L k zB
   refine zJ<|zF<|zS<|Y O<|zC O kA<|zE uB (J 0 O) O<|G O<|qF O N zB (oI uC)<|qS O AD<|zE W qE O<|G O<|qK O uB (zHo 0 x.By by_ z0 (hr.2 x (qD hx)) hb) (oy O)<|qW O<|yF O<|yF O<|G O<|om O<|oo O O<|kQ O<|zA<|zK O ?_ ?_<;>intro c3<;>try simp only [sx] at c3
   ·rw [jf] at c3
    refine ol O O<|zM<|zV O ?_
    rw [Ja hx c3,dj]
   ·rw [jf] at c3
    refine zJ<|zP O<|G O<|qH O ⟨zB,zB⟩<|G O<|zA ?_
    refine ⟨k+1,⟨zB,DM hx hp c3⟩,zB,oz [true] oH O⟩
  ·refine qL<|ol O O<|zM<|zV O ?_
   rw [yG zB] at hp
   rw [hp,al c1];rfl
def zTr (l:Lf) (s:nq) (u:Lf) (hl:l.L.length<=4294967296) (ht:u.L.length<=4294967296) (hrl:l.rng) (hrt:u.rng):
    oK cfg 70 [dF l,.c (.iptr [cS s]),.c (.iptr u.cells)] (.tup [dF (bX l s u).1,vI (bX l s u).2]):=by
 refine zW func70 O ntmps70 results70 O λz hz=>Y O<|oi O λb1=>oM O (qJ [none,some 2] O U O) λb2=>om O<|Y O<|zN yV (J 1 O) O<|zE uB qE O<|zN yV qE O<|qK O uB (xt l s u hl ht hrl hrt) (oy O)<|kG O<|yF O<|ow 0 oZ O<|om O<|zM<|oJ (zY yV O (J 0 O) O) (ox O) ?_
 exact O
def zNl (e:Ex) (s:nq) (u:Lf) (he:e.wt<=4294967296) (hP:e.allF Lf.rng) (ht:u.L.length<=4294967296) (hrt:u.rng):
    oK cfg 27 [vE e,vS s,dF u] (.tup [vE (lG (pj (λl=>bX l s u) e)),vI (gM (pj (λl=>bX l s u) e))]):=by
 refine zW func27 O ntmps27 results27 O λz hz=>Y O<|oi O λb1=>oi O λb2=>oi O λb3=>oM O (qJ nt O pd O) λb4=>om O<|Y O<|zN yX (J 3 O) O<|zX O (VJ O O O O O)<|yQ _ (kR 2 O 9 (.c (.fn _ _ [_,_])) (PLe.fn ⟨.inr ⟨O,O⟩,.inl O,T⟩))<|yQ _ (kR 1 O 9 (.c (.fn _ _ [_,_])) (PLe.fn ⟨.inl O,.inr ⟨O,O⟩,T⟩))<|qK O uB (Dg (λl=>bX l s u) _ Lf.rng (λl hr hl=>FnPur.of_pur (first:=[]) (cap:=[.iptr [cS s],.iptr u.cells]) uB (zTr l s u hl ht hr hrt)) e hP he) (oy O)<|kG O<|yF O<|ow 0 ph O<|om O<|zM<|oJ (zY yX O (J 0 O) O) (ox O) ?_
 exact O
end Go.W
end
section
set_option maxRecDepth 10000
namespace Go.W
open Go Go.Eng Go.Proofs Go.L41 Go.Br Tryz
attribute [local irreducible] oU oX TD gF
def FU:fD prog 93=some [(0,2),(2,1),(3,1)]:=by kernel_rfl
def Nr (a b:Lf) (c:Int) (ha:a.L.length<=4294967296) (hb:b.L.length<=4294967296) (hra:a.rng) (hrb:b.rng) (hc:oQ c) (hne:∀m,m∈a.L->m.By≠0):
    oK cfg 200 [dF a,dF b,vI c] (.tup [dF (mV (a.K+b.K*c) (mK c (bE a.L b.L))).1,vI (mV (a.K+b.K*c) (mK c (bE a.L b.L))).2]):=by
 refine zW func200 O ntmps200 results200 O ?_
 intro z hz
 have z0:oQ 0:=by unfold oQ;omega
 refine Y O<|oi O λb1=>oi O λb2=>oM O (qJ [none,some 2] O U O) λb3=>om O<|Y O<|zC O ui<|zE W (J 2 O) O<|zC O ui<|zE W (J 1 O) O<|G O<|qK O uB (zHo a.K b.K c hra.1 hrb.1 hc) (oy O)<|qW O<|yF O<|yF O<|G O<|om O<|oo O O<|yI O U qe<|oM O (yA O U) λb4=>yQ _ (kD 139 2)<|ow 1 oZ O<|zA<|oo O O<|om O<|zF<|zS<|zT ⟨[(9,.c _),(11,.c _),(12,.c _),(2,.c _),(3,.c _),(4,.c _),(6,.c _),(10,.c _)],[_,_,_,_,_]⟩ (oz [true,true,true,true,true] oH O)<|qG 3 2 O O (Nat×Nat×List Tr×Value) (λ⟨i,n,d,sv⟩=>[(9,vB (IC (decide (oQ (a.K+b.K*c))) (mK c d))),(11,vI i),(12,vI n)]) (λ⟨i,n,d,sv⟩=>[E.vec sv 139 2 ((lP (mK c d)).map Mono.cells),E.row b4 59 [cI (rh (a.K+b.K*c)),.lit sv]]) (λ⟨i,n,d,sv⟩=>i<=a.L.length/\n<=b.L.length/\bE a.L b.L=d++bE (a.L.drop i) (b.L.drop n)) (λ⟨i,n,d,sv⟩=>(a.L.length-i)+(b.L.length-n)) ⟨⟨0,0,[],.slice none 0 0⟩,⟨zB,zB,O⟩,oz [true,true,true,true,true] oH O⟩ ?_
 rintro ⟨i,n,d,sv⟩ ⟨hia,hnb,hm⟩
 show oU _ _ _ _ _ ⟨[(9,vB (IC (decide (oQ (a.K+b.K*c))) (mK c d))),(11,vI i),(12,vI n)]++_,[E.vec sv 139 2 ((lP (mK c d)).map Mono.cells),E.row b4 59 [cI (rh (a.K+b.K*c)),.lit sv]]++_⟩
 refine zF<|oo O O<|zC O kA<|zE uB (J 4 O) O<|qC O N<|yC O<|G O<|oL O (λg4_5=>zQ O O) O<|oL O (λg4_5=>zG O kA O) O<|oG 36 O (λg4_5=>zH O uB O (J 3 O) O) O<|oG 37 O (λg4_5=>yH O N O) O<|oV [(35,_),(38,_)] O oP ⟨O,O,O,O,T⟩ (λg4_5=>Ad O O O) O<|oN O (λh=>(oY h))<|zA<|zK O ?_ ?_<;>intro c1<;>try simp only [sx] at c1
 ·refine zJ<|zS<|oo O O<|G O<|om O<|zF<|zF<|yE 27 mixed uB O O<|ou O (zQ O O)<|ou O (zG O kA O)<|ou O (zH O uB O (J 3 O) O)<|ou O (yH O N O)<|ou O (yU O O O)<|ou O (zQ O O)<|qR [] O O O O oP T (λg6_5=>zQ O O) O<|qR [] O O O O oP T (λg6_5=>zG O kA O) O<|qR [(48,_)] O O O O oP ⟨O,O,T⟩ (λg6_5=>zH O uB O (J 4 O) O) O<|qR [(49,_)] O O O O oP ⟨O,O,T⟩ (λg6_5=>yH O N O) O<|qR [(47,_),(50,_)] O O O O oP ⟨O,O,O,O,T⟩ (λg6_5=>Ad O O O) O<|qR [(51,_)] O O O O oP ⟨O,O,T⟩ (λg6_5=>zQ O O) O<|qR [] O O O O oW T (λg6_11=>zG O kA O) O<|qR [(53,_)] O O O O oW ⟨O,O,T⟩ (λg6_11=>zH O uB O (J 4 O) O) O<|qR [] O O O O oW T (λg6_11=>zQ O O) O<|qR [(54,_),(55,_)] O O O O oW ⟨O,O,O,O,T⟩ (λg6_11=>qI O N O O xK7 (oI (Ea xK7))) O<|qR [(56,_)] O O O O oW ⟨O,O,T⟩ (λg6_11=>qO O wH O) O<|qR [(57,_)] O O O O oW ⟨O,O,T⟩ (λg6_11=>zH O uB O qE O) O<|qR [] O O O O oW T (λg6_11=>zG O kA O) O<|qR [(59,_)] O O O O oW ⟨O,O,T⟩ (λg6_11=>zH O uB O (J 3 O) O) O<|qR [] O O O O oW T (λg6_11=>zQ O O) O<|qR [(60,_),(61,_)] O O O O oW ⟨O,O,O,O,T⟩ (λg6_11=>qI O N O O xK7 (oI (Ea xK7))) O<|qR [(62,_)] O O O O oW ⟨O,O,T⟩ (λg6_11=>qO O wH O) O<|qR [(63,_)] O O O O oW ⟨O,O,T⟩ (λg6_11=>zH O uB O qE O) O<|qR [(58,_),(64,_)] O O O O oW ⟨O,O,O,O,T⟩ (λg6_11=>Ph O O O) O<|qR [(52,_)] O O O O oP ⟨O,O,T⟩ (λg6_5=>wX O O O (λh=>kO uC h) O) O<|ou O (tj O O O O (λh=>(oY h)))<|yY<|zA<|zK O (λc2=>?_) (λc2=>?_)
  ·have hi:=sum_t (a:=a.L) (b:=b.L) (i:=i) (n:=n) zB hnb c2
   refine Y O<|zC O kA<|zE uB (J 4 O) O<|G O<|qF O N zB (oI (Ea zB))<|qS O wH<|zE uB qE O<|om O<|zP O<|zC O kA<|zE uB (J 4 O) O<|G O<|qF O N zB (oI (Ea zB))<|qS O AD<|zE W qE O<|om O<|zF<|oo O O<|zC O kA<|zE uB (J 3 O) O<|qC O N<|yC O<|G O<|oL O (λg10_5=>zG O kA O) O<|oG 92 O (λg10_5=>zH O uB O (J 3 O) O) O<|oL O (λg10_5=>zQ O O) O<|oV [(93,_),(94,_)] O oP ⟨O,O,O,O,T⟩ (λg10_5=>qI O N O O xK8 (oI (Ea xK8))) O<|oG 95 O (λg10_5=>qO O wH O) O<|oG 96 O (λg10_5=>zH O uB O qE O) O<|oL O (λg10_5=>zQ O O) O<|oV [(97,_),(98,_)] O oP ⟨O,O,O,O,T⟩ (λg10_5=>VL O O O) O<|kF O (λh=>h)<|zA<|zK O (λc3=>?_) (λc3=>?_)
   ·obtain ⟨hn1,hL⟩:=Zq (a:=a.L) (b:=b.L) (i:=i) (n:=n) hi c3
    have hm1:bE a.L b.L=(d++[((qi a.L i).Name,(qi a.L i).By,(qi b.L n).By)])++bE (a.L.drop (i+1)) (b.L.drop (n+1)):=by rw [hm,hL];simp
    refine Y O<|zC O kA<|zE uB (J 3 O) O<|G O<|qF O N zB (oI (Ea zB))<|qS O AD<|zE W qE O<|om O<|zP O<|G O<|qH O ⟨zB,zB⟩<|om O<|zF<|oo O O<|yL O<|zA<|zK O ?_ ?_<;>intro c4<;>try simp only [sx] at c4
    ·refine zP O<|G O<|qH O ⟨zB,zB⟩<|om O<|oo O O<|G O<|G O<|qK O uB (zHo _ _ c (by first|exact z0|exact hra.2 _ (Xn hi)) (by first|exact z0|exact hrb.2 _ (Xn hn1)) hc) (oy O)<|qW O<|yF O<|yF O<|G O<|om O<|oo O O<|G O<|oL O (λg16_1=>zQ O O) O<|kF O (λh=>h)<|om O<|oo O O<|yL O<|zA<|zK O ?_ ?_<;>intro c5<;>try simp only [sx] at c5
     ·refine zP O<|zC O kA<|zE uB (J 1 O) O<|G O<|G O<|yI O te uf<|yT O N te<|oM O (qZ 0 O N O O O (by have:=zKg c d;have:=ai List.length hm1;have:=VH a.L b.L;simp only [pc,qp,pw,qw] at *;omega) (by have:=zKg c d;have:=ai List.length hm1;have:=VH a.L b.L;simp only [pc,qp,pw,qw] at *;omega)) λsv6=>zC O kA<|ow 1 AA O<|zA ?_
      refine ⟨⟨i+1,n+1,d++[((qi a.L i).Name,(qi a.L i).By,(qi b.L n).By)],sv6⟩,⟨zB,zB,hm1⟩,ZL,oz [true,true,true,true,true] ⟨VLe.of_eq xJ2,zD,zD,zD,zD,zD,zD,zD,T⟩ (by exact W2 (by rw [Z1,W5];rw [aa (show ¬rh (ti ((qi a.L i).Name,(qi a.L i).By,(qi b.L n).By*c))=0 from c5),ah];rfl))⟩
     ·refine zJ ?_
      refine ⟨⟨i+1,n+1,d++[((qi a.L i).Name,(qi a.L i).By,(qi b.L n).By)],sv⟩,⟨zB,zB,hm1⟩,ZL,oz [true,true,true,true,true] ⟨VLe.of_eq xJ2,zD,zD,zD,zD,zD,zD,zD,T⟩ (by exact W2 (by rw [Z1,W5];rw [ab (show rh (ti ((qi a.L i).Name,(qi a.L i).By,(qi b.L n).By*c))=0 from c5),rk]))⟩
    ·exact absurd c4 (hne _ (Xn hi))
   ·have hL:=Zp (a:=a.L) (b:=b.L) (i:=i) (n:=n) hi hnb c2 c3
    have hm1:bE a.L b.L=(d++[((qi a.L i).Name,(qi a.L i).By,0)])++bE (a.L.drop (i+1)) (b.L.drop n):=by rw [hm,hL];simp
    refine zJ<|zF<|oo O O<|yL O<|zA<|zK O ?_ ?_<;>intro c4<;>try simp only [sx] at c4
    ·refine zP O<|G O<|qH O ⟨zB,zB⟩<|om O<|oo O O<|G O<|G O<|qK O uB (zHo _ _ c (by first|exact z0|exact hra.2 _ (Xn hi)) (by first|exact z0|exact hrb.2 _ (Xn hn1)) hc) (oy O)<|qW O<|yF O<|yF O<|G O<|om O<|oo O O<|G O<|oL O (λg16_1=>zQ O O) O<|kF O (λh=>h)<|om O<|oo O O<|yL O<|zA<|zK O ?_ ?_<;>intro c5<;>try simp only [sx] at c5
     ·refine zP O<|zC O kA<|zE uB (J 1 O) O<|G O<|G O<|yI O te uf<|yT O N te<|oM O (qZ 0 O N O O O (by have:=zKg c d;have:=ai List.length hm1;have:=VH a.L b.L;simp only [pc,qp,pw,qw] at *;omega) (by have:=zKg c d;have:=ai List.length hm1;have:=VH a.L b.L;simp only [pc,qp,pw,qw] at *;omega)) λsv7=>zC O kA<|ow 1 AA O<|zA ?_
      refine ⟨⟨i+1,n,d++[((qi a.L i).Name,(qi a.L i).By,0)],sv7⟩,⟨zB,zB,hm1⟩,ZL,oz [true,true,true,true,true] ⟨VLe.of_eq xJ2,zD,zD,zD,zD,zD,zD,zD,T⟩ (by exact W2 (by rw [Z1,W5];rw [aa (show ¬rh (ti ((qi a.L i).Name,(qi a.L i).By,0*c))=0 from c5),ah];rfl))⟩
     ·refine zJ ?_
      refine ⟨⟨i+1,n,d++[((qi a.L i).Name,(qi a.L i).By,0)],sv⟩,⟨zB,zB,hm1⟩,ZL,oz [true,true,true,true,true] ⟨VLe.of_eq xJ2,zD,zD,zD,zD,zD,zD,zD,T⟩ (by exact W2 (by rw [Z1,W5];rw [ab (show rh (ti ((qi a.L i).Name,(qi a.L i).By,0*c))=0 from c5),rk]))⟩
    ·exact absurd c4 (hne _ (Xn hi))
  ·have hn1:=sum_f (a:=a.L) (b:=b.L) (i:=i) (n:=n) hnb c2
   obtain ⟨hL,hs3⟩:=Zo (a:=a.L) (b:=b.L) (i:=i) (n:=n) hn1 c2
   refine zP O<|zC O kA<|zE uB (J 3 O) O<|G O<|qF O N zB (oI (Ea zB))<|qS O wH<|zE uB qE O<|om O<|zF<|oo O O<|zC O kA<|zE uB (J 3 O) O<|qC O N<|yC O<|G O<|oL O (λg10_5=>zG O kA O) O<|oG 92 O (λg10_5=>zH O uB O (J 3 O) O) O<|oL O (λg10_5=>zQ O O) O<|oV [(93,_),(94,_)] O oP ⟨O,O,O,O,T⟩ (λg10_5=>qI O N O O xK8 (oI (Ea xK8))) O<|oG 95 O (λg10_5=>qO O wH O) O<|oG 96 O (λg10_5=>zH O uB O qE O) O<|oL O (λg10_5=>zQ O O) O<|oV [(97,_),(98,_)] O oP ⟨O,O,O,O,T⟩ (λg10_5=>VL O O O) O<|kF O (λh=>h)<|zA<|zK O (λc3=>?_) (λc3=>?_)
   ·have hm1:bE a.L b.L=(d++[((qi b.L n).Name,0,(qi b.L n).By)])++bE (a.L.drop i) (b.L.drop (n+1)):=by rw [hm,hL];simp
    refine Y O<|zC O kA<|zE uB (J 3 O) O<|G O<|qF O N zB (oI (Ea zB))<|qS O AD<|zE W qE O<|om O<|zP O<|G O<|qH O ⟨zB,zB⟩<|om O<|zF<|oo O O<|yL O<|zA<|zK O ?_ ?_<;>intro c4<;>try simp only [sx] at c4
    ·exact absurd T c4
    ·refine zJ<|oo O O<|G O<|G O<|qK O uB (zHo _ _ c (by first|exact z0|exact hra.2 _ (Xn hi)) (by first|exact z0|exact hrb.2 _ (Xn hn1)) hc) (oy O)<|qW O<|yF O<|yF O<|G O<|om O<|oo O O<|G O<|oL O (λg16_1=>zQ O O) O<|kF O (λh=>h)<|om O<|oo O O<|yL O<|zA<|zK O ?_ ?_<;>intro c5<;>try simp only [sx] at c5
     ·refine zP O<|zC O kA<|zE uB (J 1 O) O<|G O<|G O<|yI O te uf<|yT O N te<|oM O (qZ 0 O N O O O (by have:=zKg c d;have:=ai List.length hm1;have:=VH a.L b.L;simp only [pc,qp,pw,qw] at *;omega) (by have:=zKg c d;have:=ai List.length hm1;have:=VH a.L b.L;simp only [pc,qp,pw,qw] at *;omega)) λsv8=>zC O kA<|ow 1 AA O<|zA ?_
      refine ⟨⟨i,n+1,d++[((qi b.L n).Name,0,(qi b.L n).By)],sv8⟩,⟨zB,zB,hm1⟩,ZL,oz [true,true,true,true,true] ⟨VLe.of_eq xJ2,zD,zD,zD,zD,zD,zD,zD,T⟩ (by exact W2 (by rw [Z1,W5];rw [aa (show ¬rh (ti ((qi b.L n).Name,0,(qi b.L n).By*c))=0 from c5),ah];rfl))⟩
     ·refine zJ ?_
      refine ⟨⟨i,n+1,d++[((qi b.L n).Name,0,(qi b.L n).By)],sv⟩,⟨zB,zB,hm1⟩,ZL,oz [true,true,true,true,true] ⟨VLe.of_eq xJ2,zD,zD,zD,zD,zD,zD,zD,T⟩ (by exact W2 (by rw [Z1,W5];rw [ab (show rh (ti ((qi b.L n).Name,0,(qi b.L n).By*c))=0 from c5),rk]))⟩
   ·exact absurd (hs3.symm.trans c3) uA
 ·refine qL<|zF<|oo O O<|kQ O<|zA<|zK O ?_ ?_<;>intro c6<;>try simp only [sx] at c6
  ·refine Y O<|yO [none,some 2] O U qe<|ow 2 oZ O<|om O<|zM<|oJ (zY yV O (J 2 O) O) (ox O) ?_
   rw [hm,LG zB zB,rk,Tg c6];rfl
  ·refine zJ<|Y O<|zN yV (J 1 O) O<|ow 2 oZ O<|om O<|zT _ (yJ 0 O (regs':=[(137,.agg [_,_])]) (μ':=[_,_,_,_]) ⟨FLe.agg ⟨.inl O,.inr ⟨O,O⟩,T⟩,T⟩ ⟨EFle.row (ds:=[_,_]) ⟨.inl O,.inr ⟨O,O⟩,T⟩,EFle.row (ds:=[_,_]) ⟨.inl O,.inr ⟨O,O⟩,T⟩,EFle.refl _,EFle.refl _,T⟩)<|zM<|oJ (zY yV O (J 1 O) O) (ox O) ?_
   rw [hm,LG zB zB,rk,Th c6];rfl
def zEv (l:Lf) (s:nq) (u:Lf) (hl:l.L.length<=4294967296) (ht:u.L.length<=4294967296) (hrl:l.rng) (hrt:u.rng):
    oK cfg 155 [dF l,vS s,dF u] (.tup [dF (bS l s u).1,vI (bS l s u).2]):=by
 refine zW func155 O ntmps155 results155 O ?_
 intro z hz
 obtain ⟨hr1,hr2⟩:=Gl hrl s
 refine Y O<|oi O λb1=>oi O λb2=>oM O (qJ [none,some 2] O U O) λb3=>om O<|zF<|Y O<|zN yV (J 2 O) O<|qK O uB (ZU l zB) (oy O)<|kQ O<|G O<|oL O (λg1_3=>qA O yV O (J 1 O) O) O<|oG 15 O (λg1_3=>qP O uB (ZU u zB) (oy O)) O<|oG 16 O (λg1_3=>wM O O) O<|oN O (λh=>(oY h))<|G O<|oL O (λg1_8=>zQ O O) O<|oG 20 O (λg1_8=>qP O uB (VI s) (oy O)) O<|oG 21 O (λg1_8=>wM O O) O<|oN O (λh=>(oY h))<|zA<|zK O ?_ ?_<;>intro c1<;>try simp only [sx] at c1
 ·have hS:bS l s u=(zL,1):=Jh c1
  refine Y O<|yO [none,some 2] O U qe<|ow 0 oZ O<|om O<|zM<|oJ (zY yV O (J 0 O) O) (ox O) ?_
  rw [hS];rfl
 ·obtain ⟨hl1,hl2,hl3⟩:=NU c1
  refine zJ<|ol O O<|Y O<|zC O ui<|zE W (J 2 O) O<|yI O U qe<|oM O (yA O U) λb4=>yQ _ (kD 139 2)<|ow 1 oZ O<|zA<|zF<|ol O O<|zS<|zT ⟨[(10,.c _),(8,.c _),(1,.c _),(3,.c _),(5,.c _),(6,.c _),(9,.c _)],[_,_,_,_,_]⟩ (oz [true,true,true,true,true] oH O)<|qG 2 2 O O (Nat×Value) (λ⟨k,sv⟩=>[(10,vI k),(8,vI (bO (l.L.take k) s))]) (λ⟨k,sv⟩=>[E.vec sv 139 2 (((l.L.take k).filter (λm=> !decide (m.Name=s))).map Mono.cells),E.row b4 59 [cI l.K,.lit sv]]) (λ⟨k,sv⟩=>k<=l.L.length) (λ⟨k,sv⟩=>l.L.length-k) ⟨⟨0,_⟩,zB,oz [true,true,true,true,true] ⟨zD,VLe.of_eq (O),zD,zD,zD,zD,zD,T⟩ O⟩ ?_
  rintro ⟨k,sv⟩ hk
  show oU _ _ _ _ _ ⟨[(10,vI k),(8,vI (bO (l.L.take k) s))]++_,[E.vec sv 139 2 (((l.L.take k).filter (λm=> !decide (m.Name=s))).map Mono.cells),E.row b4 59 [cI l.K,.lit sv]]++_⟩
  refine zF<|oo O O<|zC O kA<|zE uB (J 4 O) O<|qC O N<|yC O<|zA<|zK O ?_ ?_<;>intro c2<;>try simp only [sx] at c2
  ·obtain ⟨x,hx⟩:=qX l.L k zB
   refine zJ<|zF<|zS<|Y O<|zC O kA<|zE uB (J 4 O) O<|G O<|qF O N zB (oI uC)<|qS O wH<|zE uB qE O<|G O<|wF O<|zA<|zK O ?_ ?_<;>intro c3<;>try simp only [sx] at c3
   ·refine zP O<|zC O kA<|zE uB (J 4 O) O<|G O<|qF O N zB (oI uC)<|qS O AD<|zE W qE O<|om O<|zP O<|G O<|qH O ⟨zB,zB⟩<|G O<|zA ?_
    exact v32
   ·refine yE 8 mixed uB O O<|ou O (zG O kA O)<|ou O (zH O uB O (J 1 O) O)<|ou O (zG O kA O)<|ou O (zH O uB O (J 4 O) O)<|ou O (zQ O O)<|ou O (qI O N O O zB (oI uC))<|ou O (qA O Eb O qE O)<|ou O (kV O N te O O O O)<|yY<|oM O (qZ 0 O N O O O (by have:=dw (λm:Mono=> !decide (m.Name=s)) (l.L.take k);simp only [pc,qp,pw,qw,ap] at *;omega) (by have:=dw (λm:Mono=> !decide (m.Name=s)) (l.L.take k);simp only [pc,qp,pw,qw,ap] at *;omega)) λsv6=>zC O kA<|ow 1 AA O<|zA<|zP O<|G O<|qH O ⟨zB,zB⟩<|G O<|zA ?_
    exact v32
  ·rw [yG (l:=l.L) (k:=k) zB]
   refine qL<|zF<|oo O O<|yR O<|zA<|qQ O (λc4=>?_) (λc4=>?_)
   ·refine Y O<|zN yV (J 4 O) O<|ow 2 oZ O<|om O<|zM<|oJ (zY yV O (J 2 O) O) (ox O) ?_
    rw [GK ⟨hl1,hl2,hl3⟩ c4];rfl
   ·refine zJ<|zF<|Y O<|zN yV (J 3 O) O<|G O<|qK O uB (DD u (bO l.L s) ht hrt (zQz hrl s)) (oy O)<|kQ O<|zA<|zK O ?_ ?_<;>intro c5<;>try simp only [sx] at c5
    ·refine Y O<|yO [none,some 2] O U qe<|ow 2 oZ O<|om O<|zM<|oJ (zY yV O (J 2 O) O) (ox O) ?_
     rw [NV ⟨hl1,hl2,hl3⟩ c4 c5];rfl
    ·refine zT _ (yJ 0 O (regs':=[]) (μ':=[_,_,_,_]) T ⟨EFle.row (ds:=[_,_]) ⟨.inl O,.inr ⟨O,O⟩,T⟩,EFle.refl _,EFle.refl _,EFle.refl _,T⟩)<|zJ<|Y O<|zN yV (J 0 O) O<|zN yV (J 2 O) O<|G O<|qK O uB (Nr (lZ l s) u (bO l.L s) zB ht hr1 hrt (zQz hrl s) (λm hm=>(zHr hl1 m (dg.1 hm).1).1)) (oy O)<|kG O<|yF O<|ow 1 oZ O<|om O<|zM<|oJ (zY yV O (J 1 O) O) (ox O) ?_
     rw [Ji ⟨hl1,hl2,hl3⟩ c4 c5];rfl
def zMj (x:Ix) (s:nq) (u:Lf) (ht:u.L.length<=4294967296) (hrt:u.rng) (hx:x.wt<=4294967296) (hr1:x.Lin.rng) (hr2:∀l,l∈x.At->l.rng):
    oK cfg 156 [jW x,vS s,dF u] (.tup [jW (iT (sq (λl=>bS l s u) x)),vI (gM (sq (λl=>bS l s u) x))]):=by
 refine zW func156 O ntmps156 results156 O ?_
 intro z hz
 have hxw:=hx
 unfold Ix.wt at hxw
 refine Y O<|oi O λb1=>oi O λb2=>oM O (qJ nv O qk O) λb3=>om O<|Y O<|zC O vc<|zN yV (J 2 O) O<|G O<|zN yV (J 1 O) O<|qK O uB (zEv x.Lin s u zB ht hr1 hrt) (oy O)<|qW O<|kG O<|yF O<|oM O (qJ [none,some 2] O U O) λb4=>ow 0 oZ O<|om O<|zF<|oo O O<|yL O<|zA<|zK O ?_ ?_<;>intro c1<;>try simp only [sx] at c1
 ·refine Y O<|yO nv O qk FU<|G O<|ow 1 sh O<|om O<|zM<|oJ (zY vf O (J 1 O) O) (ox O) ?_
  rw [Il c1];rfl
 ·refine zJ<|Y O<|zN yV (J 0 O) O<|zC O AE<|zE uB (J 3 O) O<|yI O qk FU<|oM O (yA O qk) λb5=>yQ _ (kD 139 2)<|yQ _ (kD 59 2)<|ow 2 sh O<|zA<|zF<|ol O O<|zS<|zT ⟨[(11,.c _),(1,.c _),(3,.c _),(5,.c _),(6,.c _),(10,.c _)],[_,_,_,_,_]⟩ (oz [true,false,true,false,true,true,true] oH O)<|qG 1 2 O O (Nat×List Lf×Value) (λ⟨k,outs,sv⟩=>[(11,vI k)]) (λ⟨k,outs,sv⟩=>[E.vec sv 59 2 (outs.map Lf.cells),E.row b5 93 [cI (bS x.Lin s u).1.K,.sl 2 ((bS x.Lin s u).1.L.map Mono.cells),cS x.From,.lit sv]]) (λ⟨k,outs,sv⟩=>k<=x.At.length/\(outs.length=k)/\(dQ (λl=>bS l s u) x.At=bY outs (dQ (λl=>bS l s u) (x.At.drop k)))) (λ⟨k,outs,sv⟩=>x.At.length-k) ⟨⟨0,[],.slice none 0 0⟩,⟨zB,O,(SU _).symm⟩,oz [true,true,true,true,true] oH O⟩ ?_
  rintro ⟨k,outs,sv⟩ ⟨hk,ho,hp⟩
  show oU _ _ _ _ _ ⟨[(11,vI k)]++_,[E.vec sv 59 2 (outs.map Lf.cells),E.row b5 93 [cI (bS x.Lin s u).1.K,.sl 2 ((bS x.Lin s u).1.L.map Mono.cells),cS x.From,.lit sv]]++_⟩
  refine zF<|oo O O<|zC O rt<|zE uB (J 4 O) O<|qC O oS<|yC O<|zA<|zK O ?_ ?_<;>intro c2<;>try simp only [sx] at c2
  ·obtain ⟨l,hl⟩:=qX x.At k zB
   refine zJ<|zF<|zS<|zF<|yN 13 1 [⟨0,.q []⟩,⟨1,.q [5]⟩,⟨2,.q []⟩,⟨3,.q []⟩,⟨4,.q []⟩,⟨5,.q []⟩,⟨6,.q [4]⟩,⟨7,.q []⟩,⟨8,.q []⟩,⟨9,.q []⟩,⟨10,.q []⟩,⟨11,.e 0 []⟩,⟨12,.e 0 []⟩] mixed uB uB O O O<|zR O<|zR O<|zR O<|zR O<|zR O<|zR O<|zR O<|zR O<|zR O<|zR O<|zR O<|zR O<|zR O<|wG<|ot O (zG O rt O)<|ot O (zH O uB O (J 0 O) O)<|ot O (zQ O O)<|ot O (qI O oS O O zB (oI uC))<|ot O (qA O yV O qE O)<|ot O (zQ O O)<|ot O (qA O yV O (J 0 O) O)<|ot O (qP O uB (zEv l s u (by have:=Sr (qD hl);omega) ht (hr2 l (qD hl)) hrt) (oy O))<|ot O (yS O O)<|ot O (kK O O O)<|ot O (kI O O O)<|sk O O uA O O (qJ [none,some 2] O U O) ?_
   rintro _ _ ⟨b8,rfl,rfl⟩
   refine ⟨_,O,?_⟩
   refine uh O O uA O O (yP O oZ O O O (tc 0 O O)) ?_
   rintro _ _ ⟨rfl,rfl⟩
   refine ⟨_,O,?_⟩
   refine wE O<|om O<|zF<|oo O O<|yL O<|zA<|zK O ?_ ?_<;>intro c3<;>try simp only [sx] at c3
   ·refine Y O<|yO nv O qk FU<|G O<|ow 3 sh O<|om O<|zM<|oJ (zY vf O (J 3 O) O) (ox O) ?_
    rw [Im c1 (ya hl hp c3)];rfl
   ·refine zJ<|zP O<|zC O rt<|zE uB (J 2 O) O<|zN yV (J 0 O) O<|yT O oS U<|oM O (qZ 1 O oS O O O uG uG) λsv9=>zC O rt<|ow 2 Vj O<|zA<|zP O<|G O<|qH O ⟨zB,zB⟩<|G O<|zA ?_
    refine ⟨⟨k+1,outs++[(bS l s u).1],sv9⟩,⟨zB,uD,zTf hl hp c3⟩,(by show x.At.length-(k+1)<x.At.length-k;omega),oz [false,true,true,true,true,true] oH (by exact zKr (by rw [ah];rfl))⟩
  ·have hml:=zYr hp zB
   refine zT _ (yJ 0 O (regs':=[]) (μ':=[_,_,_,_]) T ⟨EFle.row (ds:=[_,_,_,_]) ⟨.inl O,.inl O,.inl O,.inr ⟨O,O⟩,T⟩,EFle.refl _,EFle.refl _,EFle.refl _,T⟩)<|qL<|Y O<|zN vf (J 0 O) O<|ow 1 sh O<|om O<|zM<|oJ (zY vf O (J 1 O) O) (ox O) ?_
   rw [In c1 hml];rfl
def zMk (e:Ex) (s:nq) (u:Lf) (ht:u.L.length<=4294967296) (hrt:u.rng) (ih:∀a,a∈e.Args->a.allF Lf.rng->a.wt<=4294967296->oK cfg 95 [vE a,vS s,dF u] (.tup [vE (lG (pj (λl=>bS l s u) a)),vI (gM (pj (λl=>bS l s u) a))])) (hP:e.allF Lf.rng) (he:e.wt<=4294967296):
    oK cfg 95 [vE e,vS s,dF u] (.tup [vE (lG (pj (λl=>bS l s u) e)),vI (gM (pj (λl=>bS l s u) e))]):=by
 refine zW func95 O ntmps95 results95 O ?_
 intro z hz
 obtain ⟨hL,hI,hA⟩:=e.parts he
 have hew:=Ex.wt_eq e
 refine Y O<|oi O λb1=>oi O λb2=>oM O (qJ nt O pd O) λb3=>om O<|Y O<|zC O wJ<|zE uB (J 2 O) O<|zC O Hc<|zE uB (J 2 O) O<|zC O SH<|zN rr (J 2 O) O<|zC O D9<|zN yD (J 2 O) O<|yI O pd qy<|oM O (yA O pd) λb4=>yQ _ (kD 139 2)<|yQ _ (kD 93 4)<|yQ _ (kD 62 13)<|ow 3 ph O<|zA<|Y O<|zC O Ae<|zN yV (J 6 O) O<|G O<|zN yV (J 5 O) O<|qK O uB (zEv e.Lin s u hL ht (Ex.allF_lin hP) hrt) (oy O)<|qW O<|kG O<|yF O<|oM O (qJ [none,some 2] O U O) λb8=>ow 0 oZ O<|om O<|zF<|oo O O<|yL O<|zA<|zK O ?_ ?_<;>intro c1<;>try simp only [sx] at c1
 ·refine Y O<|yO nt O pd qy<|G O<|ow 5 ph O<|om O<|zM<|oJ (zY yX O (J 5 O) O) (ox O) ?_
  rw [Qm c1];rfl
 ·refine zJ<|Y O<|zN yV (J 0 O) O<|zC O Ae<|ow 4 oZ O<|zA<|zF<|ol O O<|zS<|zT ⟨[(11,.c _),(1,.c _),(3,.c _),(5,.c _),(6,.c _),(8,.c _)],[_,_,_,_,_,_]⟩ (oz [false,true,true,false,true,true,true,true] oH O)<|qG 1 3 O O (Nat×List Ix×Value) (λ⟨k,outs,sv⟩=>[(11,vI k)]) (λ⟨k,outs,sv⟩=>[E.vec (.slice none 0 0) 62 13 [],E.vec sv 93 4 (outs.map Ix.cells),E.row b4 62 [cI e.Op,cS e.Name,cI e.Val.N,cI e.Val.D,cI e.Ty.Kind,cI e.Ty.Bits,cI e.Ty.Frac,cI e.Ty.Round,cI e.Ty.Over,cI (bS e.Lin s u).1.K,.sl 2 ((bS e.Lin s u).1.L.map Mono.cells),.lit sv,.lit (.slice none 0 0)]]) (λ⟨k,outs,sv⟩=>k<=e.Idx.length/\(outs.length=k)/\(dR (λl=>bS l s u) e.Idx=bY outs (dR (λl=>bS l s u) (e.Idx.drop k)))) (λ⟨k,outs,sv⟩=>e.Idx.length-k) ⟨⟨0,[],.slice none 0 0⟩,⟨zB,O,(SU _).symm⟩,oz [true,true,true,true,true,true] oH O⟩ ?_
  rintro ⟨k,outs,sv⟩ ⟨hk,ho,hp⟩
  show oU _ _ _ _ _ ⟨[(11,vI k)]++_,[E.vec (.slice none 0 0) 62 13 [],E.vec sv 93 4 (outs.map Ix.cells),E.row b4 62 [cI e.Op,cS e.Name,cI e.Val.N,cI e.Val.D,cI e.Ty.Kind,cI e.Ty.Bits,cI e.Ty.Frac,cI e.Ty.Round,cI e.Ty.Over,cI (bS e.Lin s u).1.K,.sl 2 ((bS e.Lin s u).1.L.map Mono.cells),.lit sv,.lit (.slice none 0 0)]]++_⟩
  refine zF<|oo O O<|zC O kX<|zE uB (J 5 O) O<|qC O oO<|yC O<|zA<|zK O ?_ ?_<;>intro c2<;>try simp only [sx] at c2
  ·obtain ⟨x,hx⟩:=qX e.Idx k zB
   refine zJ<|zF<|zS<|zF<|yN 13 1 [⟨0,.q []⟩,⟨1,.q [6]⟩,⟨2,.q []⟩,⟨3,.q []⟩,⟨4,.q []⟩,⟨5,.q []⟩,⟨6,.q [5]⟩,⟨7,.q []⟩,⟨8,.q []⟩,⟨9,.q []⟩,⟨10,.q []⟩,⟨11,.e 0 []⟩,⟨12,.e 0 []⟩] mixed uB uB O O O<|zR O<|zR O<|zR O<|zR O<|zR O<|zR O<|zR O<|zR O<|zR O<|zR O<|zR O<|zR O<|zR O<|wG<|ot O (zG O kX O)<|ot O (zH O uB O (J 0 O) O)<|ot O (zQ O O)<|ot O (qI O oO O O zB (oI uC))<|ot O (qA O vf O qE O)<|ot O (zQ O O)<|ot O (qA O yV O (J 0 O) O)<|ot O (qP O uB (zMj x s u ht hrt (by have:=Ss (qD hx);omega) (Ex.allF_ix hP (qD hx)) (λl hl=>Ex.allF_at hP (qD hx) hl)) (oy O))<|ot O (yS O O)<|ot O (kK O O O)<|ot O (kI O O O)<|sk O O uA O O (qJ nv O qk O) ?_
   rintro _ _ ⟨b9,rfl,rfl⟩
   refine ⟨_,O,?_⟩
   refine uh O O uA O O (yP O sh O O O (tc 0 O O)) ?_
   rintro _ _ ⟨rfl,rfl⟩
   refine ⟨_,O,?_⟩
   refine wE O<|om O<|zF<|oo O O<|yL O<|zA<|zK O ?_ ?_<;>intro c3<;>try simp only [sx] at c3
   ·refine Y O<|yO nt O pd qy<|G O<|ow 4 ph O<|om O<|zM<|oJ (zY yX O (J 4 O) O) (ox O) ?_
    rw [C9 c1 (Qs hx hp c3)];rfl
   ·refine zJ<|zP O<|zC O kX<|zE uB (J 3 O) O<|zN vf (J 0 O) O<|yT O oO qk<|oM O (qZ 2 O oO O O O uG uG) λsv10=>zC O kX<|ow 3 Jo O<|zA<|zP O<|G O<|qH O ⟨zB,zB⟩<|G O<|zA ?_
    refine ⟨⟨k+1,outs++[iT (sq (λl=>bS l s u) x)],sv10⟩,⟨zB,uD,Io hx hp c3⟩,(by show e.Idx.length-(k+1)<e.Idx.length-k;omega),oz [false,true,true,true,true,true,true] oH (by exact Uk (by rw [ah];rfl))⟩
  ·have hmi:=x7 hp zB
   refine zT _ (yJ 1 O (regs':=[]) (μ':=[_,_,_,_,_]) T ⟨EFle.refl _,EFle.row (ds:=[_,_,_,_,_,_,_,_,_,_,_,_,_]) ⟨.inl O,.inl O,.inl O,.inl O,.inl O,.inl O,.inl O,.inl O,.inl O,.inl O,.inl O,.inr ⟨O,O⟩,.inl O,T⟩,EFle.refl _,EFle.refl _,EFle.refl _,T⟩)<|qL<|zF<|ol O O<|zS<|zT ⟨[(14,.c _),(1,.c _),(3,.c _),(5,.c _),(6,.c _),(8,.c _)],[_,_,_,_,_]⟩ (oz [true,true,true,true,true] oH O)<|qG 1 2 O O (Nat×List Ex×Value) (λ⟨n,exs,sw⟩=>[(14,vI n)]) (λ⟨n,exs,sw⟩=>[E.vec sw 62 13 (exs.map Ex.cells),E.row b4 62 [cI e.Op,cS e.Name,cI e.Val.N,cI e.Val.D,cI e.Ty.Kind,cI e.Ty.Bits,cI e.Ty.Frac,cI e.Ty.Round,cI e.Ty.Over,cI (bS e.Lin s u).1.K,.sl 2 ((bS e.Lin s u).1.L.map Mono.cells),.sl 4 (outs.map Ix.cells),.lit sw]]) (λ⟨n,exs,sw⟩=>n<=e.Args.length/\(exs.length=n)/\(gH (λl=>bS l s u) e.Args=bY exs (gH (λl=>bS l s u) (e.Args.drop n)))) (λ⟨n,exs,sw⟩=>e.Args.length-n) ⟨⟨0,[],.slice none 0 0⟩,⟨zB,O,(SU _).symm⟩,oz [true,true,true,true,true] oH O⟩ ?_
   rintro ⟨n,exs,sw⟩ ⟨hn,hno,hr⟩
   show oU _ _ _ _ _ ⟨[(14,vI n)]++_,[E.vec sw 62 13 (exs.map Ex.cells),E.row b4 62 [cI e.Op,cS e.Name,cI e.Val.N,cI e.Val.D,cI e.Ty.Kind,cI e.Ty.Bits,cI e.Ty.Frac,cI e.Ty.Round,cI e.Ty.Over,cI (bS e.Lin s u).1.K,.sl 2 ((bS e.Lin s u).1.L.map Mono.cells),.sl 4 (outs.map Ix.cells),.lit sw]]++_⟩
   refine zF<|oo O O<|zC O rn<|zE uB (J 4 O) O<|qC O pa<|yC O<|zA<|zK O ?_ ?_<;>intro c4<;>try simp only [sx] at c4
   ·obtain ⟨a,ha⟩:=qX e.Args n zB
    refine zJ<|zF<|zS<|zF<|yN 13 1 [⟨0,.q []⟩,⟨1,.q [5]⟩,⟨2,.q []⟩,⟨3,.q []⟩,⟨4,.q []⟩,⟨5,.q []⟩,⟨6,.q [4]⟩,⟨7,.q []⟩,⟨8,.q []⟩,⟨9,.q []⟩,⟨10,.q []⟩,⟨11,.e 0 []⟩,⟨12,.e 0 []⟩] mixed uB uB O O O<|zR O<|zR O<|zR O<|zR O<|zR O<|zR O<|zR O<|zR O<|zR O<|zR O<|zR O<|zR O<|zR O<|wG<|ot O (zG O rn O)<|ot O (zH O uB O (J 0 O) O)<|ot O (zQ O O)<|ot O (qI O pa O O zB (Aa uC))<|ot O (qA O yX O qE O)<|ot O (zQ O O)<|ot O (qA O yV O (J 0 O) O)<|ot O (qP O uB (ih a (qD ha) (Ex.allF_arg hP (qD ha)) (by have:=Ex.arg_wt (qD ha);omega)) (oy O))<|ot O (yS O O)<|ot O (kK O O O)<|ot O (kI O O O)<|sk O O uA O O (qJ nt O pd O) ?_
    rintro _ _ ⟨b11,rfl,rfl⟩
    refine ⟨_,O,?_⟩
    refine uh O O uA O O (yP O ph O O O (tc 0 O O)) ?_
    rintro _ _ ⟨rfl,rfl⟩
    refine ⟨_,O,?_⟩
    refine wE O<|om O<|zF<|oo O O<|yL O<|zA<|zK O ?_ ?_<;>intro c5<;>try simp only [sx] at c5
    ·refine Y O<|yO nt O pd qy<|G O<|ow 3 ph O<|om O<|zM<|oJ (zY yX O (J 3 O) O) (ox O) ?_
     rw [Ij c1 hmi (Da ha hr c5)];rfl
    ·refine zJ<|zP O<|zC O rn<|zE uB (J 2 O) O<|zN yX (J 0 O) O<|yT O pa pd<|oM O (qZ 1 O pa O O O uG uG) λsv12=>zC O rn<|ow 2 Vh O<|zA<|zP O<|G O<|qH O ⟨zB,zB⟩<|G O<|zA ?_
     refine ⟨⟨n+1,exs++[lG (pj (λl=>bS l s u) a)],sv12⟩,⟨zB,uD,zYv ha hr c5⟩,(by show e.Args.length-(n+1)<e.Args.length-n;omega),oz [false,true,true,true,true,true] oH (by exact zKr (by rw [ah];simp only [aG,bt,Ex.cells_eq];rfl))⟩
   ·have hme:=x5 hr zB
    refine zT _ (yJ 0 O (regs':=[]) (μ':=[_,_,_,_]) T ⟨EFle.row (ds:=[_,_,_,_,_,_,_,_,_,_,_,_,_]) ⟨.inl O,.inl O,.inl O,.inl O,.inl O,.inl O,.inl O,.inl O,.inl O,.inl O,.inl O,.inl O,.inr ⟨O,O⟩,T⟩,EFle.refl _,EFle.refl _,EFle.refl _,T⟩)<|qL<|Y O<|zN yX (J 0 O) O<|ow 1 ph O<|om O<|zM<|oJ (zY yX O (J 1 O) O) (ox O) ?_
    rw [Ik c1 hmi hme];rfl
def zHc (e:Ex) (s:nq) (u:Lf) (ht:u.L.length<=4294967296) (hrt:u.rng) (hP:e.allF Lf.rng) (he:e.wt<=4294967296):oK cfg 95 [vE e,vS s,dF u] (.tup [vE (lG (pj (λl=>bS l s u) e)),vI (gM (pj (λl=>bS l s u) e))]):=by
  induction e using Ex.ind with
  |_ e ih=>exact zMk e s u ht hrt ih hP he
end Go.W
end
section
set_option maxRecDepth 10000
namespace Go.W
open Go Go.Eng Go.Proofs Go.L41 Go.Br Tryz
attribute [local irreducible] oU oX TD gF
end Go.W
end
section
set_option maxRecDepth 10000
namespace Go.W
open Go Go.Eng Go.Proofs Go.L41 Go.Br Tryz
attribute [local irreducible] oU oX TD gF
def yy (e:Ex) (ih:∀a,a∈e.Args->a.wt<=2000000->OwnR cfg 212 [vE a] 62 13 ((dE a).map Ex.cells)) (he:e.wt<=2000000):
    OwnR cfg 212 [vE e] 62 13 ((dE e).map Ex.cells):=by
 refine zW func212 O ntmps212 results212 O ?_
 intro z hz
 obtain ⟨hL,hI,hA⟩:=e.parts he
 have hn:=FI e
 refine Y O<|oi O λb1=>qY 13 O<|zA<|Y O<|zN yX (J 0 O) O<|oM O (LS O pa pd O O O O) λsv2=>om O<|zF<|ol O O<|zS<|zT ⟨[(4,.c _),(3,.c _),(1,.c _)],[_,_]⟩ (oz [true,true] oH O)<|qG 2 1 O O (Nat×Value) (λ⟨k,sv⟩=>[(4,vI k),(3,.c (.lit sv))]) (λ⟨k,sv⟩=>[E.vec sv 62 13 ((e::bT (e.Args.take k)).map Ex.cells)]) (λ⟨k,sv⟩=>k<=e.Args.length) (λ⟨k,sv⟩=>e.Args.length-k) ⟨⟨0,_⟩,zB,oz [true,true] oH (by exact SB (by simp [bT,Ex.cells_eq];rfl))⟩ ?_
 rintro ⟨k,sv⟩ hk
 show oU _ _ _ _ _ ⟨[(4,vI k),(3,.c (.lit sv))]++_,[E.vec sv 62 13 ((e::bT (e.Args.take k)).map Ex.cells)]++_⟩
 refine zF<|oo O O<|zC O rn<|zE uB (J 1 O) O<|qC O pa<|yC O<|zA<|zK O ?_ ?_<;>intro c1<;>try simp only [sx] at c1
 ·obtain ⟨x,hx⟩:=qX e.Args k zB
  have hn1:=IB hx
  refine zJ<|zF<|zS<|zP O<|G O<|zC O rn<|zE uB (J 1 O) O<|G O<|qF O pa zB (Aa uC)<|zN yX qE O<|qK O uB (OwnR.pur (ih x (qD hx) (by have:=Ex.arg_wt (qD hx);omega))) (oy O)<|oM O (qZ 0 O pa O O O uG uG) λsv3=>om O<|zP O<|G O<|qH O ⟨zB,zB⟩<|G O<|zA ?_
  refine ⟨⟨k+1,sv3⟩,zB,(by show e.Args.length-(k+1)<e.Args.length-k;omega),oz [true,true] oH (by exact SB (by rw [zYk hx,<-xn,ah]))⟩
 ·refine qL<|oo O O<|om O<|zT _ (Weak.mem [true,false] O)<|zM<|zV O ?_
  exact ⟨_,O,by rw [yG zB,<-G8];rfl⟩
def Nq (e:Ex) (he:e.wt<=2000000):OwnR cfg 212 [vE e] 62 13 ((dE e).map Ex.cells):=by
  induction e using Ex.ind with
  |_ e ih=>exact yy e ih he
end Go.W
end
