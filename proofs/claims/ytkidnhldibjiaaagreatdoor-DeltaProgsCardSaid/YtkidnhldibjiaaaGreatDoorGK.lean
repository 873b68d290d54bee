/-
  What functions compute.
  What functions compute.
  What functions compute.
  What functions compute.
  What functions compute.
  Conditions: none.
-/
import Derived.Test.YtkidnhldibjiaaaGreatDoorWQ
import Derived.Test.YtkidnhldibjiaaaGreatDoorPlainD
set_option linter.unusedSimpArgs false
set_option linter.unusedVariables false
section
set_option maxRecDepth 10000
namespace Go.W
open Go Go.Eng Go.Proofs Go.L41 Go.Br
attribute [local irreducible] AWP RWP TD fL
theorem delta_DefW (d:Df) (s:ByteArray) (hw:d.Body.wt<=50000) (hcl:(bC d.Body).conds.length<=1000) (hP:d.Body.allF Lf.rng) (h1:d.Dims.length<=1000000) (h2:d.Red.length<=1000000) (h3:∀a,a∈d.Dims->a.Size.L.length<=5864062014805) (h4:∀a,a∈d.Red->a.Size.L.length<=3000000000000):
    Pur cfg 62 [vDf d,vS s] (.tup [vDf (dfD d s).1,vB (dfD d s).2]):=by
 refine zW Tryz.func62 O Tryz.ntmps62 Tryz.results62 O ?_
 intro z hz
 refine Y O<|zY O O (qN O O) ?_
 rintro _ _ ⟨b1,rfl,rfl⟩
 refine zY O O (qN O O) ?_
 rintro _ _ ⟨b2,rfl,rfl⟩
 refine zY O O (qF [none,none,none,none,none,none,some 3,some 3,none,none,none,none,none,none,none,none,none,none,none,some 2,some 4,some 13] O zr63 O) ?_
 rintro _ _ ⟨b3,rfl,rfl⟩
 refine G O<|W<|Y O<|zF O kU<|zK kY (J 2 O) O<|yE _ (kD 1 O 3 _ PLe.ptr)<|qA O (zEf O O O O O)<|qQ O ok117 (zEn d.Red _ (fun a=>decide (a.Name=s)) (by omega) (fun a _=>FnPur.of_pur (first:=[]) (cap:=[.iptr [cS s]]) ok118 (delta_Def_1 a s))) ⟨U,O,U,O,T⟩<|zY O O (yJ O zr3) ?_
 rintro _ _ ⟨b4,rfl,rfl⟩
 refine rStR 0 sz3 O<|W<|zM<|Y O<|zF O zGg<|zK one3 (J 2 O) O<|yW O<|G O<|rL0 O (fun g2_3=>zJ O one3 O (J 0 O) O) O<|rL1 29 O (fun g2_3=>zBs O O O) O<|r_or O (fun h=>(lzf h))<|W<|zH O (fun c1=>?_) (fun c1=>?_)
 ·try simp only [sx] at c1
  have hC:dN d s=none:=chain_no1 c1
  refine Y O<|yF [none,none,none,none,none,none,some 3,some 3,none,none,none,none,none,none,none,none,none,none,none,some 2,some 4,some 13] O zr63 pl63<|rStR 1 sz63 O<|G O<|W<|zO<|fin2 (zZ zAi O (J 1 O) O) (rs_c O) ?_
  rw [zLv hC];rfl
 ·try simp only [sx] at c1
  have hF:=c1.1
  obtain ⟨n,hn⟩:∃n:Nat,axN s d.Red=n:=⟨(axN s d.Red).toNat,by have h5:=c1.2;have h6:axN s d.Red=dI (fun a:Ax=>decide (a.Name=s)) d.Red:=rfl;omega⟩
  obtain ⟨hn2,hn3⟩:=axN_lt hn
  rw [show dI (fun a:Ax=>decide (a.Name=s)) d.Red=(n:Int) from hn]
  refine zN<|Y O<|zF O zCv<|zP yG (J 2 O) O<|qQ O ok119 (delta_Guard d.Body (by omega)) ⟨U,O,T⟩<|yH O<|yX O<|qA O (yA O O O)<|yX O<|zY O O (qF [none,none,none,none,none,none,none,none,none,none,some 2,some 4,some 13] O zr44 O) ?_
  rintro _ _ ⟨b5,rfl,rfl⟩
  refine G O<|rStR 0 sz44 O<|G O<|W<|zM<|Y O<|G O<|wE O<|W<|zH O (fun c2=>?_) (fun c2=>?_)
  ·try simp only [sx] at c2
   have hC:dN d s=none:=chain_no2 c2
   refine Y O<|yF [none,none,none,none,none,none,some 3,some 3,none,none,none,none,none,none,none,none,none,none,none,some 2,some 4,some 13] O zr63 pl63<|rStR 2 sz63 O<|G O<|W<|zO<|fin2 (zZ zAi O (J 2 O) O) (rs_c O) ?_
   rw [zLv hC];rfl
  ·try simp only [sx] at c2
   obtain ⟨q1,q2,q3,q4,q5⟩:=zKb c2 hP hw
   obtain ⟨g1,g2,g3⟩:=gSel_ok (d:=d) (n:=n) (s:=s) q1
   refine zN<|Y O<|zY O O (qF [none,some 2] O v O) ?_
   rintro _ _ ⟨b6,rfl,rfl⟩
   refine W<|Y O<|G O<|yE _ (kD 4 O 2 _ PLe.ptr)<|yE _ (kD 2 O 6 _ PLe.ptr)<|qA O (zEf O O O O O)<|qA O (kF [0] O ok120 (indexFunc_Def (bC d.Body).conds s d n b6 (by omega) (fun x hx=>by have:=(q1 x hx).2;omega) hn2 (by omega)) ⟨U,O,U,O,T⟩ O)<|G O<|W<|zM<|Y O<|G O<|yI O<|W<|zH O (fun c3=>?_) (fun c3=>?_)
   ·try simp only [sx] at c3
    have hC:dN d s=none:=chain_no3 hn c3
    refine Y O<|yF [none,none,none,none,none,none,some 3,some 3,none,none,none,none,none,none,none,none,none,none,none,some 2,some 4,some 13] O zr63 pl63<|rStR 2 sz63 O<|G O<|W<|zO<|fin2 (zZ zAi O (J 2 O) O) (rs_c O) ?_
    rw [zLv hC];rfl
   ·try simp only [sx] at c3
    have hC:=chain_put hF hn c2 (by omega)
    refine zN<|Y O<|qS O zCv<|qS O kO<|zK zAj qE O<|qJ O el42 (by omega) (zBj q5)<|zP yG qE O<|zY O O (qF [none,none,none,none,none,none,none,none,none,none,some 2,some 4,some 13] O zr44 O) ?_
    rintro _ _ ⟨b7,rfl,rfl⟩
    refine rStR 0 sz44 O<|W<|Y O<|zP yG (J 2 O) O<|zK one9 qE O<|zP yB (J 1 O) O<|qQ O ok123 (zSf (bC d.Body).val s (gG d n s (bC d.Body).conds) (by have:=q2.2;omega) q2.1 (by omega) g2) ⟨U,O,U,O,U,O,T⟩<|yH O<|qA O (yA O O O)<|yX O<|zY O O (qF [none,none,none,none,none,none,none,none,none,none,some 2,some 4,some 13] O zr44 O) ?_
    rintro _ _ ⟨b8,rfl,rfl⟩
    refine rStR 0 sz44 O<|G O<|W<|zM<|Y O<|G O<|yW O<|W<|zH O (fun c4=>?_) (fun c4=>?_)
    ·try simp only [sx] at c4
     rw [put_no c4] at hC
     refine Y O<|yF [none,none,none,none,none,none,some 3,some 3,none,none,none,none,none,none,none,none,none,none,none,some 2,some 4,some 13] O zr63 pl63<|rStR 4 sz63 O<|G O<|W<|zO<|fin2 (zZ zAi O (J 4 O) O) (rs_c O) ?_
     rw [zLv hC];rfl
    ·try simp only [sx] at c4
     rw [put_on c4] at hC
     have hw0:=SR_wt (s:=s) g3 (bC d.Body).val
     have hw1:=Nat.mul_le_mul_left 50001 q2.2
     have hcw:=SR_cnt c4
     have hcv:=Ex.cnt_le (bC d.Body).val
     have hzc:=Ex.cnt_le (bT d.Body 2)
     refine zN<|zM<|Y O<|G O<|qB O el42<|qA O (kP O O O ⟨by omega,by omega⟩)<|G O<|W<|zR<|qC ⟨[(15,.c _),(2,.c _),(3,.c _),(4,.c _),(6,.c _),(7,.c _),(10,.c _),(11,.c _),(12,.c _),(13,.c _)],[_,_,_,_]⟩ (Weak.mk [true,true,true,false,true] ⟨U,U,U,U,U,U,U,U,U,U,T⟩ O)<|qG 1 1 O O (Nat×Ex) (fun ⟨k,w⟩=>[(15,vI ((k:Int)-1))]) (fun ⟨k,w⟩=>[E.row b8 44 w.cs]) (fun ⟨k,w⟩=>k<=(bC d.Body).conds.length/\jZ (SR s (gG d n s (bC d.Body).conds)) (bC d.Body).conds (dI (lL d n s) (bC d.Body).conds) (mI d) (bC d.Body).conds.length (lD (mEx (SR s (gG d n s (bC d.Body).conds)) (bC d.Body).val))=jZ (SR s (gG d n s (bC d.Body).conds)) (bC d.Body).conds (dI (lL d n s) (bC d.Body).conds) (mI d) k w/\w.wt<=2500100001+2500200003*((bC d.Body).conds.length-k)/\w.cnt<=50000+100001*((bC d.Body).conds.length-k)) (fun ⟨k,w⟩=>k) ⟨⟨(bC d.Body).conds.length,(lD (mEx (SR s (gG d n s (bC d.Body).conds)) (bC d.Body).val))⟩,⟨Nat.le_refl _,O,by omega,by rw [hcw];omega⟩,Weak.mk [true,true,true,true] ⟨U,U,U,U,U,U,U,U,U,U,T⟩ O⟩ ?_
     rintro ⟨k,w⟩ ⟨hk,hp,hwt,hct⟩
     show AWP _ _ _ _ _ ⟨[(15,vI ((k:Int)-1))]++_,[E.row b8 44 w.cs]++_⟩
     refine zM<|Y O<|G O<|qA O (wJ O O O)<|W<|zH O (fun c5=>?_) (fun c5=>?_)
     ·try simp only [sx] at c5
      obtain ⟨x,hx⟩:=qU (bC d.Body).conds (k-1) (by omega)
      have hx2:(bC d.Body).conds[((k:Int)-1).toNat]? =some x:=by rw [show ((k:Int)-1).toNat=k-1 by omega];exact hx
      have hgx:nG (bC d.Body).conds (k-1)=x:=Option.some.inj ((zLn (by omega)).symm.trans hx)
      have hwx:=SR_wt (s:=s) g3 x
      have hwx1:=Nat.mul_le_mul_left 50001 (q1 x (zX hx)).2
      refine zN<|zM<|zR<|zM<|Y O<|G O<|G O<|yK O<|W<|zH O (fun c6=>?_) (fun c6=>?_)
      ·try simp only [sx] at c6
       have hnx:=hp.trans (putW_skip (by omega) c6)
       refine qO<|zT O<|G O<|qA O (kP O O O ⟨by omega,by omega⟩)<|G O<|W ?_
       refine ⟨⟨k-1,w⟩,⟨by omega,hnx,by omega,by omega⟩,(by dsimp only;omega),Weak.mk [true,true,true,true] ⟨VLe.of_eq (congrArg vI (by omega)),U,U,U,U,U,U,U,U,U,T⟩ O⟩
      ·try simp only [sx] at c6
       refine zN<|zM<|kI 12 1 [⟨0,.q []⟩,⟨1,.q []⟩,⟨2,.q []⟩,⟨3,.q []⟩,⟨4,.q []⟩,⟨5,.q [3]⟩,⟨6,.q []⟩,⟨7,.q []⟩,⟨8,.q []⟩,⟨9,.q []⟩,⟨10,.e 0 []⟩,⟨11,.e 0 []⟩] mixed (by kernel_rfl) (by kernel_rfl) O O O<|qD O<|qD O<|qD O<|qD O<|qD O<|qD O<|qD O<|qD O<|qD O<|qD O<|qD O<|qD O<|zBq<|qM O (by decide) O O (zS O O)<|qM O (by decide) O O (zS O O)<|qM O (by decide) O O (qH O el42 O O (by omega) (zBj hx2))<|qM O (by decide) O O (zU O yG O qE O)<|qM O (by decide) O O (zJ O one9 O qE O)<|qM O (by decide) O O (zU O yB O (J 0 O) O)<|qM O (by decide) O O (qL O ok123 (zSf x s (gG d n s (bC d.Body).conds) (by have:=(q1 x (zX hx)).2;omega) (q1 x (zX hx)).1 (by omega) g2) ⟨U,O,U,O,U,O,T⟩)<|qM O (by decide) O O (kL O O)<|qM O (by decide) O O (yA O O O)<|qM O (by decide) O O (wW O O O)<|zFs O O (by decide) O O (qF [none,none,none,none,none,none,none,none,none,none,some 2,some 4,some 13] O zr44 O) ?_
       rintro _ _ ⟨b9,rfl,rfl⟩
       refine ⟨_,O,?_⟩
       refine zHa O O (by decide) O O (kN O sz44 O O O (zCu 0 O O)) ?_
       rintro _ _ ⟨rfl,rfl⟩
       refine ⟨_,O,?_⟩
       refine zBp O<|G O<|W<|zM<|Y O<|G O<|yW O<|W<|zH O (fun c7=>?_) (fun c7=>?_)
       ·try simp only [sx] at c7
        rw [hp,putW_no (by omega) c6 (by rw [hgx];exact c7)] at hC
        refine Y O<|yF [none,none,none,none,none,none,some 3,some 3,none,none,none,none,none,none,none,none,none,none,none,some 2,some 4,some 13] O zr63 pl63<|rStR 4 sz63 O<|G O<|W<|zO<|fin2 (zZ zAi O (J 4 O) O) (rs_c O) ?_
        rw [zLv hC];rfl
       ·try simp only [sx] at c7
        have hnx:=hp.trans (putW_yes (by omega) c6 (by rw [hgx];exact c7))
        rw [hgx] at hnx
        have hcx:=SR_cnt c7
        have hcy:=Ex.cnt_le x
        have hxw:=(q1 x (zX hx)).2
        refine zN<|zT O<|zP yG (J 0 O) O<|zP yG (J 1 O) O<|zP yG (J 2 O) O<|yV O el42 zr44<|qQ O ok124 (zSo 11 _ _ _) ⟨U,O,U,O,T⟩<|rStR 1 sz44 O<|W<|zT O<|G O<|qA O (kP O O O ⟨by omega,by omega⟩)<|G O<|W ?_
        refine ⟨⟨k-1,bV 11 [lD (mEx (SR s (gG d n s (bC d.Body).conds)) x),w,bT d.Body 2]⟩,⟨by omega,hnx,by rw [zLf];omega,by rw [if_cnt];omega⟩,(by dsimp only;omega),Weak.mk [false,true,true,true,true] ⟨VLe.of_eq (congrArg vI (by omega)),U,U,U,U,U,U,U,U,U,T⟩ O⟩
     ·try simp only [sx] at c5
      rw [putW_end (k:=k) (w:=w) (by omega)] at hp
      rw [hp] at hC
      have hC:dN d s=some (nC d n (gG d n s (bC d.Body).conds) w (bT d.Body 2)):=hC
      have hna:(axA d.Red n).Size.L.length<=3000000000000:=h4 _ (zX (zKk hn2))
      have hlk:(2500200003:Nat)*((bC d.Body).conds.length-k)<=2500200003*1000:=Nat.mul_le_mul_left _ (by omega)
      have hlc:(100001:Nat)*((bC d.Body).conds.length-k)<=100001*1000:=Nat.mul_le_mul_left _ (by omega)
      refine qO<|Y O<|yN O zr37 pl37<|yN O zr35 pl35<|yF [none,none,none,none,none,none,none,none,none,none,some 2,some 4,some 13] O zr44 pl44<|zY O O (qF [none,none,none,none,none,none,none,none,none,none,some 2,some 4,some 13] O zr44 O) ?_
      rintro _ _ ⟨b10,rfl,rfl⟩
      refine rStR 0 sz44 O<|W<|zM<|kI 19 1 [⟨0,.q [1]⟩,⟨1,.q [4]⟩,⟨2,.q []⟩,⟨3,.q []⟩,⟨4,.q []⟩,⟨5,.q [4]⟩,⟨6,.q []⟩,⟨7,.q []⟩,⟨8,.q []⟩,⟨9,.q []⟩,⟨10,.q []⟩,⟨11,.q []⟩,⟨12,.q []⟩,⟨13,.q []⟩,⟨14,.q []⟩,⟨15,.q []⟩,⟨16,.q []⟩,⟨17,.q []⟩,⟨18,.f 0⟩] mixed (by kernel_rfl) (by kernel_rfl) O O O<|qD O<|qD O<|qD O<|qD O<|qD O<|qD O<|qD O<|qD O<|qD O<|qD O<|qD O<|qD O<|qD O<|qD O<|qD O<|qD O<|qD O<|qD O<|zGv O O (wH (qF [none,none,none,none,none,none,none,none,none,none,some 2,some 4,some 13] O zr44 O)) ⟨_,_,0,O,O⟩<|zBq<|qM O (by decide) O O (zU O yG O (J 0 O) O)<|qM O (by decide) O O (zU O yB O (J 0 O) O)<|qM O (by decide) O O (qL O ok125 (zKf (gG d n s (bC d.Body).conds)) ⟨U,O,T⟩)<|qM O (by decide) O O (wG O el42 zr44 O O O O)<|qM O (by decide) O O (qL O ok124 (zKe 14 zeroE (gR (gG d n s (bC d.Body).conds))) ⟨U,O,U,O,T⟩)<|qM O (by decide) O O (zU O yB O (J 0 O) O)<|qM O (by decide) O O (qL O ok125 (zKf (gG d n s (bC d.Body).conds)) ⟨U,O,T⟩)<|qM O (by decide) O O (qP O kU O)<|qM O (by decide) O O (zJ O kY O qE O)<|qM O (by decide) O O (zJ O one3 O qE O)<|qM O (by decide) O O (qH O N O O (by omega) (getm (zKk hn2)))<|qM O (by decide) O O (qP O zEu O)<|qM O (by decide) O O (zU O yB O qE O)<|qM O (by decide) O O (qL O ok125 (zKf (axA d.Red n).Size) ⟨U,O,T⟩)<|qM O (by decide) O O (wG O el42 zr44 O O O O)<|qM O (by decide) O O (qL O ok124 (zKe 13 (gR (gG d n s (bC d.Body).conds)) (gR (axA d.Red n).Size)) ⟨U,O,U,O,T⟩)<|qM O (by decide) O O (wG O el42 zr44 O O O O)<|qM O (by decide) O O (qL O ok124 (zKe 16 (bV 14 [zeroE,gR (gG d n s (bC d.Body).conds)]) (bV 13 [gR (gG d n s (bC d.Body).conds),gR (axA d.Red n).Size])) ⟨U,O,U,O,T⟩)<|zGr O O ?_
      rintro _ _ ⟨b11,rfl,rfl⟩
      refine zBp O<|rStR 0 sz44 O<|W<|Y O<|zP yG (J 0 O) O<|zP yG (J 2 O) O<|zP yG (J 3 O) O<|yV O el42 zr44<|qQ O ok124 (zSo 11 (dO (gG d n s (bC d.Body).conds) (axA d.Red n).Size) w (bT d.Body 2)) ⟨U,O,U,O,T⟩<|rStR 2 sz44 O<|W<|zM<|Y O<|zP yG (J 2 O) O<|qQ O ok113 (zEc (bV 11 [dO (gG d n s (bC d.Body).conds) (axA d.Red n).Size,w,bT d.Body 2]) (by rw [zLf,zRq];omega)) ⟨U,O,T⟩<|yW O<|W<|zH O (fun c8=>?_) (fun c8=>?_)
      ·try simp only [sx] at c8
       have hD:=def_bad hC c8
       refine Y O<|yF [none,none,none,none,none,none,some 3,some 3,none,none,none,none,none,none,none,none,none,none,none,some 2,some 4,some 13] O zr63 pl63<|rStR 5 sz63 O<|G O<|W<|zO<|fin2 (zZ zAi O (J 5 O) O) (rs_c O) ?_
       rw [hD];rfl
      ·try simp only [sx] at c8
       have hD:=def_good hC c8
       have hF5:d.Dims.length<=1073741824:=by omega
       refine zN<|Y O<|zP zAi qE O<|zY O O (qF [none,none,none,none,none,none,some 3,some 3,none,none,none,none,none,none,none,none,none,none,none,some 2,some 4,some 13] O zr63 O) ?_
       rintro _ _ ⟨b12,rfl,rfl⟩
       refine rStR 0 sz63 O<|W<|Y O<|qS O zAt<|zK kY qE O<|qQ O ok126 (OwnR.pur (zHo d.Dims (by omega))) ⟨U,O,T⟩<|zF O zAt<|rStR 0 sz61 O<|W<|zM<|kI 6 1 [⟨0,.q []⟩,⟨1,.q []⟩,⟨3,.q []⟩,⟨4,.q []⟩,⟨5,.q []⟩,⟨2,.e 0 []⟩] mixed (by kernel_rfl) (by kernel_rfl) O O O<|qD O<|qD O<|qD O<|qD O<|qD O<|qD O<|zBq<|qM O (by decide) O O (qP O kU O)<|qM O (by decide) O O (zJ O kY O qE O)<|qM O (by decide) O O (zJ O one3 O qE O)<|qM O (by decide) O O (zJ O one3 O qE O)<|qM O (by decide) O O (zGj O O O ⟨by omega,by omega⟩)<|zFs O O (by decide) O O (zCf O ok126 (zHo d.Red (by omega)) ⟨U,O,T⟩) ?_
       rintro _ _ ⟨sv13,rfl,rfl⟩
       refine ⟨_,O,?_⟩
       refine zBp O<|zY O O (ope_call_vec 0 O O ok127 (zOn _ (d.Red.map Ax.cells) n (n+1) (by omega) (by rw [List.length_map];omega)) ⟨U,O,U,O,U,O,T⟩) ?_
       rintro _ _ ⟨sv14,rfl,rfl⟩
       refine zF O kU<|rStR 1 sz61 O<|W<|Y O ?_
       rw [←List.map_take,←List.map_drop,←List.map_append]
       refine yE _ (yC 0 O (regs':=[(133,_)]) (μ':=[_,_,_,_,_,_,_]) ⟨FLe.sl,T⟩ ⟨EFle.row (ds:=[_,_,_,_,_,_,_,_,_,_,_,_,_,_,_,_,_,_,_,_,_,_]) ⟨.inl O,.inl O,.inl O,.inl O,.inl O,.inl O,.inl O,.inr ⟨O,O⟩,.inl O,.inl O,.inl O,.inl O,.inl O,.inl O,.inl O,.inl O,.inl O,.inl O,.inl O,.inl O,.inl O,.inl O,T⟩,EFle.refl _,EFle.refl _,EFle.refl _,EFle.refl _,EFle.refl _,EFle.refl _,T⟩)<|zP yG (J 3 O) O<|zF O zCv<|rStR 0 sz44 O<|W<|zM<|Y O<|zF O kU<|zK kY (J 0 O) O<|qA O (zNo O N O)<|yK O<|W<|zH O (fun c9=>?_) (fun c9=>?_)
       ·try simp only [sx] at c9
        refine zT O<|zF O zGg<|rStR 0 sz3 O<|W<|Y O<|zP zAi (J 0 O) O<|qQ O ok128 (zOi ⟨d.Name,d.T,d.Dims,d.Red.take n++d.Red.drop (n+1),0,bV 11 [dO (gG d n s (bC d.Body).conds) (axA d.Red n).Size,w,bT d.Body 2]⟩ ⟨by omega,by have:=rem_len d.Red n;dsimp only;omega,h3,fun a ha=>Nat.le_trans (h4 a (mem_rem ha)) (by decide),body_okW g3 hna (by omega) (by omega) q3.2⟩) ⟨U,O,T⟩<|rStR 6 sz63 O<|G O<|W<|zO<|fin2 (zZ zAi O (J 6 O) O) (rs_c O) ?_
        rw [hD,show nC d n _ w (bT d.Body 2)=_ from out_t c9];rfl
       ·try simp only [sx] at c9
        refine zN<|Y O<|zP zAi (J 0 O) O<|qQ O ok128 (zOi ⟨d.Name,d.T,d.Dims,d.Red.take n++d.Red.drop (n+1),d.Fold,bV 11 [dO (gG d n s (bC d.Body).conds) (axA d.Red n).Size,w,bT d.Body 2]⟩ ⟨by omega,by have:=rem_len d.Red n;dsimp only;omega,h3,fun a ha=>Nat.le_trans (h4 a (mem_rem ha)) (by decide),body_okW g3 hna (by omega) (by omega) q3.2⟩) ⟨U,O,T⟩<|rStR 6 sz63 O<|G O<|W<|zO<|fin2 (zZ zAi O (J 6 O) O) (rs_c O) ?_
        rw [hD,show nC d n _ w (bT d.Body 2)=_ from out_f c9];rfl
end Go.W
end
section
set_option maxRecDepth 10000
namespace Go.W
open Go Go.Eng Go.Proofs Go.L41 Go.Br
attribute [local irreducible] AWP RWP TD fL
theorem ref22_putW (d:Df) (n:Nat) (l:List Ex) (c:Nat) (v:Ex) (g:Lf) (hn:n<d.Red.length) (hza:d.Body.Args[2]? =some (bT d.Body 2)) (hzw:(bT d.Body 2).wt<=50000) (hq:∀x,x∈l->x.allF Lf.rng/\x.wt<=50000) (hll:l.length<=1000) (hv:v.allF Lf.rng/\v.wt<=50000) (hg:g.rng) (hgl:g.L.length<=50000) (h2:d.Red.length<=1000000) (h4:∀a,a∈d.Red->a.Size.L.length<=3000000000000):
    Pur cfg 136 [vDf d,vI n,vEs l,vI c,vE v,dK g] (.tup [vDf (vF (nW d n (axA d.Red n).Name l c v g)).1,vB (vF (nW d n (axA d.Red n).Name l c v g)).2]):=by
 refine zW Tryz.func136 O Tryz.ntmps136 Tryz.results136 O ?_
 intro z hz
 have hna:(axA d.Red n).Size.L.length<=3000000000000:=h4 _ (zX (zKk hn))
 obtain ⟨hv1,hv2⟩:=hv
 have hw0:=SR_wt (s:=(axA d.Red n).Name) hgl v
 have hw1:=Nat.mul_le_mul_left 50001 hv2
 refine Y O<|zY O O (qN O O) ?_
 rintro _ _ ⟨b1,rfl,rfl⟩
 refine zY O O (qN O O) ?_
 rintro _ _ ⟨b2,rfl,rfl⟩
 refine zY O O (qN O O) ?_
 rintro _ _ ⟨b3,rfl,rfl⟩
 refine zY O O (qF [none,none,none,none,none,none,some 3,some 3,none,none,none,none,none,none,none,none,none,none,none,some 2,some 4,some 13] O zr63 O) ?_
 rintro _ _ ⟨b4,rfl,rfl⟩
 refine G O<|W<|Y O<|zF O zCv<|zF O kO<|zK zAj (J 3 O) O<|qJ O el42 (by omega) (zBj hza)<|zP yG qE O<|zY O O (qF [none,none,none,none,none,none,none,none,none,none,some 2,some 4,some 13] O zr44 O) ?_
 rintro _ _ ⟨b5,rfl,rfl⟩
 refine rStR 0 sz44 O<|W<|Y O<|zF O kU<|zK kY (J 4 O) O<|G O<|qJ O N (by omega) (getm (zKk hn))<|zP zMf qE O<|zY O O (qF [none,none,some 2] O zJb O) ?_
 rintro _ _ ⟨b6,rfl,rfl⟩
 refine rStR 0 sz111 O<|W<|Y O<|zP yG (J 4 O) O<|zF O zAm<|zK one9 (J 0 O) O<|zP yB (J 3 O) O<|qQ O ok183 (zHc v (axA d.Red n).Name g (by omega) hg hv1 (by omega)) ⟨U,O,U,O,U,O,T⟩<|yH O<|qA O (yA O O O)<|yX O<|zY O O (qF [none,none,none,none,none,none,none,none,none,none,some 2,some 4,some 13] O zr44 O) ?_
 rintro _ _ ⟨b7,rfl,rfl⟩
 refine rStR 0 sz44 O<|G O<|W<|zM<|Y O<|G O<|yW O<|W<|zH O (fun c1=>?_) (fun c1=>?_)
 ·try simp only [sx] at c1
  refine Y O<|yF [none,none,none,none,none,none,some 3,some 3,none,none,none,none,none,none,none,none,none,none,none,some 2,some 4,some 13] O zr63 pl63<|rStR 3 sz63 O<|G O<|W<|zO<|fin2 (zZ zAi O (J 3 O) O) (rs_c O) ?_
  rw [put_no c1];rfl
 ·try simp only [sx] at c1
  have hC:=put_on (d:=d) (n:=n) (l:=l) (c:=(c:Int)) c1
  refine zN<|zM<|Y O<|G O<|qB O el42<|qA O (kP O O O ⟨by omega,by omega⟩)<|G O<|W<|zR<|qC ⟨[(18,.c _),(1,.c _),(2,.c _),(3,.c _),(6,.c _),(11,.c _),(12,.c _),(14,.c _),(15,.c _),(16,.c _)],[_,_,_,_,_,_]⟩ (Weak.mk [true,true,true,true,true,false,true] ⟨U,U,U,U,U,U,U,U,U,U,T⟩ O)<|qG 1 1 O O (Nat×Ex) (fun ⟨k,w⟩=>[(18,vI ((k:Int)-1))]) (fun ⟨k,w⟩=>[E.row b7 44 w.cs]) (fun ⟨k,w⟩=>k<=l.length/\jZ (SR (axA d.Red n).Name g) l (c:Int) (mI d) l.length (lD (mEx (SR (axA d.Red n).Name g) v))=jZ (SR (axA d.Red n).Name g) l (c:Int) (mI d) k w/\w.wt<=2500100001+2500200003*(l.length-k)) (fun ⟨k,w⟩=>k) ⟨⟨l.length,(lD (mEx (SR (axA d.Red n).Name g) v))⟩,⟨Nat.le_refl _,O,by omega⟩,Weak.mk [true,true,true,true,true,true] ⟨U,U,U,U,U,U,U,U,U,U,T⟩ O⟩ ?_
  rintro ⟨k,w⟩ ⟨hk,hp,hwt⟩
  show AWP _ _ _ _ _ ⟨[(18,vI ((k:Int)-1))]++_,[E.row b7 44 w.cs]++_⟩
  refine zM<|Y O<|G O<|qA O (wJ O O O)<|W<|zH O (fun c2=>?_) (fun c2=>?_)
  ·try simp only [sx] at c2
   obtain ⟨x,hx⟩:=qU l (k-1) (by omega)
   have hx2:l[((k:Int)-1).toNat]? =some x:=by rw [show ((k:Int)-1).toNat=k-1 by omega];exact hx
   have hgx:nG l (k-1)=x:=Option.some.inj ((zLn (by omega)).symm.trans hx)
   have hwx:=SR_wt (s:=(axA d.Red n).Name) hgl x
   have hwx1:=Nat.mul_le_mul_left 50001 (hq x (zX hx)).2
   refine zN<|zM<|zR<|zM<|Y O<|G O<|G O<|yK O<|W<|zH O (fun c3=>?_) (fun c3=>?_)
   ·try simp only [sx] at c3
    have hnx:=hp.trans (putW_skip (by omega) c3)
    refine qO<|zT O<|G O<|qA O (kP O O O ⟨by omega,by omega⟩)<|G O<|W ?_
    refine ⟨⟨k-1,w⟩,⟨by omega,hnx,by omega⟩,(by dsimp only;omega),Weak.mk [true,true,true,true,true,true] ⟨VLe.of_eq (congrArg vI (by omega)),U,U,U,U,U,U,U,U,U,T⟩ O⟩
   ·try simp only [sx] at c3
    refine zN<|zM<|kI 13 1 [⟨0,.q []⟩,⟨1,.q []⟩,⟨2,.q []⟩,⟨3,.q []⟩,⟨4,.q []⟩,⟨5,.q [2]⟩,⟨6,.q [5]⟩,⟨7,.q []⟩,⟨8,.q []⟩,⟨9,.q []⟩,⟨10,.q []⟩,⟨11,.e 0 []⟩,⟨12,.e 0 []⟩] mixed (by kernel_rfl) (by kernel_rfl) O O O<|qD O<|qD O<|qD O<|qD O<|qD O<|qD O<|qD O<|qD O<|qD O<|qD O<|qD O<|qD O<|qD O<|zBq<|qM O (by decide) O O (zS O O)<|qM O (by decide) O O (zS O O)<|qM O (by decide) O O (qH O el42 O O (by omega) (zBj hx2))<|qM O (by decide) O O (zU O yG O qE O)<|qM O (by decide) O O (zE O zAm O)<|qM O (by decide) O O (zJ O one9 O (J 0 O) O)<|qM O (by decide) O O (zU O yB O (J 0 O) O)<|qM O (by decide) O O (qL O ok183 (zHc x (axA d.Red n).Name g (by omega) hg (hq x (zX hx)).1 (by have:=(hq x (zX hx)).2;omega)) ⟨U,O,U,O,U,O,T⟩)<|qM O (by decide) O O (kL O O)<|qM O (by decide) O O (yA O O O)<|qM O (by decide) O O (wW O O O)<|zFs O O (by decide) O O (qF [none,none,none,none,none,none,none,none,none,none,some 2,some 4,some 13] O zr44 O) ?_
    rintro _ _ ⟨b8,rfl,rfl⟩
    refine ⟨_,O,?_⟩
    refine zHa O O (by decide) O O (kN O sz44 O O O (zCu 0 O O)) ?_
    rintro _ _ ⟨rfl,rfl⟩
    refine ⟨_,O,?_⟩
    refine zBp O<|G O<|W<|zM<|Y O<|G O<|yW O<|W<|zH O (fun c4=>?_) (fun c4=>?_)
    ·try simp only [sx] at c4
     rw [hp,putW_no (by omega) c3 (by rw [hgx];exact c4)] at hC
     have hC:nW d n (axA d.Red n).Name l (c:Int) v g=none:=hC
     refine Y O<|yF [none,none,none,none,none,none,some 3,some 3,none,none,none,none,none,none,none,none,none,none,none,some 2,some 4,some 13] O zr63 pl63<|rStR 4 sz63 O<|G O<|W<|zO<|fin2 (zZ zAi O (J 4 O) O) (rs_c O) ?_
     rw [hC];rfl
    ·try simp only [sx] at c4
     have hnx:=hp.trans (putW_yes (by omega) c3 (by rw [hgx];exact c4))
     rw [hgx] at hnx
     refine zN<|zT O<|zP yG (J 0 O) O<|zP yG (J 1 O) O<|zP yG (J 3 O) O<|yV O el42 zr44<|yF [none,none,none,none,none,none,none,none,none,none,some 2,some 4,none] O zr44 pl44<|rStR 1 sz44 O<|W<|zT O<|G O<|qA O (kP O O O ⟨by omega,by omega⟩)<|G O<|W ?_
     refine ⟨⟨k-1,bV 11 [lD (mEx (SR (axA d.Red n).Name g) x),w,(bT d.Body 2)]⟩,⟨by omega,hnx,by rw [zLf];omega⟩,(by dsimp only;omega),Weak.mk [false,true,true,true,true,true,true] ⟨VLe.of_eq (congrArg vI (by omega)),U,U,U,U,U,U,U,U,U,T⟩ (by exact row_eq (node_three 11 _ _ _).symm)⟩
  ·try simp only [sx] at c2
   rw [putW_end (k:=k) (w:=w) (by omega)] at hp
   rw [hp] at hC
   have hC:nW d n (axA d.Red n).Name l (c:Int) v g=some (nC d n g w (bT d.Body 2)):=hC
   have hlk:(2500200003:Nat)*(l.length-k)<=2500200003*1000:=Nat.mul_le_mul_left _ (by omega)
   refine qO<|Y O<|zP zAi (J 5 O) O<|zY O O (qF [none,none,none,none,none,none,some 3,some 3,none,none,none,none,none,none,none,none,none,none,none,some 2,some 4,some 13] O zr63 O) ?_
   rintro _ _ ⟨b9,rfl,rfl⟩
   refine rStR 0 sz63 O<|W<|zM<|qW 9 mixed (by kernel_rfl) O O<|zQ O O (zU O yB O (J 5 O) O)<|zQ O O (zE O zEu O)<|zQ O O (zU O yB O (J 2 O) O)<|zQ O O (qL O ok184 (ref22_inside g (axA d.Red n).Size) ⟨U,O,U,O,T⟩)<|zQ O O (zU O yG O (J 1 O) O)<|zQ O O (zU O yG O (J 3 O) O)<|zQ O O (wG O el42 zr44 O O O O)<|zQ O O (zIv [none,none,none,none,none,none,none,none,none,none,some 2,some 4,none] O zr44 pl44 O O)<|zQ O O (zE O zCv O)<|yR<|rStR 0 sz44 O<|W<|Y O<|zF O kU<|rStR 0 sz61 O<|W<|zM<|Y O<|yE _ (yU 111 3)<|G O<|W<|zR<|qC ⟨[(22,.c _),(1,.c _),(6,.c _),(12,.c _),(21,.c _)],[_,_,_,_]⟩ (Weak.mk [true,true,false,false,false,true,false,true] ⟨U,U,U,U,U,T⟩ O)<|qG 1 2 O O (Nat×Value) (fun ⟨k,sv⟩=>[(22,vI k)]) (fun ⟨k,sv⟩=>[E.vec sv 111 3 (((d.Red.take k).eraseIdx n).map Ax.cells),E.row b9 63 [cS d.Name,cI d.T.Kind,cI d.T.Bits,cI d.T.Frac,cI d.T.Round,cI d.T.Over,.sl 3 (d.Dims.map Ax.cells),.lit sv,cI d.Fold,cI 11,cS (bs []),cI 0,cI 0,cI 0,cI 0,cI 0,cI 0,cI 0,cI 0,.sl 2 [],.sl 4 [],.sl 13 [(dO g (axA d.Red n).Size).cs,w.cs,(bT d.Body 2).cs]]]) (fun ⟨k,sv⟩=>k<=d.Red.length) (fun ⟨k,sv⟩=>d.Red.length-k) ⟨⟨0,.slice none 0 0⟩,(by omega),Weak.mk [true,true,true,true] ⟨U,U,U,U,U,T⟩ O⟩ ?_
   rintro ⟨k,sv⟩ hk
   show AWP _ _ _ _ _ ⟨[(22,vI k)]++_,[E.vec sv 111 3 (((d.Red.take k).eraseIdx n).map Ax.cells),E.row b9 63 [cS d.Name,cI d.T.Kind,cI d.T.Bits,cI d.T.Frac,cI d.T.Round,cI d.T.Over,.sl 3 (d.Dims.map Ax.cells),.lit sv,cI d.Fold,cI 11,cS (bs []),cI 0,cI 0,cI 0,cI 0,cI 0,cI 0,cI 0,cI 0,.sl 2 [],.sl 4 [],.sl 13 [(dO g (axA d.Red n).Size).cs,w.cs,(bT d.Body 2).cs]]]++_⟩
   refine zM<|Y O<|G O<|zF O kU<|zK kY (J 3 O) O<|qB O N<|yI O<|W<|zH O (fun c5=>?_) (fun c5=>?_)
   ·try simp only [sx] at c5
    obtain ⟨y,hy⟩:=qU d.Red k (by omega)
    refine zN<|zM<|zR<|Y O<|G O<|G O<|yW O<|W<|zH O (fun c6=>?_) (fun c6=>?_)
    ·try simp only [sx] at c6
     refine qW 8 mixed (by kernel_rfl) O O<|zQ O O (zE O kU O)<|zQ O O (zJ O kY O (J 1 O) O)<|zQ O O (zE O kU O)<|zQ O O (zJ O kY O (J 3 O) O)<|zQ O O (zS O O)<|zQ O O (qH O N O O (by omega) (getm (by assumption)))<|zQ O O (zU O zMf O qE O)<|zQ O O (wG O N zJb O O O O)<|yR<|zY O O (qV 0 O N O O O (by have:=List.length_eraseIdx_le (d.Red.take k) n;simp only [List.length_map,List.length_append,List.length_cons,List.length_nil,List.length_take] at *;omega) (by have:=List.length_eraseIdx_le (d.Red.take k) n;simp only [List.length_map,List.length_append,List.length_cons,List.length_nil,List.length_take] at *;omega)) ?_
     rintro _ _ ⟨sv10,rfl,rfl⟩
     refine zF O kU<|rStR 1 sz61 O<|W<|zT O<|G O<|qK O ⟨by omega,by omega⟩<|G O<|W ?_
     refine ⟨⟨k+1,_⟩,(by omega),(by show d.Red.length-(k+1)<d.Red.length-k;omega),Weak.mk [true,true,true,true] ⟨U,U,U,U,U,T⟩ (by exact zDn (by rw [rem_next hy,if_neg (by omega),List.map_append];rfl))⟩
    ·try simp only [sx] at c6
     refine zN<|zT O<|G O<|qK O ⟨by omega,by omega⟩<|G O<|W ?_
     refine ⟨⟨k+1,_⟩,(by omega),(by show d.Red.length-(k+1)<d.Red.length-k;omega),Weak.mk [true,true,true,true] ⟨U,U,U,U,U,T⟩ (by exact zDn (by rw [rem_next hy,if_pos (by omega),List.append_nil]))⟩
   ·try simp only [sx] at c5
    rw [qY (l:=d.Red) (k:=k) (by omega),rem_all]
    refine qC _ (yC 0 O (regs':=[]) (μ':=[_,_,_]) T ⟨EFle.row (ds:=[_,_,_,_,_,_,_,_,_,_,_,_,_,_,_,_,_,_,_,_,_,_]) ⟨.inl O,.inl O,.inl O,.inl O,.inl O,.inl O,.inl O,.inr ⟨O,O⟩,.inl O,.inl O,.inl O,.inl O,.inl O,.inl O,.inl O,.inl O,.inl O,.inl O,.inl O,.inl O,.inl O,.inl O,T⟩,EFle.refl _,EFle.refl _,T⟩)<|qO<|zM<|Y O<|zF O kU<|zK kY (J 0 O) O<|qA O (zNo O N O)<|yK O<|W<|zH O (fun c7=>?_) (fun c7=>?_)
    ·try simp only [sx] at c7
     refine zT O<|zF O zGg<|rStR 0 sz3 O<|W<|zM<|kI 6 0 [⟨0,.q [0]⟩,⟨1,.q []⟩,⟨2,.q [0]⟩,⟨3,.q []⟩,⟨4,.q []⟩,⟨5,.e 1 []⟩] mixed (by kernel_rfl) (by kernel_rfl) O O O<|qD O<|qD O<|qD O<|qD O<|qD O<|qD O<|zBq<|qM O (by decide) O O (zU O zAi O (J 0 O) O)<|qM O (by decide) O O (zE O zCv O)<|qM O (by decide) O O (zU O yG O (J 0 O) O)<|qM O (by decide) O O (qL O ok160 (zFx (dO g (axA d.Red n).Size) w (bT d.Body 2) (by rw [zLf,zRq];omega)) ⟨U,O,T⟩)<|qM O (by decide) O O (yM O O O)<|zHa O O (by decide) O O (kN O sz63 O O O (zCu 0 O O)) ?_
     rintro _ _ ⟨rfl,rfl⟩
     refine ⟨_,O,?_⟩
     refine zBp O<|G O<|W<|zO<|fin2 (zZ zAi O (J 1 O) O) (rs_c O) ?_
     rw [hC,show nC d n g w (bT d.Body 2)=_ from out_t c7];exact congrArg (fun cs=>V.tup [.agg cs,_]) (df_node _ _ _ _ _ _ _ _).symm
    ·try simp only [sx] at c7
     refine zN<|zM<|kI 6 0 [⟨0,.q [0]⟩,⟨1,.q []⟩,⟨2,.q [0]⟩,⟨3,.q []⟩,⟨4,.q []⟩,⟨5,.e 1 []⟩] mixed (by kernel_rfl) (by kernel_rfl) O O O<|qD O<|qD O<|qD O<|qD O<|qD O<|qD O<|zBq<|qM O (by decide) O O (zU O zAi O (J 0 O) O)<|qM O (by decide) O O (zE O zCv O)<|qM O (by decide) O O (zU O yG O (J 0 O) O)<|qM O (by decide) O O (qL O ok160 (zFx (dO g (axA d.Red n).Size) w (bT d.Body 2) (by rw [zLf,zRq];omega)) ⟨U,O,T⟩)<|qM O (by decide) O O (yM O O O)<|zHa O O (by decide) O O (kN O sz63 O O O (zCu 0 O O)) ?_
     rintro _ _ ⟨rfl,rfl⟩
     refine ⟨_,O,?_⟩
     refine zBp O<|G O<|W<|zO<|fin2 (zZ zAi O (J 1 O) O) (rs_c O) ?_
     rw [hC,show nC d n g w (bT d.Body 2)=_ from out_f c7];exact congrArg (fun cs=>V.tup [.agg cs,_]) (df_node _ _ _ _ _ _ _ _).symm
theorem ref22_DefW (d:Df) (s:ByteArray) (hw:d.Body.wt<=50000) (hcl:(bC d.Body).conds.length<=1000) (hP:d.Body.allF Lf.rng) (h1:d.Dims.length<=1000000) (h2:d.Red.length<=1000000) (h3:∀a,a∈d.Dims->a.Size.L.length<=5864062014805) (h4:∀a,a∈d.Red->a.Size.L.length<=3000000000000):
    Pur cfg 64 [vDf d,vS s] (.tup [vDf (dfR d s).1,vB (dfR d s).2]):=by
 refine zW Tryz.func64 O Tryz.ntmps64 Tryz.results64 O ?_
 intro z hz
 refine Y O<|zY O O (qN O O) ?_
 rintro _ _ ⟨b1,rfl,rfl⟩
 refine zY O O (qF [none,none,none,none,none,none,some 3,some 3,none,none,none,none,none,none,none,none,none,none,none,some 2,some 4,some 13] O zr63 O) ?_
 rintro _ _ ⟨b2,rfl,rfl⟩
 refine G O<|W<|Y O<|zF O kU<|zK kY (J 1 O) O<|G O<|qQ O ok132 (ref22_find d.Red s (by omega)) ⟨U,O,U,O,T⟩<|G O<|W<|Y O<|zF O zCv<|zP yG (J 1 O) O<|qQ O ok133 (ref22_Guard d.Body (by omega)) ⟨U,O,T⟩<|yH O<|yX O<|qA O (yA O O O)<|yX O<|zY O O (qF [none,none,none,none,none,none,none,none,none,none,some 2,some 4,some 13] O zr44 O) ?_
 rintro _ _ ⟨b3,rfl,rfl⟩
 refine G O<|rStR 0 sz44 O<|G O<|W<|zM<|Y O<|zF O zGg<|zK one3 (J 2 O) O<|yW O<|G O<|rL0 O (fun g3_3=>zS O O) O<|rL1 29 O (fun g3_3=>zBs O O O) O<|r_or O (fun h=>(lzf h))<|G O<|rL0 O (fun g3_7=>zS O O) O<|rL1 33 O (fun g3_7=>kT O O) O<|r_or O (fun h=>(lzf h))<|W<|zH O (fun c1=>?_) (fun c1=>?_)
 ·try simp only [sx] at c1
  have hC:dN d s=none:=chain_r1 c1
  refine Y O<|yF [none,none,none,none,none,none,some 3,some 3,none,none,none,none,none,none,none,none,none,none,none,some 2,some 4,some 13] O zr63 pl63<|rStR 1 sz63 O<|G O<|W<|zO<|fin2 (zZ zAi O (J 1 O) O) (rs_c O) ?_
  rw [dfR,hC];rfl
 ·try simp only [sx] at c1
  obtain ⟨⟨hF,hn0⟩,hgo⟩:=c1
  obtain ⟨n,hn⟩:∃n:Nat,axN s d.Red=n:=⟨(axN s d.Red).toNat,by omega⟩
  obtain ⟨hn2,hn3⟩:=axN_lt hn
  rw [hn]
  obtain ⟨q1,q2,q3,q4,q5⟩:=zKb hgo hP hw
  have hdl:(d.Red.drop (n+1)).length=d.Red.length-(n+1):=List.length_drop
  refine zN<|zM<|Y O<|G O<|W<|zR<|qC ⟨[(10,.c _),(1,.c _),(2,.c _),(4,.c _),(6,.c _),(7,.c _),(8,.c _)],[_,_,_]⟩ (Weak.mk [true,true,true] ⟨U,U,U,U,U,U,U,T⟩ O)<|qG 1 0 O O (Nat) (fun k=>[(10,vI k)]) (fun k=>[]) (fun k=>k<=(bC d.Body).conds.length/\(((bC d.Body).conds.take k).any (lL d n s)=false)) (fun k=>(bC d.Body).conds.length-k) ⟨0,⟨by omega,O⟩,Weak.mk [true,true,true] ⟨U,U,U,U,U,U,U,T⟩ O⟩ ?_
  rintro k ⟨hk,hp⟩
  refine zM<|Y O<|G O<|G O<|qB O el42<|yI O<|W<|zH O (fun c2=>?_) (fun c2=>?_)
  ·try simp only [sx] at c2
   obtain ⟨x,hx⟩:=qU (bC d.Body).conds k (by omega)
   have hsl:=Nat.le_trans (zQd x s) (q1 x (zX hx)).2
   have hsk:=(solve_ok s (q1 x (zX hx)).1).1
   refine zN<|zM<|zR<|Y O<|G O<|G O<|qJ O el42 (by omega) (zBj hx)<|zP yG qE O<|G O<|qQ O ok134 (ref22_Solve x s (by have:=(q1 x (zX hx)).2;omega)) ⟨U,O,U,O,T⟩<|yH O<|qA O (yA O O O)<|yX O<|zY O O (qF [none,some 2] O v O) ?_
   rintro _ _ ⟨b4,rfl,rfl⟩
   refine rStR 0 sz40 O<|G O<|W<|zM<|Y O<|G O<|qK O ⟨by omega,by omega⟩<|G O<|W<|zR<|qC ⟨[(12,.c _),(13,.c _),(1,.c _),(2,.c _),(4,.c _),(6,.c _),(7,.c _),(8,.c _),(10,.c _),(11,.c _)],[_,_,_,_]⟩ (Weak.mk [true,true,true,true] ⟨U,U,U,U,U,U,U,U,U,U,T⟩ O) ?_
   refine qG 2 0 O O (Nat) (fun j=>[(12,vB ((bX x s).2&&jW (bX x s).1 ((d.Red.drop (n+1)).take j))),(13,vI ((n:Int)+1+j))]) (fun j=>[]) (fun j=>j<=(d.Red.drop (n+1)).length) (fun j=>(d.Red.drop (n+1)).length-j) ⟨0,(by omega),Weak.mk [true,true,true,true] ⟨VLe.of_eq (congrArg vB (by rw [show jW (bX x s).1 ((d.Red.drop (n+1)).take 0)=true from rfl,Bool.and_true])),VLe.of_eq (congrArg vI (by omega)),U,U,U,U,U,U,U,U,T⟩ O⟩ ?_
   rintro j hj
   refine zM<|Y O<|G O<|zF O kU<|zK kY (J 3 O) O<|qB O N<|yI O<|G O<|rL0 O (fun g10_5=>zS O O) O<|yZ O (fun h=>h)<|W<|zH O (fun c3=>?_) (fun c3=>?_)
   ·try simp only [sx] at c3
    obtain ⟨y,hy⟩:=qU (d.Red.drop (n+1)) j (by omega)
    have hy2:d.Red[((n:Int)+1+j).toNat]? =some y:=by rw [show ((n:Int)+1+j).toNat=n+1+j by omega,←List.getElem?_drop];exact hy
    refine zN<|zM<|zR<|qW 10 mixed (by kernel_rfl) O O<|zQ O O (zU O yB O (J 0 O) O)<|zQ O O (zE O kU O)<|zQ O O (zJ O kY O (J 3 O) O)<|zQ O O (zS O O)<|zQ O O (qH O N O O (by omega) (getm hy2))<|zQ O O (qP O zAm O)<|zQ O O (zJ O one9 O qE O)<|zQ O O (qL O ok135 (zQv (bX x s).1 y.Name (by omega)) ⟨U,O,U,O,T⟩)<|zQ O O (yM O O O)<|zQ O O (yY O O)<|yR<|W<|zT O<|G O<|qK O ⟨by omega,by omega⟩<|G O<|W ?_
    refine ⟨j+1,(by omega),(by omega),Weak.mk [true,true,true,true] ⟨VLe.of_eq (congrArg vB (by rw [free_take hy,←Bool.and_assoc,c3.2.1,c3.2.2,Bool.true_and,Bool.true_and];exact zSu y.Name hsk)),VLe.of_eq (congrArg vI (by omega)),U,U,U,U,U,U,U,U,T⟩ O⟩
   ·try simp only [sx] at c3
    have hsel:=free_stop (f:=(bX x s).1) (l:=d.Red.drop (n+1)) (j:=j) (b:=(bX x s).2) (fun h=>by have h5:=h.1;have h6:=h.2;rw [Bool.and_eq_true] at h6;rcases c3 with c|c|c;exact absurd h5 (by omega);rw [h6.1] at c;cases c;rw [h6.2] at c;cases c)
    rw [hsel]
    refine qO<|Y O<|G O<|W<|zH O (fun c4=>?_) (fun c4=>?_)
    ·have hs1:lL d n s x=true:=c4
     have hC:=chain_put hF hn hgo (by rw [zFf hx hs1 hp];omega)
     rw [zFf hx hs1 hp,show gG d n s (bC d.Body).conds=(bX x s).1 by unfold gG;rw [zQk hx hs1 hp]] at hC
     refine Y O<|zP zAi (J 3 O) O<|G O<|G O<|G O<|zP yG (J 1 O) O<|zP yB (J 0 O) O<|qQ O ok136 (ref22_putW d n (bC d.Body).conds k (bC d.Body).val (bX x s).1 hn2 q5 q3.2 q1 hcl q2 (solve_ok s (q1 x (zX hx)).1).2 (by omega) h2 h4) ⟨U,O,U,O,U,O,U,O,U,O,U,O,T⟩<|qA O (yA O O O)<|yX O<|rStR 2 sz63 O<|G O<|W<|zO<|fin2 (zZ zAi O (J 2 O) O) (rs_c O) ?_
     rw [hn3,dfR,hC];rfl
    ·have hs0:lL d n s x=false:=c4
     refine zN<|zT O<|G O<|qK O ⟨by omega,by omega⟩<|G O<|W ?_
     refine ⟨k+1,⟨by omega,zCb hx hp hs0⟩,(by omega),Weak.mk [false,true,true,true] ⟨U,U,U,U,U,U,U,T⟩ O⟩
  ·try simp only [sx] at c2
   rw [qY (by omega)] at hp
   have hC:dN d s=none:=chain_no3 hn (by rw [zDf hp];omega)
   refine qO<|Y O<|yF [none,none,none,none,none,none,some 3,some 3,none,none,none,none,none,none,none,none,none,none,none,some 2,some 4,some 13] O zr63 pl63<|rStR 1 sz63 O<|G O<|W<|zO<|fin2 (zZ zAi O (J 1 O) O) (rs_c O) ?_
   rw [dfR,hC];rfl
end Go.W
end
section
set_option maxRecDepth 10000
namespace Go.W
open Go Go.Eng Go.Proofs Go.L41 Go.Br
attribute [local irreducible] AWP RWP TD fL
theorem ok129:bA Tryz.prog 129=true:=by kernel_rfl
theorem ok130:bA Tryz.prog 130=true:=by kernel_rfl
theorem ok131:bA Tryz.prog 131=true:=by kernel_rfl
theorem ok178:bA Tryz.prog 178=true:=by kernel_rfl
theorem zMt (l:Lf) (hl:l.L.length<=4294967296):
    Pur cfg 178 [dK l] (dK l):=by
 refine zW Tryz.func178 O Tryz.ntmps178 Tryz.results178 O ?_
 intro z hz
 refine Y O<|zY O O (qN O O) ?_
 rintro _ _ ⟨b1,rfl,rfl⟩
 refine zY O O (qF [none,some 2] O v O) ?_
 rintro _ _ ⟨b2,rfl,rfl⟩
 refine W<|Y O<|zF O zCk<|zK one2 (J 1 O) O<|yN O v pl40<|zY O O (yJ O v) ?_
 rintro _ _ ⟨b3,rfl,rfl⟩
 refine yE _ (yU 107 2)<|rStR 1 sz40 O<|W<|Y O<|zF O yP<|zK kQ (J 1 O) O<|zF O yP<|zK kQ (J 3 O) O<|zY O O (qV 0 O D O O O (by simp;omega) (by simp;omega)) ?_
 rintro _ _ ⟨sv5,rfl,rfl⟩
 refine zF O yP<|rStR 1 sz38 O<|W<|Y O<|yE _ (yC 0 O (regs':=[(11,_)]) (μ':=[_,_,_]) ⟨FLe.sl,T⟩ ⟨EFle.row (ds:=[_,_]) ⟨.inl O,.inr ⟨O,O⟩,T⟩,EFle.refl _,EFle.refl _,T⟩)<|zP yB (J 0 O) O<|rStR 1 sz40 O<|W<|zO<|fin1 (zZ yB O (J 1 O) O) ?_
 rfl
theorem zQu (e:Ex) (ih:∀a,a∈e.Args->a.wt<=4294967296->Pur cfg 131 [vE a] (vE a)) (he:e.wt<=4294967296):
    Pur cfg 131 [vE e] (vE e):=by
 refine zW Tryz.func131 O Tryz.ntmps131 Tryz.results131 O ?_
 intro z hz
 obtain ⟨hL,hI,hA⟩:=e.parts he
 refine Y O<|zY O O (qN O O) ?_
 rintro _ _ ⟨b1,rfl,rfl⟩
 refine zY O O (qF [none,none,none,none,none,none,none,none,none,none,some 2,some 4,some 13] O zr44 O) ?_
 rintro _ _ ⟨b2,rfl,rfl⟩
 refine W<|zM<|kI 13 1 [⟨0,.q []⟩,⟨1,.q [2]⟩,⟨2,.q []⟩,⟨3,.q [2]⟩,⟨4,.q []⟩,⟨5,.q [2]⟩,⟨6,.q []⟩,⟨7,.q [2]⟩,⟨8,.q []⟩,⟨9,.q [2]⟩,⟨10,.q []⟩,⟨11,.q []⟩,⟨12,.f 0⟩] mixed (by kernel_rfl) (by kernel_rfl) O O O<|qD O<|qD O<|qD O<|qD O<|qD O<|qD O<|qD O<|qD O<|qD O<|qD O<|qD O<|qD O<|zGv O O (wH (qF [none,none,none,none,none,none,none,none,none,none,some 2,some 4,some 13] O zr44 O)) ⟨_,_,0,O,O⟩<|zBq<|qM O (by decide) O O (zE O kE O)<|qM O (by decide) O O (zJ O one3 O (J 0 O) O)<|qM O (by decide) O O (zE O zJi O)<|qM O (by decide) O O (zJ O one9 O (J 0 O) O)<|qM O (by decide) O O (zE O zHe O)<|qM O (by decide) O O (zU O zJe O (J 0 O) O)<|qM O (by decide) O O (zE O zCw O)<|qM O (by decide) O O (zU O yO O (J 0 O) O)<|qM O (by decide) O O (zE O zBk O)<|qM O (by decide) O O (zU O yB O (J 0 O) O)<|qM O (by decide) O O (qL O ok178 (zMt e.Lin hL) ⟨U,O,T⟩)<|qM O (by decide) O O (kW O zr44 pl44 O)<|zGr O O ?_
 rintro _ _ ⟨b3,rfl,rfl⟩
 refine zBp O<|rStR 0 sz44 O<|W<|zM<|Y O<|yE _ (yU 115 4)<|yE _ (yU 44 13)<|G O<|W<|zR<|qC ⟨[(4,.c _),(1,.c _),(2,.c _),(3,.c _)],[_,_,_,_,_]⟩ (Weak.mk [true,true,true,true,true] ⟨U,U,U,U,T⟩ O)<|qG 1 3 O O (Nat×Value) (fun ⟨k,sv⟩=>[(4,vI k)]) (fun ⟨k,sv⟩=>[E.vec (.slice none 0 0) 44 13 [],E.vec sv 115 4 ((e.Idx.take k).map Ix.cells),E.row b3 44 [cI e.Op,cS e.Name,cI e.Val.N,cI e.Val.D,cI e.Ty.Kind,cI e.Ty.Bits,cI e.Ty.Frac,cI e.Ty.Round,cI e.Ty.Over,cI e.Lin.K,.sl 2 (e.Lin.L.map Mono.cells),.lit sv,.lit (.slice none 0 0)]]) (fun ⟨k,sv⟩=>k<=e.Idx.length) (fun ⟨k,sv⟩=>e.Idx.length-k) ⟨⟨0,(.slice none 0 0)⟩,(by omega),Weak.mk [true,true,true,true,true] ⟨U,U,U,U,T⟩ O⟩ ?_
 rintro ⟨k,sv⟩ hk
 show AWP _ _ _ _ _ ⟨[(4,vI k)]++_,[E.vec (.slice none 0 0) 44 13 [],E.vec sv 115 4 ((e.Idx.take k).map Ix.cells),E.row b3 44 [cI e.Op,cS e.Name,cI e.Val.N,cI e.Val.D,cI e.Ty.Kind,cI e.Ty.Bits,cI e.Ty.Frac,cI e.Ty.Round,cI e.Ty.Over,cI e.Lin.K,.sl 2 (e.Lin.L.map Mono.cells),.lit sv,.lit (.slice none 0 0)]]++_⟩
 refine zM<|Y O<|G O<|zF O kM<|zK zAh (J 4 O) O<|qB O el41<|yI O<|W<|zH O (fun c1=>?_) (fun c1=>?_)
 ·try simp only [sx] at c1
  obtain ⟨x,hx⟩:=qU e.Idx k (by omega)
  have hxw:=Ex.idx_wt (zX hx)
  refine zN<|zM<|zR<|zM<|kI 15 1 [⟨0,.q []⟩,⟨1,.q [5]⟩,⟨2,.q []⟩,⟨3,.q []⟩,⟨4,.q []⟩,⟨5,.q []⟩,⟨6,.q []⟩,⟨7,.q []⟩,⟨8,.q [5]⟩,⟨9,.q []⟩,⟨10,.q []⟩,⟨11,.q []⟩,⟨12,.q []⟩,⟨13,.q []⟩,⟨14,.f 0⟩] mixed (by kernel_rfl) (by kernel_rfl) O O O<|qD O<|qD O<|qD O<|qD O<|qD O<|qD O<|qD O<|qD O<|qD O<|qD O<|qD O<|qD O<|qD O<|qD O<|zGv O O (wH (qF [none,some 2,none,some 2] O zJa O)) ⟨_,_,0,O,O⟩<|zBq<|qM O (by decide) O O (zE O kM O)<|qM O (by decide) O O (zJ O zAh O (J 0 O) O)<|qM O (by decide) O O (zS O O)<|qM O (by decide) O O (qH O el41 O O (by omega) (getm (by assumption)))<|qM O (by decide) O O (qP O zCp O)<|qM O (by decide) O O (zU O yB O qE O)<|qM O (by decide) O O (qL O ok178 (zMt x.Lin (by have:=Ex.idx_wt (zX hx);omega)) ⟨U,O,T⟩)<|qM O (by decide) O O (zE O kM O)<|qM O (by decide) O O (zJ O zAh O (J 0 O) O)<|qM O (by decide) O O (zS O O)<|qM O (by decide) O O (qH O el41 O O (by omega) (getm (by assumption)))<|qM O (by decide) O O (qP O zCe O)<|qM O (by decide) O O (zJ O one9 O qE O)<|qM O (by decide) O O (kW O zJa pl115 O)<|zGr O O ?_
  rintro _ _ ⟨b4,rfl,rfl⟩
  refine zBp O<|rStR 0 zQb O<|W<|zM<|Y O<|yE _ (yU 40 2)<|G O<|W<|zR<|qC ⟨[(6,.c _),(1,.c _),(2,.c _),(3,.c _),(4,.c _),(5,.c _)],[_,_,_,_,_,_,_]⟩ (Weak.mk [true,true,true,true,true,true,true] ⟨U,U,U,U,U,U,T⟩ O)<|qG 1 2 O O (Nat×Value) (fun ⟨j,sw⟩=>[(6,vI j)]) (fun ⟨j,sw⟩=>[E.vec sw 40 2 ((x.At.take j).map Lf.cells),E.row b4 115 [cI x.Lin.K,.sl 2 (x.Lin.L.map Mono.cells),cS x.From,.lit sw]]) (fun ⟨j,sw⟩=>j<=x.At.length) (fun ⟨j,sw⟩=>x.At.length-j) ⟨⟨0,(.slice none 0 0)⟩,(by omega),Weak.mk [true,true,true,true,true,true,true] ⟨U,U,U,U,U,U,T⟩ O⟩ ?_
  rintro ⟨j,sw⟩ hj
  show AWP _ _ _ _ _ ⟨[(6,vI j)]++_,[E.vec sw 40 2 ((x.At.take j).map Lf.cells),E.row b4 115 [cI x.Lin.K,.sl 2 (x.Lin.L.map Mono.cells),cS x.From,.lit sw]]++_⟩
  refine zM<|Y O<|G O<|zF O kM<|zK zAh (J 6 O) O<|G O<|qJ O el41 (by omega) (getm (by assumption))<|qS O wI<|zK zAp qE O<|qB O el65<|yI O<|W<|zH O (fun c2=>?_) (fun c2=>?_)
  ·try simp only [sx] at c2
   obtain ⟨l,hl⟩:=qU x.At j (by omega)
   refine zN<|zM<|zR<|qW 13 mixed (by kernel_rfl) O O<|zQ O O (zE O wI O)<|zQ O O (zJ O zAp O (J 1 O) O)<|zQ O O (zE O kM O)<|zQ O O (zJ O zAh O (J 6 O) O)<|zQ O O (zS O O)<|zQ O O (qH O el41 O O (by omega) (getm (by assumption)))<|zQ O O (qP O wI O)<|zQ O O (zJ O zAp O qE O)<|zQ O O (zS O O)<|zQ O O (qH O el65 O O (by omega) (getm (by assumption)))<|zQ O O (zU O yB O qE O)<|zQ O O (qL O ok178 (zMt l (by have:=Ex.idx_wt (zX hx);have:=zDe (zX hl);omega)) ⟨U,O,T⟩)<|zQ O O (wG O el65 v O O O O)<|yR<|zY O O (qV 0 O el65 O O O (by simp only [List.length_take,List.length_map,List.length_append,List.length_cons,List.length_nil];omega) (by simp only [List.length_take,List.length_map,List.length_append,List.length_cons,List.length_nil];omega)) ?_
   rintro _ _ ⟨sv5,rfl,rfl⟩
   refine zF O wI<|rStR 1 sz65 O<|W<|zT O<|G O<|qK O ⟨by omega,by omega⟩<|G O<|W ?_
   refine ⟨⟨j+1,sv5⟩,(by omega),(by show x.At.length-(j+1)<x.At.length-j;omega),Weak.mk [true,true,true,true,true,true,true] ⟨U,U,U,U,U,U,T⟩ (by exact zDn (by rw [qT hl,List.map_append];rfl))⟩
  ·try simp only [sx] at c2
   rw [qY (l:=x.At) (k:=j) (by omega)]
   refine qC _ (yC 0 O (regs':=[]) (μ':=[_,_,_,_,_,_]) T ⟨EFle.row (ds:=[_,_,_,_]) ⟨.inl O,.inl O,.inl O,.inr ⟨O,O⟩,T⟩,EFle.refl _,EFle.refl _,EFle.refl _,EFle.refl _,EFle.refl _,T⟩)<|qO<|zT O<|zF O kM<|zK zAh (J 3 O) O<|zP zDv (J 0 O) O<|yV O el41 zJa<|zY O O (qV 2 O el41 O O O (by simp only [List.length_take,List.length_map,List.length_append,List.length_cons,List.length_nil];omega) (by simp only [List.length_take,List.length_map,List.length_append,List.length_cons,List.length_nil];omega)) ?_
   rintro _ _ ⟨sv6,rfl,rfl⟩
   refine zF O kM<|rStR 3 sz41 O<|W<|zT O<|G O<|qK O ⟨by omega,by omega⟩<|G O<|W ?_
   refine ⟨⟨k+1,sv6⟩,(by omega),(by show e.Idx.length-(k+1)<e.Idx.length-k;omega),Weak.mk [false,true,true,true,true,true] ⟨U,U,U,U,T⟩ (by exact zRl (by rw [qT hx,List.map_append];rfl))⟩
 ·try simp only [sx] at c1
  rw [qY (l:=e.Idx) (k:=k) (by omega)]
  refine qC _ (yC 1 O (regs':=[]) (μ':=[_,_,_,_]) T ⟨EFle.refl _,EFle.row (ds:=[_,_,_,_,_,_,_,_,_,_,_,_,_]) ⟨.inl O,.inl O,.inl O,.inl O,.inl O,.inl O,.inl O,.inl O,.inl O,.inl O,.inl O,.inr ⟨O,O⟩,.inl O,T⟩,EFle.refl _,EFle.refl _,T⟩)<|qO<|zM<|Y O<|G O<|W<|zR<|qC ⟨[(7,.c _),(1,.c _),(2,.c _),(3,.c _)],[_,_,_,_]⟩ (Weak.mk [true,true,true,true] ⟨U,U,U,U,T⟩ O)<|qG 1 2 O O (Nat×Value) (fun ⟨n,su⟩=>[(7,vI n)]) (fun ⟨n,su⟩=>[E.vec su 44 13 ((e.Args.take n).map Ex.cells),E.row b3 44 [cI e.Op,cS e.Name,cI e.Val.N,cI e.Val.D,cI e.Ty.Kind,cI e.Ty.Bits,cI e.Ty.Frac,cI e.Ty.Round,cI e.Ty.Over,cI e.Lin.K,.sl 2 (e.Lin.L.map Mono.cells),.sl 4 (e.Idx.map Ix.cells),.lit su]]) (fun ⟨n,su⟩=>n<=e.Args.length) (fun ⟨n,su⟩=>e.Args.length-n) ⟨⟨0,(.slice none 0 0)⟩,(by omega),Weak.mk [true,true,true,true] ⟨U,U,U,U,T⟩ O⟩ ?_
  rintro ⟨n,su⟩ hn
  show AWP _ _ _ _ _ ⟨[(7,vI n)]++_,[E.vec su 44 13 ((e.Args.take n).map Ex.cells),E.row b3 44 [cI e.Op,cS e.Name,cI e.Val.N,cI e.Val.D,cI e.Ty.Kind,cI e.Ty.Bits,cI e.Ty.Frac,cI e.Ty.Round,cI e.Ty.Over,cI e.Lin.K,.sl 2 (e.Lin.L.map Mono.cells),.sl 4 (e.Idx.map Ix.cells),.lit su]]++_⟩
  refine zM<|Y O<|G O<|zF O kO<|zK zAj (J 3 O) O<|qB O el42<|yI O<|W<|zH O (fun c3=>?_) (fun c3=>?_)
  ·try simp only [sx] at c3
   obtain ⟨a,ha⟩:=qU e.Args n (by omega)
   refine zN<|zM<|zR<|qW 9 mixed (by kernel_rfl) O O<|zQ O O (zE O kO O)<|zQ O O (zJ O zAj O (J 1 O) O)<|zQ O O (zE O kO O)<|zQ O O (zJ O zAj O (J 3 O) O)<|zQ O O (zS O O)<|zQ O O (qH O el42 O O (by omega) (zBj (by assumption)))<|zQ O O (zU O yG O qE O)<|zQ O O (qL O ok131 (ih a (zX ha) (by have:=Ex.arg_wt (zX ha);omega)) ⟨U,O,T⟩)<|zQ O O (wG O el42 zr44 O O O O)<|yR<|zY O O (qV 0 O el42 O O O (by simp only [List.length_take,List.length_map,List.length_append,List.length_cons,List.length_nil];omega) (by simp only [List.length_take,List.length_map,List.length_append,List.length_cons,List.length_nil];omega)) ?_
   rintro _ _ ⟨sv7,rfl,rfl⟩
   refine zF O kO<|rStR 1 sz42 O<|W<|zT O<|G O<|qK O ⟨by omega,by omega⟩<|G O<|W ?_
   refine ⟨⟨n+1,sv7⟩,(by omega),(by show e.Args.length-(n+1)<e.Args.length-n;omega),Weak.mk [true,true,true,true] ⟨U,U,U,U,T⟩ (by exact zDn (by rw [qT ha,List.map_append];simp only [List.map_cons,List.map_nil,Ex.cells_eq]))⟩
  ·try simp only [sx] at c3
   rw [qY (l:=e.Args) (k:=n) (by omega)]
   refine qC _ (yC 0 O (regs':=[]) (μ':=[_,_,_]) T ⟨EFle.row (ds:=[_,_,_,_,_,_,_,_,_,_,_,_,_]) ⟨.inl O,.inl O,.inl O,.inl O,.inl O,.inl O,.inl O,.inl O,.inl O,.inl O,.inl O,.inl O,.inr ⟨O,O⟩,T⟩,EFle.refl _,EFle.refl _,T⟩)<|qO<|Y O<|zP yG (J 0 O) O<|rStR 1 sz44 O<|W<|zO<|fin1 (zZ yG O (J 1 O) O) ?_
   rfl
theorem ref14_Twin (e:Ex) (he:e.wt<=4294967296):Pur cfg 131 [vE e] (vE e):=by
  induction e using Ex.ind with
  |_ e ih=>exact zQu e (fun a ha h=>ih a ha h) he
theorem zMq (l:Lf) (hl:l.L.length<=5864062014805):
    Pur cfg 129 [dK l] (dK l):=by
 refine zW Tryz.func129 O Tryz.ntmps129 Tryz.results129 O ?_
 intro z hz
 refine Y O<|zY O O (qN O O) ?_
 rintro _ _ ⟨b1,rfl,rfl⟩
 refine zY O O (qF [none,some 2] O v O) ?_
 rintro _ _ ⟨b2,rfl,rfl⟩
 refine W<|zM<|kI 6 1 [⟨0,.q []⟩,⟨1,.q [2]⟩,⟨3,.q []⟩,⟨4,.q [2]⟩,⟨2,.e 0 []⟩,⟨5,.e 0 []⟩] mixed (by kernel_rfl) (by kernel_rfl) O O O<|qD O<|qD O<|qD O<|qD O<|qD O<|qD O<|zBq<|qM O (by decide) O O (zE O zCk O)<|qM O (by decide) O O (zJ O one2 O (J 0 O) O)<|qM O (by decide) O O (zE O yP O)<|qM O (by decide) O O (zJ O kQ O (J 0 O) O)<|zFs O O (by decide) O O (zAa O D zCy O O O O) ?_
 rintro _ _ ⟨sv3,rfl,rfl⟩
 refine ⟨_,O,?_⟩
 refine zFs O O (by decide) O O (qV 0 O D O O O (by simp;omega) (by simp;omega)) ?_
 rintro _ _ ⟨sv4,rfl,rfl⟩
 refine ⟨_,O,?_⟩
 refine zBp O<|yN O v pl40<|rStR 1 sz40 O<|W ?_
 skip
 refine qC _ (yC 0 O (regs':=[(8,_),(9,.agg [_,_])]) (μ':=[_,_]) ⟨FLe.sl,FLe.agg ⟨.inl O,.inr ⟨O,O⟩,T⟩,T⟩ ⟨EFle.row (ds:=[_,_]) ⟨.inl O,.inr ⟨O,O⟩,T⟩,EFle.refl _,T⟩)<|zO<|fin1 (zZ yB O (J 0 O) O) ?_
 rfl
theorem zQo (l:List Ax) (hl:l.length<=4294967296) (hx0:∀x,x∈l->x.Size.L.length<=5864062014805):
    OwnR cfg 130 [.c (.sl 3 (l.map Ax.cells))] 111 3 (l.map Ax.cells):=by
 refine zW Tryz.func130 O Tryz.ntmps130 Tryz.results130 O ?_
 intro z hz
 refine Y O<|qA O (yQ 3 O O)<|W<|Y O<|G O<|yE _ (yU 111 3)<|W<|zM<|Y O<|G O<|W<|zR<|qC ⟨[(4,.c _),(3,.c _),(0,.c _)],[_]⟩ (Weak.mk [true] ⟨U,U,U,T⟩ O)<|qG 2 1 O O (Nat×Value) (fun ⟨k,sv⟩=>[(4,vI k),(3,.c (.lit sv))]) (fun ⟨k,sv⟩=>[E.vec sv 111 3 ((l.take k).map Ax.cells)]) (fun ⟨k,sv⟩=>k<=l.length) (fun ⟨k,sv⟩=>l.length-k) ⟨⟨0,(.slice none 0 0)⟩,(by omega),Weak.mk [true] ⟨U,U,U,T⟩ O⟩ ?_
 rintro ⟨k,sv⟩ hk
 show AWP _ _ _ _ _ ⟨[(4,vI k),(3,.c (.lit sv))]++_,[E.vec sv 111 3 ((l.take k).map Ax.cells)]++_⟩
 refine zM<|Y O<|G O<|G O<|qB O N<|yI O<|W<|zH O (fun c1=>?_) (fun c1=>?_)
 ·try simp only [sx] at c1
  obtain ⟨x,hx⟩:=qU l k (by omega)
  refine zN<|zM<|zR<|qW 14 mixed (by kernel_rfl) O O<|zQ O O (zS O O)<|zQ O O (zS O O)<|zQ O O (zS O O)<|zQ O O (qH O N O O (by omega) (getm (by assumption)))<|zQ O O (qP O zAm O)<|zQ O O (zJ O one9 O qE O)<|zQ O O (zS O O)<|zQ O O (zS O O)<|zQ O O (qH O N O O (by omega) (getm (by assumption)))<|zQ O O (qP O zEu O)<|zQ O O (zU O yB O qE O)<|zQ O O (qL O ok129 (zMq x.Size (hx0 x (zX hx))) ⟨U,O,T⟩)<|zQ O O (kW O zJb pl111 O)<|zQ O O (wG O N zJb O O O O)<|yR<|zY O O (qV 0 O N O O O (by first|omega|(simp only [List.length_take,List.length_map,List.length_append,List.length_nil,List.length_cons];omega)) (by first|omega|(simp only [List.length_take,List.length_map,List.length_append,List.length_nil,List.length_cons];omega))) ?_
  rintro _ _ ⟨sv2,rfl,rfl⟩
  refine G O<|W<|zT O<|G O<|qK O ⟨by omega,by omega⟩<|G O<|W ?_
  refine ⟨⟨k+1,sv2⟩,(by omega),(by show l.length-(k+1)<l.length-k;omega),Weak.mk [true] ⟨U,U,U,T⟩ (by exact mem1_eq (by rw [qT hx,List.map_append];rfl))⟩
 ·try simp only [sx] at c1
  refine qO<|Y O<|G O<|G O<|W<|zO<|zV O ?_
  exact ⟨_,O,by rw [qY (by omega)];rfl⟩
theorem program_CopyDS (p:Pg) (hP:p.OkC):
    Con cfg 37 [vPg p] [] fun r μ'=>∃μ2,(∃ν1 ν2,μ'=ν1++(μ2++ν2))/\∃svD,r=.agg [.sl 1 (p.Sizes.map fun s=>[cS s]),.sl 3 (p.Where.map Cn.cells),.sl 7 (p.Params.map Pm.cells),.lit svD,.sl 1 (p.Outs.map fun s=>[cS s])]/\μ2=[E.vec svD 63 22 (p.Defs.map Df.cells)]:=by
 refine zW Tryz.func37 O Tryz.ntmps37 Tryz.results37 O ?_
 intro z hz
 have hP1:=hP.wh
 have hP2:=hP.params
 have hP3:=hP.defs
 refine Y O<|zY O O (qN O O) ?_
 rintro _ _ ⟨b1,rfl,rfl⟩
 refine zY O O (qF [some 1,some 3,some 7,some 22,some 1] O zr27 O) ?_
 rintro _ _ ⟨b2,rfl,rfl⟩
 refine W<|zM<|kI 8 1 [⟨0,.q []⟩,⟨1,.q [2]⟩,⟨2,.q []⟩,⟨3,.q []⟩,⟨4,.q [2]⟩,⟨5,.q []⟩,⟨6,.q []⟩,⟨7,.f 0⟩] mixed (by kernel_rfl) (by kernel_rfl) O O O<|qD O<|qD O<|qD O<|qD O<|qD O<|qD O<|qD O<|zGv O O (wH (yJ O zr27)) ⟨_,_,0,O,O⟩<|zBq<|qM O (by decide) O O (zE O zCl O)<|qM O (by decide) O O (zJ O zBn O (J 0 O) O)<|qM O (by decide) O O (qL O ok83 (OwnR.pur (zBx p.Sizes hP.sizes)) ⟨U,O,T⟩)<|qM O (by decide) O O (zE O zFh O)<|qM O (by decide) O O (zJ O zBn O (J 0 O) O)<|qM O (by decide) O O (qL O ok83 (OwnR.pur (zBx p.Outs hP.outs)) ⟨U,O,T⟩)<|qM O (by decide) O O (kW O zr27 pl27 O)<|zGr O O ?_
 rintro _ _ ⟨b3,rfl,rfl⟩
 refine zBp O<|rStR 0 sz27 O<|W<|zM<|Y O<|yE _ (yU 101 3)<|yE _ (yU 67 7)<|yE _ (yU 63 22)<|zF O zBu<|zK zHj (J 5 O) O<|qB O el23<|G O<|W<|zR<|qC ⟨[(20,.c _),(1,.c _),(2,.c _),(3,.c _),(18,.c _),(19,.c _)],[_,_,_,_,_,_]⟩ (Weak.mk [true,true,true,true,true,true] ⟨U,U,U,U,U,U,T⟩ O)<|qG 1 4 O O (Nat×Value) (fun ⟨k,sv⟩=>[(20,vI k)]) (fun ⟨k,sv⟩=>[E.vec (.slice none 0 0) 63 22 ([]),E.vec (.slice none 0 0) 67 7 ([]),E.vec sv 101 3 ((p.Where.take k).map Cn.cells),E.row b3 27 [.sl 1 (p.Sizes.map fun s=>[cS s]),.lit sv,.lit (.slice none 0 0),.lit (.slice none 0 0),.sl 1 (p.Outs.map fun s=>[cS s])]]) (fun ⟨k,sv⟩=>k<=p.Where.length) (fun ⟨k,sv⟩=>p.Where.length-k) ⟨⟨0,(.slice none 0 0)⟩,(by omega),Weak.mk [true,true,true,true,true,true] ⟨U,U,U,U,U,U,T⟩ O⟩ ?_
 rintro ⟨k,sv⟩ hk
 show AWP _ _ _ _ _ ⟨[(20,vI k)]++_,[E.vec (.slice none 0 0) 63 22 ([]),E.vec (.slice none 0 0) 67 7 ([]),E.vec sv 101 3 ((p.Where.take k).map Cn.cells),E.row b3 27 [.sl 1 (p.Sizes.map fun s=>[cS s]),.lit sv,.lit (.slice none 0 0),.lit (.slice none 0 0),.sl 1 (p.Outs.map fun s=>[cS s])]]++_⟩
 refine Y O<|yI O<|W<|zM<|zH O (fun c1=>?_) (fun c1=>?_)
 ·try simp only [sx] at c1
  obtain ⟨x,hx⟩:=qU p.Where k (by omega)
  refine zN<|zM<|zR<|Y O<|qJ O el23 (by omega) (getm (by assumption))<|zP zTe qE O<|zY O O (qF [none,some 2,none] O zr101 O) ?_
  rintro _ _ ⟨b4,rfl,rfl⟩
  refine rStR 0 sz101 O<|W<|qW 9 mixed (by kernel_rfl) O O<|zQ O O (zE O zBu O)<|zQ O O (zJ O zHj O (J 4 O) O)<|zQ O O (zE O zGw O)<|zQ O O (zU O yB O (J 0 O) O)<|zQ O O (qL O ok84 (zBb x.Lin (hP.whs x (zX hx))) ⟨U,O,T⟩)<|zQ O O (zE O zSb O)<|zQ O O (zJ O one4 O (J 0 O) O)<|zQ O O (kW O zr101 pl101 O)<|zQ O O (wG O el23 zr101 O O O O)<|yR<|zY O O (qV 3 O el23 O O O (by simp only [List.length_take,List.length_map,List.length_append,List.length_cons,List.length_nil];omega) (by simp only [List.length_take,List.length_map,List.length_append,List.length_cons,List.length_nil];omega)) ?_
  rintro _ _ ⟨sv5,rfl,rfl⟩
  refine zF O zBu<|rStR 4 sz23 O<|W<|zT O<|qK O ⟨by omega,by omega⟩<|G O<|W ?_
  refine ⟨⟨k+1,sv5⟩,(by omega),(by show p.Where.length-(k+1)<p.Where.length-k;omega),Weak.mk [false,true,true,true,true,true,true] ⟨U,U,U,U,U,U,T⟩ (by exact mem4_eq (by rw [qT hx,List.map_append];rfl))⟩
 ·try simp only [sx] at c1
  rw [qY (l:=p.Where) (k:=k) (by omega)]
  refine qC _ (yC 2 O (regs':=[]) (μ':=[_,_,_,_,_]) T ⟨EFle.refl _,EFle.refl _,EFle.row (ds:=[_,_,_,_,_]) ⟨.inl O,.inr ⟨O,O⟩,.inl O,.inl O,.inl O,T⟩,EFle.refl _,EFle.refl _,T⟩)<|qO<|zM<|Y O<|zF O wM<|zK zBm (J 4 O) O<|qB O el24<|G O<|W<|zR<|qC ⟨[(39,.c _),(1,.c _),(2,.c _),(3,.c _),(37,.c _),(38,.c _)],[_,_,_,_,_]⟩ (Weak.mk [true,true,true,true,true] ⟨U,U,U,U,U,U,T⟩ O)<|qG 1 3 O O (Nat×Value) (fun ⟨k,sw⟩=>[(39,vI k)]) (fun ⟨k,sw⟩=>[E.vec (.slice none 0 0) 63 22 ([]),E.vec sw 67 7 ((p.Params.take k).map Pm.cells),E.row b3 27 [.sl 1 (p.Sizes.map fun s=>[cS s]),.sl 3 (p.Where.map Cn.cells),.lit sw,.lit (.slice none 0 0),.sl 1 (p.Outs.map fun s=>[cS s])]]) (fun ⟨k,sw⟩=>k<=p.Params.length) (fun ⟨k,sw⟩=>p.Params.length-k) ⟨⟨0,(.slice none 0 0)⟩,(by omega),Weak.mk [true,true,true,true,true] ⟨U,U,U,U,U,U,T⟩ O⟩ ?_
  rintro ⟨k,sw⟩ hk
  show AWP _ _ _ _ _ ⟨[(39,vI k)]++_,[E.vec (.slice none 0 0) 63 22 ([]),E.vec sw 67 7 ((p.Params.take k).map Pm.cells),E.row b3 27 [.sl 1 (p.Sizes.map fun s=>[cS s]),.sl 3 (p.Where.map Cn.cells),.lit sw,.lit (.slice none 0 0),.sl 1 (p.Outs.map fun s=>[cS s])]]++_⟩
  refine Y O<|yI O<|W<|zM<|zH O (fun c2=>?_) (fun c2=>?_)
  ·try simp only [sx] at c2
   obtain ⟨y,hy⟩:=qU p.Params k (by omega)
   refine zN<|zM<|zR<|Y O<|qJ O el24 (by omega) (getm (by assumption))<|zP agg67 qE O<|zY O O (qF [none,none,none,none,none,none,some 2] O zr67 O) ?_
   rintro _ _ ⟨b6,rfl,rfl⟩
   refine rStR 0 sz67 O<|W<|Y O<|zF O zCj<|zK zAp (J 0 O) O<|qQ O ok85 (OwnR.pur (zDb y.Dims (hP.ps y (zX hy)).1 (hP.ps y (zX hy)).2)) ⟨U,O,T⟩<|zF O zCj<|rStR 0 sz65 O<|W<|zT O<|zF O wM<|zK zBm (J 3 O) O<|zP agg67 (J 0 O) O<|yV O el24 zr67<|zY O O (qV 2 O el24 O O O (by simp only [List.length_take,List.length_map,List.length_append,List.length_cons,List.length_nil];omega) (by simp only [List.length_take,List.length_map,List.length_append,List.length_cons,List.length_nil];omega)) ?_
   rintro _ _ ⟨sv7,rfl,rfl⟩
   refine zF O wM<|rStR 3 sz24 O<|W<|zT O<|qK O ⟨by omega,by omega⟩<|G O<|W ?_
   refine ⟨⟨k+1,sv7⟩,(by omega),(by show p.Params.length-(k+1)<p.Params.length-k;omega),Weak.mk [false,true,true,true,true,true] ⟨U,U,U,U,U,U,T⟩ (by exact zRl (by rw [qT hy,List.map_append];rfl))⟩
  ·try simp only [sx] at c2
   rw [qY (l:=p.Params) (k:=k) (by omega)]
   refine qC _ (yC 1 O (regs':=[]) (μ':=[_,_,_,_]) T ⟨EFle.refl _,EFle.row (ds:=[_,_,_,_,_]) ⟨.inl O,.inl O,.inr ⟨O,O⟩,.inl O,.inl O,T⟩,EFle.refl _,EFle.refl _,T⟩)<|qO<|zM<|Y O<|zF O kV<|zK zAq (J 3 O) O<|qB O el25<|G O<|W<|zR<|qC ⟨[(57,.c _),(2,.c _),(3,.c _),(55,.c _),(56,.c _)],[_,_,_]⟩ (Weak.mk [true,true,true,false] ⟨U,U,U,U,U,T⟩ O)<|qG 1 2 O O (Nat×Value) (fun ⟨k,su⟩=>[(57,vI k)]) (fun ⟨k,su⟩=>[E.vec su 63 22 ((p.Defs.take k).map Df.cells),E.row b3 27 [.sl 1 (p.Sizes.map fun s=>[cS s]),.sl 3 (p.Where.map Cn.cells),.sl 7 (p.Params.map Pm.cells),.lit su,.sl 1 (p.Outs.map fun s=>[cS s])]]) (fun ⟨k,su⟩=>k<=p.Defs.length) (fun ⟨k,su⟩=>p.Defs.length-k) ⟨⟨0,(.slice none 0 0)⟩,(by omega),Weak.mk [true,true,true] ⟨U,U,U,U,U,T⟩ O⟩ ?_
   rintro ⟨k,su⟩ hk
   show AWP _ _ _ _ _ ⟨[(57,vI k)]++_,[E.vec su 63 22 ((p.Defs.take k).map Df.cells),E.row b3 27 [.sl 1 (p.Sizes.map fun s=>[cS s]),.sl 3 (p.Where.map Cn.cells),.sl 7 (p.Params.map Pm.cells),.lit su,.sl 1 (p.Outs.map fun s=>[cS s])]]++_⟩
   refine Y O<|yI O<|W<|zM<|zH O (fun c3=>?_) (fun c3=>?_)
   ·try simp only [sx] at c3
    obtain ⟨d,hd⟩:=qU p.Defs k (by omega)
    refine zN<|zM<|zR<|Y O<|qJ O el25 (by omega) (getm (by assumption))<|zP zAi qE O<|zY O O (qF [none,none,none,none,none,none,some 3,some 3,none,none,none,none,none,none,none,none,none,none,none,some 2,some 4,some 13] O zr63 O) ?_
    rintro _ _ ⟨b8,rfl,rfl⟩
    refine rStR 0 sz63 O<|W<|zM<|qW 10 mixed (by kernel_rfl) O O<|zQ O O (zE O zAt O)<|zQ O O (zJ O kY O (J 0 O) O)<|zQ O O (qL O ok86 (OwnR.pur (zBz d.Dims (by have:=(hP.ds d (zX hd)).1;omega) (hP.ds d (zX hd)).2.2.1)) ⟨U,O,T⟩)<|zQ O O (zE O kU O)<|zQ O O (zJ O kY O (J 0 O) O)<|zQ O O (qL O ok86 (OwnR.pur (zBz d.Red (by have:=(hP.ds d (zX hd)).2.1;omega) (hP.ds d (zX hd)).2.2.2.1)) ⟨U,O,T⟩)<|zQ O O (zE O zCv O)<|zQ O O (zU O yG O (J 0 O) O)<|zQ O O (qL O ok32 (zNn d.Body (hP.ds d (zX hd)).2.2.2.2.1 (hP.ds d (zX hd)).2.2.2.2.2) ⟨U,O,T⟩)<|zQ O O (zE O zAt O)<|yR<|rStR 0 sz61 O<|zF O kU<|rStR 0 sz61 O<|zF O zCv<|rStR 0 sz44 O<|W<|zT O<|zF O kV<|zK zAq (J 2 O) O<|zP zAi (J 0 O) O<|yV O el25 zr63<|zY O O (qV 1 O el25 O O O (by simp only [List.length_take,List.length_map,List.length_append,List.length_cons,List.length_nil];omega) (by simp only [List.length_take,List.length_map,List.length_append,List.length_cons,List.length_nil];omega)) ?_
    rintro _ _ ⟨sv9,rfl,rfl⟩
    refine zF O kV<|rStR 2 sz25 O<|W<|zT O<|qK O ⟨by omega,by omega⟩<|G O<|W ?_
    refine ⟨⟨k+1,sv9⟩,(by omega),(by show p.Defs.length-(k+1)<p.Defs.length-k;omega),Weak.mk [false,true,true,true] ⟨U,U,U,U,U,T⟩ (by exact zDn (by rw [qT hd,List.map_append];rfl))⟩
   ·try simp only [sx] at c3
    rw [qY (l:=p.Defs) (k:=k) (by omega)]
    refine qO<|Y O<|zP wY (J 1 O) O<|rStR 2 sz27 O<|W<|qC _ (Weak.mem [true,false,true] O)<|zO<|fin1 (zZ wY O (J 1 O) O) ?_
    exact ⟨[E.vec _ _ _ _],⟨[],[E.row _ _ _],O⟩,_,O,O⟩
theorem program_CopyD (p:Pg) (hP:p.OkC):Con cfg 37 [vPg p] [] fun r μ'=>∃svD,r=.agg [.sl 1 (p.Sizes.map fun s=>[cS s]),.sl 3 (p.Where.map Cn.cells),.sl 7 (p.Params.map Pm.cells),.lit svD,.sl 1 (p.Outs.map fun s=>[cS s])]/\μ'=[E.vec svD 63 22 (p.Defs.map Df.cells)]:=
  Con.dropG (program_CopyDS p hP)
theorem ref17_TwinDS (p:Pg) (hP:p.Ok):
    Con cfg 63 [vPg p] [] fun r μ'=>∃μ2,(∃ν1 ν2,μ'=ν1++(μ2++ν2))/\∃svD,r=.agg [.sl 1 (p.Sizes.map fun s=>[cS s]),.sl 3 (p.Where.map Cn.cells),.sl 7 (p.Params.map Pm.cells),.lit svD,.sl 1 (p.Outs.map fun s=>[cS s])]/\μ2=[E.vec svD 63 22 (p.Defs.map Df.cells)]:=by
 refine zW Tryz.func63 O Tryz.ntmps63 Tryz.results63 O ?_
 intro z hz
 have hP0:=hP.sizes
 have hP1:=hP.wh
 have hP2:=hP.params
 have hP3:=hP.defs
 have hP4:=hP.outs
 refine Y O<|zY O O (qN O O) ?_
 rintro _ _ ⟨b1,rfl,rfl⟩
 refine zY O O (qF [some 1,some 3,some 7,some 22,some 1] O zr27 O) ?_
 rintro _ _ ⟨b2,rfl,rfl⟩
 refine W<|zM<|kI 10 3 [⟨0,.q []⟩,⟨1,.q []⟩,⟨2,.q [4]⟩,⟨4,.q []⟩,⟨5,.q []⟩,⟨6,.q [4]⟩,⟨3,.e 2 []⟩,⟨7,.e 1 []⟩,⟨8,.q []⟩,⟨9,.f 0⟩] mixed (by kernel_rfl) (by kernel_rfl) O O O<|qD O<|qD O<|qD O<|qD O<|qD O<|qD O<|qD O<|qD O<|qD O<|zGv O O (wH (yJ O zr27)) ⟨_,_,0,O,O⟩<|zBq<|qM O (by decide) O O (zSl O el22 zr9)<|qM O (by decide) O O (zE O zCl O)<|qM O (by decide) O O (zJ O zBn O (J 0 O) O)<|qM O (by decide) O O (zSl O el22 zr9)<|qM O (by decide) O O (zE O zFh O)<|qM O (by decide) O O (zJ O zBn O (J 0 O) O)<|zFs O O (by decide) O O (zRb O el22 O O (by simp;omega) (by simp;omega)) ?_
 rintro _ _ ⟨sv3,rfl,rfl⟩
 refine ⟨_,O,?_⟩
 refine zFs O O (by decide) O O (zRb O el22 O O (by simp;omega) (by simp;omega)) ?_
 rintro _ _ ⟨sv4,rfl,rfl⟩
 refine ⟨_,O,?_⟩
 refine qM O (by decide) O O (kW O zr27 pl27 O)<|zGr O O ?_
 rintro _ _ ⟨b5,rfl,rfl⟩
 refine zBp O<|rStR 0 sz27 O<|W<|zM<|Y O<|yE _ (yC 1 O (regs':=[(17,_),(18,.agg [_,_,_,_,_])]) (μ':=[_,_,_,_]) ⟨FLe.sl,FLe.agg ⟨.inl O,.inl O,.inl O,.inl O,.inr ⟨O,O⟩,T⟩,T⟩ ⟨EFle.row (ds:=[_,_,_,_,_]) ⟨.inl O,.inl O,.inl O,.inl O,.inr ⟨O,O⟩,T⟩,EFle.refl _,EFle.refl _,EFle.refl _,T⟩)<|yE _ (yC 1 O (regs':=[(13,_),(18,.agg [_,_,_,_,_])]) (μ':=[_,_,_]) ⟨FLe.sl,FLe.agg ⟨.inr ⟨O,O⟩,.inl O,.inl O,.inl O,.inl O,T⟩,T⟩ ⟨EFle.row (ds:=[_,_,_,_,_]) ⟨.inr ⟨O,O⟩,.inl O,.inl O,.inl O,.inl O,T⟩,EFle.refl _,EFle.refl _,T⟩)<|yE _ (yU 101 3)<|yE _ (yU 67 7)<|yE _ (yU 63 22)<|G O<|W<|zR<|qC ⟨[(4,.c _),(1,.c _),(2,.c _),(3,.c _)],[_,_,_,_,_,_]⟩ (Weak.mk [true,true,true,true,true,true] ⟨U,U,U,U,T⟩ O)<|qG 1 4 O O (Nat×Value) (fun ⟨k,sv⟩=>[(4,vI k)]) (fun ⟨k,sv⟩=>[E.vec (.slice none 0 0) 63 22 ([]),E.vec (.slice none 0 0) 67 7 ([]),E.vec sv 101 3 ((p.Where.take k).map Cn.cells),E.row b5 27 [.sl 1 (p.Sizes.map fun s=>[cS s]),.lit sv,.lit (.slice none 0 0),.lit (.slice none 0 0),.sl 1 (p.Outs.map fun s=>[cS s])]]) (fun ⟨k,sv⟩=>k<=p.Where.length) (fun ⟨k,sv⟩=>p.Where.length-k) ⟨⟨0,(.slice none 0 0)⟩,(by omega),Weak.mk [true,true,true,true,true,true] ⟨U,U,U,U,T⟩ O⟩ ?_
 rintro ⟨k,sv⟩ hk
 show AWP _ _ _ _ _ ⟨[(4,vI k)]++_,[E.vec (.slice none 0 0) 63 22 ([]),E.vec (.slice none 0 0) 67 7 ([]),E.vec sv 101 3 ((p.Where.take k).map Cn.cells),E.row b5 27 [.sl 1 (p.Sizes.map fun s=>[cS s]),.lit sv,.lit (.slice none 0 0),.lit (.slice none 0 0),.sl 1 (p.Outs.map fun s=>[cS s])]]++_⟩
 refine zM<|Y O<|G O<|zF O zBu<|zK zHj (J 5 O) O<|qB O el23<|yI O<|W<|zH O (fun c1=>?_) (fun c1=>?_)
 ·try simp only [sx] at c1
  obtain ⟨x,hx⟩:=qU p.Where k (by omega)
  refine zN<|zM<|zR<|qW 17 mixed (by kernel_rfl) O O<|zQ O O (zE O zBu O)<|zQ O O (zJ O zHj O (J 3 O) O)<|zQ O O (zE O zBu O)<|zQ O O (zJ O zHj O (J 5 O) O)<|zQ O O (zS O O)<|zQ O O (qH O el23 O O (by omega) (getm (by assumption)))<|zQ O O (qP O zGw O)<|zQ O O (zU O yB O qE O)<|zQ O O (qL O ok129 (zMq x.Lin (hP.whs x (zX hx))) ⟨U,O,T⟩)<|zQ O O (zE O zBu O)<|zQ O O (zJ O zHj O (J 5 O) O)<|zQ O O (zS O O)<|zQ O O (qH O el23 O O (by omega) (getm (by assumption)))<|zQ O O (qP O zSb O)<|zQ O O (zJ O one4 O qE O)<|zQ O O (kW O zr101 pl101 O)<|zQ O O (wG O el23 zr101 O O O O)<|yR<|zY O O (qV 2 O el23 O O O (by simp only [List.length_take,List.length_map,List.length_append,List.length_cons,List.length_nil];omega) (by simp only [List.length_take,List.length_map,List.length_append,List.length_cons,List.length_nil];omega)) ?_
  rintro _ _ ⟨sv6,rfl,rfl⟩
  refine zF O zBu<|rStR 3 sz23 O<|W<|zT O<|G O<|qK O ⟨by omega,by omega⟩<|G O<|W ?_
  refine ⟨⟨k+1,sv6⟩,(by omega),(by show p.Where.length-(k+1)<p.Where.length-k;omega),Weak.mk [true,true,true,true,true,true] ⟨U,U,U,U,T⟩ (by exact mem4_eq (by rw [qT hx,List.map_append];rfl))⟩
 ·try simp only [sx] at c1
  rw [qY (l:=p.Where) (k:=k) (by omega)]
  refine qC _ (yC 2 O (regs':=[]) (μ':=[_,_,_,_,_]) T ⟨EFle.refl _,EFle.refl _,EFle.row (ds:=[_,_,_,_,_]) ⟨.inl O,.inr ⟨O,O⟩,.inl O,.inl O,.inl O,T⟩,EFle.refl _,EFle.refl _,T⟩)<|qO<|zM<|Y O<|G O<|W<|zR<|qC ⟨[(5,.c _),(1,.c _),(2,.c _),(3,.c _)],[_,_,_,_,_]⟩ (Weak.mk [true,true,true,true,true] ⟨U,U,U,U,T⟩ O)<|qG 1 3 O O (Nat×Value) (fun ⟨k,sw⟩=>[(5,vI k)]) (fun ⟨k,sw⟩=>[E.vec (.slice none 0 0) 63 22 ([]),E.vec sw 67 7 ((p.Params.take k).map Pm.cells),E.row b5 27 [.sl 1 (p.Sizes.map fun s=>[cS s]),.sl 3 (p.Where.map Cn.cells),.lit sw,.lit (.slice none 0 0),.sl 1 (p.Outs.map fun s=>[cS s])]]) (fun ⟨k,sw⟩=>k<=p.Params.length) (fun ⟨k,sw⟩=>p.Params.length-k) ⟨⟨0,(.slice none 0 0)⟩,(by omega),Weak.mk [true,true,true,true,true] ⟨U,U,U,U,T⟩ O⟩ ?_
  rintro ⟨k,sw⟩ hk
  show AWP _ _ _ _ _ ⟨[(5,vI k)]++_,[E.vec (.slice none 0 0) 63 22 ([]),E.vec sw 67 7 ((p.Params.take k).map Pm.cells),E.row b5 27 [.sl 1 (p.Sizes.map fun s=>[cS s]),.sl 3 (p.Where.map Cn.cells),.lit sw,.lit (.slice none 0 0),.sl 1 (p.Outs.map fun s=>[cS s])]]++_⟩
  refine zM<|Y O<|G O<|zF O wM<|zK zBm (J 4 O) O<|qB O el24<|yI O<|W<|zH O (fun c2=>?_) (fun c2=>?_)
  ·try simp only [sx] at c2
   obtain ⟨y,hy⟩:=qU p.Params k (by omega)
   have hyl:=(hP.ps y (zX hy)).1
   refine zN<|zM<|zR<|Y O<|zF O wM<|zK zBm (J 4 O) O<|G O<|qJ O el24 (by omega) (getm (by assumption))<|zP agg67 qE O<|zY O O (qF [none,none,none,none,none,none,some 2] O zr67 O) ?_
   rintro _ _ ⟨b7,rfl,rfl⟩
   refine rStR 0 sz67 O<|W<|Y O<|zF O zCj<|rStR 0 sz65 O<|W<|zM<|Y O<|yE _ (yU 40 2)<|G O<|W<|zR<|qC ⟨[(7,.c _),(1,.c _),(2,.c _),(3,.c _),(5,.c _),(6,.c _)],[_,_,_,_,_,_,_]⟩ (Weak.mk [true,true,true,true,true,true,true] ⟨U,U,U,U,U,U,T⟩ O)<|qG 1 2 O O (Nat×Value) (fun ⟨j,sx1⟩=>[(7,vI j)]) (fun ⟨j,sx1⟩=>[E.vec sx1 40 2 ((y.Dims.take j).map Lf.cells),E.row b7 67 [cS y.Name,cI y.T.Kind,cI y.T.Bits,cI y.T.Frac,cI y.T.Round,cI y.T.Over,.lit sx1]]) (fun ⟨j,sx1⟩=>j<=y.Dims.length) (fun ⟨j,sx1⟩=>y.Dims.length-j) ⟨⟨0,(.slice none 0 0)⟩,(by omega),Weak.mk [true,true,true,true,true,true,true] ⟨U,U,U,U,U,U,T⟩ O⟩ ?_
   rintro ⟨j,sx1⟩ hj
   show AWP _ _ _ _ _ ⟨[(7,vI j)]++_,[E.vec sx1 40 2 ((y.Dims.take j).map Lf.cells),E.row b7 67 [cS y.Name,cI y.T.Kind,cI y.T.Bits,cI y.T.Frac,cI y.T.Round,cI y.T.Over,.lit sx1]]++_⟩
   refine zM<|Y O<|G O<|zF O wM<|zK zBm (J 6 O) O<|G O<|qJ O el24 (by omega) (getm (by assumption))<|qS O zCj<|zK zAp qE O<|qB O el65<|yI O<|W<|zH O (fun c3=>?_) (fun c3=>?_)
   ·try simp only [sx] at c3
    obtain ⟨l,hl⟩:=qU y.Dims j (by omega)
    refine zN<|zM<|zR<|qW 13 mixed (by kernel_rfl) O O<|zQ O O (zE O zCj O)<|zQ O O (zJ O zAp O (J 1 O) O)<|zQ O O (zE O wM O)<|zQ O O (zJ O zBm O (J 6 O) O)<|zQ O O (zS O O)<|zQ O O (qH O el24 O O (by omega) (getm (by assumption)))<|zQ O O (qP O zCj O)<|zQ O O (zJ O zAp O qE O)<|zQ O O (zS O O)<|zQ O O (qH O el65 O O (by omega) (getm (by assumption)))<|zQ O O (zU O yB O qE O)<|zQ O O (qL O ok129 (zMq l ((hP.ps y (zX hy)).2 l (zX hl))) ⟨U,O,T⟩)<|zQ O O (wG O el65 v O O O O)<|yR<|zY O O (qV 0 O el65 O O O (by simp only [List.length_take,List.length_map,List.length_append,List.length_cons,List.length_nil];omega) (by simp only [List.length_take,List.length_map,List.length_append,List.length_cons,List.length_nil];omega)) ?_
    rintro _ _ ⟨sv8,rfl,rfl⟩
    refine zF O zCj<|rStR 1 sz65 O<|W<|zT O<|G O<|qK O ⟨by omega,by omega⟩<|G O<|W ?_
    refine ⟨⟨j+1,sv8⟩,(by omega),(by show y.Dims.length-(j+1)<y.Dims.length-j;omega),Weak.mk [true,true,true,true,true,true,true] ⟨U,U,U,U,U,U,T⟩ (by exact zDn (by rw [qT hl,List.map_append];rfl))⟩
   ·try simp only [sx] at c3
    rw [qY (l:=y.Dims) (k:=j) (by omega)]
    refine qC _ (yC 0 O (regs':=[]) (μ':=[_,_,_,_,_,_]) T ⟨EFle.row (ds:=[_,_,_,_,_,_,_]) ⟨.inl O,.inl O,.inl O,.inl O,.inl O,.inl O,.inr ⟨O,O⟩,T⟩,EFle.refl _,EFle.refl _,EFle.refl _,EFle.refl _,EFle.refl _,T⟩)<|qO<|zT O<|zF O wM<|zK zBm (J 3 O) O<|zP agg67 (J 0 O) O<|yV O el24 zr67<|zY O O (qV 2 O el24 O O O (by simp only [List.length_take,List.length_map,List.length_append,List.length_cons,List.length_nil];omega) (by simp only [List.length_take,List.length_map,List.length_append,List.length_cons,List.length_nil];omega)) ?_
    rintro _ _ ⟨sv9,rfl,rfl⟩
    refine zF O wM<|rStR 3 sz24 O<|W<|zT O<|G O<|qK O ⟨by omega,by omega⟩<|G O<|W ?_
    refine ⟨⟨k+1,sv9⟩,(by omega),(by show p.Params.length-(k+1)<p.Params.length-k;omega),Weak.mk [false,true,true,true,true,true] ⟨U,U,U,U,T⟩ (by exact zRl (by rw [qT hy,List.map_append];rfl))⟩
  ·try simp only [sx] at c2
   rw [qY (l:=p.Params) (k:=k) (by omega)]
   refine qC _ (yC 1 O (regs':=[]) (μ':=[_,_,_,_]) T ⟨EFle.refl _,EFle.row (ds:=[_,_,_,_,_]) ⟨.inl O,.inl O,.inr ⟨O,O⟩,.inl O,.inl O,T⟩,EFle.refl _,EFle.refl _,T⟩)<|qO<|zM<|Y O<|G O<|W<|zR<|qC ⟨[(8,.c _),(1,.c _),(2,.c _),(3,.c _)],[_,_,_,_]⟩ (Weak.mk [true,true,true,true] ⟨U,U,U,U,T⟩ O)<|qG 1 2 O O (Nat×Value) (fun ⟨k,su⟩=>[(8,vI k)]) (fun ⟨k,su⟩=>[E.vec su 63 22 ((p.Defs.take k).map Df.cells),E.row b5 27 [.sl 1 (p.Sizes.map fun s=>[cS s]),.sl 3 (p.Where.map Cn.cells),.sl 7 (p.Params.map Pm.cells),.lit su,.sl 1 (p.Outs.map fun s=>[cS s])]]) (fun ⟨k,su⟩=>k<=p.Defs.length) (fun ⟨k,su⟩=>p.Defs.length-k) ⟨⟨0,(.slice none 0 0)⟩,(by omega),Weak.mk [true,true,true,true] ⟨U,U,U,U,T⟩ O⟩ ?_
   rintro ⟨k,su⟩ hk
   show AWP _ _ _ _ _ ⟨[(8,vI k)]++_,[E.vec su 63 22 ((p.Defs.take k).map Df.cells),E.row b5 27 [.sl 1 (p.Sizes.map fun s=>[cS s]),.sl 3 (p.Where.map Cn.cells),.sl 7 (p.Params.map Pm.cells),.lit su,.sl 1 (p.Outs.map fun s=>[cS s])]]++_⟩
   refine zM<|Y O<|G O<|zF O kV<|zK zAq (J 3 O) O<|qB O el25<|yI O<|W<|zH O (fun c4=>?_) (fun c4=>?_)
   ·try simp only [sx] at c4
    obtain ⟨d,hd⟩:=qU p.Defs k (by omega)
    refine zN<|zM<|zR<|Y O<|zF O kV<|zK zAq (J 3 O) O<|G O<|qJ O el25 (by omega) (getm (by assumption))<|zP zAi qE O<|zY O O (qF [none,none,none,none,none,none,some 3,some 3,none,none,none,none,none,none,none,none,none,none,none,some 2,some 4,some 13] O zr63 O) ?_
    rintro _ _ ⟨b10,rfl,rfl⟩
    refine rStR 0 sz63 O<|W<|qW 19 mixed (by kernel_rfl) O O<|zQ O O (zE O kV O)<|zQ O O (zJ O zAq O (J 2 O) O)<|zQ O O (zE O zOe O)<|zQ O O (zJ O one9 O (J 0 O) O)<|zQ O O (zE O zLr O)<|zQ O O (zU O yO O (J 0 O) O)<|zQ O O (zE O zAt O)<|zQ O O (zJ O kY O (J 0 O) O)<|zQ O O (qL O ok130 (OwnR.pur (zQo d.Dims (by have:=(hP.ds d (zX hd)).1;omega) (hP.ds d (zX hd)).2.2.1)) ⟨U,O,T⟩)<|zQ O O (zE O kU O)<|zQ O O (zJ O kY O (J 0 O) O)<|zQ O O (qL O ok130 (OwnR.pur (zQo d.Red (by have:=(hP.ds d (zX hd)).2.1;omega) (hP.ds d (zX hd)).2.2.2.1)) ⟨U,O,T⟩)<|zQ O O (zE O zGg O)<|zQ O O (zJ O one3 O (J 0 O) O)<|zQ O O (zE O zCv O)<|zQ O O (zU O yG O (J 0 O) O)<|zQ O O (qL O ok131 (ref14_Twin d.Body (hP.ds d (zX hd)).2.2.2.2) ⟨U,O,T⟩)<|zQ O O (kW O zr63 pl63 O)<|zQ O O (wG O el25 zr63 O O O O)<|yR<|zY O O (qV 1 O el25 O O O (by simp only [List.length_take,List.length_map,List.length_append,List.length_cons,List.length_nil];omega) (by simp only [List.length_take,List.length_map,List.length_append,List.length_cons,List.length_nil];omega)) ?_
    rintro _ _ ⟨sv11,rfl,rfl⟩
    refine zF O kV<|rStR 2 sz25 O<|W<|zT O<|G O<|qK O ⟨by omega,by omega⟩<|G O<|W ?_
    refine ⟨⟨k+1,sv11⟩,(by omega),(by show p.Defs.length-(k+1)<p.Defs.length-k;omega),Weak.mk [false,true,true,true,true] ⟨U,U,U,U,T⟩ (by exact zDn (by rw [qT hd,List.map_append];rfl))⟩
   ·try simp only [sx] at c4
    rw [qY (l:=p.Defs) (k:=k) (by omega)]
    refine qO<|Y O<|zP wY (J 1 O) O<|rStR 2 sz27 O<|W<|qC _ (Weak.mem [true,false,true,false] O)<|zO<|fin1 (zZ wY O (J 1 O) O) ?_
    exact ⟨[E.vec _ _ _ _],⟨[],[E.row _ _ _],O⟩,_,O,O⟩
theorem ref17_TwinD (p:Pg) (hP:p.Ok):Con cfg 63 [vPg p] [] fun r μ'=>∃svD,r=.agg [.sl 1 (p.Sizes.map fun s=>[cS s]),.sl 3 (p.Where.map Cn.cells),.sl 7 (p.Params.map Pm.cells),.lit svD,.sl 1 (p.Outs.map fun s=>[cS s])]/\μ'=[E.vec svD 63 22 (p.Defs.map Df.cells)]:=
  Con.dropG (ref17_TwinDS p hP)
end Go.W
end
section
set_option maxRecDepth 10000
namespace Go.W
open Go Go.Eng Go.Proofs Go.L41 Go.Br
attribute [local irreducible] AWP RWP TD fL
theorem ok62:bA Tryz.prog 62=true:=by kernel_rfl
theorem ok63:bA Tryz.prog 63=true:=by kernel_rfl
theorem ok64:bA Tryz.prog 64=true:=by kernel_rfl
theorem delta_Prog (p:Pg) (hP:p.Ok) (hdl:p.Defs.length<=12) (hD0:(dR p).2=0->∀d,d∈p.Defs->Dl d):
    Pur cfg 24 [vPg p] (.tup [vPg (gN p).1,vI (gN p).2]):=by
 refine zW Tryz.func24 O Tryz.ntmps24 Tryz.results24 O ?_
 intro z hz
 refine Y O<|zY O O (qN O O) ?_
 rintro _ _ ⟨b1,rfl,rfl⟩
 refine zY O O (qF [some 1,some 3,some 7,some 22,some 1] O zr27 O) ?_
 rintro _ _ ⟨b2,rfl,rfl⟩
 refine G O<|W<|awp_scope<|Y O<|zP wY (J 1 O) O<|zY O O (zDk O ok37 (Con.frame (program_CopyD p (pgOkC hP)) _) ⟨U,O,T⟩) ?_
 rintro _ _ ⟨_,⟨svD,rfl,rfl⟩,rfl⟩
 refine zY O O (qF [some 1,some 3,some 7,some 22,some 1] O zr27 O) ?_
 rintro _ _ ⟨b4,rfl,rfl⟩
 refine rStR 0 sz27 O<|W<|zM<|Y O<|zP wY (J 3 O) O<|qQ O ok30 (zOr p hP) ⟨U,O,T⟩<|yH O<|yX O<|yX O<|G O<|G O<|W<|Y O<|G O<|yW O<|W<|zH O (fun c1=>?_) (fun c1=>?_)
 ·try simp only [sx] at c1
  refine qC _ (yC 1 O (regs':=[(15,.agg [_,_,_,_,_])]) (μ':=[_,_,_]) ⟨FLe.agg ⟨.inl O,.inl O,.inl O,.inr ⟨O,O⟩,.inl O,T⟩,T⟩ ⟨EFle.row (ds:=[_,_,_,_,_]) ⟨.inl O,.inl O,.inl O,.inr ⟨O,O⟩,.inl O,T⟩,EFle.refl _,EFle.refl _,T⟩) ?_
  have hdp:=delP_bad c1
  refine Y O<|zP wY (J 0 O) O<|rStR 1 sz27 O<|G O<|W<|zO<|fin2 (zZ wY O (J 1 O) O) (rs_c O) ?_
  rw [hdp];rfl
 ·try simp only [sx] at c1
  have hD:=hD0 c1
  have hcm:=cntD_le hD
  refine zN<|Y O<|G O<|W<|zM<|awp_label<|zR<|qC ⟨[(7,.c _),(2,.c _),(4,.c _)],[_,_,_]⟩ (Weak.mk [true,true,true,false] ⟨U,U,U,T⟩ O)<|qG 1 2 O O (List Df×Nat) (fun ⟨L,n⟩=>[(7,vI n)]) (fun ⟨L,n⟩=>[E.row b4 27 [.sl 1 (p.Sizes.map fun s=>[cS s]),.sl 3 (p.Where.map Cn.cells),.sl 7 (p.Params.map Pm.cells),.lit svD,.sl 1 (p.Outs.map fun s=>[cS s])],E.vec svD 63 22 (L.map Df.cells)]) (fun ⟨L,n⟩=>(∀d,d∈L->Dl d)/\jQ L=jQ p.Defs/\n+jP L=jP p.Defs/\L.length=p.Defs.length) (fun ⟨L,n⟩=>jP L) ⟨⟨p.Defs,0⟩,⟨hD,O,by omega,O⟩,Weak.mk [true,true,true] ⟨U,U,U,T⟩ O⟩ ?_
  rintro ⟨L,n⟩ ⟨hL,hc1,hc2,hll⟩
  show AWP _ _ _ _ _ ⟨[(7,vI n)]++_,[E.row b4 27 [.sl 1 (p.Sizes.map fun s=>[cS s]),.sl 3 (p.Where.map Cn.cells),.sl 7 (p.Params.map Pm.cells),.lit svD,.sl 1 (p.Outs.map fun s=>[cS s])],E.vec svD 63 22 (L.map Df.cells)]++_⟩
  refine zR<|zM<|Y O<|zF O kV<|zK zAq (J 0 O) O<|qA O (zEv 1 O el25 O O)<|G O<|W<|zR<|qC ⟨[(27,.c _),(7,.c _),(2,.c _),(4,.c _),(25,.c _),(26,.c _)],[_,_,_]⟩ (Weak.mk [true,true,true] ⟨U,U,U,U,U,U,T⟩ O)<|qG 2 0 O O (Nat) (fun i=>[(27,vI i),(7,vI n)]) (fun i=>[]) (fun i=>i<=L.length/\(∀e,e∈L.take i->jS e=none)) (fun i=>L.length-i) ⟨0,⟨by omega,(fun e he=>by simp at he)⟩,Weak.mk [true,true,true] ⟨U,U,U,U,U,U,T⟩ O⟩ ?_
  rintro i ⟨hk,hq⟩
  refine Y O<|yI O<|W<|zM<|zH O (fun c2=>?_) (fun c2=>?_)
  ·try simp only [sx] at c2
   obtain ⟨d,hd⟩:=qU L i (by omega)
   have hd0:=hL d (zX hd)
   have hdr:=hd0.red
   refine zN<|zM<|zR<|Y O<|G O<|qA O (qZ 1 O el25 O O O (by omega) (by rw [List.length_map];omega))<|zP zAi (wP 1 O (getm hd)) O<|zY O O (qF [none,none,none,none,none,none,some 3,some 3,none,none,none,none,none,none,none,none,none,none,none,some 2,some 4,some 13] O zr63 O) ?_
   rintro _ _ ⟨b5,rfl,rfl⟩
   refine G O<|rStR 0 sz63 O<|W<|Y O<|zF O kU<|zK kY (J 0 O) O<|qB O N<|G O<|W<|zR<|qC ⟨[(35,.c _),(7,.c _),(2,.c _),(4,.c _),(8,.c _),(9,.c _),(25,.c _),(26,.c _),(27,.c _),(33,.c _),(34,.c _)],[_,_,_,_]⟩ (Weak.mk [true,true,true,true] ⟨U,U,U,U,U,U,U,U,U,U,U,T⟩ O)<|qG 2 0 O O (Nat) (fun k=>[(35,vI k),(7,vI n)]) (fun k=>[]) (fun k=>k<=d.Red.length/\(jS d=nN d (d.Red.drop k))) (fun k=>d.Red.length-k) ⟨0,⟨by omega,O⟩,Weak.mk [true,true,true,true] ⟨U,U,U,U,U,U,U,U,U,U,U,T⟩ O⟩ ?_
   rintro k ⟨hk,hp⟩
   refine Y O<|yI O<|W<|zM<|zH O (fun c3=>?_) (fun c3=>?_)
   ·try simp only [sx] at c3
    obtain ⟨a,ha⟩:=qU d.Red k (by omega)
    refine zN<|zM<|zR<|Y O<|qJ O N (by omega) (getm ha)<|zP zMf qE O<|zY O O (qF [none,none,some 2] O zJb O) ?_
    rintro _ _ ⟨b6,rfl,rfl⟩
    refine rStR 0 sz111 O<|W<|Y O<|zP zAi (J 1 O) O<|zF O zAm<|zK one9 (J 0 O) O<|qQ O ok62 (delta_DefW d a.Name (by have:=hd0.wt;omega) (by have:=hd0.conds;omega) hd0.rng (by have:=hd0.dims;omega) (by have:=hd0.red;omega) (fun x_ hx_=>by have:=hd0.fd x_ hx_;omega) (fun x_ hx_=>by have:=(hd0.fr x_ hx_).1;omega)) ⟨U,O,U,O,T⟩<|yH O<|qA O (yA O O O)<|yX O<|zY O O (qF [none,none,none,none,none,none,some 3,some 3,none,none,none,none,none,none,none,none,none,none,none,some 2,some 4,some 13] O zr63 O) ?_
    rintro _ _ ⟨b7,rfl,rfl⟩
    refine rStR 0 sz63 O<|G O<|W<|Y O<|G O<|W<|zH O (fun c4=>?_) (fun c4=>?_)
    ·try simp only [sx] at c4
     have htd:=tryA_yes ha hp c4
     obtain ⟨hs1,hs2⟩:=set_cls hd htd
     refine Y O<|zF O kV<|zK zAq (J 3 O) O<|G O<|zP zAi (J 0 O) O<|qA O (qZ 4 O el25 O O O (by omega) (by rw [List.length_map];omega))<|zFa O O (kN O sz63 O O O (st_vec 4 O (getm hd) O))<|W<|Y O<|G O<|qK O ⟨by omega,by omega⟩<|G O<|W<|qO ?_
     refine ⟨⟨L.set i (dfD d a.Name).1,n+1⟩,⟨dl_set hL (hd0.step c4),hs1.trans hc1,by omega,by rw [List.length_set];exact hll⟩,(by dsimp only;omega),Weak.mk [false,false,false,true,true,true] ⟨VLe.of_eq (congrArg vI (by omega)),U,U,T⟩ (by exact mem2r_eq (by rw [List.map_set];rfl))⟩
    ·try simp only [sx] at c4
     refine zN<|zT O<|qK O ⟨by omega,by omega⟩<|G O<|W ?_
     refine ⟨k+1,⟨by omega,tryA_no ha hp (by simpa using c4)⟩,(by omega),Weak.mk [false,false,true,true,true,true] ⟨U,U,U,U,U,U,U,U,U,U,U,T⟩ O⟩
   ·try simp only [sx] at c3
    refine qO<|zT O<|qK O ⟨by omega,by omega⟩<|G O<|W ?_
    refine ⟨i+1,⟨by omega,none_next hq hd (tryA_end hp (by omega))⟩,(by omega),Weak.mk [false,true,true,true] ⟨U,U,U,U,U,U,T⟩ O⟩
  ·try simp only [sx] at c2
   rw [qY (by omega)] at hq
   have hdp:=delP_is c1 hc1 hc2 hq
   refine qC _ (yC 1 O (regs':=[(25,_)]) (μ':=[_,_]) ⟨FLe.sl,T⟩ ⟨EFle.row (ds:=[_,_,_,_,_]) ⟨.inl O,.inl O,.inl O,.inr ⟨O,O⟩,.inl O,T⟩,EFle.refl _,T⟩)<|qO<|Y O<|zP wY (J 0 O) O<|G O<|rStR 1 sz27 O<|G O<|W<|zO<|fin2 (zZ wY O (J 1 O) O) (rs_c O) ?_
   rw [hdp];rfl
theorem ref22_Prog (p:Pg) (hP:p.Ok) (hdl:p.Defs.length<=12) (hD0:(dR p).2=0->∀d,d∈p.Defs->Dl d):
    Pur cfg 25 [vPg p] (.tup [vPg (gN p).1,vI (gN p).2]):=by
 refine zW Tryz.func25 O Tryz.ntmps25 Tryz.results25 O ?_
 intro z hz
 have hVR:=zFl p hP
 rw [←zKp] at hVR
 refine Y O<|zY O O (qN O O) ?_
 rintro _ _ ⟨b1,rfl,rfl⟩
 refine zY O O (qF [some 1,some 3,some 7,some 22,some 1] O zr27 O) ?_
 rintro _ _ ⟨b2,rfl,rfl⟩
 refine G O<|W<|Y O<|zP wY (J 1 O) O<|zY O O (zDk O ok63 (Con.frame (ref17_TwinD p hP) _) ⟨U,O,T⟩) ?_
 rintro _ _ ⟨_,⟨svD,rfl,rfl⟩,rfl⟩
 refine zY O O (qF [some 1,some 3,some 7,some 22,some 1] O zr27 O) ?_
 rintro _ _ ⟨b4,rfl,rfl⟩
 refine rStR 0 sz27 O<|W<|zM<|Y O<|zP wY (J 3 O) O<|qQ O ok20 hVR ⟨U,O,T⟩<|yH O<|yX O<|yX O<|G O<|G O<|W<|Y O<|G O<|yW O<|W<|zH O (fun c1=>?_) (fun c1=>?_)
 ·try simp only [sx] at c1
  refine qC _ (yC 1 O (regs':=[(14,.agg [_,_,_,_,_])]) (μ':=[_,_,_]) ⟨FLe.agg ⟨.inl O,.inl O,.inl O,.inr ⟨O,O⟩,.inl O,T⟩,T⟩ ⟨EFle.row (ds:=[_,_,_,_,_]) ⟨.inl O,.inl O,.inl O,.inr ⟨O,O⟩,.inl O,T⟩,EFle.refl _,EFle.refl _,T⟩) ?_
  have hdp:=delP_bad c1
  refine Y O<|zP wY (J 0 O) O<|rStR 1 sz27 O<|G O<|W<|zO<|fin2 (zZ wY O (J 1 O) O) (rs_c O) ?_
  rw [hdp];rfl
 ·try simp only [sx] at c1
  have hD:=hD0 c1
  have hcm:=cntD_le hD
  refine zN<|Y O<|G O<|W<|zM<|Y O<|G O<|W<|zR<|qC ⟨[(8,.c _),(7,.c _),(2,.c _),(4,.c _)],[_,_,_]⟩ (Weak.mk [true,true,true,false] ⟨U,U,U,U,T⟩ O)<|qG 2 2 O O (Nat×List Df×Nat) (fun ⟨i,L,n⟩=>[(8,vI i),(7,vI n)]) (fun ⟨i,L,n⟩=>[E.row b4 27 [.sl 1 (p.Sizes.map fun s=>[cS s]),.sl 3 (p.Where.map Cn.cells),.sl 7 (p.Params.map Pm.cells),.lit svD,.sl 1 (p.Outs.map fun s=>[cS s])],E.vec svD 63 22 (L.map Df.cells)]) (fun ⟨i,L,n⟩=>i<=p.Defs.length/\(∀d,d∈L->Dl d)/\jQ L=jQ p.Defs/\n+jP L=jP p.Defs/\L.length=p.Defs.length/\(∀e,e∈L.take i->jS e=none)) (fun ⟨i,L,n⟩=>p.Defs.length-i) ⟨⟨0,p.Defs,0⟩,⟨Nat.zero_le _,hD,O,by omega,O,fun e he=>by simp at he⟩,Weak.mk [true,true,true] ⟨U,U,U,U,T⟩ O⟩ ?_
  rintro ⟨i,L,n⟩ ⟨hi,hL,hc1,hc2,hll,hq⟩
  show AWP _ _ _ _ _ ⟨[(8,vI i),(7,vI n)]++_,[E.row b4 27 [.sl 1 (p.Sizes.map fun s=>[cS s]),.sl 3 (p.Where.map Cn.cells),.sl 7 (p.Params.map Pm.cells),.lit svD,.sl 1 (p.Outs.map fun s=>[cS s])],E.vec svD 63 22 (L.map Df.cells)]++_⟩
  refine zM<|Y O<|G O<|zF O kV<|zK zAq (J 0 O) O<|qA O (zEv 1 O el25 O O)<|yI O<|W<|zH O (fun c2=>?_) (fun c2=>?_)
  ·try simp only [sx] at c2
   refine zN<|zM<|zR<|Y O<|G O<|W<|zR<|qC ⟨[(7,.c _),(9,.c _),(2,.c _),(4,.c _),(8,.c _)],[_,_,_]⟩ (Weak.mk [true,true,true] ⟨U,U,U,U,U,T⟩ O)<|qG 2 2 O O (List Df×Nat×Bool) (fun ⟨M,m,ag⟩=>[(7,vI m),(9,vB ag)]) (fun ⟨M,m,ag⟩=>[E.row b4 27 [.sl 1 (p.Sizes.map fun s=>[cS s]),.sl 3 (p.Where.map Cn.cells),.sl 7 (p.Params.map Pm.cells),.lit svD,.sl 1 (p.Outs.map fun s=>[cS s])],E.vec svD 63 22 (M.map Df.cells)]) (fun ⟨M,m,ag⟩=>(∀d,d∈M->Dl d)/\jQ M=jQ p.Defs/\m+jP M=jP p.Defs/\M.length=p.Defs.length/\(∀e,e∈M.take i->jS e=none)/\(ag=false->∀e,M[i]? =some e->jS e=none)) (fun ⟨M,m,ag⟩=>2*jP M+(if ag=true then 1 else 0)) ⟨⟨L,n,true⟩,⟨hL,hc1,hc2,hll,hq,fun h=>by cases h⟩,Weak.mk [true,true,true] ⟨U,U,U,U,U,T⟩ O⟩ ?_
   rintro ⟨M,m,ag⟩ ⟨hM,hm1,hm2,hml,hmq,hm0⟩
   show AWP _ _ _ _ _ ⟨[(7,vI m),(9,vB ag)]++_,[E.row b4 27 [.sl 1 (p.Sizes.map fun s=>[cS s]),.sl 3 (p.Where.map Cn.cells),.sl 7 (p.Params.map Pm.cells),.lit svD,.sl 1 (p.Outs.map fun s=>[cS s])],E.vec svD 63 22 (M.map Df.cells)]++_⟩
   refine zM<|Y O<|G O<|W<|zH O (fun c3=>?_) (fun c3=>?_)
   ·try simp only [sx] at c3
    obtain ⟨d,hd⟩:=qU M i (by omega)
    have hd0:=hM d (zX hd)
    have hdr:=hd0.red
    refine zN<|zR<|Y O<|G O<|W<|Y O<|G O<|W<|zR<|qC ⟨[(7,.c _),(9,.c _),(10,.c _),(2,.c _),(4,.c _),(8,.c _)],[_,_,_]⟩ (Weak.mk [true,true,true] ⟨U,U,U,U,U,U,T⟩ O)<|qG 3 2 O O (List Df×Nat×Nat×Bool) (fun ⟨K,q,j,ah⟩=>[(7,vI q),(9,vB ah),(10,vI j)]) (fun ⟨K,q,j,ah⟩=>[E.row b4 27 [.sl 1 (p.Sizes.map fun s=>[cS s]),.sl 3 (p.Where.map Cn.cells),.sl 7 (p.Params.map Pm.cells),.lit svD,.sl 1 (p.Outs.map fun s=>[cS s])],E.vec svD 63 22 (K.map Df.cells)]) (fun ⟨K,q,j,ah⟩=>(∀d,d∈K->Dl d)/\jQ K=jQ p.Defs/\q+jP K=jP p.Defs/\K.length=p.Defs.length/\(∀e,e∈K.take i->jS e=none)/\(ah=false->K=M/\q=m/\j<=d.Red.length/\jS d=nN d (d.Red.drop j))/\(ah=true->jP K<jP M)) (fun ⟨K,q,j,ah⟩=>if ah=true then 0 else d.Red.length+1-j) ⟨⟨M,m,0,false⟩,⟨hM,hm1,hm2,hml,hmq,fun _=>⟨O,O,Nat.zero_le _,O⟩,fun h=>by cases h⟩,Weak.mk [true,true,true] ⟨U,U,U,U,U,U,T⟩ O⟩ ?_
    rintro ⟨K,q,j,ah⟩ ⟨hK,hk1,hk2,hkl,hkq,hK0,hK1⟩
    show AWP _ _ _ _ _ ⟨[(7,vI q),(9,vB ah),(10,vI j)]++_,[E.row b4 27 [.sl 1 (p.Sizes.map fun s=>[cS s]),.sl 3 (p.Where.map Cn.cells),.sl 7 (p.Params.map Pm.cells),.lit svD,.sl 1 (p.Outs.map fun s=>[cS s])],E.vec svD 63 22 (K.map Df.cells)]++_⟩
    obtain ⟨x,hx⟩:=qU K i (by omega)
    refine zM<|Y O<|G O<|zF O kV<|zK zAq (J 0 O) O<|G O<|qA O (qZ 1 O el25 O O O (by omega) (by rw [List.length_map];omega))<|qA O (zCs O kU O)<|zK kY (wP 1 O (getm hx)) O<|qB O N<|yI O<|G O<|rL0 O (fun g13_9=>zS O O) O<|rL1 41 O (fun g13_9=>kT O O) O<|yZ O (fun h=>h)<|W<|zH O (fun c4=>?_) (fun c4=>?_)
    ·try simp only [sx] at c4
     obtain ⟨c41,c42⟩:=c4
     obtain ⟨hKM,hqm,hjl,hjt⟩:=hK0 c42
     have hxd:d=x:=Option.some.inj (hd.symm.trans (by rw [←hKM];exact hx))
     subst hxd
     obtain ⟨a,ha⟩:=qU d.Red j (by omega)
     refine zN<|zM<|zR<|zM<|kI 21 1 [⟨0,.q []⟩,⟨1,.q [1]⟩,⟨2,.q []⟩,⟨3,.q [2]⟩,⟨4,.q [2]⟩,⟨5,.q []⟩,⟨6,.q [1]⟩,⟨7,.q []⟩,⟨8,.q [2]⟩,⟨9,.q []⟩,⟨10,.q [2]⟩,⟨11,.q []⟩,⟨12,.q []⟩,⟨13,.q []⟩,⟨14,.q []⟩,⟨15,.q []⟩,⟨16,.q []⟩,⟨17,.q []⟩,⟨18,.q []⟩,⟨19,.e 0 []⟩,⟨20,.e 0 []⟩] mixed (by kernel_rfl) (by kernel_rfl) O O O<|qD O<|qD O<|qD O<|qD O<|qD O<|qD O<|qD O<|qD O<|qD O<|qD O<|qD O<|qD O<|qD O<|qD O<|qD O<|qD O<|qD O<|qD O<|qD O<|qD O<|qD O<|zBq<|qM O (by decide) O O (zE O kV O)<|qM O (by decide) O O (zJ O zAq O (J 0 O) O)<|qM O (by decide) O O (zS O O)<|qM O (by decide) O O (qZ 0 O el25 O O O (by omega) (by rw [List.length_map];omega))<|qM O (by decide) O O (zU O zAi O (wP 0 O (getm hx)) O)<|qM O (by decide) O O (zE O kV O)<|qM O (by decide) O O (zJ O zAq O (J 0 O) O)<|qM O (by decide) O O (zS O O)<|qM O (by decide) O O (qZ 0 O el25 O O O (by omega) (by rw [List.length_map];omega))<|qM O (by decide) O O (zCs O kU O)<|qM O (by decide) O O (zJ O kY O (wP 0 O (getm hx)) O)<|qM O (by decide) O O (zS O O)<|qM O (by decide) O O (qH O N O O (by omega) (getm ha))<|qM O (by decide) O O (qP O zAm O)<|qM O (by decide) O O (zJ O one9 O qE O)<|qM O (by decide) O O (qL O ok64 (ref22_DefW d a.Name (by have:=hd0.wt;omega) (by have:=hd0.conds;omega) hd0.rng (by have:=hd0.dims;omega) (by have:=hd0.red;omega) (fun x_ hx_=>by have:=hd0.fd x_ hx_;omega) (fun x_ hx_=>by have:=(hd0.fr x_ hx_).1;omega)) ⟨U,O,U,O,T⟩)<|qM O (by decide) O O (kL O O)<|qM O (by decide) O O (yA O O O)<|qM O (by decide) O O (wW O O O)<|zFs O O (by decide) O O (qF [none,none,none,none,none,none,some 3,some 3,none,none,none,none,none,none,none,none,none,none,none,some 2,some 4,some 13] O zr63 O) ?_
     rintro _ _ ⟨b5,rfl,rfl⟩
     refine ⟨_,O,?_⟩
     refine zHa O O (by decide) O O (kN O sz63 O O O (zCu 0 O O)) ?_
     rintro _ _ ⟨rfl,rfl⟩
     refine ⟨_,O,?_⟩
     refine zBp O<|G O<|W<|Y O<|G O<|W<|zH O (fun c5=>?_) (fun c5=>?_)
     ·try simp only [sx] at c5
      obtain ⟨hr1,hr2⟩:=dfR_is c5
      have htd:=tryA_yes ha hjt hr2
      rw [←hr1] at htd
      obtain ⟨hs1,hs2⟩:=set_cls hx htd
      have hstep:=hd0.step hr2
      rw [←hr1] at hstep
      refine Y O<|zF O kV<|zK zAq (J 1 O) O<|G O<|zP zAi (J 0 O) O<|qA O (qZ 2 O el25 O O O (by omega) (by rw [List.length_map];omega))<|zFa O O (kN O sz63 O O O (st_vec 2 O (getm hx) O))<|W<|Y O<|G O<|qK O ⟨by omega,by omega⟩<|G O<|W<|zT O<|G O<|W<|zT O<|G O<|qK O ⟨by omega,by omega⟩<|G O<|W ?_
      refine ⟨⟨K.set i (dfR d a.Name).1,q+1,j+1,true⟩,⟨dl_set hK hstep,hs1.trans hk1,by omega,by rw [List.length_set];exact hkl,by rw [take_setD];exact hkq,(fun h=>by cases h),fun _=>by rw [hKM] at hs2;rw [hKM];omega⟩,(by dsimp only;rw [c42];simp;omega),Weak.mk [false,true,true,true] ⟨U,U,VLe.of_eq (congrArg vI (by omega)),U,U,U,T⟩ (by exact mem2r_eq (by rw [List.map_set];rfl))⟩
     ·try simp only [sx] at c5
      have hr2:=dfR_no (by simpa using c5)
      refine zN<|zT O<|G O<|qK O ⟨by omega,by omega⟩<|G O<|W ?_
      refine ⟨⟨K,q,j+1,ah⟩,⟨hK,hk1,hk2,hkl,hkq,fun h=>⟨hKM,hqm,by omega,tryA_no ha hjt hr2⟩,hK1⟩,(by dsimp only;rw [c42];simp;omega),Weak.mk [false,true,true,true] ⟨U,U,VLe.of_eq (congrArg vI (by omega)),U,U,U,T⟩ O⟩
    ·try simp only [sx] at c4
     refine qO ?_
     refine ⟨⟨K,q,ah⟩,⟨hK,hk1,hk2,hkl,hkq,fun h e he=>rf_end (hK0 h) hd hx he h c4⟩,(rf_dec c3 hK0 hK1),Weak.mk [true,true,true] ⟨U,U,U,U,U,T⟩ O⟩
   ·try simp only [sx] at c3
    refine qO<|zT O<|G O<|qK O ⟨by omega,by omega⟩<|G O<|W ?_
    refine ⟨⟨i+1,M,m⟩,⟨by omega,hM,hm1,hm2,hml,(by obtain ⟨d,hd⟩:=qU M i (by omega);exact none_next hmq hd (hm0 c3 d hd))⟩,(by dsimp only;omega),Weak.mk [true,true,true] ⟨VLe.of_eq (congrArg vI (by omega)),U,U,U,T⟩ O⟩
  ·try simp only [sx] at c2
   rw [qY (by omega)] at hq
   have hdp:=delP_is c1 hc1 hc2 hq
   refine qC _ (yC 1 O (regs':=[(25,_)]) (μ':=[_,_]) ⟨FLe.sl,T⟩ ⟨EFle.row (ds:=[_,_,_,_,_]) ⟨.inl O,.inl O,.inl O,.inr ⟨O,O⟩,.inl O,T⟩,EFle.refl _,T⟩)<|qO<|Y O<|zP wY (J 0 O) O<|G O<|rStR 1 sz27 O<|G O<|W<|zO<|fin2 (zZ wY O (J 1 O) O) (rs_c O) ?_
   rw [hdp];rfl
end Go.W
end
section
set_option maxRecDepth 10000
namespace Go.W
open Go Go.Eng Go.Proofs Go.L41 Go.Br
attribute [local irreducible] AWP RWP TD fL
theorem ok22:bA Tryz.prog 22=true:=by kernel_rfl
theorem ok23:bA Tryz.prog 23=true:=by kernel_rfl
theorem ok24:bA Tryz.prog 24=true:=by kernel_rfl
theorem ok25:bA Tryz.prog 25=true:=by kernel_rfl
theorem ok60:bA Tryz.prog 60=true:=by kernel_rfl
theorem ref18_Small (p:Pg) (hf:p.Fit):
    Pur cfg 22 [vPg p] (vB (decide ((p.Defs.length:Int)<=8)&& !nO p 300)):=by
 refine zW Tryz.func22 O Tryz.ntmps22 Tryz.results22 O ?_
 intro z hz
 refine Y O<|zY O O (qN O O) ?_
 rintro _ _ ⟨b1,rfl,rfl⟩
 refine G O<|W<|Y O<|zF O kV<|zK zAq (J 0 O) O<|qB O el25<|qA O (wU O O O)<|G O<|rL0 O (fun g1_4=>zU O wY O (J 0 O) O) O<|rL1 8 O (fun g1_4=>qL O ok60 (ref17_Long p 300 hf (by omega)) ⟨U,O,U,O,T⟩) O<|rL1 9 O (fun g1_4=>kT O O) O<|yZ O (fun h=>h)<|G O<|W<|zO<|zV O ?_
 exact O
theorem law_DeltaProgs (p:Pg) (hf:p.Fit) (hR:∀d,d∈p.Defs->d.Body.allF Lf.rng/\∀a,a∈d.Red->a.Size.rng):
    Pur cfg 7 [vPg p] (vB true):=by
 refine zW Tryz.func7 O Tryz.ntmps7 Tryz.results7 O ?_
 intro z hz
 refine Y O<|zY O O (qN O O) ?_
 rintro _ _ ⟨b1,rfl,rfl⟩
 refine G O<|W<|zM<|Y O<|zP wY (J 0 O) O<|qQ O ok22 (ref18_Small p hf) ⟨U,O,T⟩<|wE O<|W<|zH O (fun c1=>?_) (fun c1=>?_)
 ·refine Y O<|qQ O ok23 zJx T<|G O<|W<|zO<|zV O ?_
  rfl
 ·try simp only [sx] at c1
  obtain ⟨c11,c12⟩:=c1
  have hS:=long_short c12
  have hP:=hS.ok
  have hok:=delP_ok hS hR
  have hVR:=zFl p hP
  rw [←zKp] at hVR
  refine zN<|Y O<|zP wY (J 0 O) O<|qQ O ok24 (delta_Prog p hP (by omega) (fun h=>dl_of hS hR h)) ⟨U,O,T⟩<|yH O<|qA O (yA O O O)<|yX O<|zY O O (qF [some 1,some 3,some 7,some 22,some 1] O zr27 O) ?_
  rintro _ _ ⟨b2,rfl,rfl⟩
  refine rStR 0 sz27 O<|G O<|W<|Y O<|zP wY (J 1 O) O<|qQ O ok25 (ref22_Prog p hP (by omega) (fun h=>dl_of hS hR h)) ⟨U,O,T⟩<|yH O<|qA O (yA O O O)<|yX O<|zY O O (qF [some 1,some 3,some 7,some 22,some 1] O zr27 O) ?_
  rintro _ _ ⟨b3,rfl,rfl⟩
  refine rStR 0 sz27 O<|G O<|W<|zM<|Y O<|zP wY (J 1 O) O<|zP wY (J 0 O) O<|qQ O ok15 (zNs (gN p).1 (gN p).1 hok) ⟨U,O,U,O,T⟩<|wE O<|G O<|rL0 O (fun g5_4=>zS O O) O<|rL0 O (fun g5_4=>zS O O) O<|rLz [(32,_),(33,_)] O gv1 ⟨O,O,O,O,T⟩ (fun g5_4=>zAg O O O) O<|r_or O (fun h=>(lzf h))<|W<|zH O (fun c2=>?_) (fun c2=>?_)
  ·try simp only [sx] at c2
   exact absurd c2 (by simp)
  ·try simp only [sx] at c2
   refine zN<|zM<|Y O<|zP wY (J 2 O) O<|qQ O ok20 hVR ⟨U,O,T⟩<|yH O<|yX O<|yX O<|G O<|G O<|W<|Y O<|G O<|yW O<|W<|zH O (fun c3=>?_) (fun c3=>?_)
   ·try simp only [sx] at c3
    have hdp:=delP_bad c3
    refine Y O<|G O<|yK O<|G O<|rL0 O (fun g9_2=>zU O wY O (J 1 O) O) O<|rL0 O (fun g9_2=>zU O wY O (J 2 O) O) O<|rLz [(46,_),(47,_)] O gv1 ⟨O,O,O,O,T⟩ (fun g9_2=>qL O ok15 (zNs (gN p).1 p hok) ⟨U,O,U,O,T⟩) O<|yZ O (fun h=>h)<|G O<|rL0 O (fun g9_7=>qL O ok23 zJx T) O<|yZ O (fun h=>h)<|G O<|W<|zO<|zV O ?_
    rw [hdp];simp
   ·try simp only [sx] at c3
    refine zN<|Y O<|zP wY (J 1 O) O<|qQ O ok20 (show Pur cfg 20 [vPg (gN p).1] (.tup [vI (dR (gN p).1).1,vI 0]) by have h:=zFl (gN p).1 hok;rw [←zKp] at h;rw [delP_valid c3] at h;exact h) ⟨U,O,T⟩<|yH O<|yX O<|yX O<|G O<|G O<|W<|Y O<|zP wY (J 1 O) O<|qQ O ok24 (show Pur cfg 24 [vPg (gN p).1] (.tup [vPg (gN p).1,vI 0]) by have h:=delta_Prog (gN p).1 hok (delP_len p (by omega)) (fun _=>delP_dl hS hR c3);rw [delP_again c3] at h;exact h) ⟨U,O,T⟩<|yH O<|qA O (yA O O O)<|yX O<|zY O O (qF [some 1,some 3,some 7,some 22,some 1] O zr27 O) ?_
    rintro _ _ ⟨b4,rfl,rfl⟩
    refine rStR 0 sz27 O<|G O<|W<|Y O<|G O<|yK O<|G O<|rL0 O (fun g12_2=>zS O O) O<|rL1 66 O (fun g12_2=>yM O O O) O<|yZ O (fun h=>h)<|G O<|rL0 O (fun g12_6=>zU O wY O (J 0 O) O) O<|rL0 O (fun g12_6=>zU O wY O (J 2 O) O) O<|rLz [(70,_),(71,_)] O gv1 ⟨O,O,O,O,T⟩ (fun g12_6=>qL O ok15 (zNs (gN p).1 (gN p).1 hok) ⟨U,O,U,O,T⟩) O<|yZ O (fun h=>h)<|G O<|rL0 O (fun g12_11=>qL O ok23 zJx T) O<|yZ O (fun h=>h)<|G O<|W<|zO<|zV O ?_
    simp
end Go.W
end
