/-
  What functions compute.
  Conditions: none.
-/
import Derived.Test.YtkidnhldibjiaaaGreatDoorGE
set_option linter.unusedSimpArgs false
set_option linter.unusedVariables false
set_option maxRecDepth 10000
namespace Go.W
open Go Go.Eng Go.Proofs Go.L41 Go.Br
attribute [local irreducible] AWP RWP TD fL
theorem ok112:bA Tryz.prog 112=true:=by kernel_rfl
theorem ref17_wide (l:List Lf) (hl:l.length<=140737488355328):
    Pur cfg 112 [mR l] (vB (pH l)):=by
 refine zW Tryz.func112 O Tryz.ntmps112 Tryz.results112 O ?_
 intro z hz
 refine Y O<|G O<|W<|zM<|Y O<|G O<|W<|zR<|qC ⟨[(3,.c _),(0,.c _)],[]⟩ (Weak.mk [] ⟨U,U,T⟩ O)<|qG 1 0 O O (Nat) (fun k=>[(3,vI k)]) (fun k=>[]) (fun k=>k<=l.length/\((l.take k).any (fun x=>decide (20<x.L.length))=false)) (fun k=>l.length-k) ⟨0,⟨by omega,O⟩,Weak.mk [] ⟨U,U,T⟩ O⟩ ?_
 rintro k ⟨hk,hp⟩
 refine zM<|Y O<|G O<|G O<|qB O el65<|yI O<|W<|zH O (fun c1=>?_) (fun c1=>?_)
 ·try simp only [sx] at c1
  obtain ⟨x,hx⟩:=qU l k (by omega)
  refine zN<|zM<|zR<|Y O<|G O<|G O<|qJ O el65 (by omega) (getm (by assumption))<|qS O yP<|zK kQ qE O<|qB O D<|qA O (yL O O O)<|W<|zH O (fun c2=>?_) (fun c2=>?_)
  ·try simp only [sx] at c2
   refine Y O<|G O<|W<|zO<|zV O ?_
   rw [pH,List.any_eq_true.2 ⟨x,zX hx,decide_eq_true (by omega)⟩]
  ·try simp only [sx] at c2
   refine zN<|zT O<|G O<|qK O ⟨by omega,by omega⟩<|G O<|W ?_
   refine ⟨k+1,⟨by omega,zCb hx hp (decide_eq_false (by omega))⟩,(by omega),Weak.mk [] ⟨U,U,T⟩ O⟩
 ·try simp only [sx] at c1
  refine qO<|Y O<|G O<|W<|zO<|zV O ?_
  rw [pH];rw [qY (by omega)] at hp;rw [hp]
theorem ref17_Long (p:Pg) (most:Nat) (hF:p.Fit) (hm:most<=1000000):
    Pur cfg 60 [vPg p,vI most] (vB (nO p most)):=by
 refine zW Tryz.func60 O Tryz.ntmps60 Tryz.results60 O ?_
 intro z hz
 have f1:=hF.sizes
 have f2:=hF.wh
 have f3:=hF.params
 have f4:=hF.defs
 have f5:=hF.outs
 refine Y O<|zY O O (qN O O) ?_
 rintro _ _ ⟨b1,rfl,rfl⟩
 refine G O<|W<|zM<|Y O<|zF O zCl<|zK zBn (J 0 O) O<|qB O el22<|qA O (yL O O O)<|G O<|rL0 O (fun g1_4=>zE O zBu O) O<|rL1 16 O (fun g1_4=>zJ O zHj O (J 0 O) O) O<|rL1 17 O (fun g1_4=>qX O el23 O) O<|rL1 18 O (fun g1_4=>yL O O O) O<|r_or O (fun h=>(lzf h))<|G O<|rL0 O (fun g1_10=>zE O wM O) O<|rL1 22 O (fun g1_10=>zJ O zBm O (J 0 O) O) O<|rL1 23 O (fun g1_10=>qX O el24 O) O<|rL1 24 O (fun g1_10=>yL O O O) O<|r_or O (fun h=>(lzf h))<|G O<|rL0 O (fun g1_16=>zE O kV O) O<|rL1 28 O (fun g1_16=>zJ O zAq O (J 0 O) O) O<|rL1 29 O (fun g1_16=>qX O el25 O) O<|rL1 30 O (fun g1_16=>yL O O O) O<|r_or O (fun h=>(lzf h))<|G O<|rL0 O (fun g1_22=>zE O zFh O) O<|rL1 34 O (fun g1_22=>zJ O zBn O (J 0 O) O) O<|rL1 35 O (fun g1_22=>qX O el22 O) O<|rL1 36 O (fun g1_22=>yL O O O) O<|r_or O (fun h=>(lzf h))<|W<|zH O (fun c1=>?_) (fun c1=>?_)
 ·have h0:=long0_t c1
  refine Y O<|G O<|W<|zO<|zV O ?_
  rw [nO,h0];rfl
 ·have h0:=long0_f c1
  refine zN<|zM<|Y O<|G O<|W<|zR<|qC ⟨[(5,.c _),(1,.c _),(2,.c _)],[_]⟩ (Weak.mk [true] ⟨U,U,U,T⟩ O)<|qG 1 0 O O (Nat) (fun k=>[(5,vI k)]) (fun k=>[]) (fun k=>k<=p.Where.length/\((p.Where.take k).any tC=false)) (fun k=>p.Where.length-k) ⟨0,⟨by omega,O⟩,Weak.mk [true] ⟨U,U,U,T⟩ O⟩ ?_
  rintro k ⟨hk,hp⟩
  refine zM<|Y O<|G O<|zF O zBu<|zK zHj (J 0 O) O<|qB O el23<|yI O<|W<|zH O (fun c2=>?_) (fun c2=>?_)
  ·try simp only [sx] at c2
   obtain ⟨x,hx⟩:=qU p.Where k (by omega)
   refine zN<|zM<|zR<|Y O<|zF O zBu<|zK zHj (J 0 O) O<|G O<|qJ O el23 (by omega) (getm (by assumption))<|qS O zGw<|qS O yP<|zK kQ qE O<|qB O D<|qA O (yL O O O)<|W<|zH O (fun c3=>?_) (fun c3=>?_)
   ·try simp only [sx] at c3
    refine Y O<|G O<|W<|zO<|zV O ?_
    rw [nO,List.any_eq_true.2 ⟨x,zX hx,(decide_eq_true (by omega):tC x=true)⟩];simp
   ·try simp only [sx] at c3
    refine zN<|zT O<|G O<|qK O ⟨by omega,by omega⟩<|G O<|W ?_
    refine ⟨k+1,⟨by omega,zCb hx hp (decide_eq_false (by omega))⟩,(by omega),Weak.mk [true] ⟨U,U,U,T⟩ O⟩
  ·try simp only [sx] at c2
   rw [qY (l:=p.Where) (k:=k) (by omega)] at hp
   refine qO<|zM<|Y O<|G O<|W<|zR<|qC ⟨[(6,.c _),(1,.c _),(2,.c _)],[_]⟩ (Weak.mk [true] ⟨U,U,U,T⟩ O)<|qG 1 0 O O (Nat) (fun k=>[(6,vI k)]) (fun k=>[]) (fun k=>k<=p.Params.length/\((p.Params.take k).any rC=false)) (fun k=>p.Params.length-k) ⟨0,⟨by omega,O⟩,Weak.mk [true] ⟨U,U,U,T⟩ O⟩ ?_
   rintro k ⟨hk,hq⟩
   refine zM<|Y O<|G O<|zF O wM<|zK zBm (J 0 O) O<|qB O el24<|yI O<|W<|zH O (fun c4=>?_) (fun c4=>?_)
   ·try simp only [sx] at c4
    obtain ⟨x,hx⟩:=qU p.Params k (by omega)
    refine zN<|zM<|zR<|Y O<|zF O wM<|zK zBm (J 0 O) O<|G O<|qJ O el24 (by omega) (getm (by assumption))<|qS O zCj<|zK zAp qE O<|qB O el65<|qA O (yL O O O)<|G O<|rL0 O (fun g11_8=>zE O wM O) O<|rL1 71 O (fun g11_8=>zJ O zBm O (J 0 O) O) O<|rL0 O (fun g11_8=>zS O O) O<|rLz [(72,_),(73,_)] O gv1 ⟨O,O,O,O,T⟩ (fun g11_8=>qH O el24 O O (by omega) (getm (by assumption))) O<|rL1 74 O (fun g11_8=>qP O zCj O) O<|rL1 75 O (fun g11_8=>zJ O zAp O qE O) O<|rL1 76 O (fun g11_8=>qL O ok112 (ref17_wide x.Dims (hF.ps x (zX hx)).1) ⟨U,O,T⟩) O<|r_or O (fun h=>(lzf h))<|W<|zH O (fun c5=>?_) (fun c5=>?_)
    ·have h5:=longP_t c5
     refine Y O<|G O<|W<|zO<|zV O ?_
     rw [nO,List.any_eq_true.2 ⟨x,zX hx,h5⟩];simp
    ·have h5:=longP_f c5
     refine zN<|zT O<|G O<|qK O ⟨by omega,by omega⟩<|G O<|W ?_
     refine ⟨k+1,⟨by omega,zCb hx hq h5⟩,(by omega),Weak.mk [true] ⟨U,U,U,T⟩ O⟩
   ·try simp only [sx] at c4
    rw [qY (l:=p.Params) (k:=k) (by omega)] at hq
    refine qO<|zM<|Y O<|G O<|W<|zR<|qC ⟨[(7,.c _),(1,.c _),(2,.c _)],[_]⟩ (Weak.mk [true] ⟨U,U,U,T⟩ O)<|qG 1 0 O O (Nat) (fun k=>[(7,vI k)]) (fun k=>[]) (fun k=>k<=p.Defs.length/\((p.Defs.take k).any (nP most)=false)) (fun k=>p.Defs.length-k) ⟨0,⟨by omega,O⟩,Weak.mk [true] ⟨U,U,U,T⟩ O⟩ ?_
    rintro k ⟨hk,hr⟩
    refine zM<|Y O<|G O<|zF O kV<|zK zAq (J 0 O) O<|qB O el25<|yI O<|W<|zH O (fun c6=>?_) (fun c6=>?_)
    ·try simp only [sx] at c6
     obtain ⟨d,hd⟩:=qU p.Defs k (by omega)
     obtain ⟨g1,g2,g3,g4,g5⟩:=hF.ds d (zX hd)
     refine zN<|zM<|zR<|Y O<|zF O kV<|zK zAq (J 0 O) O<|G O<|qJ O el25 (by omega) (getm (by assumption))<|zP zAi qE O<|zY O O (qF [none,none,none,none,none,none,some 3,some 3,none,none,none,none,none,none,none,none,none,none,none,some 2,some 4,some 13] O zr63 O) ?_
     rintro _ _ ⟨b2,rfl,rfl⟩
     refine rStR 0 sz63 O<|W<|zM<|Y O<|zF O zAt<|zK kY (J 0 O) O<|qB O N<|qA O (yL O O O)<|G O<|rL0 O (fun g17_4=>zE O kU O) O<|rL1 96 O (fun g17_4=>zJ O kY O (J 0 O) O) O<|rL1 97 O (fun g17_4=>qX O N O) O<|rL1 98 O (fun g17_4=>yL O O O) O<|r_or O (fun h=>(lzf h))<|G O<|rL0 O (fun g17_10=>zE O zCv O) O<|rL1 102 O (fun g17_10=>zU O yG O (J 0 O) O) O<|rL0 O (fun g17_10=>zS O O) O<|rLz [(103,_),(104,_)] O gv1 ⟨O,O,O,O,T⟩ (fun g17_10=>qL O ok26 (base_Weigh d.Body most most (hF.ds d (zX hd)).2.2.2.2 hm O) ⟨U,O,U,O,T⟩) O<|rL0 O (fun g17_10=>zS O O) O<|rLz [(105,_),(106,_)] O gv1 ⟨O,O,O,O,T⟩ (fun g17_10=>yL O O O) O<|r_or O (fun h=>(lzf h))<|W<|zH O (fun c7=>?_) (fun c7=>?_)
     ·have h7:=longD_t c7
      refine Y O<|G O<|W<|zO<|zV O ?_
      rw [nO,List.any_eq_true.2 ⟨d,zX hd,h7⟩];simp
     ·obtain ⟨h71,h72,h73⟩:=longD_f c7
      refine zN<|Y O<|G O<|W<|zR<|qC ⟨[(9,.c _),(1,.c _),(2,.c _),(7,.c _),(8,.c _)],[_,_]⟩ (Weak.mk [true,true] ⟨U,U,U,U,U,T⟩ O)<|qG 1 0 O O (Nat) (fun j=>[(9,vI j)]) (fun j=>[]) (fun j=>j<=d.Dims.length+d.Red.length/\((d.Dims++d.Red).take j).any (fun a=>decide (20<a.Size.L.length))=false) (fun j=>d.Dims.length+d.Red.length-j) ⟨0,⟨by omega,O⟩,Weak.mk [true,true] ⟨U,U,U,U,U,T⟩ O⟩ ?_
      rintro j ⟨hj,hj2⟩
      refine zM<|Y O<|G O<|zF O zAt<|zK kY (J 0 O) O<|qB O N<|zF O kU<|zK kY (J 0 O) O<|qB O N<|qK O ⟨by omega,by omega⟩<|yI O<|W<|zH O (fun c8=>?_) (fun c8=>?_)
      ·try simp only [sx] at c8
       obtain ⟨a,ha⟩:=qU (d.Dims++d.Red) j (by rw [List.length_append];omega)
       refine zN<|zM<|zR<|zM<|kI 11 2 [⟨1,.q []⟩,⟨2,.q [2]⟩,⟨4,.q []⟩,⟨5,.q [2]⟩,⟨7,.q []⟩,⟨0,.e 1 []⟩,⟨3,.e 1 []⟩,⟨6,.e 1 []⟩,⟨8,.q [1]⟩,⟨9,.q [1]⟩,⟨10,.f 0⟩] mixed (by kernel_rfl) (by kernel_rfl) O O O<|qD O<|qD O<|qD O<|qD O<|qD O<|qD O<|qD O<|qD O<|qD O<|qD O<|zGv O O (wH (qF [none,none,some 2] O zJb O)) ⟨_,_,0,O,O⟩<|zBq<|qM O (by decide) O O (zE O zAt O)<|qM O (by decide) O O (zJ O kY O (J 0 O) O)<|qM O (by decide) O O (zE O kU O)<|qM O (by decide) O O (zJ O kY O (J 0 O) O)<|qM O (by decide) O O (zS O O)<|zFs O O (by decide) O O (zAa O N zJb O O O O) ?_
       rintro _ _ ⟨sv3,rfl,rfl⟩
       refine ⟨_,O,?_⟩
       refine zFs O O (by decide) O O (qV 0 O N O O O (by simp only [List.length_map,List.length_nil,List.length_append];omega) (by simp only [List.length_map,List.length_nil,List.length_append];omega)) ?_
       rintro _ _ ⟨sv4,rfl,rfl⟩
       refine ⟨_,O,?_⟩
       refine zFs O O (by decide) O O (qV 0 O N O O O (by simp only [List.length_map,List.length_nil,List.length_append];omega) (by simp only [List.length_map,List.length_nil,List.length_append];omega)) ?_
       rintro _ _ ⟨sv5,rfl,rfl⟩
       refine ⟨_,O,?_⟩
       refine qM O (by decide) O O (qZ 0 O N O O O (by omega) (by simp only [List.length_map,List.length_nil,List.length_append];omega))<|qM O (by decide) O O (zU O zMf O (wP 0 O (ax_get ha)) O)<|zGr O O ?_
       rintro _ _ ⟨b6,rfl,rfl⟩
       refine zBp O<|rStR 0 sz111 O<|W<|Y O<|zF O zEu<|zF O yP<|zK kQ (J 0 O) O<|qB O D<|qA O (yL O O O)<|W<|zH O (fun c9=>?_) (fun c9=>?_)
       ·try simp only [sx] at c9
        refine Y O<|G O<|W<|zO<|zV O ?_
        rw [nO,List.any_eq_true.2 ⟨d,zX hd,longD_ax (zX ha) (by omega)⟩];simp
       ·try simp only [sx] at c9
        refine zN<|zT O<|G O<|qK O ⟨by omega,by omega⟩<|G O<|W ?_
        refine ⟨j+1,⟨by omega,zCb ha hj2 (decide_eq_false (by omega))⟩,(by omega),Weak.mk [false,false,true,true] ⟨U,U,U,U,U,T⟩ O⟩
      ·try simp only [sx] at c8
       have h8:nP most d=false:=longD_no h71 h72 h73 (by rw [qY (by rw [List.length_append];omega)] at hj2;exact hj2)
       refine qO<|zT O<|G O<|qK O ⟨by omega,by omega⟩<|G O<|W ?_
       refine ⟨k+1,⟨by omega,zCb hd hr h8⟩,(by omega),Weak.mk [false,true] ⟨U,U,U,T⟩ O⟩
    ·try simp only [sx] at c6
     rw [qY (l:=p.Defs) (k:=k) (by omega)] at hr
     refine qO<|Y O<|G O<|W<|zO<|zV O ?_
     rw [nO,h0,hp,hq,hr];rfl
end Go.W
