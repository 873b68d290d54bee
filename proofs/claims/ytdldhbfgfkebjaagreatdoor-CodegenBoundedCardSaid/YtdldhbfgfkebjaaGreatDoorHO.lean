/-
  Walks: what functions of the program compute. Printed by wip/gen/mk2.py.
  Conditions: none.
-/
import Derived.Test.YtdldhbfgfkebjaaGreatDoorHN
import Derived.Test.YtdldhbfgfkebjaaGreatDoorCgB
set_option linter.unusedSimpArgs false
set_option linter.unusedVariables false
set_option maxRecDepth 10000
namespace Go.W
open Go Go.Eng Go.Proofs Go.L41 Go.Br
attribute [local irreducible] AWP RWP TD finQ
theorem any_next1 {α:Type} {p:α->Bool} {l:List α} {k:Nat} {x:α} (h:l[k]? =some x):(l.take (k+1)).any p=((l.take k).any p||p x):=by rw [yG h,List.any_append];simp
def extB (n:Ns) (d:Int):Bool:=n.Bufs.any fun b=>b.Dims.any fun x=>decide (x=d)
def slB (sl:List Sl) (x:In):Bool:=sl.any fun s=>decide (x.Val.N=s.At)&&decide (x.C=s.At+s.Len)
theorem bd_1 {g:Gn} {x:In} (h:bdI g x) (ho:x.Op=10∨x.Op=11):slB g.sl x=true∨(x.Op=10/\x.A=255/\x.Val.N=0/\extB g.n x.C=true):=by
  rcases h ho with ⟨s,hs,h1,h2⟩|⟨h1,h2,h3,b,hb,hx⟩
  · left;unfold slB;rw [List.any_eq_true];exact ⟨s,hs,by rw [decide_eq_true h1,decide_eq_true h2];rfl⟩
  · right;exact ⟨h1,h2,h3,by unfold extB;rw [List.any_eq_true];exact ⟨b,hb,by rw [List.any_eq_true];exact ⟨_,hx,decide_eq_true rfl⟩⟩⟩
theorem cmp_0 {n:Ns} (h:(cmpT n).2=0):(validN n).2=0/\(cmpT n).1=⟨topC (gnN n) (lives n),typN n,(planT (lives n)).1,(planT (lives n)).2⟩:=by
  unfold cmpT at h⊢
  split at h
  · rename_i c;exact absurd h c
  · rename_i c
    rw [if_neg c]
    split at h
    · cases h
    · rename_i c2
      rw [if_neg c2]
      split at h
      · cases h
      · rename_i c3
        rw [if_neg c3]
        split at h
        · cases h
        · rename_i c4
          rw [if_neg c4]
          exact ⟨by by_cases q:(validN n).2=0;exact q;exact absurd q c,O⟩
theorem fd46_3:fieldT Tryz.prog 46 3=some (3,3):=by kernel_rfl
theorem fd46_4:fieldT Tryz.prog 46 4=some (4,44):=by kernel_rfl
theorem ok15:callOk Tryz.prog 15=true:=by kernel_rfl
theorem sz46:(Tryz.prog.info? 46).map (·.size)=some 11:=by kernel_rfl
theorem law48_extent (n:Ns) (d:Int) (hl:n.Bufs.length<=1000000) (hd:∀b,b∈n.Bufs->b.Dims.length<=17592186044416):
    Pur cfg 15 [vNs n,vI d] (vB (extB n d)):=by
 refine zW Tryz.func15 O Tryz.ntmps15 Tryz.results15 O ?_
 intro z hz
 refine R O<|zU O O (qT O O) ?_
 rintro _ _ ⟨b1,rfl,rfl⟩
 refine qS _ (qK 0 O 2 _ PLe.ptr)<|G O<|zA ?_
 refine zF<|R O<|G O<|zA<|zQ<|zS ⟨[(5,.c _),(1,.c _),(2,.c _)],[]⟩ (Weak.mk [] ⟨zB,zB,zB,T⟩ O)<|qJ 1 0 O O (Nat) (fun k=>[(5,vI k)]) (fun k=>[]) (fun k=>k<=n.Bufs.length/\(((n.Bufs.take k).any fun b=>b.Dims.any fun x=>decide (x=d))=false)) (fun k=>n.Bufs.length-k) ⟨0,⟨by omega,O⟩,Weak.mk [] ⟨zB,zB,zB,T⟩ O⟩ ?_
 rintro k ⟨hk,hp⟩
 refine zF<|R O<|G O<|zZ O zFb<|zL zLr Y O<|qH O el22<|yE O<|zA<|zC O (fun c1=>?_) (fun c1=>?_)
 ·try simp only [sx] at c1
  obtain ⟨b,hb⟩:=qX n.Bufs k (by omega)
  have hdl:=hd b (qB hb)
  refine zH<|zF<|zQ<|R O<|G O<|zA<|zQ<|zS ⟨[(6,.c _),(1,.c _),(2,.c _),(5,.c _)],[]⟩ (Weak.mk [] ⟨zB,zB,zB,zB,T⟩ O)<|qJ 1 0 O O (Nat) (fun j=>[(6,vI j)]) (fun j=>[]) (fun j=>j<=b.Dims.length/\(((b.Dims.take j).any fun x=>decide (x=d))=false)) (fun j=>b.Dims.length-j) ⟨0,⟨by omega,O⟩,Weak.mk [] ⟨zB,zB,zB,zB,T⟩ O⟩ ?_
  rintro j ⟨hj,hq⟩
  refine zF<|R O<|G O<|zZ O zFb<|zL zLr Y O<|G O<|qI O el22 (by omega) (getm hb)<|zZ O zCm<|zL zCh Y O<|qH O el67<|yE O<|zA<|zC O (fun c2=>?_) (fun c2=>?_)
  ·try simp only [sx] at c2
   obtain ⟨x,hx⟩:=qX b.Dims j (by omega)
   refine zH<|zF<|zQ<|R O<|zZ O zFb<|zL zLr Y O<|G O<|qI O el22 (by omega) (getm hb)<|zZ O zCm<|zL zCh Y O<|G O<|qI O el67 (by omega) (getm hx)<|zL one3 Y O<|G O<|yO O<|zA<|zC O (fun c3=>?_) (fun c3=>?_)
   ·try simp only [sx] at c3
    refine R O<|G O<|zA<|zM<|fin1 (L O)<|congrArg vB (Eq.symm ?_)
    unfold extB
    rw [List.any_eq_true];exact ⟨b,qB hb,by rw [List.any_eq_true];exact ⟨x,qB hx,decide_eq_true c3⟩⟩
   ·try simp only [sx] at c3
    refine zH<|zI O<|G O<|qD O ⟨by omega,by omega⟩<|G O<|zA ?_
    refine ⟨j+1,⟨by omega,zBz hx hq (decide_eq_false c3)⟩,(by omega),Weak.mk [] ⟨zB,zB,zB,zB,T⟩ O⟩
  ·try simp only [sx] at c2
   refine qL<|zI O<|G O<|qD O ⟨by omega,by omega⟩<|G O<|zA ?_
   refine ⟨k+1,⟨by omega,zBz hb hp (by rw [yI (l:=b.Dims) (k:=j) (by omega)] at hq;exact hq)⟩,(by omega),Weak.mk [] ⟨zB,zB,zB,T⟩ O⟩
 ·try simp only [sx] at c1
  refine qL<|R O<|G O<|zA<|zM<|zX O ?_
  rw [yI (l:=n.Bufs) (k:=k) (by omega)] at hp
  exact congrArg vB hp.symm
set_option maxHeartbeats 4000000 in
theorem law_CodegenBounded (n:Ns) (hf:n.Fit):
    Pur cfg 5 [vNs n] (vB true):=by
 refine zW Tryz.func5 O Tryz.ntmps5 Tryz.results5 O ?_
 intro z hz
 refine R O<|zU O O (qT O O) ?_
 rintro _ _ ⟨b1,rfl,rfl⟩
 refine qS _ (qK 0 O 1 _ PLe.ptr)<|G O<|zA ?_
 refine zF<|R O<|zP zFj Y O<|qW O ok8 (r48_Short n hf) ⟨zB,O,T⟩<|wK O<|zA<|zC O (fun c1=>?_) (fun c1=>?_)
 ·refine R O<|qW O ok9 zIe T<|G O<|zA<|zM<|zX O ?_
  rfl
 ·obtain ⟨k1,k2⟩:=small3 c1
  have hok:=Ns.Fit.ok hf (m:=300) (by omega) (by omega) k2
  have hw:=weighB_wt k2
  have hbl:=wT n.Body
  obtain ⟨e1,e2,e3⟩:=cmp_len (n:=n) k1
  refine zH<|R O<|zP zFj Y O<|qW O ok12 (cg_Compile n hok (by omega) (by omega)) ⟨zB,O,T⟩<|v O (yW O O)<|v O (kV O O O)<|v O (kO O O O)<|zU O O (qR [some 11,some 5,some 3,none] O zr35 O) ?_
  rintro _ _ ⟨b2,rfl,rfl⟩
  refine D 0 sz35 O<|qS _ (qK 0 O 3 _ PLe.ptr)<|G O<|zA ?_
  refine zF<|R O<|G O<|wL O<|zA<|zC O (fun c2=>?_) (fun c2=>?_)
  ·try simp only [sx] at c2
   refine R O<|qW O ok9 zIe T<|G O<|zA<|zM<|zX O ?_
   rfl
  ·try simp only [sx] at c2
   obtain ⟨hv,hcm⟩:=cmp_0 c2
   have hG:=gnN_ok hok hv k1 (by omega)
   have hbd:=bd_top hG (valid_rdy (g:=gnN n) hv rfl) (lives n)
   refine zH<|zF<|R O<|G O<|zA<|zQ<|zS ⟨[(5,.c _),(1,.c _),(3,.c _)],[]⟩ (Weak.mk [] ⟨zB,zB,zB,T⟩ O)<|qJ 1 0 O O (Nat) (fun k=>[(5,vI k)]) (fun k=>[]) (fun k=>k<=(cmpT n).1.Code.length) (fun k=>(cmpT n).1.Code.length-k) ⟨0,(by omega),Weak.mk [] ⟨zB,zB,zB,T⟩ O⟩ ?_
   rintro k hk
   refine zF<|R O<|G O<|zZ O fd35_0<|zL zNl Y O<|qH O el32<|yE O<|zA<|zC O (fun c3=>?_) (fun c3=>?_)
   ·try simp only [sx] at c3
    obtain ⟨x,hx⟩:=qX (cmpT n).1.Code k (by omega)
    have hxb:bdI (gnN n) x:=hbd x (by have:=qB hx;rw [hcm] at this;exact this)
    refine zH<|zF<|zQ<|R O<|zZ O fd35_0<|zL zNl Y O<|G O<|qI O el32 (by omega) (getm hx)<|zP agg46 Y O<|zU O O (yX O zr46) ?_
    rintro _ _ ⟨b3,rfl,rfl⟩
    refine D 0 sz46 O<|qS _ (qK 0 O 6 _ PLe.ptr)<|zA ?_
    refine zF<|R O<|zZ O fd46_0<|zL one3 Y O<|wL O<|G O<|rL0 O (fun g10_3=>qA O fd46_0 O) O<|B 37 O (fun g10_3=>zD O one3 O Y O) O<|B 38 O (fun g10_3=>zEq O O O) O<|kE O (fun h=>h)<|zA<|zC O (fun c4=>?_) (fun c4=>?_)
    ·try simp only [sx] at c4
     refine qL<|zI O<|G O<|qD O ⟨by omega,by omega⟩<|G O<|zA ?_
     refine ⟨k+1,(by omega),(by omega),Weak.mk [] ⟨zB,zB,zB,T⟩ O⟩
    ·try simp only [sx] at c4
     refine zH<|R O<|G O<|zA<|zF<|R O<|G O<|zA<|zQ<|zS ⟨[(8,.c _),(7,.c _),(1,.c _),(3,.c _),(5,.c _),(6,.c _)],[]⟩ (Weak.mk [] ⟨zB,zB,zB,zB,zB,zB,T⟩ O)<|qJ 2 0 O O (Nat) (fun j=>[(8,vI j),(7,vB (slB ((cmpT n).1.Slots.take j) x))]) (fun j=>[]) (fun j=>j<=(cmpT n).1.Slots.length) (fun j=>(cmpT n).1.Slots.length-j) ⟨0,(by omega),Weak.mk [] ⟨zB,VLe.of_eq (O),zB,zB,zB,zB,T⟩ O⟩ ?_
     rintro j hj
     refine zF<|R O<|G O<|zZ O fd35_2<|zL one33 Y O<|qH O el33<|yE O<|zA<|zC O (fun c5=>?_) (fun c5=>?_)
     ·try simp only [sx] at c5
      obtain ⟨y,hy⟩:=qX (cmpT n).1.Slots j (by omega)
      have hyb:=hG.slb y (by have:=qB hy;rw [hcm] at this;exact this)
      refine zH<|zF<|zQ<|qU 32 mixed (by kernel_rfl) O O<|zE O O (zG O O)<|zE O O (zG O O)<|qM [] O O O O gv1 T (fun g15_1=>qA O fd46_4 O) O<|qM [(50,_)] O O O O gv1 ⟨O,O,T⟩ (fun g15_1=>qA O zJg O) O<|qM [(51,_)] O O O O gv1 ⟨O,O,T⟩ (fun g15_1=>zD O one2 O Y O) O<|qM [] O O O O gv1 T (fun g15_1=>qA O fd35_2 O) O<|qM [(53,_)] O O O O gv1 ⟨O,O,T⟩ (fun g15_1=>zD O one33 O Y O) O<|qM [] O O O O gv1 T (fun g15_1=>zG O O) O<|qM [(54,_),(55,_)] O O O O gv1 ⟨O,O,O,O,T⟩ (fun g15_1=>yA O el33 O O (by omega) (getm hy)) O<|qM [(56,_)] O O O O gv1 ⟨O,O,T⟩ (fun g15_1=>qA O zLl O) O<|qM [(57,_)] O O O O gv1 ⟨O,O,T⟩ (fun g15_1=>zD O one3 O Y O) O<|qM [(52,_),(58,_)] O O O O gv1 ⟨O,O,O,O,T⟩ (fun g15_1=>kJ O O O) O<|qM [(59,_)] O O O O gv1 ⟨O,O,T⟩ (fun g15_1=>zG O O) O<|qM [] O O O O gv2 T (fun g15_12=>qA O fd46_3 O) O<|qM [(61,_)] O O O O gv2 ⟨O,O,T⟩ (fun g15_12=>zD O one3 O Y O) O<|qM [] O O O O gv2 T (fun g15_12=>qA O fd35_2 O) O<|qM [(63,_)] O O O O gv2 ⟨O,O,T⟩ (fun g15_12=>zD O one33 O Y O) O<|qM [] O O O O gv2 T (fun g15_12=>zG O O) O<|qM [(64,_),(65,_)] O O O O gv2 ⟨O,O,O,O,T⟩ (fun g15_12=>yA O el33 O O (by omega) (getm hy)) O<|qM [(66,_)] O O O O gv2 ⟨O,O,T⟩ (fun g15_12=>qA O zLl O) O<|qM [(67,_)] O O O O gv2 ⟨O,O,T⟩ (fun g15_12=>zD O one3 O Y O) O<|qM [] O O O O gv2 T (fun g15_12=>qA O fd35_2 O) O<|qM [(69,_)] O O O O gv2 ⟨O,O,T⟩ (fun g15_12=>zD O one33 O Y O) O<|qM [] O O O O gv2 T (fun g15_12=>zG O O) O<|qM [(70,_),(71,_)] O O O O gv2 ⟨O,O,O,O,T⟩ (fun g15_12=>yA O el33 O O (by omega) (getm hy)) O<|qM [(72,_)] O O O O gv2 ⟨O,O,T⟩ (fun g15_12=>qA O fd48_2 O) O<|qM [(73,_)] O O O O gv2 ⟨O,O,T⟩ (fun g15_12=>zD O one3 O Y O) O<|qM [(68,_),(74,_)] O O O O gv2 ⟨O,O,O,O,T⟩ (fun g15_12=>kB O O O ⟨by omega,by omega⟩) O<|qM [(62,_),(75,_)] O O O O gv2 ⟨O,O,O,O,T⟩ (fun g15_12=>kJ O O O) O<|qM [(60,_)] O O O O gv1 ⟨O,O,T⟩ (fun g15_1=>zCc O O O (fun h=>kX (by assumption) h) O) O<|zE O O (kK O O O O (fun h=>(lzf h)))<|zE O O (kG O O)<|yM<|zA<|zI O<|G O<|qD O ⟨by omega,by omega⟩<|G O<|zA ?_
      refine ⟨j+1,(by omega),(by omega),Weak.mk [] ⟨zB,VLe.of_eq (congrArg vB (any_next1 hy).symm),zB,zB,zB,zB,T⟩ O⟩
     ·try simp only [sx] at c5
      rw [yI (l:=(cmpT n).1.Slots) (k:=j) (by omega)]
      refine qL<|zF<|R O<|zZ O fd46_0<|zL one3 Y O<|yO O<|G O<|rL0 O (fun g16_3=>qA O fd46_1 O) O<|B 83 O (fun g16_3=>zD O one3 O Y O) O<|B 84 O (fun g16_3=>kJ O O O) O<|kE O (fun h=>h)<|G O<|rL0 O (fun g16_8=>qA O fd46_4 O) O<|B 88 O (fun g16_8=>qA O zJg O) O<|B 89 O (fun g16_8=>zD O one2 O Y O) O<|B 90 O (fun g16_8=>kJ O O O) O<|kE O (fun h=>h)<|zA<|zC O (fun c6=>?_) (fun c6=>?_)
      ·try simp only [sx] at c6
       refine zI O<|G O<|G O<|rL0 O (fun g17_1=>qG O zFj O Y O) O<|rL0 O (fun g17_1=>qA O fd46_3 O) O<|B 96 O (fun g17_1=>zD O one3 O Y O) O<|rLz [(95,_),(97,_)] O gv1 ⟨O,O,O,O,T⟩ (fun g17_1=>qY O ok15 (law48_extent n x.C (by omega) hf.dims) ⟨zB,O,zB,O,T⟩) O<|v O (kK O O O O (fun h=>(lzf h)))<|G O<|zA<|R O<|G O<|wK O<|zA<|zC O (fun c7=>?_) (fun c7=>?_)
       ·have h8:slB (gnN n).sl x=true∨(x.Op=10/\x.A=255/\x.Val.N=0/\extB n x.C=true):=bd_1 hxb (by omega)
        have h7:slB (cmpT n).1.Slots x=slB (gnN n).sl x:=by rw [hcm];rfl
        exact absurd c7 (by rw [h7];rcases h8 with h8|⟨_,_,_,h8⟩<;>rw [h8]<;>simp)
       ·refine zH<|zI O<|G O<|qD O ⟨by omega,by omega⟩<|G O<|zA ?_
        refine ⟨k+1,(by omega),(by omega),Weak.mk [] ⟨zB,zB,zB,T⟩ O⟩
      ·try simp only [sx] at c6
       refine zH<|R O<|G O<|wK O<|zA<|zC O (fun c7=>?_) (fun c7=>?_)
       ·have h8:slB (gnN n).sl x=true∨(x.Op=10/\x.A=255/\x.Val.N=0/\extB n x.C=true):=bd_1 hxb (by omega)
        have h7:slB (cmpT n).1.Slots x=slB (gnN n).sl x:=by rw [hcm];rfl
        exact absurd c7 (by rw [h7];rcases h8 with h8|⟨a1,a2,a3,_⟩;rw [h8];simp;exfalso;omega)
       ·refine zH<|zI O<|G O<|qD O ⟨by omega,by omega⟩<|G O<|zA ?_
        refine ⟨k+1,(by omega),(by omega),Weak.mk [] ⟨zB,zB,zB,T⟩ O⟩
   ·try simp only [sx] at c3
    refine qL<|R O<|qW O ok9 zIe T<|G O<|zA<|zM<|zX O ?_
    rfl
end Go.W
