/-
  What functions compute.
  Conditions: none.
-/
import Derived.Test.YtdldhbfgfkebjaaGreatDoorHN
import Derived.Test.YtdldhbfgfkebjaaGreatDoorNG
set_option linter.unusedSimpArgs false
set_option linter.unusedVariables false
set_option maxRecDepth 10000
namespace Go.W
open Go Go.Eng Go.Proofs Go.L41 Go.Br
attribute [local irreducible] AWP RWP TD fP
def rG (s:St):St:=.mk s.Op s.Name s.Many (if s.Op=1/\s.Many<=20 then 3 else s.Mark) s.Fold s.Idx s.E s.Body
def nR (k:Nat) (l:List St):List St:=(l.take k).map rG++l.drop k
def tA (n:Ns):Ns:=⟨n.Bufs,n.Body.map rG⟩
theorem unrS_wt (s:St):(rG s).wt=s.wt:=by rw [St.wt_eq,St.wt_eq s];rfl
theorem unrs_wt:∀l:List St,bE (l.map rG)=bE l
  |[]=>rfl
  |s::l=>by have h:=unrs_wt l;simp only [bE,List.map_cons,List.sum_cons,unrS_wt] at h⊢;omega
theorem uR_len (k:Nat) (l:List St):(nR k l).length=l.length:=by
  unfold nR;rw [List.length_append,List.length_map,List.length_take,List.length_drop];omega
theorem uR_get {l:List St} {k:Nat} {s:St} (h:l[k]? =some s):(nR k l)[k]? =some s:=by
  have hl:=(List.getElem?_eq_some_iff.1 h).1
  unfold nR
  rw [List.getElem?_append_right (by rw [List.length_map,List.length_take];omega),List.length_map,List.length_take,List.getElem?_drop,Nat.min_eq_left (by omega),Nat.sub_self,Nat.add_zero];exact h
theorem uR_next {l:List St} {k:Nat} {s:St} (h:l[k]? =some s):nR (k+1) l=(nR k l).set k (rG s):=by
  have hl:=(List.getElem?_eq_some_iff.1 h).1
  have hd:=yB h
  unfold nR
  rw [yD h,List.map_append,List.set_append_right _ _ (by rw [List.length_map,List.length_take];omega),List.length_map,List.length_take,Nat.min_eq_left (by omega),Nat.sub_self,hd]
  simp
theorem uR_no {l:List St} {k:Nat} {s:St} (h:l[k]? =some s) (hc:¬(s.Op=1/\s.Many<=20)):nR (k+1) l=nR k l:=by
  have e:rG s=s:=by unfold rG;rw [if_neg hc];exact s.eta.symm
  have hl:=(List.getElem?_eq_some_iff.1 (uR_get h)).1
  rw [uR_next h,e]
  apply List.ext_getElem?
  intro i
  by_cases hi:k=i
  · subst hi;rw [List.getElem?_set_self hl,uR_get h]
  · rw [List.getElem?_set_ne hi]
theorem uR_yes {l:List St} {k:Nat} {s:St} (h:l[k]? =some s) (h1:s.Op=1) (h2:s.Many<=20):((nR k l).map St.cells).set k (s.cs.set 3 (cI 3))=(nR (k+1) l).map St.cells:=by
  rw [uR_next h,List.map_set,St.cells_eq]
  unfold rG;rw [if_pos ⟨h1,h2⟩];rfl
theorem uR_all {l:List St} {k:Nat} (h:l.length<=k):nR k l=l.map rG:=by
  unfold nR;rw [List.take_of_length_le h,List.drop_eq_nil_of_le h,List.append_nil]
theorem uR_ok {n:Ns} (h:n.Ok):(tA n).Ok:=⟨h.bufs,h.dims,by have:=h.body;show bE (n.Body.map rG)<=_;rw [unrs_wt];exact this⟩
theorem ok16:bA Tryz.prog 16=true:=by kernel_rfl
theorem sz22:(Tryz.prog.info? 22).map (·.size)=some 1:=by kernel_rfl
theorem zGf (l:List St) (hl:bE l<=1000000) (ih:∀s,s∈l->OwnR cfg 37 [dM s.Body] 59 20 (s.Body.map St.cells)):
    OwnR cfg 37 [dM l] 59 20 (l.map St.cells):=by
 refine zW Tryz.func37 O Tryz.ntmps37 Tryz.results37 O ?_
 intro z hz
 have hll:=wH l
 refine R O<|zZ O (yO 20 O O)<|zA<|R O<|G O<|qT _ (kZ 59 20)<|zA<|zF<|R O<|G O<|zA<|zP<|zU ⟨[(4,.c _),(3,.c _),(0,.c _)],[_]⟩ (Weak.mk [true] ⟨zB,zB,zB,T⟩ O)<|qF 2 1 O O (Nat×Value) (fun ⟨k,sv⟩=>[(4,vI k),(3,.c (.lit sv))]) (fun ⟨k,sv⟩=>[E.vec sv 59 20 ((l.take k).map St.cells)]) (fun ⟨k,sv⟩=>k<=l.length) (fun ⟨k,sv⟩=>l.length-k) ⟨⟨0,(.slice none 0 0)⟩,(by omega),Weak.mk [true] ⟨zB,zB,zB,T⟩ O⟩ ?_
 rintro ⟨k,sv⟩ hk
 show AWP _ _ _ _ _ ⟨[(4,vI k),(3,.c (.lit sv))]++_,[E.vec sv 59 20 ((l.take k).map St.cells)]++_⟩
 refine zF<|R O<|G O<|G O<|qD O el23<|yC O<|zA<|zD O (fun c1=>?_) (fun c1=>?_)
 ·try simp only [sx] at c1
  obtain ⟨s,hs⟩:=qU l k (by omega)
  have hsw:=kC (qE hs)
  have hse:=St.wt_eq s
  refine zI<|zF<|zP<|R O<|G O<|G O<|zY O el23 (by omega) (zCc hs)<|zQ zEi zO O<|zS O O (qQ [none,none,none,none,none,some 4,none,none,none,none,none,none,none,none,none,none,some 2,some 4,some 13,some 20] O zr59 O) ?_
  rintro _ _ ⟨b2,rfl,rfl⟩
  refine Y 0 sz59 O<|zA<|R O<|zJ O zEz<|zE wI (A 0 O) O<|zZ O (kT [none,none,none,none,none,none,none,none,none,none,some 2,none,some 13] O zr57 pl57 O O)<|qS O ok88 (ref14_Twin (rdZ s.Idx) (by rw [rdZ_wt];omega)) ⟨zB,O,T⟩<|zZ O (det_part_one O kQ wI O O)<|zJ O zEz<|Y 0 sz51 O<|zA<|R O<|zJ O zBi<|zQ yN (A 0 O) O<|qS O ok88 (ref14_Twin s.E (by omega)) ⟨zB,O,T⟩<|zJ O zBi<|Y 0 sz57 O<|zA<|R O<|zJ O zBb<|zE zAh (A 0 O) O<|qS O ok37 (OwnR.pur (ih s (qE hs))) ⟨zB,O,T⟩<|zJ O zBb<|Y 0 sz23 O<|zA<|zK O<|G O<|zQ zEi (A 0 O) O<|zZ O (yJ O el23 zr59 O O O O)<|zS O O (yI 1 O el23 O O O (by simp only [List.length_map,List.length_append,List.length_cons,List.length_nil,List.length_take,List.length_drop];omega) (by simp only [List.length_map,List.length_append,List.length_cons,List.length_nil,List.length_take,List.length_drop];omega)) ?_
  rintro _ _ ⟨sv3,rfl,rfl⟩
  refine G O<|zA<|zK O<|G O<|qA O ⟨by omega,by omega⟩<|G O<|zA ?_
  refine ⟨⟨k+1,sv3⟩,(by omega),(by show l.length-(k+1)<l.length-k;omega),Weak.mk [false,true] ⟨zB,zB,zB,T⟩ (by exact yQ (by rw [yD hs,List.map_append,List.map_singleton,St.cells_eq];rfl))⟩
 ·try simp only [sx] at c1
  rw [qX (l:=l) (k:=k) (by omega)]
  refine qK<|R O<|G O<|G O<|zA<|zN<|zV O ?_
  exact ⟨_,O,O⟩
theorem zOh (s:St) (hl:bE s.Body<=1000000):OwnR cfg 37 [dM s.Body] 59 20 (s.Body.map St.cells):=by
  induction s using St.ind with
  |_ s ih=>exact zGf s.Body hl fun a ha=>ih a ha (by have:=kC ha;have:=St.body_wt a;omega)
theorem ref30_twinsO (l:List St) (hl:bE l<=1000000):OwnR cfg 37 [dM l] 59 20 (l.map St.cells):=
  zGf l hl fun s hs=>zOh s (by have:=kC hs;have:=St.body_wt s;omega)
theorem ref30_TwinOS (n:Ns) (hn:n.Ok) (hl:bE n.Body<=1000000):
    Con cfg 16 [vNs n] [] fun r μ'=>∃μ2,(∃ν1 ν2,μ'=ν1++(μ2++ν2))/\∃svB,r=.agg [.sl 8 (n.Bufs.map Bf.cells),.lit svB]/\μ2=[E.vec svB 59 20 (n.Body.map St.cells)]:=by
 refine zW Tryz.func16 O Tryz.ntmps16 Tryz.results16 O ?_
 intro z hz
 have hnb:=hn.bufs
 refine R O<|zS O O (qP O O) ?_
 rintro _ _ ⟨b1,rfl,rfl⟩
 refine zS O O (qQ [some 8,some 20] O zr25 O) ?_
 rintro _ _ ⟨b2,rfl,rfl⟩
 refine zA<|R O<|zJ O zBs<|zE zAh (A 1 O) O<|zS O O (zIz O ok37 (ref30_twinsO n.Body hl) ⟨zB,O,T⟩) ?_
 rintro _ _ ⟨sv3,rfl,rfl⟩
 refine yS O zr25 pl25<|zS O O (qQ [some 8,some 20] O zr25 O) ?_
 rintro _ _ ⟨b4,rfl,rfl⟩
 refine Y 0 sz25 O<|zA<|zF<|R O<|qT _ (kZ 69 8)<|G O<|zA<|zP<|zU ⟨[(4,.c _),(1,.c _),(2,.c _),(3,.c _)],[_,_,_,_,_]⟩ (Weak.mk [true,true,true,true,true] ⟨zB,zB,zB,zB,T⟩ O)<|qF 1 3 O O (Nat×Value) (fun ⟨k,sv⟩=>[(4,vI k)]) (fun ⟨k,sv⟩=>[E.vec sv 69 8 ((n.Bufs.take k).map Bf.cells),E.row b4 25 [.lit sv,.lit sv3],E.vec sv3 59 20 (n.Body.map St.cells)]) (fun ⟨k,sv⟩=>k<=n.Bufs.length) (fun ⟨k,sv⟩=>n.Bufs.length-k) ⟨⟨0,(.slice none 0 0)⟩,(by omega),Weak.mk [true,true,true,true,true] ⟨zB,zB,zB,zB,T⟩ O⟩ ?_
 rintro ⟨k,sv⟩ hk
 show AWP _ _ _ _ _ ⟨[(4,vI k)]++_,[E.vec sv 69 8 ((n.Bufs.take k).map Bf.cells),E.row b4 25 [.lit sv,.lit sv3],E.vec sv3 59 20 (n.Body.map St.cells)]++_⟩
 refine zF<|R O<|G O<|zJ O zAn<|zE zDg (A 4 O) O<|qD O el22<|yC O<|zA<|zD O (fun c1=>?_) (fun c1=>?_)
 ·try simp only [sx] at c1
  obtain ⟨b,hb⟩:=qU n.Bufs k (by omega)
  have hbd:=hn.dims b (qE hb)
  refine zI<|zF<|zP<|R O<|zJ O zAn<|zE zDg (A 4 O) O<|G O<|zY O el22 (by omega) (v (by assumption))<|zQ zIm zO O<|zS O O (qQ [none,none,none,none,none,none,some 1,none] O zr69 O) ?_
  rintro _ _ ⟨b5,rfl,rfl⟩
  refine Y 0 sz69 O<|zA<|R O<|zZ O (zHs O el67 zr3)<|zJ O zCn<|zE zCy (A 0 O) O<|zS O O (zHj O el67 O O (by simp only [List.length_map,List.length_append,List.length_cons,List.length_nil,List.length_take,List.length_drop];omega) (by simp only [List.length_map,List.length_append,List.length_cons,List.length_nil,List.length_take,List.length_drop];omega)) ?_
  rintro _ _ ⟨sv6,rfl,rfl⟩
  refine qT _ (yT 0 O (regs':=[(25,_)]) (μ':=[_,_,_,_,_,_]) ⟨FLe.sl,T⟩ ⟨EFle.refl _,EFle.refl _,EFle.refl _,EFle.refl _,EFle.refl _,EFle.refl _,T⟩)<|zJ O zCn<|Y 0 sz67 O<|zA<|zK O<|zJ O zAn<|zE zDg (A 2 O) O<|zQ zIm (A 0 O) O<|zZ O (yJ O el22 zr69 O O O O)<|zS O O (yI 1 O el22 O O O (by simp only [List.length_map,List.length_append,List.length_cons,List.length_nil,List.length_take,List.length_drop];omega) (by simp only [List.length_map,List.length_append,List.length_cons,List.length_nil,List.length_take,List.length_drop];omega)) ?_
  rintro _ _ ⟨sv7,rfl,rfl⟩
  refine zJ O zAn<|Y 2 sz22 O<|zA<|zK O<|G O<|qA O ⟨by omega,by omega⟩<|G O<|zA ?_
  refine ⟨⟨k+1,sv7⟩,(by omega),(by show n.Bufs.length-(k+1)<n.Bufs.length-k;omega),Weak.mk [false,true,true,true,true,true] ⟨zB,zB,zB,zB,T⟩ (by exact mem2_eq' (by rw [yD hb,List.map_append];rfl))⟩
 ·try simp only [sx] at c1
  rw [qX (l:=n.Bufs) (k:=k) (by omega)]
  refine zU _ (yT 0 O (regs':=[]) (μ':=[_,_,_,_]) T ⟨EFle.row (ds:=[_,_]) ⟨.inr ⟨O,O⟩,.inl O,T⟩,EFle.refl _,EFle.refl _,EFle.refl _,T⟩)<|qK<|R O<|zQ zAm (A 0 O) O<|Y 2 sz25 O<|zA<|zU _ (Weak.mem [false,true,true,false] O)<|zN<|fin1 (qN zAm O (A 1 O) O) ?_
  exact ⟨[E.vec _ _ _ _],⟨[],[E.row _ _ _],O⟩,_,O,O⟩
theorem ref30_TwinO (n:Ns) (hn:n.Ok) (hl:bE n.Body<=1000000):Con cfg 16 [vNs n] [] fun r μ'=>∃svB,r=.agg [.sl 8 (n.Bufs.map Bf.cells),.lit svB]/\μ'=[E.vec svB 59 20 (n.Body.map St.cells)]:=
  Con.dropG (ref30_TwinOS n hn hl)
theorem law_CodegenUnrolls (n:Ns) (hf:n.Fit):
    Pur cfg 6 [vNs n] (vB true):=by
 refine zW Tryz.func6 O Tryz.ntmps6 Tryz.results6 O ?_
 intro z hz
 refine R O<|zS O O (qP O O) ?_
 rintro _ _ ⟨b1,rfl,rfl⟩
 refine qT _ (qM 0 O 1 _ PLe.ptr)<|G O<|zA<|zF<|R O<|zQ zAm zO O<|qS O ok8 (r48_Short n hf) ⟨zB,O,T⟩<|wE O<|zA<|zD O (fun c1=>?_) (fun c1=>?_)
 ·refine R O<|qS O ok9 zTf T<|G O<|zA<|zN<|zV O ?_
  rfl
 ·obtain ⟨k1,k2⟩:=small3 c1
  have hok:=Ns.Fit.ok hf (m:=300) (by omega) (by omega) k2
  have hw:=weighB_wt k2
  have hbl:=wH n.Body
  obtain ⟨e1,e2,e3⟩:=cmp_len (n:=tA n) k1
  have hok2:=uR_ok hok
  have hw2:bE (tA n).Body=bE n.Body:=unrs_wt n.Body
  have hbb:(tA n).Bufs.length=n.Bufs.length:=rfl
  refine zI<|R O<|zQ zAm zO O<|zS O O (W O ok16 (Con.frame (ref30_TwinO n hok (by omega)) _) ⟨zB,O,T⟩) ?_
  rintro _ _ ⟨_,⟨svB,rfl,rfl⟩,rfl⟩
  refine zS O O (qQ [some 8,some 20] O zr25 O) ?_
  rintro _ _ ⟨b3,rfl,rfl⟩
  refine Y 0 sz25 O<|zA<|zF<|R O<|G O<|zA<|zP<|zU ⟨[(4,.c _),(3,.c _)],[_,_]⟩ (Weak.mk [true,true] ⟨zB,zB,T⟩ O)<|qF 1 2 O O (Nat) (fun k=>[(4,vI k)]) (fun k=>[E.row b3 25 [.sl 8 (n.Bufs.map Bf.cells),.lit svB],E.vec svB 59 20 ((nR k n.Body).map St.cells)]) (fun k=>k<=n.Body.length) (fun k=>n.Body.length-k) ⟨0,(by omega),Weak.mk [true,true] ⟨zB,zB,T⟩ O⟩ ?_
  rintro k hk
  have hul:=uR_len k n.Body
  refine zF<|R O<|G O<|zJ O zBs<|zE zAh (A 0 O) O<|zZ O (yK 1 O el23 O O)<|yC O<|zA<|zD O (fun c2=>?_) (fun c2=>?_)
  ·try simp only [sx] at c2
   obtain ⟨x,hx⟩:=qU n.Body k (by omega)
   refine zI<|zF<|zP<|R O<|zJ O zBs<|zE zAh (A 0 O) O<|G O<|zZ O (qO 1 O el23 O O O (by omega) (by rw [List.length_map,uR_len];omega))<|zZ O (zDn O zBr O)<|zE one3 (kG 1 O (zCc (uR_get hx))) O<|yE O<|G O<|rL0 O (fun g7_7=>zH O zBs O) O<|B 30 O (fun g7_7=>zC O zAh O (A 0 O) O) O<|rL0 O (fun g7_7=>zM O O) O<|rLz [(31,_),(32,_)] O gv1 ⟨O,O,O,O,T⟩ (fun g7_7=>qO 1 O el23 O O O (by omega) (by rw [List.length_map,uR_len];omega)) O<|B 33 O (fun g7_7=>zDn O zIc O) O<|B 34 O (fun g7_7=>zC O one3 O (kG 1 O (zCc (uR_get hx))) O) O<|B 35 O (fun g7_7=>wL O O O) O<|yW O (fun h=>h)<|zA<|zD O (fun c3=>?_) (fun c3=>?_)
   ·try simp only [sx] at c3
    refine zK O<|zJ O zBs<|zE zAh (A 0 O) O<|G O<|zZ O (qO 1 O el23 O O O (by omega) (by rw [List.length_map,uR_len];omega))<|zZ O (zDn O zNg O)<|zAo O O (kN O sz3 O O O (zDz 1 O (zCc (uR_get hx)) O))<|zA<|zK O<|G O<|qA O ⟨by omega,by omega⟩<|G O<|zA ?_
    refine ⟨k+1,(by omega),(by omega),Weak.mk [true,true] ⟨zB,zB,T⟩ (by exact mem2r_eq (by first|exact uR_yes hx (by omega) (by omega)|rw [uR_no hx (by omega)]))⟩
   ·try simp only [sx] at c3
    refine zI<|zK O<|G O<|qA O ⟨by omega,by omega⟩<|G O<|zA ?_
    refine ⟨k+1,(by omega),(by omega),Weak.mk [true,true] ⟨zB,zB,T⟩ (by exact mem2r_eq (by first|exact uR_yes hx (by omega) (by omega)|rw [uR_no hx (by omega)]))⟩
  ·try simp only [sx] at c2
   rw [uR_all (l:=n.Body) (k:=k) (by omega)]
   refine zU _ (yT 1 O (regs':=[(17,_)]) (μ':=[_]) ⟨FLe.sl,T⟩ ⟨EFle.row (ds:=[_,_]) ⟨.inl O,.inr ⟨O,O⟩,T⟩,T⟩)<|qK<|R O<|zQ zAm (A 0 O) O<|qS O ok12 (cg_Compile (tA n) hok2 (by omega) (by omega)) ⟨zB,O,T⟩<|zZ O (yA O O)<|zZ O (kB O O O)<|kP O<|zS O O (qQ [some 11,some 5,some 3,none] O zr35 O) ?_
   rintro _ _ ⟨b4,rfl,rfl⟩
   refine Y 0 sz35 O<|qT _ (qM 0 O 5 _ PLe.ptr)<|G O<|zA<|zF ?_
   skip
   refine zK O<|zQ zAm (A 0 O) O<|qS O ok13 (r48_Compile (tA n) hok2 (by omega) (by omega)) ⟨zB,O,T⟩<|zZ O (yA O O)<|zZ O (kB O O O)<|kP O<|zS O O (qQ [some 11,some 5,some 3,none] O zr39 O) ?_
   rintro _ _ ⟨b5,rfl,rfl⟩
   refine Y 0 sz39 O<|qT _ (qM 0 O 7 _ PLe.ptr)<|G O<|zA<|zF ?_
   skip
   refine zK O<|zQ agg39 zO O<|zT O fd35_0<|zE zIk zO O<|zT O fd35_1<|zE one28 zO O<|zT O fd35_2<|zE one33 zO O<|zT O fd35_3<|zE one3 zO O<|qS O ok14 (r48_Same (lJ (tA n)).1 (by omega) (by omega) (by omega)) ⟨zB,O,zB,O,zB,O,zB,O,zB,O,T⟩<|G O<|rL0 O (fun g11_10=>zM O O) O<|rL0 O (fun g11_10=>zM O O) O<|rLz [(64,_),(65,_)] O gv1 ⟨O,O,O,O,T⟩ (fun g11_10=>kH O O O) O<|yW O (fun h=>h)<|G O<|rL0 O (fun g11_15=>qR O ok9 zTf T) O<|yW O (fun h=>h)<|G O<|zA<|zN<|zV O ?_
   exact congrArg vB (by simp)
end Go.W
