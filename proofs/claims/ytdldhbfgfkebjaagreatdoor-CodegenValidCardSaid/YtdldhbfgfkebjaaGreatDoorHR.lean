/-
  What functions compute.
  Conditions: none.
-/
import Derived.Test.YtdldhbfgfkebjaaGreatDoorHQ
import Derived.Test.YtdldhbfgfkebjaaGreatDoorPlainV
set_option linter.unusedSimpArgs false
set_option linter.unusedVariables false
set_option maxRecDepth 10000
namespace Go.W
open Go Go.Eng Go.Proofs Go.L41 Go.Br
attribute [local irreducible] AWP RWP TD fY
theorem ok17:bA Tryz.prog 17=true:=by kernel_rfl
theorem ok19:bA Tryz.prog 19=true:=by kernel_rfl
theorem ok45:bA Tryz.prog 45=true:=by kernel_rfl
theorem arena_meet (a b:Sl) (h1:(0<=a.At/\a.At<=1000000)/\(0<=a.Len/\a.Len<=1000000)) (h2:(0<=b.At/\b.At<=1000000)/\(0<=b.Len/\b.Len<=1000000)):
    Pur cfg 45 [vSl a,vSl b] (vB (xG a b)):=by
 refine zU Tryz.func45 O Tryz.ntmps45 Tryz.results45 O ?_
 intro z hz
 refine R O<|zV O O (qO O O) ?_
 rintro _ _ ⟨b1,rfl,rfl⟩
 refine zV O O (qO O O) ?_
 rintro _ _ ⟨b2,rfl,rfl⟩
 refine G O<|zA<|R O<|zG O zKc<|zH one3 (Y 1 O) O<|zW O (yG O O O)<|G O<|rL0 O (fun g1_3=>zD O zKc O) O<|A 9 O (fun g1_3=>zF O one3 O (Y 0 O) O) O<|A 10 O (fun g1_3=>yG O O O) O<|yK O (fun h=>h)<|G O<|rL0 O (fun g1_8=>zD O zHh O) O<|A 14 O (fun g1_8=>zF O one3 O (Y 1 O) O) O<|rL0 O (fun g1_8=>zD O zHh O) O<|A 16 O (fun g1_8=>zF O one3 O (Y 0 O) O) O<|rL0 O (fun g1_8=>zD O zKc O) O<|A 18 O (fun g1_8=>zF O one3 O (Y 0 O) O) O<|rLz [(17,_),(19,_)] O J ⟨O,O,O,O,T⟩ (fun g1_8=>kZ O O O ⟨by omega,by omega⟩) O<|rLz [(15,_),(20,_)] O J ⟨O,O,O,O,T⟩ (fun g1_8=>kM O O O) O<|yK O (fun h=>h)<|G O<|rL0 O (fun g1_18=>zD O zHh O) O<|A 24 O (fun g1_18=>zF O one3 O (Y 0 O) O) O<|rL0 O (fun g1_18=>zD O zHh O) O<|A 26 O (fun g1_18=>zF O one3 O (Y 1 O) O) O<|rL0 O (fun g1_18=>zD O zKc O) O<|A 28 O (fun g1_18=>zF O one3 O (Y 1 O) O) O<|rLz [(27,_),(29,_)] O J ⟨O,O,O,O,T⟩ (fun g1_18=>kZ O O O ⟨by omega,by omega⟩) O<|rLz [(25,_),(30,_)] O J ⟨O,O,O,O,T⟩ (fun g1_18=>kM O O O) O<|yK O (fun h=>h)<|G O<|zA<|zK<|zR O ?_
 exact O
theorem arena_Check (l:List Lifetime) (S:List Sl) (W:Int) (hl:l.length<=1000000) (hC:ChA l S W):
    Pur cfg 19 [vLs l,vJ S,vI W] (.tup [vI 0,vI 0]):=by
 refine zU Tryz.func19 O Tryz.ntmps19 Tryz.results19 O ?_
 intro z hz
 have hlen:=hC.len
 have hW:=hC.ws
 refine R O<|G O<|G O<|zA<|zI<|R O<|G O<|qN O ok43 (zFw l hl) ⟨zB,O,T⟩<|G O<|zA<|R O<|G O<|kU O<|zA<|zC O (fun c1=>?_) (fun c1=>?_)
 ·try simp only [sx] at c1
  exact absurd hC.v c1
 ·try simp only [sx] at c1
  refine zJ<|zI<|R O<|G O<|zZ O el62<|G O<|zZ O el33<|kU O<|zA<|zC O (fun c2=>?_) (fun c2=>?_)
  ·try simp only [sx] at c2
   exact absurd c2 (by omega)
  ·try simp only [sx] at c2
   refine zJ<|zI<|R O<|G O<|zZ O el33<|G O<|zA<|zP<|zT ⟨[(24,.c _),(0,.c _),(1,.c _),(2,.c _),(22,.c _),(23,.c _)],[]⟩ (Weak.mk [] ⟨zB,zB,zB,zB,zB,zB,T⟩ O)<|qG 1 0 O O (Nat) (fun k=>[(24,vI k)]) (fun k=>[]) (fun k=>k<=S.length) (fun k=>S.length-k) ⟨0,(by omega),Weak.mk [] ⟨zB,zB,zB,zB,zB,zB,T⟩ O⟩ ?_
   rintro k hk
   refine R O<|yB O<|zA<|zI<|zC O (fun c3=>?_) (fun c3=>?_)
   ·try simp only [sx] at c3
    obtain ⟨s,hs⟩:=qU S k (by omega)
    obtain ⟨x,hx⟩:=qU l k (by omega)
    have ha:=hC.at_ k x s hx hs
    have hz:=hC.sz x (qA hx)
    have hs1:(0<=s.At/\s.At<=1000000)/\(0<=s.Len/\s.Len<=1000000):=by omega
    refine zJ<|zI<|zP<|R O<|G O<|qD O el33 (by omega) (B hs)<|zO agg48 zQ O<|zV O O (yN O zr48) ?_
    rintro _ _ ⟨b1,rfl,rfl⟩
    refine G O<|D 0 sz48 O<|zA<|zI<|zI<|qW 18 mixed (by kernel_rfl) O O<|zL O O (zD O fd48_0 O)<|zL O O (zF O one9 O (Y 0 O) O)<|zL O O (zN O O)<|zL O O (zN O O)<|zL O O (qL O el62 O O (by omega) (B hx))<|zL O O (qF O fd82_0 O)<|zL O O (zF O one9 O zQ O)<|zL O O (zAl O O O)<|zL O O (zN O O)<|qJ [] O O O O J T (fun g9_8=>zD O zKc O) O<|qJ [(38,_)] O O O O J ⟨O,O,T⟩ (fun g9_8=>zF O one3 O (Y 0 O) O) O<|qJ [] O O O O J T (fun g9_8=>zN O O) O<|qJ [] O O O O J T (fun g9_8=>zN O O) O<|qJ [(40,_),(41,_)] O O O O J ⟨O,O,O,O,T⟩ (fun g9_8=>qL O el62 O O (by omega) (B hx)) O<|qJ [(42,_)] O O O O J ⟨O,O,T⟩ (fun g9_8=>qF O zOu O) O<|qJ [(43,_)] O O O O J ⟨O,O,T⟩ (fun g9_8=>zF O one3 O zQ O) O<|qJ [(39,_),(44,_)] O O O O J ⟨O,O,O,O,T⟩ (fun g9_8=>zAn O O O) O<|zL O O (zAz O O O O (fun h=>(lzf h)))<|yJ<|zA<|zC O (fun c4=>?_) (fun c4=>?_)
    ·exact absurd c4 (by rw [ha.1,ha.2.1];simp)
    ·refine zJ<|zI<|R O<|zG O zHh<|zH one3 (Y 0 O) O<|yB O<|G O<|rL0 O (fun g11_3=>zD O zHh O) O<|A 52 O (fun g11_3=>zF O one3 O (Y 0 O) O) O<|rL0 O (fun g11_3=>zN O O) O<|rL0 O (fun g11_3=>zD O zKc O) O<|A 55 O (fun g11_3=>zF O one3 O (Y 0 O) O) O<|rLz [(54,_),(56,_)] O J ⟨O,O,O,O,T⟩ (fun g11_3=>kA O O O ⟨by omega,by omega⟩) O<|rLz [(53,_),(57,_)] O J ⟨O,O,O,O,T⟩ (fun g11_3=>yG O O O) O<|r_or O (fun h=>(lzf h))<|G O<|rL0 O (fun g11_12=>zN O O) O<|rL0 O (fun g11_12=>zD O zKc O) O<|A 62 O (fun g11_12=>zF O one3 O (Y 0 O) O) O<|rLz [(61,_),(63,_)] O J ⟨O,O,O,O,T⟩ (fun g11_12=>kM O O O) O<|r_or O (fun h=>(lzf h))<|zA<|zC O (fun c5=>?_) (fun c5=>?_)
     ·exact absurd c5 (by simp;omega)
     ·refine zJ<|R O<|G O<|G O<|zA<|zP<|zT ⟨[(68,.c _),(0,.c _),(1,.c _),(2,.c _),(9,.c _),(10,.c _),(22,.c _),(23,.c _),(24,.c _),(67,.c _)],[_]⟩ (Weak.mk [true] ⟨zB,zB,zB,zB,zB,zB,zB,zB,zB,zB,T⟩ O)<|qG 1 0 O O (Nat) (fun j=>[(68,vI j)]) (fun j=>[]) (fun j=>j<=k) (fun j=>k-j) ⟨0,(by omega),Weak.mk [true] ⟨zB,zB,zB,zB,zB,zB,zB,zB,zB,zB,T⟩ O⟩ ?_
      rintro j hj
      refine R O<|yB O<|zA<|zI<|zC O (fun c6=>?_) (fun c6=>?_)
      ·try simp only [sx] at c6
       obtain ⟨y,hy⟩:=qU l j (by omega)
       obtain ⟨r,hr⟩:=qU S j (by omega)
       have hb:=hC.at_ j y r hy hr
       have hz2:=hC.sz y (qA hy)
       have hr1:(0<=r.At/\r.At<=1000000)/\(0<=r.Len/\r.Len<=1000000):=by omega
       have hsp:=hC.sep k j x y s r (by omega) hx hy hs hr
       refine zJ<|zI<|zP<|R O<|G O<|G O<|zA<|zI<|qW 17 mixed (by kernel_rfl) O O<|zL O O (zN O O)<|zL O O (zN O O)<|zL O O (qL O el62 O O (by omega) (B hy))<|zL O O (qC O agg82 O zQ O)<|zL O O (zN O O)<|zL O O (zN O O)<|zL O O (qL O el62 O O (by omega) (B hx))<|zL O O (qC O agg82 O zQ O)<|zL O O (qS O ok44 (zHf y x) ⟨zB,O,zB,O,T⟩)<|zL O O (zN O O)<|qJ [] O O O O J T (fun g16_9=>zN O O) O<|qJ [] O O O O J T (fun g16_9=>zN O O) O<|qJ [(81,_),(82,_)] O O O O J ⟨O,O,O,O,T⟩ (fun g16_9=>qL O el33 O O (by omega) (B hr)) O<|qJ [(83,_)] O O O O J ⟨O,O,T⟩ (fun g16_9=>qC O agg48 O zQ O) O<|qJ [] O O O O J T (fun g16_9=>qC O agg48 O (Y 0 O) O) O<|qJ [(84,_),(85,_)] O O O O J ⟨O,O,O,O,T⟩ (fun g16_9=>qS O ok45 (arena_meet r s hr1 hs1) ⟨zB,O,zB,O,T⟩) O<|zL O O (wU O O O (fun h=>h) O)<|yJ<|zA<|zC O (fun c7=>?_) (fun c7=>?_)
       ·exact absurd (hsp.symm.trans c7) (by simp)
       ·refine zJ<|zM O<|qB O ⟨by omega,by omega⟩<|G O<|zA ?_
        refine ⟨j+1,(by omega),(by omega),Weak.mk [true] ⟨zB,zB,zB,zB,zB,zB,zB,zB,zB,zB,T⟩ O⟩
      ·try simp only [sx] at c6
       refine qH<|zM O<|qB O ⟨by omega,by omega⟩<|G O<|zA ?_
       refine ⟨k+1,(by omega),(by omega),Weak.mk [false] ⟨zB,zB,zB,zB,zB,zB,T⟩ O⟩
   ·refine qH<|R O<|G O<|G O<|zA<|zK<|fin2 (L O) (L O) ?_
    rfl
theorem law_CodegenValid (n:Ns) (hf:n.Fit):
    Pur cfgO 7 [vNs n] (vB true):=by
 refine zU Tryz.func7 O Tryz.ntmps7 Tryz.results7 O ?_
 intro z hz
 refine R O<|zV O O (qO O O) ?_
 rintro _ _ ⟨b1,rfl,rfl⟩
 refine qX _ (qK 0 O 1 _ PLe.ptr)<|G O<|zA<|zI<|R O<|zO zBi zQ O<|qN O ok8 (upO (r48_Short n hf)) ⟨zB,O,T⟩<|kP O<|zA<|zC O (fun c1=>?_) (fun c1=>?_)
 ·refine R O<|qN O ok9 (upO zKv) T<|G O<|zA<|zK<|zR O ?_
  rfl
 ·obtain ⟨k1,k2⟩:=small3 c1
  have hok:=Ns.Fit.ok hf (m:=300) (by omega) (by omega) k2
  have hw:=weighB_wt k2
  have hbl:=wL n.Body
  obtain ⟨e1,e2,e3⟩:=cmp_len (n:=n) k1
  refine zJ<|R O<|zO zBi zQ O<|qN O ok12 (upO (cg_Compile n hok (by omega) (by omega))) ⟨zB,O,T⟩<|zW O (yD O O)<|zW O (kD O O O)<|zW O (yR O O O)<|zV O O (qR [some 11,some 5,some 3,none] O zr35 O) ?_
  rintro _ _ ⟨b2,rfl,rfl⟩
  refine D 0 sz35 O<|qX _ (qK 0 O 3 _ PLe.ptr)<|G O<|zA<|zI<|zI ?_
  skip
  refine zM O<|G O<|kU O<|zA<|zC O (fun c2=>?_) (fun c2=>?_)
  ·refine R O<|qN O ok9 (upO zKv) T<|G O<|zA<|zK<|zR O ?_
   rfl
  ·try simp only [sx] at c2
   obtain ⟨v1,v2,v3,v4,v5,v6,v7⟩:=cmp_valid hok c2 k1 (by omega)
   have hvl:=vld_is v4 v6 v5 v7
   have hll:=zCm n
   have hch:=chA_plan v1 (by omega)
   have han:=zGe v2
   have et:(jA n).length<=256:=by have:=e2;rw [v3] at this;exact this
   rw [v3]
   refine zJ<|R O<|zX O fd35_0<|zH one32 zQ O<|zX O fd35_1<|zH one28 zQ O<|zX O fd35_3<|zH one3 zQ O<|qN O ok17 (show Pur cfgO 17 [cH (nB (gnN n) (bE n)),xR (jA n),vI (fF (bE n)).2] (.tup [vI 0,vI 0]) by have h:=isa_Validate (nB (gnN n) (bE n)) (jA n) (fF (bE n)).2 (by omega);rw [hvl] at h;exact h) ⟨zB,O,zB,O,zB,O,T⟩<|zW O (yD O O)<|zW O (yR O O O)<|zW O (yR O O O)<|G O<|G O<|zA<|R O<|zO zBi zQ O<|qN O ok18 (show Pur cfgO 18 [vNs n] (.tup [vLs (bE n),vI 0]) by have h:=upO (ref41_Analyze n hok (by omega));rw [han] at h;exact h) ⟨zB,O,T⟩<|zW O (yD O O)<|zW O (yR O O O)<|zW O (yR O O O)<|G O<|G O<|zA<|R O<|G O<|zX O fd35_2<|zH one33 zQ O<|zX O fd35_3<|zH one3 zQ O<|qN O ok19 (upO (arena_Check (bE n) (fF (bE n)).1 (fF (bE n)).2 (by omega) hch)) ⟨zB,O,zB,O,zB,O,T⟩<|zW O (yD O O)<|zW O (yR O O O)<|zW O (yR O O O)<|G O<|G O<|zA<|zI ?_
   skip
   refine zM O<|G O<|qZ O<|G O<|rL0 O (fun g9_2=>zN O O) O<|A 50 O (fun g9_2=>yO O O O) O<|yK O (fun h=>h)<|G O<|rL0 O (fun g9_6=>zN O O) O<|A 54 O (fun g9_6=>yO O O O) O<|yK O (fun h=>h)<|G O<|rL0 O (fun g9_10=>zN O O) O<|A 58 O (fun g9_10=>yO O O O) O<|yK O (fun h=>h)<|G O<|rL0 O (fun g9_14=>zN O O) O<|A 62 O (fun g9_14=>yO O O O) O<|yK O (fun h=>h)<|G O<|rL0 O (fun g9_18=>qS O ok9 (upO zKv) T) O<|yK O (fun h=>h)<|G O<|zA<|zK<|zR O ?_
   exact O
end Go.W
