/-
  What functions compute.
  Conditions: none.
-/
import Derived.Test.YtdldhbfgfkebjaaGreatDoorHB
import Derived.Test.YtdldhbfgfkebjaaGreatDoorPlainG
set_option linter.unusedSimpArgs false
set_option linter.unusedVariables false
set_option maxRecDepth 10000
namespace Go.W
open Go Go.Eng Go.Proofs Go.L41 Go.Br
attribute [local irreducible] AWP RWP TD fY
theorem zHh:bD Tryz.prog 48 1=some (1,3):=by kernel_rfl
theorem zKc:bD Tryz.prog 48 2=some (2,3):=by kernel_rfl
theorem ok43:bA Tryz.prog 43=true:=by kernel_rfl
theorem ok44:bA Tryz.prog 44=true:=by kernel_rfl
theorem ok54:bA Tryz.prog 54=true:=by kernel_rfl
theorem ok55:bA Tryz.prog 55=true:=by kernel_rfl
theorem ok104:bA Tryz.prog 104=true:=by kernel_rfl
theorem ok146:bA Tryz.prog 146=true:=by kernel_rfl
theorem one62:jQ Tryz.prog 62=true:=by kernel_rfl
theorem pl48:fL Tryz.prog 48=some [(0,1),(1,1),(2,1)]:=by kernel_rfl
theorem zr48:dS Tryz.prog 48=some [(Value.string (ByteArray.mk #[])),(Value.int IntKind.i64 0),(Value.int IntKind.i64 0)]:=by kernel_rfl
theorem ar_fit_1 (a b:Sl) (ha:0<=a.At/\a.At<=600000) (hb:0<=b.At/\b.At<=600000):
    Pur cfg 147 [vSl a,vSl b] (vI (a.At-b.At)):=by
 refine zU Tryz.func147 O Tryz.ntmps147 Tryz.results147 O ?_
 intro z hz
 refine R O<|zV O O (qO O O) ?_
 rintro _ _ ⟨b1,rfl,rfl⟩
 refine zV O O (qO O O) ?_
 rintro _ _ ⟨b2,rfl,rfl⟩
 refine G O<|zA<|R O<|zG O zHh<|zH one3 (Y 1 O) O<|zG O zHh<|zH one3 (Y 0 O) O<|yY O ⟨by omega,by omega⟩<|G O<|zA<|zK<|zR O ?_
 rfl
theorem ar_sorted (b:List Sl) (hn:b.length<=40) (hb:slB b):Pur cfg 146 [vJ b,.c (.fn (.func 147) [] [])] (vJ (nC b)):=by
  have h:=OwnR.pur (sts_sorted (.fn (.func 147) [] []) vN Prod.snd (fun x=>0<=x.1.At/\x.1.At<=600000) (zSl,0) (fun x y hx hy=>FnPur.of_pur (first:=[]) (cap:=[]) (by kernel_rfl) (ar_fit_1 x.1 y.1 hx hy)) b.zipIdx (zip_inc b) (fun x hx=>by have:=hb x.1 (zip_mem hx);omega) (by rw [List.length_zipIdx];exact hn))
  rw [show b.zipIdx.map mI=b.map Sl.cells from zip_enc b,show (srt vN Prod.snd b.zipIdx).map mI=(nC b).map Sl.cells from srt_enc b] at h
  exact h
theorem ar_fit (l:List Lifetime) (S:List Sl) (k:Nat) (hl:l.length<=40) (hS:S.length=l.length) (hk:k<l.length) (hb:slB S) (hz0:pS l):
    Pur cfg 104 [vLs l,vJ S,vI k] (vI (pO l S k)):=by
 refine zU Tryz.func104 O Tryz.ntmps104 Tryz.results104 O ?_
 intro z hz
 have hlk:=lfA_at hk
 have hzk:=hz0 k hk
 have hsl:=srtA_len (bsy l S k)
 have hbl:=bsy_len2 l S k
 refine R O<|G O<|zA<|R O<|G O<|qX _ (wV 48 3)<|zA<|zI<|R O<|G O<|zZ O el33<|G O<|zA<|zP<|zT ⟨[(15,.c _),(7,.c _),(0,.c _),(2,.c _),(13,.c _),(14,.c _)],[_]⟩ (Weak.mk [true] ⟨zB,zB,zB,zB,zB,zB,T⟩ O)<|qG 2 1 O O (Nat×Value) (fun ⟨i,sv⟩=>[(15,vI i),(7,.c (.lit sv))]) (fun ⟨i,sv⟩=>[E.vec sv 48 3 ((gK (sV l k) 0 (S.take i)).map Sl.cells)]) (fun ⟨i,sv⟩=>i<=S.length) (fun ⟨i,sv⟩=>S.length-i) ⟨⟨0,(.slice none 0 0)⟩,(by omega),Weak.mk [true] ⟨zB,zB,zB,zB,zB,zB,T⟩ O⟩ ?_
 rintro ⟨i,sv⟩ hi
 show AWP _ _ _ _ _ ⟨[(15,vI i),(7,.c (.lit sv))]++_,[E.vec sv 48 3 ((gK (sV l k) 0 (S.take i)).map Sl.cells)]++_⟩
 refine R O<|yB O<|zA<|zI<|zC O (fun c1=>?_) (fun c1=>?_)
 ·try simp only [sx] at c1
  obtain ⟨s,hs⟩:=qU S i (by omega)
  have hli:=lfA_at (l:=l) (i:=i) (by omega)
  refine zJ<|zI<|zP<|R O<|G O<|qD O el33 (by omega) (B (by assumption))<|zO agg48 zQ O<|zV O O (yN O zr48) ?_
  rintro _ _ ⟨b2,rfl,rfl⟩
  refine G O<|D 0 sz48 O<|qX _ (qK 0 O 9 _ PLe.ptr)<|zA<|zI<|qW 19 mixed (by kernel_rfl) O O<|zL O O (qF O zKc O)<|zL O O (zF O one3 O zQ O)<|zL O O (yG O O O)<|zL O O (zN O O)<|qJ [] O O O O J T (fun g5_3=>zN O O) O<|qJ [] O O O O J T (fun g5_3=>zN O O) O<|qJ [(24,_),(25,_)] O O O O J ⟨O,O,O,O,T⟩ (fun g5_3=>zAn O O O) O<|zL O O (wU O O O (fun h=>h) O)<|zL O O (zN O O)<|qJ [] O O O O J T (fun g5_8=>zN O O) O<|qJ [] O O O O J T (fun g5_8=>zN O O) O<|qJ [(29,_),(30,_)] O O O O J ⟨O,O,O,O,T⟩ (fun g5_8=>qL O el62 O O (by omega) (B hli)) O<|qJ [(31,_)] O O O O J ⟨O,O,T⟩ (fun g5_8=>qC O agg82 O zQ O) O<|qJ [] O O O O J T (fun g5_8=>zN O O) O<|qJ [] O O O O J T (fun g5_8=>zN O O) O<|qJ [(33,_),(34,_)] O O O O J ⟨O,O,O,O,T⟩ (fun g5_8=>qL O el62 O O (by omega) (B hlk)) O<|qJ [(35,_)] O O O O J ⟨O,O,T⟩ (fun g5_8=>qC O agg82 O zQ O) O<|qJ [(32,_),(36,_)] O O O O J ⟨O,O,O,O,T⟩ (fun g5_8=>qS O ok44 (zHf _ _) ⟨zB,O,zB,O,T⟩) O<|zL O O (wU O O O (fun h=>h) O)<|yJ<|zA<|zC O (fun c2=>?_) (fun c2=>?_)
  ·try simp only [sx] at c2
   refine zM O<|G O<|zO agg48 zQ O<|zW O (yM O el33 zr48 O O O O)<|zV O O (yQ 0 O el33 O O O (by have:=zQa (bsyF_len l k) (S.take i) 0;rw [List.length_take] at this;simp only [List.length_map,List.length_cons,List.length_nil];omega) (by have:=zQa (bsyF_len l k) (S.take i) 0;rw [List.length_take] at this;simp only [List.length_map,List.length_cons,List.length_nil];omega)) ?_
   rintro _ _ ⟨sv3,rfl,rfl⟩
   refine G O<|zA<|zM O<|qB O ⟨by omega,by omega⟩<|G O<|zA ?_
   refine ⟨⟨i+1,sv3⟩,(by omega),(by show S.length-(i+1)<S.length-i;omega),Weak.mk [true] ⟨zB,zB,zB,zB,zB,zB,T⟩ (by exact kC (by rw [zCa _ hs];unfold sV;rw [if_pos c2,List.map_append];rfl))⟩
  ·try simp only [sx] at c2
   refine zJ<|zM O<|qB O ⟨by omega,by omega⟩<|G O<|zA ?_
   refine ⟨⟨i+1,sv⟩,(by omega),(by show S.length-(i+1)<S.length-i;omega),Weak.mk [true] ⟨zB,zB,zB,zB,zB,zB,T⟩ (by exact kC (by rw [zCa _ hs];unfold sV;rw [if_neg (fun k9=>by rcases c2 with (q|q)|q;omega;exact k9.1.2 q;exact absurd (k9.2.symm.trans q) (by simp)),List.append_nil]))⟩
 ·try simp only [sx] at c1
  rw [yA (l:=S) (k:=i) (by omega)]
  refine qH<|R O<|G O<|zA<|zI<|zI<|zT _ (wD 0 O (regs':=[(7,_)]) (μ':=[]) ⟨FLe.sl,T⟩ T)<|zM O<|G O<|qN O ok146 (ar_sorted (bsy l S k) (by have:=bsy_len2 l S k;omega) (bsy_sub hb)) ⟨zB,O,zB,O,T⟩<|zZ O el33<|G O<|zA<|zP<|zT ⟨[(47,.c _),(10,.c _),(0,.c _),(2,.c _),(45,.c _),(46,.c _)],[]⟩ (Weak.mk [] ⟨zB,zB,zB,zB,zB,zB,T⟩ O)<|qG 2 0 O O (Nat×Int) (fun ⟨j,a⟩=>[(47,vI j),(10,vI a)]) (fun ⟨j,a⟩=>[]) (fun ⟨j,a⟩=>j<=(nC (bsy l S k)).length/\(0<=a)/\(a<=700000)/\(pO l S k=lN (lfA l k).Size a ((nC (bsy l S k)).drop j))) (fun ⟨j,a⟩=>(nC (bsy l S k)).length-j) ⟨⟨0,0⟩,⟨by omega,by omega,by omega,O⟩,Weak.mk [] ⟨zB,VLe.of_eq (O),zB,zB,zB,zB,T⟩ O⟩ ?_
  rintro ⟨j,a⟩ ⟨hj,hq1,hq2,hq3⟩
  show AWP _ _ _ _ _ ⟨[(47,vI j),(10,vI a)]++_,[]++_⟩
  refine R O<|yB O<|zA<|zI<|zC O (fun c3=>?_) (fun c3=>?_)
  ·try simp only [sx] at c3
   obtain ⟨s,hs⟩:=qU (nC (bsy l S k)) j (by omega)
   have hsb:=bsy_sub (l:=l) (k:=k) hb s (zPp.1 (qA hs))
   refine zJ<|zI<|zP<|R O<|qD O el33 (by omega) (B (by assumption))<|zO agg48 zQ O<|zV O O (yN O zr48) ?_
   rintro _ _ ⟨b4,rfl,rfl⟩
   refine D 0 sz48 O<|qX _ (qK 0 O 12 _ PLe.ptr)<|zA<|zI<|zI<|qW 10 mixed (by kernel_rfl) O O<|zL O O (zN O O)<|zL O O (zN O O)<|zL O O (zN O O)<|zL O O (qL O el62 O O (by omega) (B hlk))<|zL O O (qF O zOu O)<|zL O O (zF O one3 O zQ O)<|zL O O (kZ O O O ⟨by omega,by omega⟩)<|zL O O (qF O zHh O)<|zL O O (zF O one3 O zQ O)<|zL O O (kQ O O O)<|yJ<|zA<|zC O (fun c4=>?_) (fun c4=>?_)
   ·try simp only [sx] at c4
    have hst:=scan_stop hs c4
    refine qH<|R O<|G O<|G O<|zA<|zK<|zR O ?_
    rw [hq3,hst]
   ·try simp only [sx] at c4
    have hst:=scan_next hs (show ¬a+(lfA l k).Size<=s.At by omega)
    refine zJ<|zM O<|G O<|zX O zHh<|zH one3 zQ O<|zX O zKc<|zH one3 zQ O<|qB O ⟨by omega,by omega⟩<|zW O (zFn O O O)<|G O<|zA<|zM O<|qB O ⟨by omega,by omega⟩<|G O<|zA ?_
    refine ⟨⟨j+1,max a (s.At+s.Len)⟩,⟨by omega,by omega,by omega,hq3.trans hst⟩,(by show (nC (bsy l S k)).length-(j+1)<(nC (bsy l S k)).length-j;omega),Weak.mk [] ⟨zB,zB,zB,zB,zB,zB,T⟩ O⟩
  ·try simp only [sx] at c3
   refine qH<|R O<|G O<|G O<|zA<|zK<|zR O ?_
   rw [hq3,kV (by omega)];rfl
theorem ar_place (l:List Lifetime) (hl:l.length<=40) (hz0:pS l):
    Pur cfg 54 [vLs l,.c (.sl 1 ((dV l).map lH))] (.tup [vJ (fF l).1,vI (fF l).2]):=by
 refine zU Tryz.func54 O Tryz.ntmps54 Tryz.results54 O ?_
 intro z hz
 refine R O<|G O<|G O<|zA<|R O<|G O<|zZ O el62<|zV O O (ope_make l.length O el33 zr48 O O (by simp) (by simp) (by omega) (by omega)) ?_
 rintro _ _ ⟨sv1,rfl,rfl⟩
 refine G O<|zA<|R O<|G O<|zA<|zI<|R O<|G O<|zZ O el67<|G O<|zA<|zP<|zT ⟨[(16,.c _),(7,.c _),(0,.c _),(6,.c _),(14,.c _),(15,.c _)],[_]⟩ (Weak.mk [true] ⟨zB,zB,zB,zB,zB,zB,T⟩ O)<|qG 2 1 O O (Nat) (fun t=>[(16,vI t),(7,vI (plF l ((dV l).take t)).2)]) (fun t=>[E.vec sv1 48 3 ((jP l (plF l ((dV l).take t)).1).map Sl.cells)]) (fun t=>t<=(dV l).length) (fun t=>(dV l).length-t) ⟨0,(by omega),Weak.mk [true] ⟨zB,VLe.of_eq (O),zB,zB,zB,zB,T⟩ (by exact kC (by rw [show (plF l ((dV l).take 0)).1=List.replicate l.length (-1) from rfl,slos_init,List.map_replicate];rfl))⟩ ?_
 rintro t ht
 refine R O<|yB O<|zA<|zI<|zC O (fun c1=>?_) (fun c1=>?_)
 ·try simp only [sx] at c1
  obtain ⟨x,hx⟩:=qU (dV l) t (by omega)
  have hxl:=ord_lt hx
  have hlx:=lfA_at hxl
  have J:=plJ hz0 t (by have:=zDk l;omega)
  have hzx:=hz0 x hxl
  have hpl:=J.pl.len
  have hff:=ffit_le (k:=x) J.pl (by omega)
  have hf0:=ffit_pos l (jP l (plF l ((dV l).take t)).1) x
  have hJs:=J.sz
  have hol:=zDk l
  have hsx:slo (lfA l x) (pO l (jP l (plF l ((dV l).take t)).1) x)=⟨(lfA l x).Name,pO l (jP l (plF l ((dV l).take t)).1) x,(lfA l x).Size⟩:=by unfold slo;rw [if_neg (by omega)]
  refine zJ<|zI<|zP<|R O<|qD O el67 (by omega) (B (by assumption))<|zH one3 zQ O<|G O<|zA<|R O<|G O<|G O<|G O<|zW O (zDb 0 O ok104 O (ar_fit l (jP l (plF l ((dV l).take t)).1) x hl (zDn hpl) hxl (J.pl.sl hz0 (by omega)) hz0) O ⟨.inr ⟨zB,O⟩,.inl ⟨O,O⟩,.inr ⟨zB,O⟩,T⟩)<|G O<|zA<|zI<|qW 15 mixed (by kernel_rfl) O O<|zL O O (zN O O)<|zL O O (zN O O)<|zL O O (zN O O)<|zL O O (zN O O)<|zL O O (qL O el62 O O (by omega) (B hlx))<|zL O O (qF O fd82_0 O)<|zL O O (zF O one9 O zQ O)<|zL O O (zN O O)<|zL O O (zN O O)<|zL O O (zN O O)<|zL O O (qL O el62 O O (by omega) (B hlx))<|zL O O (qF O zOu O)<|zL O O (zF O one3 O zQ O)<|zL O O (zAb O zr48 pl48 O)<|zL O O (qP 0 O el33 O O O (by omega) (by rw [List.length_map,zDn hpl];omega))<|yJ<|zCs O O (kX O sz48 O O O (zHs 0 O (zAd (zEt hpl (atA_at (by omega))) O) O))<|zA<|zM O<|G O<|G O<|G O<|G O<|qD O el62 (by omega) (B hlx)<|zX O zOu<|zH one3 zQ O<|qB O ⟨by omega,by omega⟩<|zW O (zFn O O O)<|G O<|zA<|zM O<|qB O ⟨by omega,by omega⟩<|G O<|zA ?_
  refine ⟨t+1,(by omega),(by omega),Weak.mk [true] ⟨zB,VLe.of_eq (congrArg vI (by rw [zGo hx];rfl)),zB,zB,zB,zB,T⟩ (by exact kC (by rw [zGo hx];unfold plS;rw [slos_set hpl,List.map_set,hsx];rfl))⟩
 ·try simp only [sx] at c1
  have ht0:(dV l).take t=dV l:=yA (by omega)
  rw [ht0]
  refine qH<|zI<|zT _ (wD 0 O (regs':=[(6,_)]) (μ':=[]) ⟨FLe.sl,T⟩ T)<|zM O<|G O<|G O<|G O<|G O<|zA<|zK<|fin2 (L O) (L O) ?_
  rfl
theorem ar_Plan_1 (l:List Lifetime) (x y:Nat) (hz0:pS l) (hx:x<l.length) (hy:y<l.length):
    Pur cfg 56 [vI x,vI y,.c (.iptr [.sl 4 (l.map Lifetime.cells)])] (vI (xI l x-xI l y)):=by
 refine zU Tryz.func56 O Tryz.ntmps56 Tryz.results56 O ?_
 intro z hz
 have hlx:=lfA_at hx
 have hly:=lfA_at hy
 have hzx:=hz0 x hx
 have hzy:=hz0 y hy
 refine R O<|G O<|zA<|zI<|qW 12 mixed (by kernel_rfl) O O<|zL O O (zF O one62 O zQ O)<|zL O O (zN O O)<|zL O O (qL O el62 O O (by omega) (B hly))<|zL O O (qF O zOu O)<|zL O O (zF O one3 O zQ O)<|zL O O (zF O one62 O zQ O)<|zL O O (zN O O)<|zL O O (qL O el62 O O (by omega) (B hlx))<|zL O O (qF O zOu O)<|zL O O (zF O one3 O zQ O)<|zL O O (kA O O O ⟨by omega,by omega⟩)<|zL O O (yU O O)<|yJ<|zA<|zK<|zR O ?_
 exact congrArg vI (by unfold xI;omega)
theorem ar_sortedI (l:List Lifetime) (hn:l.length<=40) (hz0:pS l):Pur cfg 55 [.c (.sl 1 ((List.range l.length).map lH)),.c (.fn (.func 56) [] [.iptr [.sl 4 (l.map Lifetime.cells)]])] (.c (.sl 1 ((dV l).map lH))):=
  OwnR.pur (sti_sorted (.fn (.func 56) [] [.iptr [.sl 4 (l.map Lifetime.cells)]]) (xI l) id (fun x=>x<l.length) 0 (fun x y hx hy=>FnPur.of_pur (first:=[]) (cap:=[.iptr [.sl 4 (l.map Lifetime.cells)]]) (by kernel_rfl) (ar_Plan_1 l x y hz0 hx hy)) (List.range l.length) (range_inc _) (fun x hx=>List.mem_range.1 hx) (by rw [List.length_range];exact hn))
theorem ar_Plan (l:List Lifetime) (hl:l.length<=40) (hv:dW l=0):
    Pur cfg 26 [vLs l] (.tup [vJ (fF l).1,vI (fF l).2,vI 0]):=by
 refine zU Tryz.func26 O Tryz.ntmps26 Tryz.results26 O ?_
 intro z hz
 have hz0:=zRd hv
 have hJ:=(plJ hz0 l.length (Nat.le_refl _)).sz
 have ht0:(dV l).take l.length=dV l:=yA (by rw [zDk];omega)
 rw [ht0] at hJ
 refine R O<|zV O O (qO O O) ?_
 rintro _ _ ⟨b1,rfl,rfl⟩
 refine qX _ (qK 0 O 1 _ PLe.ptr)<|G O<|G O<|G O<|zA<|zI<|R O<|zH one62 zQ O<|qN O ok43 (zFw l (by omega)) ⟨zB,O,T⟩<|G O<|zA<|R O<|G O<|kU O<|zA<|zC O (fun c1=>?_) (fun c1=>?_)
 ·try simp only [sx] at c1
  exact absurd hv c1
 ·try simp only [sx] at c1
  refine zJ<|R O<|G O<|qX _ (wV 3 1)<|zA<|zI<|R O<|zH one62 zQ O<|zZ O el62<|G O<|zA<|zP<|zT ⟨[(17,.c _),(6,.c _),(1,.c _),(16,.c _)],[_]⟩ (Weak.mk [true] ⟨zB,zB,zB,zB,T⟩ O)<|qG 2 1 O O (Nat×Value) (fun ⟨i,sv⟩=>[(17,vI i),(6,.c (.lit sv))]) (fun ⟨i,sv⟩=>[E.vec sv 3 1 ((List.range i).map lH)]) (fun ⟨i,sv⟩=>i<=l.length) (fun ⟨i,sv⟩=>l.length-i) ⟨⟨0,(.slice none 0 0)⟩,(by omega),Weak.mk [true] ⟨zB,zB,zB,zB,T⟩ O⟩ ?_
  rintro ⟨i,sv⟩ hi
  show AWP _ _ _ _ _ ⟨[(17,vI i),(6,.c (.lit sv))]++_,[E.vec sv 3 1 ((List.range i).map lH)]++_⟩
  refine R O<|yB O<|zA<|zI<|zC O (fun c2=>?_) (fun c2=>?_)
  ·try simp only [sx] at c2
   obtain ⟨x,hx⟩:=qU l i (by omega)
   refine zJ<|zI<|zP<|R O<|G O<|G O<|zA<|zM O<|G O<|G O<|zW O (yM O el67 zr3 O O O O)<|zV O O (yQ 0 O el67 O O O (by simp only [List.length_map,List.length_range,List.length_cons,List.length_nil];omega) (by simp only [List.length_map,List.length_range,List.length_cons,List.length_nil];omega)) ?_
   rintro _ _ ⟨sv3,rfl,rfl⟩
   refine G O<|zA<|zM O<|qB O ⟨by omega,by omega⟩<|G O<|zA ?_
   refine ⟨⟨i+1,sv3⟩,(by omega),(by show l.length-(i+1)<l.length-i;omega),Weak.mk [true] ⟨zB,zB,zB,zB,T⟩ (by exact kC (by rw [List.range_succ,List.map_append];rfl))⟩
  ·try simp only [sx] at c2
   have hil:i=l.length:=by omega
   subst hil
   refine qH<|zI<|zT _ (wD 0 O (regs':=[(6,_)]) (μ':=[]) ⟨FLe.sl,T⟩ T)<|qW 10 mixed (by kernel_rfl) O O<|zL O O (zF O one62 O zQ O)<|zL O O (zN O O)<|zL O O (zFe O O O O O)<|zL O O (qS O ok55 (ar_sortedI l hl hz0) ⟨zB,O,zB,O,T⟩)<|zL O O (qS O ok54 (ar_place l hl hz0) ⟨zB,O,zB,O,T⟩)<|zL O O (yD O O)<|zL O O (yR O O O)<|zL O O (yR O O O)<|zL O O (yU O O)<|zL O O (yU O O)<|yJ<|zA<|zI<|R O<|G O<|zW O (yG O O O)<|zA<|zC O (fun c3=>?_) (fun c3=>?_)
   ·try simp only [sx] at c3
    have:(fF l).2<=4096*l.length:=hJ.2
    exact absurd c3 (by omega)
   ·refine zJ<|R O<|G O<|G O<|G O<|G O<|G O<|zA<|zK<|fin3 (L O) (L O) (L O) ?_
    rfl
end Go.W
