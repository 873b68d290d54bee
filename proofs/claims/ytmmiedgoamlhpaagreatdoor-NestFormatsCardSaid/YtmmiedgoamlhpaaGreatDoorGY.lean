/-
  Walks: what functions of the program compute. Printed by wip/gen/mk2.py.
  Walks: what functions of the program compute. Printed by wip/gen/mk2.py.
  Walks: what functions of the program compute. Printed by wip/gen/mk2.py.
  Conditions: none.
-/
import Derived.Test.YtmmiedgoamlhpaaGreatDoorGB
import Derived.Test.YtmmiedgoamlhpaaGreatDoorPlainF
import Derived.Test.YtmmiedgoamlhpaaGreatDoorEngZ
set_option linter.unusedSimpArgs false
set_option linter.unusedVariables false
section
set_option maxRecDepth 10000
namespace Go.W
open Go Go.Eng Go.Proofs Go.L41 Go.Br
attribute [local irreducible] AWP RWP TD finQ
theorem ik2:intT Tryz.prog 2=some .i64:=by kernel_rfl
theorem ok154:callOk Tryz.prog 154=true:=by kernel_rfl
theorem ok247:callOk Tryz.prog 247=true:=by kernel_rfl
theorem ok249:callOk Tryz.prog 249=true:=by kernel_rfl
theorem ok304:callOk Tryz.prog 304=true:=by kernel_rfl
theorem ok308:callOk Tryz.prog 308=true:=by kernel_rfl
theorem ok349:callOk Tryz.prog 349=true:=by kernel_rfl
theorem sz63:(Tryz.prog.info? 63).map (·.size)=some 2:=by kernel_rfl
theorem us188:(Tryz.prog.underlying 188).isSome=true:=by kernel_rfl
theorem ref01_gcd (a b:Nat):
    Pur cfg 349 [vU64 a,vU64 b] (vU64 (Nat.gcd a b)):=by
 refine zS Tryz.func349 O Tryz.ntmps349 Tryz.results349 O ?_
 intro z hz
 refine A O<|G O<|R<|zK<|zR<|zX ⟨[(0,.c _),(1,.c _)],[]⟩ (Weak.mk [] ⟨Y,Y,T⟩ O)<|qG 2 0 O O (Nat×Nat) (fun ⟨x,y⟩=>[(0,vU64 x),(1,vU64 y)]) (fun ⟨x,y⟩=>[]) (fun ⟨x,y⟩=>Nat.gcd a b=Nat.gcd x y) (fun ⟨x,y⟩=>y) ⟨⟨a,b⟩,O,Weak.mk [] ⟨Y,Y,T⟩ O⟩ ?_
 rintro ⟨x,y⟩ hg
 refine zK<|A O<|G O<|kP O<|R<|zC O (fun c1=>?_) (fun c1=>?_)
 ·try simp only [sx] at c1
  refine zI<|zR<|qU 6 mixed (by kernel_rfl) O O<|J O O (zP O O)<|J O O (zP O O)<|J O O (zP O O)<|J O O (zSx O O O (by omega))<|J O O (qV O O)<|J O O (qV O O)<|yO<|R ?_
  refine ⟨⟨y,x%y⟩,(by rw [hg];exact gcd_step (by omega)),(Nat.mod_lt _ (by omega)),Weak.mk [] ⟨Y,VLe.of_eq (congrArg vU64 (Int.ofNat_tmod x y).symm),T⟩ O⟩
 ·try simp only [sx] at c1
  refine qP<|A O<|G O<|G O<|R<|zF<|zQ O ?_
  exact congrArg vU64 (by rw [hg,show y=0 by omega,Nat.gcd_zero_right])
theorem frac_New (n d:Int) (hn:In64 n) (hd:In64 d):
    Pur cfg 304 [vI n,vI d] (.tup [vVal (newF n d).1,vI (newF n d).2]):=by
 refine zS Tryz.func304 O Tryz.ntmps304 Tryz.results304 O ?_
 intro z hz
 have hn1:=hn.1
 have hn2:=hn.2
 have hd1:=hd.1
 have hd2:=hd.2
 refine A O<|zU O O (yL O zr63) ?_
 rintro _ _ ⟨b1,rfl,rfl⟩
 refine G O<|R<|zK<|A O<|G O<|L O<|R<|zC O (fun c1=>?_) (fun c1=>?_)
 ·try simp only [sx] at c1
  refine A O<|yU O zr63 pl63<|rStR 0 sz63 O<|G O<|R<|zF<|D (qL zAw O (zD 0 O) O) (B O) ?_
  rw [newF_zero c1];rfl
 ·try simp only [sx] at c1
  have hg:0<Nat.gcd n.natAbs d.natAbs:=Nat.gcd_pos_of_pos_right _ (by omega)
  refine zI<|A O<|G O<|yJ O<|G O<|yJ O<|zT O (zPr O un4 O O)<|G O<|R<|A O<|G O<|qK O ok232 (zFn n hn.1 hn.2) ⟨Y,O,T⟩<|G O<|qK O ok232 (zFn d hd.1 hd.2) ⟨Y,O,T⟩<|G O<|G O<|R<|A O<|G O<|G O<|qK O ok231 (frac_gcd n.natAbs d.natAbs) ⟨Y,O,Y,O,T⟩<|G O<|R<|zK<|qU 8 mixed (by kernel_rfl) O O<|J O O (zP O O)<|J O O (zP O O)<|J O O (zJp O O O ⟨by omega,by omega⟩)<|J O O (zP O O)<|J O O (zP O O)<|J O O (zJp O O O ⟨by omega,by omega⟩)<|J O O (qV O O)<|J O O (qV O O)<|yO<|R<|zK<|A O<|G O<|zT O (yA O O O)<|G O<|rL0 O (fun g7_2=>zP O O) O<|rL1 34 O (fun g7_2=>yA O O O) O<|r_or O (fun h=>(lzf h))<|R<|zC O (fun c2=>?_) (fun c2=>?_)
  ·refine A O<|yU O zr63 pl63<|rStR 0 sz63 O<|G O<|R<|zF<|D (qL zAw O (zD 0 O) O) (B O) ?_
   rw [zSa c1,madF_big c2];rfl
  ·refine zI<|zK<|A O<|G O<|R<|zC O (fun c3=>?_) (fun c3=>?_)
   ·refine A O<|G O<|zT O (wK O us188 ik2 O)<|zT O (zGy O O)<|G O<|zT O (wK O us188 ik2 O)<|yU O zr63 pl63<|rStR 0 sz63 O<|G O<|R<|zF<|D (qL zAw O (zD 0 O) O) (B O) ?_
    have c3:sgnD n d=true:=c3
    rw [zSa c1,zPk c2,c3];rfl
   ·refine zI<|A O<|G O<|zT O (wK O us188 ik2 O)<|G O<|zT O (wK O us188 ik2 O)<|yU O zr63 pl63<|rStR 0 sz63 O<|G O<|R<|zF<|D (qL zAw O (zD 0 O) O) (B O) ?_
    have c3:sgnD n d=false:=c3
    rw [zSa c1,zPk c2,c3];rfl
theorem zJf (n:Int) (hn:In64 n):
    Pur cfg 154 [vI n] (vUn n.natAbs):=by
 refine zS Tryz.func154 O Tryz.ntmps154 Tryz.results154 O ?_
 intro z hz
 have hn1:=hn.1
 have hn2:=hn.2
 refine A O<|G O<|R<|zK<|A O<|G O<|yJ O<|R<|zC O (fun c1=>?_) (fun c1=>?_)
 ·try simp only [sx] at c1
  refine A O<|G O<|qI O ⟨by omega,by omega⟩<|zT O (zGy O O)<|zT O (wK O us2 ik188 O)<|zT O (det_add O O O)<|G O<|R<|zF<|zQ O ?_
  exact congrArg vU64 (size_neg c1 hn)
 ·try simp only [sx] at c1
  refine zI<|A O<|G O<|zT O (wK O us2 ik188 O)<|G O<|R<|zF<|zQ O ?_
  exact congrArg vU64 (mag_pos (by omega) hn.2)
theorem ref01_made (s:Bool) (a b:Nat) (ha:a<18446744073709551616) (hb:b<18446744073709551616) (h0:0<b):
    Pur cfg 308 [vB s,vUn a,vUn b] (.tup [vVal (madF s a b).1,vI (madF s a b).2]):=by
 refine zS Tryz.func308 O Tryz.ntmps308 Tryz.results308 O ?_
 intro z hz
 have hg:0<Nat.gcd a b:=Nat.gcd_pos_of_pos_right _ h0
 refine A O<|zU O O (yL O zr63) ?_
 rintro _ _ ⟨b1,rfl,rfl⟩
 refine G O<|R<|A O<|G O<|G O<|qK O ok349 (ref01_gcd a b) ⟨Y,O,Y,O,T⟩<|G O<|R<|A O<|G O<|G O<|zT O (zJp O O O ⟨by omega,by omega⟩)<|G O<|R<|A O<|G O<|G O<|zT O (zJp O O O ⟨by omega,by omega⟩)<|G O<|R<|zK<|A O<|G O<|zT O (yA O O O)<|G O<|rL0 O (fun g4_2=>zP O O) O<|rL1 21 O (fun g4_2=>yA O O O) O<|r_or O (fun h=>(lzf h))<|R<|zC O (fun c1=>?_) (fun c1=>?_)
 ·refine A O<|yU O zr63 pl63<|rStR 0 sz63 O<|G O<|R<|zF<|D (qL zAw O (zD 0 O) O) (B O) ?_
  rw [madF_big c1];rfl
 ·refine zI<|zK<|A O<|G O<|R<|zC O (fun c2=>?_) (fun c2=>?_)
  ·try simp only [sx] at c2
   refine A O<|G O<|zT O (wK O us188 ik2 O)<|zT O (zGy O O)<|G O<|zT O (wK O us188 ik2 O)<|yU O zr63 pl63<|rStR 0 sz63 O<|G O<|R<|zF<|D (qL zAw O (zD 0 O) O) (B O) ?_
   rw [zPk c1,c2];rfl
  ·try simp only [sx] at c2
   refine zI<|A O<|G O<|zT O (wK O us188 ik2 O)<|G O<|zT O (wK O us188 ik2 O)<|yU O zr63 pl63<|rStR 0 sz63 O<|G O<|R<|zF<|D (qL zAw O (zD 0 O) O) (B O) ?_
   have c2:s=false:=by simpa using c2
   rw [zPk c1,c2];rfl
theorem ref01_New (n d:Int) (hn:In64 n) (hd:In64 d):
    Pur cfg 249 [vI n,vI d] (.tup [vVal (newF n d).1,vI (newF n d).2]):=by
 refine zS Tryz.func249 O Tryz.ntmps249 Tryz.results249 O ?_
 intro z hz
 have hn1:=hn.1
 have hn2:=hn.2
 have hd1:=hd.1
 have hd2:=hd.2
 refine A O<|zU O O (yL O zr63) ?_
 rintro _ _ ⟨b1,rfl,rfl⟩
 refine G O<|R<|zK<|A O<|G O<|L O<|R<|zC O (fun c1=>?_) (fun c1=>?_)
 ·try simp only [sx] at c1
  refine A O<|yU O zr63 pl63<|rStR 0 sz63 O<|G O<|R<|zF<|D (qL zAw O (zD 0 O) O) (B O) ?_
  rw [newF_zero c1];rfl
 ·try simp only [sx] at c1
  refine zI<|A O<|G O<|yJ O<|G O<|yJ O<|zT O (zPr O un4 O O)<|G O<|qK O ok154 (zJf n hn) ⟨Y,O,T⟩<|G O<|qK O ok154 (zJf d hd) ⟨Y,O,T⟩<|qK O ok308 (ref01_made (sgnD n d) n.natAbs d.natAbs (by omega) (by omega) (by omega)) ⟨Y,O,Y,O,Y,O,T⟩<|zT O (yW O O O)<|zT O (kC O O O)<|rStR 0 sz63 O<|G O<|R<|zF<|D (qL zAw O (zD 0 O) O) (B O) ?_
  rw [zSa c1];rfl
theorem ref01_Valid (v:Vl):
    Pur cfg 247 [vVal v] (vB (frOk v)):=by
 refine zS Tryz.func247 O Tryz.ntmps247 Tryz.results247 O ?_
 intro z hz
 refine A O<|zU O O (qN O O) ?_
 rintro _ _ ⟨b1,rfl,rfl⟩
 refine G O<|R<|A O<|yU O zr65 pl65<|zO zAw (zD 0 O) O<|qK O ok161 (base_Val tFr v (by decide)) ⟨Y,O,Y,O,T⟩<|G O<|R<|zF<|zQ O ?_
 exact O
end Go.W
end
section
set_option maxRecDepth 10000
namespace Go.W
open Go Go.Eng Go.Proofs Go.L41 Go.Br
attribute [local irreducible] AWP RWP TD finQ
theorem el36:elemT Tryz.prog 36=some (63,2,16):=by kernel_rfl
theorem ok184:callOk Tryz.prog 184=true:=by kernel_rfl
theorem ok305:callOk Tryz.prog 305=true:=by kernel_rfl
theorem fixed_check (t:Ty) (l:List Vl) (ht:fixOk t=true) (hl:∀v,v∈l->valOk t v=true) (hlen:l.length<=1000):
    Pur cfg 305 [vTy t,vVals l] (vI 0):=by
 refine zS Tryz.func305 O Tryz.ntmps305 Tryz.results305 O ?_
 intro z hz
 obtain ⟨hK,hB1,hB2,hF1,hF2,hR1,hR4,hO,hh1,hh2,hp1,hp2⟩:=fxT ht
 refine A O<|zU O O (qN O O) ?_
 rintro _ _ ⟨b1,rfl,rfl⟩
 refine G O<|R<|zK<|A O<|zO yI (zD 0 O) O<|qK O ok107 (zBj t) ⟨Y,O,T⟩<|G O<|R<|A O<|G O<|kP O<|R<|zC O (fun c1=>?_) (fun c1=>?_)
 ·try simp only [sx] at c1
  rw [ht] at c1
  exact absurd O c1
 ·try simp only [sx] at c1
  refine zI<|zK<|A O<|G O<|zZ O el36<|G O<|R<|zR<|zX ⟨[(15,.c _),(2,.c _),(13,.c _),(14,.c _)],[_]⟩ (Weak.mk [true] ⟨Y,Y,Y,Y,T⟩ O)<|qG 1 0 O O (Nat) (fun k=>[(15,vI k)]) (fun k=>[]) (fun k=>k<=l.length) (fun k=>l.length-k) ⟨0,(by omega),Weak.mk [true] ⟨Y,Y,Y,Y,T⟩ O⟩ ?_
  rintro k hk
  refine A O<|yJ O<|R<|zK<|zC O (fun c2=>?_) (fun c2=>?_)
  ·try simp only [sx] at c2
   obtain ⟨x,hx⟩:=qY l k (by omega)
   refine zI<|zK<|zR<|A O<|qE O el36 (by omega) (getm (by assumption))<|zO zAw qA O<|zU O O (yL O zr63) ?_
   rintro _ _ ⟨b2,rfl,rfl⟩
   refine rStR 0 sz63 O<|R<|A O<|zO yI (zD 1 O) O<|zO zAw (zD 0 O) O<|qK O ok163 (zSr t x) ⟨Y,O,Y,O,T⟩<|wA O<|R<|zC O (fun c3=>?_) (fun c3=>?_)
   ·have h3:=fxV ht (hl x (zY hx))
    exact absurd c3 (by rw [ht];simp;omega)
   ·refine zI<|zN O<|qI O ⟨by omega,by omega⟩<|G O<|R ?_
    refine ⟨k+1,(by omega),(by omega),Weak.mk [false,true] ⟨Y,Y,Y,Y,T⟩ O⟩
  ·try simp only [sx] at c2
   refine qP<|A O<|G O<|R<|zF<|zQ O ?_
   exact O
theorem fixed_ToFrac (t:Ty) (v:Vl) (ht:fixOk t=true) (hv:valOk t v=true):
    Pur cfg 244 [vTy t,vVal v] (.tup [vVal (newF v.N (pow2 t.Frac)).1,vI (newF v.N (pow2 t.Frac)).2]):=by
 refine zS Tryz.func244 O Tryz.ntmps244 Tryz.results244 O ?_
 intro z hz
 obtain ⟨hK,hB1,hB2,hF1,hF2,hR1,hR4,hO,hh1,hh2,hp1,hp2⟩:=fxT ht
 have hA:=fxN ht hv
 refine A O<|zU O O (qN O O) ?_
 rintro _ _ ⟨b1,rfl,rfl⟩
 refine zU O O (qN O O) ?_
 rintro _ _ ⟨b2,rfl,rfl⟩
 refine zU O O (yL O zr63) ?_
 rintro _ _ ⟨b3,rfl,rfl⟩
 refine G O<|R<|zK<|A O<|zO yI (zD 2 O) O<|zO zAw (zD 1 O) O<|zT O (yK O el36 zr63 O O O O)<|qK O ok305 (fixed_check t [v] ht (by simp [hv]) (by simp)) ⟨Y,O,Y,O,T⟩<|G O<|R<|A O<|G O<|kP O<|R<|zC O (fun c1=>?_) (fun c1=>?_)
 ·try simp only [sx] at c1
  exact absurd T c1
 ·try simp only [sx] at c1
  refine zI<|zK<|qU 8 mixed (by kernel_rfl) O O<|J O O (zE O zDa O)<|J O O (zJ O r O (zD 1 O) O)<|J O O (zE O zFw O)<|J O O (zJ O one3 O (zD 2 O) O)<|J O O (det_shlE O O O (by omega) (one_shl hF1 hF2))<|J O O (qC O ok304 (frac_New v.N (pow2 t.Frac) ⟨by omega,by omega⟩ ⟨by omega,by omega⟩) ⟨Y,O,Y,O,T⟩)<|J O O (yW O O O)<|J O O (kC O O O)<|yO<|rStR 0 sz63 O<|G O<|R<|zF<|D (qL zAw O (zD 0 O) O) (B O) ?_
  exact O
theorem ref04_step (t:Ty) (ht:fixOk t=true):
    Pur cfg 184 [vTy t] (vI (pow2 t.Frac)):=by
 refine zS Tryz.func184 O Tryz.ntmps184 Tryz.results184 O ?_
 intro z hz
 obtain ⟨hK,hB1,hB2,hF1,hF2,hR1,hR4,hO,hh1,hh2,hp1,hp2⟩:=fxT ht
 refine A O<|zU O O (qN O O) ?_
 rintro _ _ ⟨b1,rfl,rfl⟩
 refine G O<|R<|A O<|zH O zFw<|zM one3 (zD 0 O) O<|zT O (det_convE O us3 ik145 O (zEf ⟨by omega,by omega⟩))<|zT O (det_shlE O O O (by omega) (one_shl hF1 hF2))<|G O<|R<|zF<|zQ O ?_
 exact O
end Go.W
end
section
set_option maxRecDepth 10000
namespace Go.W
open Go Go.Eng Go.Proofs Go.L41 Go.Br
attribute [local irreducible] AWP RWP TD finQ
theorem ok121:callOk Tryz.prog 121=true:=by kernel_rfl
theorem ok169:callOk Tryz.prog 169=true:=by kernel_rfl
theorem ok180:callOk Tryz.prog 180=true:=by kernel_rfl
theorem ok244:callOk Tryz.prog 244=true:=by kernel_rfl
theorem ref04_Valid (t:Ty) (v:Vl):
    Pur cfg 121 [vTy t,vVal v] (vB (tyOk t&&valOk t v)):=by
 refine zS Tryz.func121 O Tryz.ntmps121 Tryz.results121 O ?_
 intro z hz
 refine A O<|zU O O (qN O O) ?_
 rintro _ _ ⟨b1,rfl,rfl⟩
 refine zU O O (qN O O) ?_
 rintro _ _ ⟨b2,rfl,rfl⟩
 refine G O<|R<|A O<|zO yI (zD 1 O) O<|qK O ok63 (zMu t) ⟨Y,O,T⟩<|G O<|rL0 O (fun g1_2=>zV O yI O (zD 1 O) O) O<|rL0 O (fun g1_2=>zV O zAw O (zD 0 O) O) O<|rLz [(8,_),(9,_)] O gv1 ⟨O,O,O,O,T⟩ (fun g1_2=>qC O ok161 (base_Val t v (by simpa [Lz] using g1_2)) ⟨Y,O,Y,O,T⟩) O<|yZ O (fun h=>h)<|G O<|R<|zF<|zQ O ?_
 exact O
theorem value_fraction (t:Ty) (a:Vl) (ht:tyOk t=true) (ha:valOk t a=true):
    Pur cfg 169 [vTy t,vVal a] (vVal (fracV t a)):=by
 refine zS Tryz.func169 O Tryz.ntmps169 Tryz.results169 O ?_
 intro z hz
 refine A O<|zU O O (qN O O) ?_
 rintro _ _ ⟨b1,rfl,rfl⟩
 refine zU O O (qN O O) ?_
 rintro _ _ ⟨b2,rfl,rfl⟩
 refine zU O O (yL O zr63) ?_
 rintro _ _ ⟨b3,rfl,rfl⟩
 refine R<|zK<|A O<|zH O zDd<|zM one3 (zD 2 O) O<|L O<|R<|zC O (fun c1=>?_) (fun c1=>?_)
 ·try simp only [sx] at c1
  have hf:fixOk t=true:=by rw [←zAm (by assumption)];exact ht
  refine A O<|zO yI (zD 2 O) O<|zO zAw (zD 1 O) O<|qK O ok244 (fixed_ToFrac t a hf ha) ⟨Y,O,Y,O,T⟩<|zT O (yH O O)<|zT O (yW O O O)<|zT O (kC O O O)<|zU O O (yL O zr63) ?_
  rintro _ _ ⟨b4,rfl,rfl⟩
  refine rStR 0 sz63 O<|G O<|R<|A O<|zO zAw (zD 0 O) O<|rStR 1 sz63 O<|R<|zF<|v (qL zAw O (zD 1 O) O) ?_
  rw [fracV_2 c1];rfl
 ·try simp only [sx] at c1
  refine zI<|A O<|zO zAw (zD 1 O) O<|rStR 0 sz63 O<|R<|zF<|v (qL zAw O (zD 0 O) O) ?_
  rw [fracV_n c1];rfl
theorem ref04_Value (t:Ty) (a:Vl) (ht:tyOk t=true) (ha:valOk t a=true):
    Pur cfg 180 [vTy t,vVal a] (vVal (fracV t a)):=by
 refine zS Tryz.func180 O Tryz.ntmps180 Tryz.results180 O ?_
 intro z hz
 refine A O<|zU O O (qN O O) ?_
 rintro _ _ ⟨b1,rfl,rfl⟩
 refine zU O O (qN O O) ?_
 rintro _ _ ⟨b2,rfl,rfl⟩
 refine zU O O (yL O zr63) ?_
 rintro _ _ ⟨b3,rfl,rfl⟩
 refine R<|zK<|A O<|zH O zDd<|zM one3 (zD 2 O) O<|L O<|R<|zC O (fun c1=>?_) (fun c1=>?_)
 ·try simp only [sx] at c1
  have hf:fixOk t=true:=by rw [←zAm (by assumption)];exact ht
  have hA:=fxN hf ha
  have hT:=fxT hf
  have hT1:=hT.p1
  have hT2:=hT.p2
  refine kN 9 0 [⟨0,.q []⟩,⟨1,.q [1]⟩,⟨2,.q [2]⟩,⟨3,.q []⟩,⟨4,.q []⟩,⟨5,.q []⟩,⟨6,.q []⟩,⟨7,.q []⟩,⟨8,.e 1 []⟩] mixed (by kernel_rfl) (by kernel_rfl) O O O<|zW O<|zW O<|zW O<|zW O<|zW O<|zW O<|zW O<|zW O<|zW O<|zCc<|qF O (by decide) O O (zE O zDa O)<|qF O (by decide) O O (zJ O r O (zD 0 O) O)<|qF O (by decide) O O (zV O yI O (zD 0 O) O)<|qF O (by decide) O O (qC O ok184 (ref04_step t hf) ⟨Y,O,T⟩)<|qF O (by decide) O O (qC O ok249 (ref01_New a.N (pow2 t.Frac) ⟨by omega,by omega⟩ ⟨by omega,by omega⟩) ⟨Y,O,Y,O,T⟩)<|qF O (by decide) O O (yH O O)<|qF O (by decide) O O (yW O O O)<|qF O (by decide) O O (kC O O O)<|zKc O O (by decide) O O (zAn O sz63 O O O (zKa 0 O O)) ?_
  rintro _ _ ⟨rfl,rfl⟩
  refine ⟨_,O,?_⟩
  refine zCb O<|R<|A O<|zO zAw (zD 1 O) O<|rStR 0 sz63 O<|R<|zF<|v (qL zAw O (zD 0 O) O) ?_
  rw [fracV_2 c1];rfl
 ·try simp only [sx] at c1
  refine zI<|A O<|zO zAw (zD 1 O) O<|rStR 0 sz63 O<|R<|zF<|v (qL zAw O (zD 0 O) O) ?_
  rw [fracV_n c1];rfl
end Go.W
end
