/-
  What functions compute.
  And what the laws need besides.
  Conditions: none.
-/
import Derived.Test.YthgichbbgocmoaaGreatDoorWalkS
import Derived.Test.YthgichbbgocmoaaGreatDoorPlainT
import Derived.Test.YthgichbbgocmoaaGreatDoorEngZ
import Derived.Test.YthgichbbgocmoaaGreatDoorPlain3
set_option linter.unusedSimpArgs false
set_option linter.unusedVariables false
set_option linter.defProp false
section
set_option maxRecDepth 10000
namespace Go.W
open Go Go.Eng Go.Proofs Go.L41 Go.Br Tryz
attribute [local irreducible] AWP RWP TD fK
def zXk:bA prog 204=true:=by kernel_rfl
def ref01_gcd (a b:Nat):
    Pur cfg 268 [nC a,nC b] (nC (Nat.gcd a b)):=by
 refine zR func268 O ntmps268 results268 O ?_
 exact s9
def ref01_size (n:Int) (hn:tQ n):
    Pur cfg 252 [vI n] (vUn n.natAbs):=by
 refine zR func252 O ntmps252 results252 O ?_
 intro z hz
 have hn1:=hn.1
 have hn2:=hn.2
 refine ml O O<|zG<|mo O O<|yI O<|Y<|zK O ?_ ?_<;>intro c1<;>try simp only [sx] at c1
 ·refine mo O O<|qI O ⟨zA,zA⟩<|zW O (zHz O O)<|zW O (zAo O us2 ik154 O)<|zW O (zMh O O O)<|mm O<|zF<|zS O ?_
  exact ag nC (size_neg c1 hn)
 ·refine zI<|mo O O<|zW O (zAo O us2 ik154 O)<|mm O<|zF<|zS O ?_
  exact ag nC (mag_pos zA hn.2)
def ref01_made (s:Bool) (a b:Nat) (ha:a<18446744073709551616) (hb:b<18446744073709551616) (h0:0<b):
    Pur cfg 251 [vB s,vUn a,vUn b] (.tup [gZ (sS s a b).1,vI (sS s a b).2]):=by
 refine zR func251 O ntmps251 results251 O ?_
 intro z hz
 have hg:0<Nat.gcd a b:=Nat.gcd_pos_of_pos_right _ h0
 refine G O<|zV O O (qW O W) ?_
 rintro _ _ ⟨b1,rfl,rfl⟩
 refine mm O<|mo O O<|A O<|qD O uB (ref01_gcd a b) (vlr O)<|mm O<|mo O O<|A O<|zW O (zNh O O O ⟨zA,zA⟩)<|mm O<|mo O O<|A O<|zW O (zNh O O O ⟨zA,zA⟩)<|mm O<|zG<|mo O O<|zW O (yD O O O)<|A O<|rL0 O (fun g4_2=>zO O O) O<|rL1 21 O (fun g4_2=>yD O O O) O<|r_or O (fun h=>(lzf h))<|Y<|zK O (fun c1=>?_) (fun c1=>?_)
 ·refine G O<|qU O W pl46<|rStR 0 L O<|mm O<|zF<|fin2 (zP yP O (J 0 O) O) (rs_c O) ?_
  rw [madF_big c1];rfl
 ·refine zI<|zG<|ml O O<|zK O ?_ ?_<;>intro c2<;>try simp only [sx] at c2
  ·refine mo O O<|zW O (zAo O us154 ik2 O)<|zW O (zHz O O)<|A O<|zW O (zAo O us154 ik2 O)<|qU O W pl46<|rStR 0 L O<|mm O<|zF<|fin2 (zP yP O (J 0 O) O) (rs_c O) ?_
   rw [madF_fin c1,c2];rfl
  ·refine zI<|mo O O<|zW O (zAo O us154 ik2 O)<|A O<|zW O (zAo O us154 ik2 O)<|qU O W pl46<|rStR 0 L O<|mm O<|zF<|fin2 (zP yP O (J 0 O) O) (rs_c O) ?_
   have c2:s=false:=by simpa using c2
   rw [madF_fin c1,c2];rfl
def zLm (n d:Int) (hn:tQ n) (hd:tQ d):
    Pur cfg 227 [vI n,vI d] (.tup [gZ (pQ n d).1,vI (pQ n d).2]):=by
 refine zR func227 O ntmps227 results227 O ?_
 intro z hz
 have hn1:=hn.1
 have hn2:=hn.2
 have hd1:=hd.1
 have hd2:=hd.2
 refine G O<|zV O O (qW O W) ?_
 rintro _ _ ⟨b1,rfl,rfl⟩
 refine mm O<|zG<|mo O O<|yF O<|Y<|qK O (fun c1=>?_) (fun c1=>?_)
 ·refine G O<|qU O W pl46<|rStR 0 L O<|mm O<|zF<|fin2 (zP yP O (J 0 O) O) (rs_c O) ?_
  rw [newF_zero c1];rfl
 ·refine zI<|mo O O<|yI O<|A O<|yI O<|zW O (zQz O un4 O O)<|A O<|qD O uB (ref01_size n hn) (vlr O)<|A O<|qD O uB (ref01_size d hd) (vlr O)<|qD O uB (ref01_made (eU n d) n.natAbs d.natAbs zA zA zA) (vlr O)<|yG O<|qS O<|rStR 0 L O<|mm O<|zF<|fin2 (zP yP O (J 0 O) O) (rs_c O) ?_
  rw [newF_nz c1];rfl
def zAh (v:Vl):
    Pur cfg 204 [gZ v] (vB (gT v)):=by
 refine zR func204 O ntmps204 results204 O fun z hz=>G O<|mj O fun b1=>mm O<|G O<|qU O zr48 pl48<|zM yP (J 0 O) O<|qD O uB (zHr tFr v zB) (vlr O)<|mm O<|zF<|zS O ?_
 exact O
def ref01_Add (a b:Vl):
    Pur cfg 199 [gZ a,gZ b] (.tup [gZ (frX 4 a b).1,vI (frX 4 a b).2]):=by
 refine zR func199 O ntmps199 results199 O fun z hz=>G O<|mj O fun b1=>mj O fun b2=>zV O O (qW O W) ?_
 rintro _ _ ⟨b3,rfl,rfl⟩
 refine mm O<|zG<|G O<|zM yP (J 2 O) O<|qD O zXk (zAh a) (vlr O)<|kO O<|A O<|rL0 O (fun g1_3=>zU O yP O (J 1 O) O) O<|rL1 10 O (fun g1_3=>qG O zXk (zAh b) (vlr O)) O<|rL1 11 O (fun g1_3=>kG O O) O<|r_or O (fun h=>(lzf h))<|Y<|zK O (fun c1=>?_) (fun c1=>?_)
 ·exact m5
 ·have c1:(!gT a|| !gT b)=false:=c1
  obtain ⟨ha,hb⟩:=fr_both c1
  obtain ⟨b1,b2,b3,b4,b5,b6,b7⟩:=zLx ha hb
  refine zI<|G O<|zC O zAg<|zH U (J 2 O) O<|zC O zAu<|zH U (J 1 O) O<|zW O (kC O O O ⟨zA,zA⟩)<|zC O zAg<|zH U (J 1 O) O<|zC O zAu<|zH U (J 2 O) O<|zW O (kC O O O ⟨zA,zA⟩)<|qI O ⟨zA,zA⟩<|zC O zAu<|zH U (J 2 O) O<|zC O zAu<|zH U (J 1 O) O<|zW O (kC O O O ⟨zA,zA⟩)<|qD O uB (zLm (a.N*b.D+b.N*a.D) (a.D*b.D) ⟨zA,zA⟩ ⟨zA,zA⟩) (vlr O)<|yG O<|qS O<|rStR 0 L O<|mm O<|zF<|fin2 (zP yP O (J 0 O) O) (rs_c O) ?_
  rw [zLy ha hb];rfl
def ref01_Sub (a b:Vl):
    Pur cfg 200 [gZ a,gZ b] (.tup [gZ (frX 5 a b).1,vI (frX 5 a b).2]):=by
 refine zR func200 O ntmps200 results200 O fun z hz=>G O<|mj O fun b1=>mj O fun b2=>zV O O (qW O W) ?_
 rintro _ _ ⟨b3,rfl,rfl⟩
 refine mm O<|zG<|G O<|zM yP (J 2 O) O<|qD O zXk (zAh a) (vlr O)<|kO O<|A O<|rL0 O (fun g1_3=>zU O yP O (J 1 O) O) O<|rL1 10 O (fun g1_3=>qG O zXk (zAh b) (vlr O)) O<|rL1 11 O (fun g1_3=>kG O O) O<|r_or O (fun h=>(lzf h))<|Y<|zK O (fun c1=>?_) (fun c1=>?_)
 ·exact m5
 ·have c1:(!gT a|| !gT b)=false:=c1
  obtain ⟨ha,hb⟩:=fr_both c1
  obtain ⟨b1,b2,b3,b4,b5,b6,b7⟩:=zLx ha hb
  refine zI<|G O<|zC O zAg<|zH U (J 2 O) O<|zC O zAu<|zH U (J 1 O) O<|zW O (kC O O O ⟨zA,zA⟩)<|zC O zAg<|zH U (J 1 O) O<|zC O zAu<|zH U (J 2 O) O<|zW O (kC O O O ⟨zA,zA⟩)<|zW O (yB O O O ⟨zA,zA⟩)<|zC O zAu<|zH U (J 2 O) O<|zC O zAu<|zH U (J 1 O) O<|zW O (kC O O O ⟨zA,zA⟩)<|qD O uB (zLm (a.N*b.D-b.N*a.D) (a.D*b.D) ⟨zA,zA⟩ ⟨zA,zA⟩) (vlr O)<|yG O<|qS O<|rStR 0 L O<|mm O<|zF<|fin2 (zP yP O (J 0 O) O) (rs_c O) ?_
  rw [zLy ha hb];rfl
def ref01_Mul (a b:Vl):
    Pur cfg 201 [gZ a,gZ b] (.tup [gZ (frX 6 a b).1,vI (frX 6 a b).2]):=by
 refine zR func201 O ntmps201 results201 O fun z hz=>G O<|mj O fun b1=>mj O fun b2=>zV O O (qW O W) ?_
 rintro _ _ ⟨b3,rfl,rfl⟩
 refine mm O<|zG<|G O<|zM yP (J 2 O) O<|qD O zXk (zAh a) (vlr O)<|kO O<|A O<|rL0 O (fun g1_3=>zU O yP O (J 1 O) O) O<|rL1 10 O (fun g1_3=>qG O zXk (zAh b) (vlr O)) O<|rL1 11 O (fun g1_3=>kG O O) O<|r_or O (fun h=>(lzf h))<|Y<|zK O (fun c1=>?_) (fun c1=>?_)
 ·exact m5
 ·have c1:(!gT a|| !gT b)=false:=c1
  obtain ⟨ha,hb⟩:=fr_both c1
  obtain ⟨b1,b2,b3,b4,b5,b6,b7⟩:=zLx ha hb
  refine zI<|G O<|zC O zAg<|zH U (J 2 O) O<|zC O zAg<|zH U (J 1 O) O<|zW O (kC O O O ⟨zA,zA⟩)<|zC O zAu<|zH U (J 2 O) O<|zC O zAu<|zH U (J 1 O) O<|zW O (kC O O O ⟨zA,zA⟩)<|qD O uB (zLm (a.N*b.N) (a.D*b.D) ⟨zA,zA⟩ ⟨zA,zA⟩) (vlr O)<|yG O<|qS O<|rStR 0 L O<|mm O<|zF<|fin2 (zP yP O (J 0 O) O) (rs_c O) ?_
  rw [zLy ha hb];rfl
def ref01_Div (a b:Vl):
    Pur cfg 202 [gZ a,gZ b] (.tup [gZ (frX 7 a b).1,vI (frX 7 a b).2]):=by
 refine zR func202 O ntmps202 results202 O fun z hz=>G O<|mj O fun b1=>mj O fun b2=>zV O O (qW O W) ?_
 rintro _ _ ⟨b3,rfl,rfl⟩
 refine mm O<|zG<|G O<|zM yP (J 2 O) O<|qD O zXk (zAh a) (vlr O)<|kO O<|A O<|rL0 O (fun g1_3=>zU O yP O (J 1 O) O) O<|rL1 10 O (fun g1_3=>qG O zXk (zAh b) (vlr O)) O<|rL1 11 O (fun g1_3=>kG O O) O<|r_or O (fun h=>(lzf h))<|Y<|zK O (fun c1=>?_) (fun c1=>?_)
 ·exact m5
 ·have c1:(!gT a|| !gT b)=false:=c1
  obtain ⟨ha,hb⟩:=fr_both c1
  obtain ⟨b1,b2,b3,b4,b5,b6,b7⟩:=zLx ha hb
  refine zI<|G O<|zC O zAg<|zH U (J 2 O) O<|zC O zAu<|zH U (J 1 O) O<|zW O (kC O O O ⟨zA,zA⟩)<|zC O zAu<|zH U (J 2 O) O<|zC O zAg<|zH U (J 1 O) O<|zW O (kC O O O ⟨zA,zA⟩)<|qD O uB (zLm (a.N*b.D) (a.D*b.N) ⟨zA,zA⟩ ⟨zA,zA⟩) (vlr O)<|yG O<|qS O<|rStR 0 L O<|mm O<|zF<|fin2 (zP yP O (J 0 O) O) (rs_c O) ?_
  rw [zLy ha hb];rfl
def ref01_Neg (a:Vl) (ha:gT a=true):
    Pur cfg 203 [gZ a] (gZ ⟨-a.N,a.D⟩):=by
 refine zR func203 O ntmps203 results203 O ?_
 intro z hz
 obtain ⟨a1,a2,a3,a4,_⟩:=zYn ha
 refine G O<|mj O fun b1=>zV O O (qW O W) ?_
 rintro _ _ ⟨b2,rfl,rfl⟩
 refine Y<|zG<|G O<|zM yP (J 1 O) O<|qD O zXk (zAh a) (vlr O)<|kO O<|Y<|zK O (fun c1=>?_) (fun c1=>?_)
 ·exact absurd c1 (by rw [ha];simp)
 ·refine zI<|G O<|zC O zAg<|zH U (J 1 O) O<|zW O (zHz O O)<|zC O zAu<|zH U (J 1 O) O<|qU O W pl46<|rStR 0 L O<|Y<|zF<|fin1 (zP yP O (J 0 O) O) ?_
  rw [show IntKind.i64.wrap (-a.N)= -a.N from zDf ⟨zA,zA⟩]
  rfl
def ref01_order (a b:Int):
    Pur cfg 205 [vI a,vI b] (vI (sP a b)):=by
 refine zR func205 O ntmps205 results205 O fun z hz=>ml O O<|zG<|mo O O<|A O<|yI O<|Y<|zK O ?_ ?_<;>intro c1<;>try simp only [sx] at c1
 ·refine ml O O<|zF<|zS O ?_
  rw [ordI_lt c1]
 ·refine zI<|zG<|mo O O<|A O<|zW O (yD O O O)<|Y<|zK O ?_ ?_<;>intro c2<;>try simp only [sx] at c2
  ·refine ml O O<|zF<|zS O ?_
   rw [ordI_gt zA c2]
  ·refine zI<|ml O O<|zF<|zS O ?_
   rw [ordI_eq zA zA]
def ref01_Compare (a b:Vl) (ha:gT a=true) (hb:gT b=true):
    Pur cfg 170 [gZ a,gZ b] (vI (sP (a.N*b.D) (b.N*a.D))):=by
 refine zR func170 O ntmps170 results170 O ?_
 intro z hz
 obtain ⟨b1,b2,b3,b4,b5,b6,b7⟩:=zLx ha hb
 refine G O<|mj O fun b1=>mj O fun b2=>mm O<|zG<|G O<|zM yP (J 1 O) O<|qD O zXk (zAh a) (vlr O)<|A O<|rL0 O (fun g1_2=>zU O yP O (J 0 O) O) O<|rL1 8 O (fun g1_2=>qG O zXk (zAh b) (vlr O)) O<|yT O (fun h=>h)<|Y<|zK O (fun c1=>?_) (fun c1=>?_)
 ·refine G O<|zC O zAg<|zH U (J 1 O) O<|zC O zAu<|zH U (J 0 O) O<|zW O (kC O O O ⟨zA,zA⟩)<|zC O zAg<|zH U (J 0 O) O<|zC O zAu<|zH U (J 1 O) O<|zW O (kC O O O ⟨zA,zA⟩)<|qD O uB (ref01_order _ _) (vlr O)<|mm O<|zF<|zS O ?_
  exact O
 ·have c1:(gT a&&gT b)=false:=c1
  exact absurd c1 (by rw [ha,hb];simp)
end Go.W
end
section
set_option maxRecDepth 10000
namespace Go.W
open Go Go.Eng Go.Proofs Go.L41 Go.Br Tryz
attribute [local irreducible] AWP RWP TD fK
def zGn (n d:Int) (hn:n.natAbs<=9223372036854775806) (hd:0<d) (hd2:d<=9223372036854775807):
    Pur cfg 193 [vI n,vI d] (vI (n/d)):=by
 refine zR func193 O ntmps193 results193 O ?_
 intro z hz
 have q1:=tdiv_le' (n:=n) (d:=d)
 have q2:=tdiv_mul_le (n:=n) (d:=d)
 refine ml O O<|mo O O<|A O<|zW O (det_quoE O O O zA (zDf ⟨zA,zA⟩))<|mm O<|zG<|mo O O<|A O<|zW O (kC O O O ⟨zA,zA⟩)<|A O<|zW O (yD O O O)<|Y<|zK O ?_ ?_<;>intro c1<;>try simp only [sx] at c1
 ·refine mo O O<|zW O (yB O O O ⟨zA,zA⟩)<|mm O<|zF<|zS O ?_
  rw [flo_lt hd c1]
 ·refine zI<|mo O O<|mm O<|zF<|zS O ?_
  rw [flo_ge hd zA]
def zJl (n d how:Int) (hn:n.natAbs<=4611686018427387904) (hd:0<d) (hd2:d<=4611686018427387904):
    Pur cfg 195 [vI n,vI d,vI how] (vI (rnd n d how)):=by
 refine zR func195 O ntmps195 results195 O ?_
 intro z hz
 obtain ⟨q1,q2,q3,q4⟩:=ediv_b (n:=n) hd
 refine ml O O<|mo O O<|A O<|qD O uB (zGn n d zA hd zA) (vlr O)<|mm O<|mo O O<|A O<|A O<|zW O (kC O O O ⟨zA,zA⟩)<|zW O (yB O O O ⟨zA,zA⟩)<|mm O<|zG<|mo O O<|yF O<|A O<|rL0 O (fun g3_2=>zO O O) O<|rL1 20 O (fun g3_2=>yN O O O) O<|r_or O (fun h=>(lzf h))<|Y<|zK O (fun c1=>?_) (fun c1=>?_)
 ·refine mo O O<|mm O<|zF<|zS O ?_
  rw [rnd1 c1]
 ·refine zI<|zG<|mo O O<|yF O<|Y<|qK O (fun c2=>?_) (fun c2=>?_)
  ·refine mo O O<|qI O ⟨zA,zA⟩<|mm O<|zF<|zS O ?_
   rw [rnd2 c1 c2]
  ·refine zI<|zG<|mo O O<|yF O<|Y<|qK O (fun c3=>?_) (fun c3=>?_)
   ·refine zG<|mo O O<|yI O<|Y<|zK O ?_ ?_<;>intro c4<;>try simp only [sx] at c4
    ·refine mo O O<|qI O ⟨zA,zA⟩<|mm O<|zF<|zS O ?_
     rw [rnd3 c1 c2 c3 c4]
    ·refine zI<|mo O O<|mm O<|zF<|zS O ?_
     rw [rnd4 c1 c2 c3 zA]
   ·refine zI<|zG<|mo O O<|A O<|A O<|zW O (yB O O O ⟨zA,zA⟩)<|zW O (yD O O O)<|A O<|rL0 O (fun g11_5=>zO O O) O<|rL0 O (fun g11_5=>zO O O) O<|rL0 O (fun g11_5=>zO O O) O<|rLz [(42,_),(43,_)] O gv1 ⟨O,O,O,O,T⟩ (fun g11_5=>yB O O O ⟨zA,zA⟩) O<|rLz [(41,_),(44,_)] O gv1 ⟨O,O,O,O,T⟩ (fun g11_5=>yN O O O) O<|rL1 45 O (fun g11_5=>zO O O) O<|rLz [] O gv2 T (fun g11_11=>zO O O) O<|rLz [(47,_)] O gv2 ⟨O,O,T⟩ (fun g11_11=>zOv O O O zB) O<|rLz [(48,_)] O gv2 ⟨O,O,T⟩ (fun g11_11=>kB O O O) O<|rL1 46 O (fun g11_5=>wA O O O (fun h=>kD uA h) O) O<|r_or O (fun h=>(lzf h))<|Y<|zK O (fun c5=>?_) (fun c5=>?_)
    ·refine mo O O<|qI O ⟨zA,zA⟩<|mm O<|zF<|zS O ?_
     rw [rnd5 c1 c2 c3 c5]
    ·refine zI<|mo O O<|mm O<|zF<|zS O ?_
     rw [rnd6 c1 c2 c3 c5]
def zIg (t:Ty) (ht:fP t=true):
    Pur cfg 196 [vTy t] (vI (jY t.Frac)):=by
 refine zR func196 O ntmps196 results196 O ?_
 intro z hz
 obtain ⟨hK,hB1,hB2,hF1,hF2,hR1,hR4,hO,hh1,hh2,hp1,hp2⟩:=fxT ht
 refine G O<|mj O fun b1=>mm O<|G O<|zC O zTs<|zH one3 (J 0 O) O<|zW O (zIt O us3 ik185 O (zEt ⟨zA,zA⟩))<|zW O (det_shlE O O O zA (one_shl hF1 hF2))<|mm O<|zF<|zS O ?_
 exact O
def zGo (t:Ty) (n:Int) (ht:fP t=true) (hn:n.natAbs<=4611686018427387904):
    Pur cfg 194 [vTy t,vI n] (gZ ⟨nar t n,1⟩):=by
 refine zR func194 O ntmps194 results194 O ?_
 intro z hz
 obtain ⟨hK,hB1,hB2,hF1,hF2,hR1,hR4,hO,hh1,hh2,hp1,hp2⟩:=fxT ht
 obtain ⟨q1,q2,q3,q4⟩:=ediv_b (n:=n+gC t.Bits) (show 0<2*gC t.Bits by omega)
 have q5:=Int.mul_assoc ((n+gC t.Bits)/(2*gC t.Bits)) 2 (gC t.Bits)
 have q6:((n+gC t.Bits)/(2*gC t.Bits)*2).natAbs<=((n+gC t.Bits)/(2*gC t.Bits)*2*gC t.Bits).natAbs:=by rw [Int.natAbs_mul (_*2)];exact Nat.le_mul_of_pos_right _ zA
 refine G O<|mj O fun b1=>zV O O (qW O W) ?_
 rintro _ _ ⟨b2,rfl,rfl⟩
 refine Y<|G O<|zC O zMb<|zH one3 (J 1 O) O<|zW O (yB O O O ⟨zA,zA⟩)<|zW O (zIt O us3 ik185 O O)<|zW O (det_shlE O O O (by rw [zEt ⟨zA,zA⟩];omega) (zQc hB1 hB2))<|mm O<|zG<|G O<|zC O zTr<|zH one3 (J 1 O) O<|yF O<|Y<|qK O (fun c1=>?_) (fun c1=>?_)
 ·refine zT O<|A O<|A O<|A O<|qI O ⟨zA,zA⟩<|A O<|zW O (kC O O O ⟨zA,zA⟩)<|qD O uB (zGn (n+gC t.Bits) (2*gC t.Bits) zA zA zA) (vlr O)<|zW O (kC O O O ⟨zA,zA⟩)<|A O<|zW O (kC O O O ⟨zA,zA⟩)<|zW O (yB O O O ⟨zA,zA⟩)<|mm O<|mo O O<|zW O (zBw O O ⟨zA,zA⟩)<|A O<|zW O (yB O O O ⟨zA,zA⟩)<|A O<|zW O (det_min O O O)<|zW O (zKc O O O)<|qU O W pl46<|rStR 0 L O<|Y<|zF<|fin1 (zP yP O (J 0 O) O) ?_
  exact ag (fun x=>gZ ⟨x,1⟩) (fit_w c1)
 ·refine zI<|mo O O<|zW O (zBw O O ⟨zA,zA⟩)<|A O<|zW O (yB O O O ⟨zA,zA⟩)<|A O<|zW O (det_min O O O)<|zW O (zKc O O O)<|qU O W pl46<|rStR 0 L O<|Y<|zF<|fin1 (zP yP O (J 0 O) O) ?_
  exact ag (fun x=>gZ ⟨x,1⟩) (fit_n c1)
def ref04_fix (op:Int) (t:Ty) (a b:Int) (ht:fP t=true) (ha:a.natAbs<=1073741824) (hb:¬op=8->b.natAbs<=1073741824) (h1:4<=op) (h2:op<=8):
    Pur cfg 197 [vI op,vTy t,vI a,vI b] (.tup [gZ (sU op t a b).1,vI (sU op t a b).2]):=by
 refine zR func197 O ntmps197 results197 O ?_
 intro z hz
 obtain ⟨hK,hB1,hB2,hF1,hF2,hR1,hR4,hO,hh1,hh2,hp1,hp2⟩:=fxT ht
 refine G O<|mj O fun b1=>zV O O (qW O W) ?_
 rintro _ _ ⟨b2,rfl,rfl⟩
 refine mm O<|zG<|ml O O<|zQ<|G O<|yF O<|mm O<|qK O (fun c1=>?_) (fun c1=>?_)
 ·have hb:=hb zA
  refine G O<|zM yE (J 1 O) O<|A O<|A O<|qI O ⟨zA,zA⟩<|qD O uB (zGo _ _ uA zA) (vlr O)<|rStR 0 L O<|mm O<|zF<|fin2 (zP yP O (J 0 O) O) (rs_c O) ?_
  rw [fixA1 c1];rfl
 ·refine G O<|yF O<|mm O<|qK O (fun c2=>?_) (fun c2=>?_)
  ·have hb:=hb zA
   refine G O<|zM yE (J 1 O) O<|A O<|A O<|zW O (yB O O O ⟨zA,zA⟩)<|qD O uB (zGo _ _ uA zA) (vlr O)<|rStR 0 L O<|mm O<|zF<|fin2 (zP yP O (J 0 O) O) (rs_c O) ?_
   rw [fixA2 c2];rfl
  ·refine G O<|yF O<|mm O<|qK O (fun c3=>?_) (fun c3=>?_)
   ·have hb:=hb zA
    have hm:=m31 (x:=a) (y:=b) zA zA zA zA
    have hr:=rnd_b (n:=a*b) (how:=t.Round) (show 0<jY t.Frac by omega)
    refine zG<|qV 10 mixed uB O O<|mr O (zU O yE O (J 1 O) O)<|mr O (zO O O)<|mr O (zO O O)<|mr O (kC O O O ⟨zA,zA⟩)<|mr O (zU O yE O (J 1 O) O)<|mr O (qG O uB (zIg _ uA) (vlr O))<|mr O (zE O zMa O)<|mr O (zD O one3 O (J 1 O) O)<|mr O (qG O uB (zJl (a*b) (jY t.Frac) t.Round zA zA zA) (vlr O))<|mr O (qG O uB (zGo t (rnd (a*b) (jY t.Frac) t.Round) ht zA) (vlr O))<|yQ<|rStR 0 L O<|mm O<|zF<|fin2 (zP yP O (J 0 O) O) (rs_c O) ?_
    rw [fixA3 c3];rfl
   ·refine G O<|yF O<|mm O<|qK O (fun c4=>?_) (fun c4=>?_)
    ·refine G O<|zM yE (J 1 O) O<|A O<|zW O (zBw O O ⟨zA,zA⟩)<|qD O uB (zGo _ _ uA zA) (vlr O)<|rStR 0 L O<|mm O<|zF<|fin2 (zP yP O (J 0 O) O) (rs_c O) ?_
     rw [fixA4 c4];rfl
    ·have hb:=hb zA
     have hm2:=m60 (B:=1073741824) (x:=a) ha (show 0<=jY t.Frac by omega) hp2
     have hm3:=m60 (B:=1073741824) (x:= -a) zA (show 0<=jY t.Frac by omega) hp2
     refine zI<|zG<|mo O O<|yF O<|Y<|qK O (fun c5=>?_) (fun c5=>?_)
     ·refine G O<|qU O W pl46<|rStR 0 L O<|mm O<|zF<|fin2 (zP yP O (J 0 O) O) (rs_c O) ?_
      rw [fixA5 zA c5];rfl
     ·refine zI<|zG<|mo O O<|yI O<|Y<|zK O ?_ ?_<;>intro c6<;>try simp only [sx] at c6
      ·refine mo O O<|zW O (zBw O O ⟨zA,zA⟩)<|mm O<|zT O<|A O<|zW O (zBw O O ⟨zA,zA⟩)<|mm O<|zG<|qV 10 mixed uB O O<|mr O (zU O yE O (J 1 O) O)<|mr O (zO O O)<|mr O (zU O yE O (J 1 O) O)<|mr O (qG O uB (zIg _ uA) (vlr O))<|mr O (kC O O O ⟨zA,zA⟩)<|mr O (zO O O)<|mr O (zE O zMa O)<|mr O (zD O one3 O (J 1 O) O)<|mr O (qG O uB (zJl (-a*jY t.Frac) (-b) t.Round zA zA zA) (vlr O))<|mr O (qG O uB (zGo t (rnd (-a*jY t.Frac) (-b) t.Round) ht (by have h_:=rnd_b (n:= -a*jY t.Frac) (d:= -b) (how:=t.Round) zA;omega)) (vlr O))<|yQ<|rStR 0 L O<|mm O<|zF<|fin2 (zP yP O (J 0 O) O) (rs_c O) ?_
       rw [fixA6 zA c5,posN_neg c6,show (b.natAbs:Int)= -b by omega];rfl
      ·refine zI<|zG<|qV 10 mixed uB O O<|mr O (zU O yE O (J 1 O) O)<|mr O (zO O O)<|mr O (zU O yE O (J 1 O) O)<|mr O (qG O uB (zIg _ uA) (vlr O))<|mr O (kC O O O ⟨zA,zA⟩)<|mr O (zO O O)<|mr O (zE O zMa O)<|mr O (zD O one3 O (J 1 O) O)<|mr O (qG O uB (zJl (a*jY t.Frac) (b) t.Round zA zA zA) (vlr O))<|mr O (qG O uB (zGo t (rnd (a*jY t.Frac) (b) t.Round) ht (by have h_:=rnd_b (n:=a*jY t.Frac) (d:=b) (how:=t.Round) zA;omega)) (vlr O))<|yQ<|rStR 0 L O<|mm O<|zF<|fin2 (zP yP O (J 0 O) O) (rs_c O) ?_
       rw [fixA6 zA c5,posN_pos zA,show (b.natAbs:Int)=b by omega];rfl
def ref04_whole (op a b:Int) (ha:dX a=true) (hb:¬op=8->dX b=true) (h1:4<=op) (h2:op<=8):
    Pur cfg 198 [vI op,vI a,vI b] (.tup [gZ (tV op a b).1,vI (tV op a b).2]):=by
 refine zR func198 O ntmps198 results198 O ?_
 intro z hz
 have hA:=n31 ha
 refine G O<|zV O O (qW O W) ?_
 rintro _ _ ⟨b1,rfl,rfl⟩
 refine mm O<|mo O O<|zW O (zBw O O ⟨zA,zA⟩)<|mm O<|zG<|ml O O<|zQ<|G O<|yF O<|mm O<|qK O (fun c1=>?_) (fun c1=>?_)
 ·have hB:=n31 (hb zA)
  have hm:=m31 hA.1 hA.2 hB.1 hB.2
  refine zT O<|A O<|A O<|qI O ⟨zA,zA⟩<|mm O<|zG<|mo O O<|zW O (yD O O O)<|A O<|rL0 O (fun g16_2=>zO O O) O<|rL1 44 O (fun g16_2=>zBb O O O) O<|r_or O (fun h=>(lzf h))<|Y<|zK O (fun c7=>?_) (fun c7=>?_)
  ·have hi:lB op a b=a+b:=intN1 c1
   exact t7
  ·have hi:lB op a b=a+b:=intN1 c1
   exact t6
 ·refine G O<|yF O<|mm O<|qK O (fun c2=>?_) (fun c2=>?_)
  ·have hB:=n31 (hb zA)
   have hm:=m31 hA.1 hA.2 hB.1 hB.2
   refine zT O<|A O<|A O<|zW O (yB O O O ⟨zA,zA⟩)<|mm O<|zG<|mo O O<|zW O (yD O O O)<|A O<|rL0 O (fun g16_2=>zO O O) O<|rL1 44 O (fun g16_2=>zBb O O O) O<|r_or O (fun h=>(lzf h))<|Y<|zK O (fun c7=>?_) (fun c7=>?_)
   ·have hi:lB op a b=a-b:=intN2 c2
    exact t7
   ·have hi:lB op a b=a-b:=intN2 c2
    exact t6
  ·refine G O<|yF O<|mm O<|qK O (fun c3=>?_) (fun c3=>?_)
   ·have hB:=n31 (hb zA)
    have hm:=m31 hA.1 hA.2 hB.1 hB.2
    refine zT O<|A O<|A O<|zW O (kC O O O ⟨zA,zA⟩)<|mm O<|zG<|mo O O<|zW O (yD O O O)<|A O<|rL0 O (fun g16_2=>zO O O) O<|rL1 44 O (fun g16_2=>zBb O O O) O<|r_or O (fun h=>(lzf h))<|Y<|zK O (fun c7=>?_) (fun c7=>?_)
    ·have hi:lB op a b=a*b:=intN3 c3
     exact t7
    ·have hi:lB op a b=a*b:=intN3 c3
     exact t6
   ·refine G O<|yF O<|mm O<|qK O (fun c4=>?_) (fun c4=>?_)
    ·have hB:=n31 (hb zA)
     have hm:=m31 hA.1 hA.2 hB.1 hB.2
     refine zG<|mo O O<|yF O<|Y<|qK O (fun c5=>?_) (fun c5=>?_)
     ·refine G O<|qU O W pl46<|rStR 0 L O<|mm O<|zF<|fin2 (zP yP O (J 0 O) O) (rs_c O) ?_
      first|(rw [zSv zA zA];rfl)|(rw [zSu hz hx];rfl)|(rw [zSs hz hx,hi];rfl)
     ·refine zI<|zG<|mo O O<|yI O<|Y<|zK O ?_ ?_<;>intro c6<;>try simp only [sx] at c6
      ·refine mo O O<|zW O (zBw O O ⟨zA,zA⟩)<|mm O<|zT O<|A O<|zW O (zBw O O ⟨zA,zA⟩)<|mm O<|zT O<|A O<|A O<|qD O uB (zGn (-a) (-b) zA zA zA) (vlr O)<|mm O<|zG<|mo O O<|zW O (yD O O O)<|A O<|rL0 O (fun g16_2=>zO O O) O<|rL1 44 O (fun g16_2=>zBb O O O) O<|r_or O (fun h=>(lzf h))<|Y<|zK O (fun c7=>?_) (fun c7=>?_)
       ·have hi:lB op a b= -a/ -b:=by rw [intN4 c4,posN_neg c6,show (b.natAbs:Int)= -b by omega]
        exact t7
       ·have hi:lB op a b= -a/ -b:=by rw [intN4 c4,posN_neg c6,show (b.natAbs:Int)= -b by omega]
        exact t6
      ·refine zI<|zT O<|A O<|A O<|qD O uB (zGn (a) (b) zA zA zA) (vlr O)<|mm O<|zG<|mo O O<|zW O (yD O O O)<|A O<|rL0 O (fun g16_2=>zO O O) O<|rL1 44 O (fun g16_2=>zBb O O O) O<|r_or O (fun h=>(lzf h))<|Y<|zK O (fun c7=>?_) (fun c7=>?_)
       ·have hi:lB op a b=a/b:=by rw [intN4 c4,posN_pos zA,show (b.natAbs:Int)=b by omega]
        exact t7
       ·have hi:lB op a b=a/b:=by rw [intN4 c4,posN_pos zA,show (b.natAbs:Int)=b by omega]
        exact t6
    ·refine zI<|zG<|mo O O<|zW O (yD O O O)<|A O<|rL0 O (fun g16_2=>zO O O) O<|rL1 44 O (fun g16_2=>zBb O O O) O<|r_or O (fun h=>(lzf h))<|Y<|zK O (fun c7=>?_) (fun c7=>?_)
     ·have hi:lB op a b= -a:=intN5 zA
      exact t7
     ·have hi:lB op a b= -a:=intN5 zA
      exact t6
end Go.W
end
section
set_option maxRecDepth 10000
namespace Go.W
open Go Go.Eng Go.Proofs Go.L41 Go.Br Tryz
attribute [local irreducible] AWP RWP TD fK
def zXf (t:Ty) (v:Vl):
    Pur cfg 169 [vTy t,gZ v] (vB (dD t&&bQ t v)):=by
 refine zR func169 O ntmps169 results169 O fun z hz=>G O<|mj O fun b1=>mj O fun b2=>mm O<|G O<|zM yE (J 1 O) O<|qD O uB (zEf t) (vlr O)<|A O<|rL0 O (fun g1_2=>zU O yE O (J 1 O) O) O<|rL0 O (fun g1_2=>zU O yP O (J 0 O) O) O<|rLz [(8,_),(9,_)] O gv1 ⟨O,O,O,O,T⟩ (fun g1_2=>qG O uB (zHr t v (by simpa [Lz] using g1_2)) (vlr O)) O<|yT O (fun h=>h)<|mm O<|zF<|zS O ?_
 exact O
def zPv (t:Ty) (a b:Vl):
    Pur cfg 151 [vTy t,gZ a,gZ b] (vI (sC t a b)):=by
 refine zR func151 O ntmps151 results151 O fun z hz=>G O<|mj O fun b1=>mj O fun b2=>mj O fun b3=>mm O<|zG<|G O<|zM yE (J 2 O) O<|zM yP (J 1 O) O<|qD O uB (zXf t a) (vlr O)<|kO O<|A O<|rL0 O (fun g1_4=>zU O yE O (J 2 O) O) O<|rL0 O (fun g1_4=>zU O yP O (J 0 O) O) O<|rLz [(12,_),(13,_)] O gv1 ⟨O,O,O,O,T⟩ (fun g1_4=>qG O uB (zXf t b) (vlr O)) O<|rL1 14 O (fun g1_4=>kG O O) O<|r_or O (fun h=>(lzf h))<|Y<|zK O (fun c1=>?_) (fun c1=>?_)
 ·have c1:(!(dD t&&bQ t a)|| !(dD t&&bQ t b))=true:=c1
  refine ml O O<|zF<|zS O ?_
  rw [cmp_no c1]
 ·have c1:(!(dD t&&bQ t a)|| !(dD t&&bQ t b))=false:=c1
  obtain ⟨ga,gb⟩:=both_ok c1
  have ha:=(zNr (ae _ _ ▸ ga).1 (ae _ _ ▸ ga).2).2.2
  have hb:=(zNr (ae _ _ ▸ gb).1 (ae _ _ ▸ gb).2).2.2
  refine zI<|G O<|zM yP (J 1 O) O<|zM yP (J 0 O) O<|qD O uB (ref01_Compare a b ha hb) (vlr O)<|mm O<|zF<|zS O ?_
  rw [cmp_yes ga gb]
def ref04_Value (t:Ty) (a:Vl) (ht:dD t=true) (ha:bQ t a=true):
    Pur cfg 192 [vTy t,gZ a] (gZ (jJ t a)):=by
 refine zR func192 O ntmps192 results192 O fun z hz=>G O<|mj O fun b1=>mj O fun b2=>zV O O (qW O W) ?_
 rintro _ _ ⟨b3,rfl,rfl⟩
 refine Y<|zG<|G O<|zC O zEc<|zH one3 (J 2 O) O<|yF O<|Y<|qK O (fun c1=>?_) (fun c1=>?_)
 ·have hf:fP t=true:=by rw [←zAw uA];exact ht
  have hA:=fxN hf ha
  have hT:=fxT hf
  have hT1:=hT.p1
  have hT2:=hT.p2
  refine kK 9 0 [⟨0,.q []⟩,⟨1,.q [1]⟩,⟨2,.q [2]⟩,⟨3,.q []⟩,⟨4,.q []⟩,⟨5,.q []⟩,⟨6,.q []⟩,⟨7,.q []⟩,⟨8,.e 1 []⟩] mixed uB uB O O O<|zX O<|zX O<|zX O<|zX O<|zX O<|zX O<|zX O<|zX O<|zX O<|zBj<|mq O (zE O zAg O)<|mq O (zD O U O (J 0 O) O)<|mq O (zU O yE O (J 0 O) O)<|mq O (qG O uB (zIg t hf) (vlr O))<|mq O (qG O uB (zLm a.N (jY t.Frac) ⟨zA,zA⟩ ⟨zA,zA⟩) (vlr O))<|mq O (kJ O O)<|mq O (wG O O O)<|mq O (wF O O O)<|zGl O O zB O O (yM O L O O O (zFu 0 O O)) ?_
  rintro _ _ ⟨rfl,rfl⟩
  refine ⟨_,O,?_⟩
  refine zBe O<|Y<|G O<|zM yP (J 1 O) O<|rStR 0 L O<|Y<|zF<|fin1 (zP yP O (J 0 O) O) ?_
  rw [fracV_2 c1];rfl
 ·refine zI<|G O<|zM yP (J 1 O) O<|rStR 0 L O<|Y<|zF<|fin1 (zP yP O (J 0 O) O) ?_
  rw [fracV_n c1];rfl
def zOm (op:Int) (t:Ty) (a b:Vl):
    Pur cfg 168 [vI op,vTy t,gZ a,gZ b] (.tup [gZ (mO op t a b).1,vI (mO op t a b).2]):=by
 refine zR func168 O ntmps168 results168 O fun z hz=>G O<|mj O fun b1=>mj O fun b2=>mj O fun b3=>zV O O (qW O W) ?_
 rintro _ _ ⟨b4,rfl,rfl⟩
 refine mm O<|zG<|mo O O<|yI O<|A O<|rL0 O (fun g1_2=>zO O O) O<|rL1 13 O (fun g1_2=>yD O O O) O<|r_or O (fun h=>(lzf h))<|Y<|zK O (fun c1=>?_) (fun c1=>?_)
 ·refine G O<|qU O W pl46<|rStR 0 L O<|mm O<|zF<|fin2 (zP yP O (J 0 O) O) (rs_c O) ?_
  rw [apl1 c1];rfl
 ·refine zI<|zG<|G O<|zM yE (J 3 O) O<|qD O uB (zEf t) (vlr O)<|kO O<|Y<|zK O ?_ ?_<;>intro c2<;>try simp only [sx] at c2
  ·have ht:dD t=false:=by simpa using c2
   refine G O<|qU O W pl46<|rStR 0 L O<|mm O<|zF<|fin2 (zP yP O (J 0 O) O) (rs_c O) ?_
   rw [apl2 c1 ht];rfl
  ·have ht:dD t=true:=by simpa using c2
   refine zI<|zG<|G O<|zM yE (J 3 O) O<|zM yP (J 2 O) O<|qD O uB (zHr t a ht) (vlr O)<|kO O<|A O<|rL0 O (fun g5_4=>zO O O) O<|rL1 26 O (fun g5_4=>kB O O O) O<|rL1 27 O (fun g5_4=>zO O O) O<|rLz [] O gv2 T (fun g5_7=>zU O yE O (J 3 O) O) O<|rLz [] O gv2 T (fun g5_7=>zU O yP O (J 1 O) O) O<|rLz [(29,_),(30,_)] O gv2 ⟨O,O,O,O,T⟩ (fun g5_7=>qG O uB (zHr t b ht) (vlr O)) O<|rLz [(31,_)] O gv2 ⟨O,O,T⟩ (fun g5_7=>kG O O) O<|rL1 28 O (fun g5_4=>wA O O O (fun h=>kD uA h) O) O<|r_or O (fun h=>(lzf h))<|Y<|zK O (fun c3=>?_) (fun c3=>?_)
   ·have c3:(!bQ t a||(!decide (op=8)&& !bQ t b))=true:=c3
    refine G O<|qU O W pl46<|rStR 0 L O<|mm O<|zF<|fin2 (zP yP O (J 0 O) O) (rs_c O) ?_
    rw [apl3 c1 ht c3];rfl
   ·have c3:(!bQ t a||(!decide (op=8)&& !bQ t b))=false:=c3
    obtain ⟨ha,hb⟩:=apl_ok c3
    have hr:=apl_rng c1
    have hfa:=(zNr ht ha).2.2
    refine zI<|zG<|mo O O<|yF O<|A O<|rL0 O (fun g7_2=>zO O O) O<|rL1 39 O (fun g7_2=>yN O O O) O<|r_or O (fun h=>(lzf h))<|Y<|zK O (fun c4=>?_) (fun c4=>?_)
    ·have h8:¬op=8:=by simp at c4;omega
     refine zG<|G O<|zM yE (J 3 O) O<|zM yP (J 2 O) O<|zM yP (J 1 O) O<|qD O uB (zPv t a b) (vlr O)<|zW O (yD O O O)<|A O<|yF O<|zW O (det_beql O un4 O O)<|Y<|zK O (fun c5=>?_) (fun c5=>?_)
     ·refine G O<|zM yP (J 1 O) O<|rStR 0 L O<|mm O<|zF<|fin2 (zP yP O (J 0 O) O) (rs_c O) ?_
      rw [apl6 c1 ht c3 c4]
      exact ag (fun x=>V.tup [gZ x,vI 0]) (by rw [c5];rfl)
     ·refine zI<|G O<|zM yP (J 2 O) O<|rStR 0 L O<|mm O<|zF<|fin2 (zP yP O (J 0 O) O) (rs_c O) ?_
      rw [apl6 c1 ht c3 c4]
      exact ag (fun x=>V.tup [gZ x,vI 0]) (by rw [c5];rfl)
    ·have hm:=c4
     have hop:op<=8:=by simp at c4;omega
     refine zI<|zG<|G O<|zC O zEc<|zH one3 (J 3 O) O<|yF O<|Y<|qK O (fun c6=>?_) (fun c6=>?_)
     ·have hf:fP t=true:=by rw [←zAw c6];exact ht
      refine mo O O<|zM yE (J 3 O) O<|zC O zAg<|zH U (J 2 O) O<|zC O zAg<|zH U (J 1 O) O<|qD O uB (ref04_fix op t a.N b.N hf (fxN hf ha) (fun h8=>fxN hf (hb h8)) zA zA) (vlr O)<|yG O<|qS O<|rStR 0 L O<|mm O<|zF<|fin2 (zP yP O (J 0 O) O) (rs_c O) ?_
      rw [apl5 c1 ht c3 hm,ari2 c6];rfl
     ·refine zI<|zG<|G O<|zC O zEc<|zH one3 (J 3 O) O<|yF O<|Y<|qK O (fun c7=>?_) (fun c7=>?_)
      ·refine mo O O<|zC O zAg<|zH U (J 2 O) O<|zC O zAg<|zH U (J 1 O) O<|qD O uB (ref04_whole op a.N b.N (fr31 hfa) (fun h8=>fr31 (zNr ht (hb h8)).2.2) zA zA) (vlr O)<|yG O<|qS O<|rStR 0 L O<|mm O<|zF<|fin2 (zP yP O (J 0 O) O) (rs_c O) ?_
       rw [apl5 c1 ht c3 hm,ari3 c7];rfl
      ·refine zI<|zG<|ml O O<|zQ<|G O<|yF O<|mm O<|qK O (fun c8=>?_) (fun c8=>?_)
       ·refine G O<|zM yP (J 2 O) O<|zM yP (J 1 O) O<|qD O uB (ref01_Add a b) (vlr O)<|yG O<|qS O<|rStR 0 L O<|mm O<|zF<|fin2 (zP yP O (J 0 O) O) (rs_c O) ?_
        rw [apl5 c1 ht c3 hm,ari1 c6 c7]
        subst c8
        rw [zLy hfa (zNr ht (hb zB)).2.2];rfl
       ·refine G O<|yF O<|mm O<|qK O (fun c9=>?_) (fun c9=>?_)
        ·refine G O<|zM yP (J 2 O) O<|zM yP (J 1 O) O<|qD O uB (ref01_Sub a b) (vlr O)<|yG O<|qS O<|rStR 0 L O<|mm O<|zF<|fin2 (zP yP O (J 0 O) O) (rs_c O) ?_
         rw [apl5 c1 ht c3 hm,ari1 c6 c7]
         subst c9
         rw [zLy hfa (zNr ht (hb zB)).2.2];rfl
        ·refine G O<|yF O<|mm O<|qK O (fun c10=>?_) (fun c10=>?_)
         ·refine G O<|zM yP (J 2 O) O<|zM yP (J 1 O) O<|qD O uB (ref01_Mul a b) (vlr O)<|yG O<|qS O<|rStR 0 L O<|mm O<|zF<|fin2 (zP yP O (J 0 O) O) (rs_c O) ?_
          rw [apl5 c1 ht c3 hm,ari1 c6 c7]
          subst c10
          rw [zLy hfa (zNr ht (hb zB)).2.2];rfl
         ·refine G O<|yF O<|mm O<|qK O (fun c11=>?_) (fun c11=>?_)
          ·refine G O<|zM yP (J 2 O) O<|zM yP (J 1 O) O<|qD O uB (ref01_Div a b) (vlr O)<|yG O<|qS O<|rStR 0 L O<|mm O<|zF<|fin2 (zP yP O (J 0 O) O) (rs_c O) ?_
           rw [apl5 c1 ht c3 hm,ari1 c6 c7]
           subst c11
           rw [zLy hfa (zNr ht (hb zB)).2.2];rfl
          ·refine zI<|G O<|zM yP (J 2 O) O<|qD O uB (ref01_Neg a hfa) (vlr O)<|rStR 0 L O<|mm O<|zF<|fin2 (zP yP O (J 0 O) O) (rs_c O) ?_
           have ho:op=8:=by omega
           rw [apl5 c1 ht c3 hm,ari1 c6 c7]
           subst ho
           rfl
def ref04_Cast (f t:Ty) (v:Vl):
    Pur cfg 167 [vTy f,vTy t,gZ v] (.tup [gZ (pF f t v).1,vI (pF f t v).2]):=by
 refine zR func167 O ntmps167 results167 O fun z hz=>G O<|mj O fun b1=>mj O fun b2=>mj O fun b3=>zV O O (qW O W) ?_
 rintro _ _ ⟨b4,rfl,rfl⟩
 refine mm O<|zG<|G O<|zM yE (J 3 O) O<|qD O uB (zEf f) (vlr O)<|kO O<|A O<|rL0 O (fun g1_3=>zU O yE O (J 2 O) O) O<|rL1 13 O (fun g1_3=>qG O uB (zEf t) (vlr O)) O<|rL1 14 O (fun g1_3=>kG O O) O<|r_or O (fun h=>(lzf h))<|Y<|zK O (fun c1=>?_) (fun c1=>?_)
 ·have c1:(!dD f|| !dD t)=true:=c1
  refine G O<|qU O W pl46<|rStR 0 L O<|mm O<|zF<|fin2 (zP yP O (J 0 O) O) (rs_c O) ?_
  rw [cst1 c1];rfl
 ·have c1:(!dD f|| !dD t)=false:=c1
  have hf:dD f=true:=by cases h:dD f;rw [h] at c1;cases c1;rfl
  have ht:dD t=true:=by cases h:dD t;rw [h,hf] at c1;cases c1;rfl
  refine zI<|zG<|G O<|zM yE (J 3 O) O<|zM yP (J 1 O) O<|qD O uB (zHr f v hf) (vlr O)<|kO O<|Y<|zK O ?_ ?_<;>intro c2<;>try simp only [sx] at c2
  ·have hv:bQ f v=false:=by simpa using c2
   refine G O<|qU O W pl46<|rStR 0 L O<|mm O<|zF<|fin2 (zP yP O (J 0 O) O) (rs_c O) ?_
   rw [cst2 c1 hv];rfl
  ·have hv:bQ f v=true:=by simpa using c2
   have hfr:=fracV_ok hf hv
   obtain ⟨a1,a2,a3,a4,_⟩:=zYn hfr
   refine zI<|G O<|zM yE (J 3 O) O<|zM yP (J 1 O) O<|qD O uB (ref04_Value f v hf hv) (vlr O)<|zV O O (qW O W) ?_
   rintro _ _ ⟨b5,rfl,rfl⟩
   refine rStR 0 L O<|Y<|zG<|G O<|zC O zEc<|zH one3 (J 3 O) O<|yF O<|Y<|qK O (fun c3=>?_) (fun c3=>?_)
   ·refine G O<|zC O zAg<|zH U (J 0 O) O<|zC O zAu<|zH U (J 0 O) O<|qD O uB (zGn (jJ f v).N (jJ f v).D zA zA zA) (vlr O)<|qU O W pl46<|rStR 1 L O<|mm O<|zF<|fin2 (zP yP O (J 1 O) O) (rs_c O) ?_
    rw [cst3 c1 hv c3];rfl
   ·refine zI<|zG<|G O<|zC O zEc<|zH one3 (J 3 O) O<|yF O<|Y<|qK O (fun c4=>?_) (fun c4=>?_)
    ·have hft:fP t=true:=by rw [←zAw c4];exact ht
     have hT:=fxT hft
     have hT1:=hT.p1
     have hT2:=hT.p2
     have hm:=m60 (B:=2147483647) (x:=(jJ f v).N) zA (show 0<=jY t.Frac by omega) hT2
     have hr:=rnd_b (n:=(jJ f v).N*jY t.Frac) (how:=t.Round) (show 0<(jJ f v).D by omega)
     refine zG<|qV 12 mixed uB O O<|mr O (zU O yE O (J 3 O) O)<|mr O (zE O zAg O)<|mr O (zD O U O (J 0 O) O)<|mr O (zU O yE O (J 3 O) O)<|mr O (qG O uB (zIg t hft) (vlr O))<|mr O (kC O O O ⟨zA,zA⟩)<|mr O (zE O zAu O)<|mr O (zD O U O (J 0 O) O)<|mr O (zE O zMa O)<|mr O (zD O one3 O (J 3 O) O)<|mr O (qG O uB (zJl ((jJ f v).N*jY t.Frac) (jJ f v).D t.Round zA zA zA) (vlr O))<|mr O (qG O uB (zGo t (rnd ((jJ f v).N*jY t.Frac) (jJ f v).D t.Round) hft zA) (vlr O))<|yQ<|rStR 1 L O<|mm O<|zF<|fin2 (zP yP O (J 1 O) O) (rs_c O) ?_
     rw [cst4 c1 hv c3 c4];rfl
    ·refine zI<|G O<|zM yP (J 0 O) O<|rStR 1 L O<|mm O<|zF<|fin2 (zP yP O (J 1 O) O) (rs_c O) ?_
     rw [cst5 c1 hv c3 c4];rfl
end Go.W
end
section
set_option maxRecDepth 10000
namespace Go.W
open Go Go.Eng Go.Proofs Go.L41 Go.Br Tryz
attribute [local irreducible] AWP RWP TD fK
def awp_seqJ {X:Cfg} {n:Nat} {z:Z} {Q:Exit->S->Prop} {x y:Code} {regs:List (Nat×V)} {μ:List E} (μ':List E) (h:AWP X n z x (fun e τ=>e=.normal/\Weak τ ⟨regs,μ'⟩) ⟨regs,μ⟩) (k:AWP X n z y Q ⟨regs,μ'⟩):AWP X n z (.seq x y) Q ⟨regs,μ⟩:=
  zG (awp_mono h fun e τ ⟨he,hw⟩=>by subst he;exact zY _ hw k)
def det_usub {X:Cfg} {o:Oper} {e:lv->V} {μ:List E} {t ty:lu} {x y:lv} {a b:Nat} (ho:o.op=.binOp .sub t x y ty) (hx:e x=vUn a) (hy:e y=vUn b) (h:b<=a/\a<18446744073709551616):Det X o e μ (vUn (a-b)) μ:=by
  have h1:=zOu (X:=X) (μ:=μ) ho hx hy
  rw [←Int.ofNat_sub h.1,zUr zA] at h1
  exact h1
def zEh:nE prog 276=some 6:=by kernel_rfl
def zFn:eI prog 276=some (6,154,1):=by kernel_rfl
def fd147_1:bO prog 147 1=some (1,2):=by kernel_rfl
def zCs:mM prog 154=true:=by kernel_rfl
def sz154:(prog.info? 154).map (·.size)=some 1:=by kernel_rfl
def zTz:(prog.info? 276).map (·.size)=some 6:=by kernel_rfl
def zr276:fL prog 276=some [(Value.int IntKind.u64 0),(Value.int IntKind.u64 0),(Value.int IntKind.u64 0),(Value.int IntKind.u64 0),(Value.int IntKind.u64 0),(Value.int IntKind.u64 0)]:=by kernel_rfl
def ref05_Validate (l:Lf) (hl:l.L.length<=5864062014805):
    Pur cfg 221 [dK l] (vI (dY l)):=by
 refine zR func221 O ntmps221 results221 O fun z hz=>G O<|mj O fun b1=>mm O<|zG<|G O<|zM kQ (J 0 O) O<|qD O uB (zGb l zA) (vlr O)<|kO O<|Y<|zK O ?_ ?_<;>intro c1<;>try simp only [sx] at c1
 ·refine ml O O<|zF<|zS O ?_
  rw [show dY l=1 by unfold dY;rw [c1];rfl]
 ·refine zI<|ml O O<|zF<|zS O ?_
  rw [show dY l=0 by unfold dY;rw [c1];rfl]
def zGc (n:Int) (hn:r64 n):
    Pur cfg 223 [vI n] (vUn n.natAbs):=by
 refine zR func223 O ntmps223 results223 O ?_
 intro z hz
 unfold r64 at hn
 refine ml O O<|zG<|mo O O<|yI O<|Y<|zK O ?_ ?_<;>intro c1<;>try simp only [sx] at c1
 ·refine mo O O<|qI O ⟨zA,zA⟩<|zW O (zBw O O ⟨zA,zA⟩)<|zW O (zIt O us2 ik154 O (show IntKind.u64.wrap (-(n+1))=(((-(n+1)).toNat:Nat):Int) by rw [u64_eq];omega))<|zW O (zEe (b:=1) O O O zA)<|mm O<|zF<|zS O ?_
  exact ag vUn zA
 ·refine zI<|mo O O<|zW O (zIt O us2 ik154 O (show IntKind.u64.wrap n=((n.natAbs:Nat):Int) by rw [u64_eq];omega))<|mm O<|zF<|zS O ?_
  rfl
def zJk (w:List Nat) (at_ N:Nat) (hw:w.length=6) (ho:jD w) (ha:at_<=6) (hN:N<18446744073709551616):
    Pur cfg 250 [vW w,vI at_,vUn N] (vW (jL w at_ N)):=by
 refine zR func250 O ntmps250 results250 O fun z hz=>G O<|mj O fun b1=>zV O O (qW O zr276) ?_
 rintro _ _ ⟨b2,rfl,rfl⟩
 refine Y<|ml O O<|zG<|mo O O<|mm O<|zQ<|zY ⟨[(8,.c _),(7,.c _),(2,.c _),(3,.c _),(6,.c _)],[_,_]⟩ (Weak.mk [true,true] ⟨zJ,zJ,zJ,zJ,zJ,T⟩ O)<|qL 3 2 O O (Nat×List Nat×Nat×Nat) (fun ⟨i,ds,c,n⟩=>[(8,vI i),(7,vUn c),(2,vUn n)]) (fun ⟨i,ds,c,n⟩=>[E.row b2 276 (dg0.map cU),E.row b1 276 (ds.map cU)]) (fun ⟨i,ds,c,n⟩=>i<=6/\ds.length=6/\jD ds/\c<=2/\n<18446744073709551616/\jL w at_ N=ds.take i++lX (ds.drop i) c n) (fun ⟨i,ds,c,n⟩=>6-i) ⟨⟨at_,w,0,N⟩,⟨ha,hw,ho,zB,hN,O⟩,Weak.mk [true,true] ⟨zJ,zJ,zJ,zJ,zJ,T⟩ O⟩ ?_
 rintro ⟨i,ds,c,n⟩ ⟨hi,hl,hd,hc,hn,hq⟩
 refine zG<|mo O O<|yI O<|Y<|zK O ?_ ?_<;>intro c1<;>try simp only [sx] at c1
 ·obtain ⟨x,hx⟩:=qZ ds i zA
  have hxl:=hd x (qA hx)
  refine zI<|zG<|zQ<|mo O O<|zW O (yZ O zFn O O zA zA)<|zW O (zD O zCs O (J 1 O) (zHy hx))<|A O<|zW O (zVj (b:=4294967296) O O O zB)<|zW O (zEe O O O zA)<|A O<|zW O (zEe O O O zA)<|mm O<|mo O O<|A O<|zW O (zVj (b:=4294967296) O O O zB)<|zW O (yZ O zFn O O zA zA)<|kS O O (yM O sz154 O O O (zGk 1 O (dg_le zA _) (dg_spl zA)))<|Y<|mo O O<|zW O (zNh (b:=4294967296) O O O ⟨zB,zA⟩)<|mm O<|zT O<|A O<|zW O (zNh (b:=4294967296) O O O ⟨zB,hn⟩)<|mm O<|zT O<|A O<|qI O ⟨zA,zA⟩<|A O<|Y ?_
  refine ⟨⟨i+1,ds.set i ((x+n%4294967296+c)%4294967296),(x+n%4294967296+c)/4294967296,n/4294967296⟩,⟨zA,by rw [ed];exact hl,dgOk_set hd (iO _ zB),zA,zA,dgt_next hq hx⟩,(by show 6-(i+1)<6-i;omega),Weak.mk [true,true] ⟨zJ,zJ,zJ,zJ,zJ,T⟩ O⟩
 ·have hE:=dgt_end hq zA
  obtain ⟨a1,a2,a3,a4,a5,a6,rfl⟩:=dg_six hl
  refine qO<|G O<|zM zEh (J 1 O) O<|rStR 0 zTz O<|Y<|zF<|fin1 (zP zEh O (J 0 O) O) ?_
  rw [hE];rfl
def zMt (w:List Nat) (a b:Nat) (hw:w.length=6) (ho:jD w) (ha:a<18446744073709551616) (hb:b<18446744073709551616):
    Pur cfg 222 [vW w,vUn a,vUn b] (vW (tT w a b)):=by
 refine zR func222 O ntmps222 results222 O ?_
 intro z hz
 obtain ⟨p1,p2,p3,p4⟩:=part_le ha hb
 have l1:=zEq (at_:=0) (N:=a%4294967296*(b%4294967296)) hw ho
 have o1:jD (jL w 0 (a%4294967296*(b%4294967296))):=zCj ho
 have l2:(jL (jL w 0 (a%4294967296*(b%4294967296))) 1 (a%4294967296*(b/4294967296))).length=6:=zEq l1 o1
 have o2:jD (jL (jL w 0 (a%4294967296*(b%4294967296))) 1 (a%4294967296*(b/4294967296))):=zCj o1
 have l3:(jL (jL (jL w 0 (a%4294967296*(b%4294967296))) 1 (a%4294967296*(b/4294967296))) 1 (a/4294967296*(b%4294967296))).length=6:=zEq l2 o2
 have o3:jD (jL (jL (jL w 0 (a%4294967296*(b%4294967296))) 1 (a%4294967296*(b/4294967296))) 1 (a/4294967296*(b%4294967296))):=zCj o2
 have l4:=(zFv (a:=a) (b:=b) hw ho).1
 refine G O<|mj O fun b1=>zV O O (qW O zr276) ?_
 rintro _ _ ⟨b2,rfl,rfl⟩
 refine Y<|mo O O<|zW O (zVj (b:=4294967296) O O O zB)<|A O<|zW O (zNh (b:=4294967296) O O O ⟨zB,ha⟩)<|A O<|zW O (zVj (b:=4294967296) O O O zB)<|A O<|zW O (zNh (b:=4294967296) O O O ⟨zB,hb⟩)<|A O<|A O<|A O<|mm O<|G O<|zW O (wJ O zEh O (J 1 O) (zKk _) (zCt hw))<|A O<|A O<|zW O (zEz O O O zA)<|qD O uB (zJk w 0 _ hw ho zB zA) (vlr O)<|kS O O (yM O zTz O O (zZb l1) (zGk 1 O (zZa (zCt hw) l1) (zYz (zCt hw) l1)))<|Y<|G O<|zW O (wJ O zEh O (J 1 O) (zKk _) (zCt l1))<|A O<|A O<|zW O (zEz O O O zA)<|qD O uB (zJk (jL w 0 (a%4294967296*(b%4294967296))) 1 _ l1 o1 zB zA) (vlr O)<|kS O O (yM O zTz O O (zZb l2) (zGk 1 O (zZa (zCt l1) l2) (zYz (zCt l1) l2)))<|Y<|G O<|zW O (wJ O zEh O (J 1 O) (zKk _) (zCt l2))<|A O<|A O<|zW O (zEz O O O zA)<|qD O uB (zJk (jL (jL w 0 (a%4294967296*(b%4294967296))) 1 (a%4294967296*(b/4294967296))) 1 _ l2 o2 zB zA) (vlr O)<|kS O O (yM O zTz O O (zZb l3) (zGk 1 O (zZa (zCt l2) l3) (zYz (zCt l2) l3)))<|Y<|G O<|zW O (wJ O zEh O (J 1 O) (zKk _) (zCt l3))<|A O<|A O<|zW O (zEz O O O zA)<|qD O uB (zJk (jL (jL (jL w 0 (a%4294967296*(b%4294967296))) 1 (a%4294967296*(b/4294967296))) 1 (a/4294967296*(b%4294967296))) 2 _ l3 o3 zB zA) (vlr O) ?_
 obtain ⟨a1,a2,a3,a4,a5,a6,h6⟩:=dg_six l4
 have h6:jL (jL (jL (jL w 0 (a%4294967296*(b%4294967296))) 1 (a%4294967296*(b/4294967296))) 1 (a/4294967296*(b%4294967296))) 2 (a/4294967296*(b/4294967296))=[a1,a2,a3,a4,a5,a6]:=h6
 rw [h6]
 refine rStR 0 zTz O<|Y<|zF<|fin1 (zP zEh O (J 0 O) O) ?_
 rw [show tT w a b=[a1,a2,a3,a4,a5,a6] from h6];rfl
def ref05_find (env:List Bd) (s:lr) (hel:env.length<=1000000):
    Pur cfg 224 [lN env,vS s] (.tup [vI ((jW env s).getD 0),vB (jW env s).isSome]):=by
 refine zR func224 O ntmps224 results224 O fun z hz=>mo O O<|mm O<|zG<|ml O O<|zQ<|zY ⟨[(6,.c _),(0,.c _),(1,.c _)],[]⟩ (Weak.mk [] ⟨zJ,zJ,zJ,T⟩ O)<|qL 1 0 O O (Nat) (fun k=>[(6,vI k)]) (fun k=>[]) (fun k=>k<=env.length/\((env.take k).any (fun y=>decide (y.Name=s))=false)) (fun k=>env.length-k) ⟨0,⟨zA,O⟩,Weak.mk [] ⟨zJ,zJ,zJ,T⟩ O⟩ ?_
 rintro k ⟨hk,hp⟩
 refine zG<|mo O O<|A O<|qB O zYw<|yI O<|Y<|zK O ?_ ?_<;>intro c1<;>try simp only [sx] at c1
 ·obtain ⟨x,hx⟩:=qZ env k zA
  refine zI<|zG<|zQ<|mo O O<|A O<|qC O zYw zA (getm hx)<|qR O fd147_0<|zH one9 zZ O<|A O<|wP O<|Y<|zK O ?_ ?_<;>intro c2<;>try simp only [sx] at c2
  ·refine mo O O<|A O<|qC O zYw zA (getm hx)<|qR O fd147_1<|zH U zZ O<|A O<|mm O<|zF<|fin2 (rs_c O) (rs_c O) ?_
   rw [env_at hx c2 hp];rfl
  ·refine zI<|zT O<|A O<|qI O ⟨zA,zA⟩<|A O<|Y ?_
   refine ⟨k+1,⟨zA,zRl hx hp (aB c2)⟩,zA,Weak.mk [] ⟨zJ,zJ,zJ,T⟩ O⟩
 ·refine qO<|mo O O<|mm O<|zF<|fin2 (rs_c O) (rs_c O) ?_
  rw [yW zA] at hp
  rw [env_no hp];rfl
def ref05_less (a b:List Nat) (h1:a.length=6) (h2:b.length=6) (ha:jD a) (hb:jD b):
    Pur cfg 225 [vW a,vW b] (vB (decide (dgV a<dgV b))):=by
 refine zR func225 O ntmps225 results225 O fun z hz=>G O<|mj O fun b1=>mj O fun b2=>mm O<|zG<|ml O O<|zQ<|zY ⟨[(5,.c _),(2,.c _),(3,.c _)],[_,_]⟩ (Weak.mk [true,true] ⟨zJ,zJ,zJ,T⟩ O)<|qL 1 0 O O (Nat) (fun q=>[(5,vI ((q:Int)-1))]) (fun q=>[]) (fun q=>q<=6/\a.drop q=b.drop q) (fun q=>q) ⟨6,⟨aH _,by rw [ci zA,ci zA]⟩,Weak.mk [true,true] ⟨zJ,zJ,zJ,T⟩ O⟩ ?_
 rintro q ⟨hk,hq⟩
 refine zG<|mo O O<|zW O (wH O O O)<|Y<|zK O ?_ ?_<;>intro c1<;>try simp only [sx] at c1
 ·obtain ⟨j,rfl⟩:∃j,q=j+1:=⟨q-1,zA⟩
  obtain ⟨x,hx⟩:=qZ a j zA
  obtain ⟨y,hy⟩:=qZ b j zA
  rw [show (((j+1:Nat):Int)-1)=(j:Int) by omega]
  refine zI<|zG<|zQ<|zG<|qV 7 mixed uB O O<|mr O (zO O O)<|mr O (yZ O zFn O O zA zA)<|mr O (zD O zCs O (J 1 O) (zHy hx))<|mr O (zO O O)<|mr O (yZ O zFn O O zA zA)<|mr O (zD O zCs O (J 0 O) (zHy hy))<|mr O (kB O O O)<|yQ<|Y<|zK O ?_ ?_<;>intro c2<;>try simp only [sx] at c2
  ·refine zG<|qV 8 mixed uB O O<|mr O (zO O O)<|mr O (yZ O zFn O O zA zA)<|mr O (zD O zCs O (J 1 O) (zHy hx))<|mr O (zO O O)<|mr O (yZ O zFn O O zA zA)<|mr O (zD O zCs O (J 0 O) (zHy hy))<|mr O (zBb O O O)<|mr O (qY O O)<|yQ<|Y<|zF<|zS O ?_
   rw [←dg_less (h1.trans h2.symm) ha hb hx hy zA hq]
   exact ag vB (da.2 zA)
  ·obtain rfl:x=y:=by omega
   refine zI<|zT O<|A O<|zW O (yB O O O ⟨zA,zA⟩)<|A O<|Y ?_
   refine ⟨j,⟨zA,dg_step hx hy hq⟩,zA,Weak.mk [true,true] ⟨VLe.of_eq ((ag vI zA)),zJ,zJ,T⟩ O⟩
 ·obtain rfl:q=0:=by omega
  refine qO<|ml O O<|zF<|zS O ?_
  rw [dg_same hq]
def zXe (a b:List Nat) (h1:a.length=6) (h2:b.length=6) (ha:jD a) (hb:jD b):
    Pur cfg 226 [vW a,vW b] (vW (vO a b)):=by
 refine zR func226 O ntmps226 results226 O fun z hz=>G O<|mj O fun b1=>mj O fun b2=>zV O O (qW O zr276) ?_
 rintro _ _ ⟨b3,rfl,rfl⟩
 refine Y<|ml O O<|zG<|ml O O<|zQ<|zY ⟨[(6,.c _),(5,.c _),(2,.c _),(3,.c _),(4,.c _)],[_,_,_]⟩ (Weak.mk [true,true,true] ⟨zJ,zJ,zJ,zJ,zJ,T⟩ O)<|qL 2 3 O O (Nat×List Nat×Nat) (fun ⟨i,ds,c⟩=>[(6,vI i),(5,vUn c)]) (fun ⟨i,ds,c⟩=>[E.row b3 276 (dg0.map cU),E.row b2 276 (b.map cU),E.row b1 276 (ds.map cU)]) (fun ⟨i,ds,c⟩=>i<=6/\ds.length=6/\jD ds/\c<=1/\vO a b=ds.take i++mB (ds.drop i) (b.drop i) c) (fun ⟨i,ds,c⟩=>6-i) ⟨⟨0,a,0⟩,⟨zB,h1,ha,zB,O⟩,Weak.mk [true,true,true] ⟨zJ,zJ,zJ,zJ,zJ,T⟩ O⟩ ?_
 rintro ⟨i,ds,c⟩ ⟨hi,hl,hd,hc,hq⟩
 refine zG<|mo O O<|yI O<|Y<|zK O ?_ ?_<;>intro c1<;>try simp only [sx] at c1
 ·obtain ⟨x,hx⟩:=qZ ds i zA
  obtain ⟨y,hy⟩:=qZ b i zA
  have hxl:=hd x (qA hx)
  have hyl:=hb y (qA hy)
  refine zI<|zG<|zQ<|mo O O<|zW O (yZ O zFn O O zA zA)<|zW O (zD O zCs O (J 1 O) (zHy hy))<|A O<|zW O (zEe O O O zA)<|mm O<|ml O O<|zG<|mo O O<|zW O (yZ O zFn O O zA zA)<|zW O (zD O zCs O (J 2 O) (zHy hx))<|A O<|yI O<|Y<|zK O ?_ ?_<;>intro c2<;>try simp only [sx] at c2
  ·have hx2:(ds.set i (x+4294967296))[i]? =some (x+4294967296):=dk zA
   have hx3:i<(ds.set i (x+4294967296)).length:=by rw [ed];omega
   refine mo O O<|zW O (yZ O zFn O O zA zA)<|zW O (zD O zCs O (J 2 O) (zHy hx))<|zW O (zEe (b:=4294967296) O O O zA)<|zW O (yZ O zFn O O zA zA)<|kS O O (yM O sz154 O O O (zGk 2 O (dg_le zA _) (dg_spl zA)))<|Y<|zT O<|mm O<|zT O<|A O<|zW O (yZ O zFn O O zA zA)<|zW O (zD O zCs O (J 2 O) (zHy hx2))<|A O<|zW O (det_usub O O O ⟨zA,zA⟩)<|zW O (yZ O zFn O O zA zA)<|kS O O (yM O sz154 O O O (zGk 2 O (dg_le hx3 _) (dg_spl hx3)))<|Y<|zT O<|A O<|qI O ⟨zA,zA⟩<|A O<|Y ?_
   refine ⟨⟨i+1,ds.set i (x+4294967296-(y+c)),1⟩,⟨zA,by rw [ed];exact hl,dgOk_set hd zA,zB,mns_next hq hx hy (by rw [ab zA]) (by rw [ab zA])⟩,(by show 6-(i+1)<6-i;omega),Weak.mk [true,true,true] ⟨zJ,zJ,zJ,zJ,zJ,T⟩ (by rw [fz];rfl)⟩
  ·have hx2:=hx
   have hx3:i<ds.length:=by omega
   refine zI<|zT O<|A O<|zW O (yZ O zFn O O zA zA)<|zW O (zD O zCs O (J 2 O) (zHy hx2))<|A O<|zW O (det_usub O O O ⟨zA,zA⟩)<|zW O (yZ O zFn O O zA zA)<|kS O O (yM O sz154 O O O (zGk 2 O (dg_le hx3 _) (dg_spl hx3)))<|Y<|zT O<|A O<|qI O ⟨zA,zA⟩<|A O<|Y ?_
   refine ⟨⟨i+1,ds.set i (x-(y+c)),0⟩,⟨zA,by rw [ed];exact hl,dgOk_set hd zA,zB,mns_next hq hx hy (by rw [aa zA]) (by rw [aa zA])⟩,(by show 6-(i+1)<6-i;omega),Weak.mk [true,true,true] ⟨zJ,zJ,zJ,zJ,zJ,T⟩ O⟩
 ·have hE:=mns_end hq zA
  obtain ⟨a1,a2,a3,a4,a5,a6,rfl⟩:=dg_six hl
  refine qO<|G O<|zM zEh (J 2 O) O<|rStR 0 zTz O<|Y<|zF<|fin1 (zP zEh O (J 0 O) O) ?_
  rw [hE];rfl
def zSf (l:Lf) (env:List Bd) (hel:env.length<=1000000) (her:∀x,x∈env->r64 x.Val) (hl:l.L.length<=5864062014805) (hr:l.rng):
    Pur cfg 190 [dK l,lN env] (.tup [vI (bY l env).1,vI (bY l env).2]):=by
 refine zR func190 O ntmps190 results190 O fun z hz=>G O<|mj O fun b1=>A O<|mm O<|zG<|G O<|zM kQ (J 0 O) O<|qD O uB (ref05_Validate l zA) (vlr O)<|yL O<|Y<|zK O ?_ ?_<;>intro c1<;>try simp only [sx] at c1
 ·have hE:bY l env=(0,1):=ev_bad c1
  refine mo O O<|mm O<|zF<|fin2 (rs_c O) (rs_c O) ?_
  rw [hE]
 ·refine zI<|G O<|zV O O (qW O zr276) ?_
  rintro _ _ ⟨b2,rfl,rfl⟩
  refine zV O O (qW O zr276) ?_
  rintro _ _ ⟨b3,rfl,rfl⟩
  refine Y<|zY ⟨[(1,.c _),(2,.c _),(6,.c _),(7,.c _)],[_,_,_]⟩ (Weak.mk [true,true,true] ⟨zJ,zJ,zJ,zJ,T⟩ O)<|awp_seqJ [E.row b3 276 ((erQ l.K).map cU),E.row b2 276 ((erP l.K).map cU),E.row b1 51 l.cells] ?_ ?_
  ·refine G O<|zC O zFl<|zH U (J 2 O) O<|yI O<|Y<|zK O ?_ ?_<;>intro c2<;>try simp only [sx] at c2
   ·refine qV 5 mixed uB O O<|mr O (zU O zEh O (J 0 O) O)<|mr O (zE O zFl O)<|mr O (zD O U O (J 2 O) O)<|mr O (qG O uB (zGc l.K hr.1) (vlr O))<|mr O (qG O uB (zMt dg0 l.K.natAbs 1 O zUl (by have:=zHw hr.1;omega) zB) (vlr O))<|yQ<|kS O O (yM O zTz O O (zZb (zFv O zUl).1) (zGk 0 O (zZa O (zFv O zUl).1) (zYz O (zFv O zUl).1)))<|Y ?_
    exact ⟨O,Weak.mk [true,true,true] ⟨zJ,zJ,zJ,zJ,T⟩ (by unfold erP erQ;rw [ab c2,ab c2];rfl)⟩
   ·refine qV 5 mixed uB O O<|mr O (zU O zEh O (J 1 O) O)<|mr O (zE O zFl O)<|mr O (zD O U O (J 2 O) O)<|mr O (qG O uB (zGc l.K hr.1) (vlr O))<|mr O (qG O uB (zMt dg0 l.K.natAbs 1 O zUl (by have:=zHw hr.1;omega) zB) (vlr O))<|yQ<|kS O O (yM O zTz O O (zZb (zFv O zUl).1) (zGk 1 O (zZa O (zFv O zUl).1) (zYz O (zFv O zUl).1)))<|Y ?_
    exact ⟨O,Weak.mk [true,true,true] ⟨zJ,zJ,zJ,zJ,T⟩ (by unfold erP erQ;rw [aa (show ¬l.K<0 by omega),aa (show ¬l.K<0 by omega)];rfl)⟩
  ·refine zG<|ml O O<|zQ<|zY ⟨[(8,.c _),(1,.c _),(2,.c _),(6,.c _),(7,.c _)],[_,_,_]⟩ (Weak.mk [true,true,true] ⟨zJ,zJ,zJ,zJ,zJ,T⟩ O)<|qL 1 2 O O (Nat×List Nat×List Nat×Int) (fun ⟨k,P,Q,z⟩=>[(8,vI k)]) (fun ⟨k,P,Q,z⟩=>[E.row b3 276 (Q.map cU),E.row b2 276 (P.map cU)]) (fun ⟨k,P,Q,z⟩=>k<=l.L.length/\(ErJ l env k P Q z)) (fun ⟨k,P,Q,z⟩=>l.L.length-k) ⟨⟨0,erP l.K,erQ l.K,0⟩,⟨zA,er_start hr.1⟩,Weak.mk [true,true,true] ⟨zJ,zJ,zJ,zJ,zJ,T⟩ O⟩ ?_
   rintro ⟨k,P,Q,z⟩ ⟨hk,hj⟩
   show AWP _ _ _ _ _ ⟨[(8,vI k)]++_,[E.row b3 276 (Q.map cU),E.row b2 276 (P.map cU)]++_⟩
   refine zG<|mo O O<|zC O wM<|zH zBs (J 2 O) O<|qB O N<|yI O<|Y<|zK O ?_ ?_<;>intro c3<;>try simp only [sx] at c3
   ·obtain ⟨m,hm⟩:=qZ l.L k zA
    have hbr:=hr.2 m (qA hm)
    have h1:=zHw hbr
    refine zI<|zG<|zQ<|mo O O<|zC O wM<|zH zBs (J 2 O) O<|A O<|qC O N zA (getm hm)<|qR O zAd<|zH one9 zZ O<|qD O uB (ref05_find env m.Name zA) (vlr O)<|qP O<|qS O<|qS O<|A O<|mm O<|zG<|mo O O<|kO O<|Y<|zK O ?_ ?_<;>intro c4<;>try simp only [sx] at c4
    ·have hE:=ev_none c1 hm (by simpa using c4)
     refine mo O O<|mm O<|zF<|fin2 (rs_c O) (rs_c O) ?_
     rw [hE]
    ·obtain ⟨v,hv⟩:=fa.1 (show (jW env m.Name).isSome=true by simpa using c4)
     rw [hv]
     have hvr:=env_r her hv
     have h2:=zHw hvr
     refine zI<|mo O O<|yI O<|zC O wM<|zH zBs (J 2 O) O<|A O<|qC O N zA (getm hm)<|qR O zCz<|zH U zZ O<|yI O<|zW O (zQz O un4 O O)<|Y<|zK O (fun c5=>?_) (fun c5=>?_)
     ·have hs:=bne_t c5
      have hv9:=plu_v hj.ql hj.qo (er_bd (l:=l) hvr hbr (show k<=5864062014805 by omega) hj.qb)
      have hp9:=zFv (a:=v.natAbs) (b:=m.By.natAbs) hj.ql hj.qo
      have hn9:=er_neg hr hj hm hv hvr hs hp9.1 hp9.2 hv9
      refine qV 11 mixed uB O O<|mr O (wJ O zEh O (J 0 O) (zKk _) (zCt hj.ql))<|mr O (zO O O)<|mr O (qG O uB (zGc v hvr) (vlr O))<|mr O (zE O wM O)<|mr O (zD O zBs O (J 2 O) O)<|mr O (zO O O)<|mr O (qE O N O O zA (getm hm))<|mr O (qN O zCz O)<|mr O (zD O U O zZ O)<|mr O (qG O uB (zGc m.By hbr) (vlr O))<|mr O (qG O uB (zMt Q v.natAbs m.By.natAbs hj.ql hj.qo zA zA) (vlr O))<|yQ<|kS O O (yM O zTz O O (zZb (zFv hj.ql hj.qo).1) (zGk 0 O (zZa (zCt hj.ql) (zFv hj.ql hj.qo).1) (zYz (zCt hj.ql) (zFv hj.ql hj.qo).1)))<|Y<|zT O<|A O<|qI O ⟨zA,zA⟩<|A O<|Y ?_
      refine ⟨⟨k+1,P,tT Q v.natAbs m.By.natAbs,z+m.By*v⟩,⟨zA,hn9⟩,(by show l.L.length-(k+1)<l.L.length-k;omega),Weak.mk [true,true,true] ⟨zJ,zJ,zJ,zJ,zJ,T⟩ O⟩
     ·have hs:=bne_f c5
      have hv9:=plu_v hj.pl hj.po (er_bd (l:=l) hvr hbr (show k<=5864062014805 by omega) hj.pb)
      have hp9:=zFv (a:=v.natAbs) (b:=m.By.natAbs) hj.pl hj.po
      have hn9:=er_pos hr hj hm hv hvr hs hp9.1 hp9.2 hv9
      refine qV 11 mixed uB O O<|mr O (wJ O zEh O (J 1 O) (zKk _) (zCt hj.pl))<|mr O (zO O O)<|mr O (qG O uB (zGc v hvr) (vlr O))<|mr O (zE O wM O)<|mr O (zD O zBs O (J 2 O) O)<|mr O (zO O O)<|mr O (qE O N O O zA (getm hm))<|mr O (qN O zCz O)<|mr O (zD O U O zZ O)<|mr O (qG O uB (zGc m.By hbr) (vlr O))<|mr O (qG O uB (zMt P v.natAbs m.By.natAbs hj.pl hj.po zA zA) (vlr O))<|yQ<|kS O O (yM O zTz O O (zZb (zFv hj.pl hj.po).1) (zGk 1 O (zZa (zCt hj.pl) (zFv hj.pl hj.po).1) (zYz (zCt hj.pl) (zFv hj.pl hj.po).1)))<|Y<|zT O<|A O<|qI O ⟨zA,zA⟩<|A O<|Y ?_
      refine ⟨⟨k+1,tT P v.natAbs m.By.natAbs,Q,z+m.By*v⟩,⟨zA,hn9⟩,(by show l.L.length-(k+1)<l.L.length-k;omega),Weak.mk [true,true,true] ⟨zJ,zJ,zJ,zJ,zJ,T⟩ O⟩
   ·refine qO<|zG<|G O<|zW O (wJ O zEh O (J 1 O) (zKk _) (zCt hj.pl))<|zW O (wJ O zEh O (J 0 O) (zKk _) (zCt hj.ql))<|qD O uB (ref05_less P Q hj.pl hj.ql hj.po hj.qo) (vlr O)<|Y<|zK O ?_ ?_<;>intro c6<;>try simp only [sx] at c6
    ·have hM:=mns_v hj.ql hj.pl hj.qo hj.po zA
     refine G O<|zW O (wJ O zEh O (J 0 O) (zKk _) (zCt hj.ql))<|zW O (wJ O zEh O (J 1 O) (zKk _) (zCt hj.pl))<|qD O uB (zXe Q P hj.ql hj.pl hj.qo hj.po) (vlr O)<|zV O O (qW O zr276) ?_
     rintro _ _ ⟨b4,rfl,rfl⟩
     obtain ⟨a1,a2,a3,a4,a5,a6,hM6⟩:=dg_six hM.2.2
     rw [hM6]
     rw [hM6] at hM
     have q1:=hM.2.1 a1 uD
     have q2:=hM.2.1 a2 uD
     refine rStR 0 zTz O<|Y<|G O<|zW O (yZ O zFn O O zB zB)<|zH zCs (J 0 O) O<|zW O (yZ O zFn O O zB zB)<|zH zCs (J 0 O) O<|zW O (zEz (b:=4294967296) O O O zA)<|zW O (zEe O O O zA)<|mm O<|zG<|G O<|zW O (yZ O zFn O O zB zB)<|zH zCs (J 0 O) O<|yL O<|A O<|rL0 O (fun g19_3=>yZ O zFn O O zB zB) O<|rL1 99 O (fun g19_3=>zD O zCs O (J 0 O) O) O<|rL1 100 O (fun g19_3=>kB O O O) O<|r_or O (fun h=>(lzf h))<|A O<|rL0 O (fun g19_8=>yZ O zFn O O zB zB) O<|rL1 104 O (fun g19_8=>zD O zCs O (J 0 O) O) O<|rL1 105 O (fun g19_8=>kB O O O) O<|r_or O (fun h=>(lzf h))<|A O<|rL0 O (fun g19_13=>yZ O zFn O O zB zB) O<|rL1 109 O (fun g19_13=>zD O zCs O (J 0 O) O) O<|rL1 110 O (fun g19_13=>kB O O O) O<|r_or O (fun h=>(lzf h))<|A O<|rL0 O (fun g19_18=>zO O O) O<|rL1 114 O (fun g19_18=>yD O O O) O<|r_or O (fun h=>(lzf h))<|Y<|zK O ?_ ?_<;>intro c7<;>try simp only [sx] at c7
     ·have hB:=er_big hM.2.1 hM.1 zA
      have hE:=er_out hj (show l.L.length<=k by omega) c1 uH
      refine mo O O<|mm O<|zF<|fin2 (rs_c O) (rs_c O) ?_
      rw [hE]
     ·have hB:=er_small hM.2.1 hM.1 zA
      refine zI<|mo O O<|zW O (det_usub (b:=1) O O O ⟨zA,zA⟩)<|zW O (zIt O us154 ik2 O (show IntKind.i64.wrap ((a1+a2*4294967296-1:Nat):Int)=((a1+a2*4294967296-1:Nat):Int) from zIb uH))<|zW O (zBw O O ⟨zA,zA⟩)<|zW O (yB O O O ⟨zA,zA⟩)<|A O<|mm O<|zF<|fin2 (rs_c O) (rs_c O) ?_
      rw [er_in hj (show l.L.length<=k by omega) c1 (n:= -((a1+a2*4294967296-1:Nat):Int)-1) zA uH]
    ·have hM:=mns_v hj.pl hj.ql hj.po hj.qo zA
     refine zI<|G O<|zW O (wJ O zEh O (J 1 O) (zKk _) (zCt hj.pl))<|zW O (wJ O zEh O (J 0 O) (zKk _) (zCt hj.ql))<|qD O uB (zXe P Q hj.pl hj.ql hj.po hj.qo) (vlr O)<|zV O O (qW O zr276) ?_
     rintro _ _ ⟨b5,rfl,rfl⟩
     obtain ⟨a1,a2,a3,a4,a5,a6,hM6⟩:=dg_six hM.2.2
     rw [hM6]
     rw [hM6] at hM
     have q1:=hM.2.1 a1 uD
     have q2:=hM.2.1 a2 uD
     refine rStR 0 zTz O<|Y<|G O<|zW O (yZ O zFn O O zB zB)<|zH zCs (J 0 O) O<|zW O (yZ O zFn O O zB zB)<|zH zCs (J 0 O) O<|zW O (zEz (b:=4294967296) O O O zA)<|zW O (zEe O O O zA)<|mm O<|zG<|G O<|zW O (yZ O zFn O O zB zB)<|zH zCs (J 0 O) O<|yL O<|A O<|rL0 O (fun g24_3=>yZ O zFn O O zB zB) O<|rL1 135 O (fun g24_3=>zD O zCs O (J 0 O) O) O<|rL1 136 O (fun g24_3=>kB O O O) O<|r_or O (fun h=>(lzf h))<|A O<|rL0 O (fun g24_8=>yZ O zFn O O zB zB) O<|rL1 140 O (fun g24_8=>zD O zCs O (J 0 O) O) O<|rL1 141 O (fun g24_8=>kB O O O) O<|r_or O (fun h=>(lzf h))<|A O<|rL0 O (fun g24_13=>yZ O zFn O O zB zB) O<|rL1 145 O (fun g24_13=>zD O zCs O (J 0 O) O) O<|rL1 146 O (fun g24_13=>kB O O O) O<|r_or O (fun h=>(lzf h))<|A O<|rL0 O (fun g24_18=>zO O O) O<|rL1 150 O (fun g24_18=>yD O O O) O<|r_or O (fun h=>(lzf h))<|Y<|zK O ?_ ?_<;>intro c8<;>try simp only [sx] at c8
     ·have hB:=er_big2 hM.2.1 hM.1 zA
      have hE:=er_out hj (show l.L.length<=k by omega) c1 uH
      refine mo O O<|mm O<|zF<|fin2 (rs_c O) (rs_c O) ?_
      rw [hE]
     ·have hB:=er_small hM.2.1 hM.1 zA
      refine zI<|mo O O<|zW O (zIt O us154 ik2 O (show IntKind.i64.wrap ((a1+a2*4294967296:Nat):Int)=((a1+a2*4294967296:Nat):Int) from zIb uH))<|A O<|mm O<|zF<|fin2 (rs_c O) (rs_c O) ?_
      rw [er_in hj (show l.L.length<=k by omega) c1 (n:=((a1+a2*4294967296:Nat):Int)) zA uH]
end Go.W
end
