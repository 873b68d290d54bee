/-
  What functions compute.
  What functions compute.
  What functions compute.
  What functions compute.
  Conditions: none.
-/
import Derived.Test.YthgichbbgocmoaaGreatDoorWalkS
import Derived.Test.YthgichbbgocmoaaGreatDoorPlainT
import Derived.Test.YthgichbbgocmoaaGreatDoorEngZ
import Derived.Test.YthgichbbgocmoaaGreatDoorPlain3
set_option linter.unusedSimpArgs false
set_option linter.unusedVariables false
section
set_option maxRecDepth 10000
namespace Go.W
open Go Go.Eng Go.Proofs Go.L41 Go.Br
attribute [local irreducible] AWP RWP TD fH
theorem zVk:bA Tryz.prog 204=true:=by kernel_rfl
theorem ok205:bA Tryz.prog 205=true:=by kernel_rfl
theorem ok227:bA Tryz.prog 227=true:=by kernel_rfl
theorem ok251:bA Tryz.prog 251=true:=by kernel_rfl
theorem ok252:bA Tryz.prog 252=true:=by kernel_rfl
theorem ok268:bA Tryz.prog 268=true:=by kernel_rfl
theorem ref01_gcd (a b:Nat):
    Pur cfg 268 [mM a,mM b] (mM (Nat.gcd a b)):=by
 refine zR Tryz.func268 O Tryz.ntmps268 Tryz.results268 O ?_
 exact s6
theorem ref01_size (n:Int) (hn:tE n):
    Pur cfg 252 [vI n] (vUn n.natAbs):=by
 refine zR Tryz.func252 O Tryz.ntmps252 Tryz.results252 O ?_
 intro z hz
 have hn1:=hn.1
 have hn2:=hn.2
 refine G O<|A O<|Y<|zJ<|G O<|A O<|yG O<|Y<|zE O (fun c1=>?_) (fun c1=>?_)
 ·try simp only [sx] at c1
  refine G O<|A O<|qI O ⟨zA,zA⟩<|zW O (zHa O O)<|zW O (zAl O us2 ik154 O)<|zW O (zKy O O O)<|A O<|Y<|zH<|zS O ?_
  exact congrArg mM (size_neg c1 hn)
 ·try simp only [sx] at c1
  refine zK<|G O<|A O<|zW O (zAl O us2 ik154 O)<|A O<|Y<|zH<|zS O ?_
  exact congrArg mM (mag_pos zA hn.2)
theorem ref01_made (s:Bool) (a b:Nat) (ha:a<18446744073709551616) (hb:b<18446744073709551616) (h0:0<b):
    Pur cfg 251 [vB s,vUn a,vUn b] (.tup [gL (sE s a b).1,vI (sE s a b).2]):=by
 refine zR Tryz.func251 O Tryz.ntmps251 Tryz.results251 O ?_
 intro z hz
 have hg:0<Nat.gcd a b:=Nat.gcd_pos_of_pos_right _ h0
 refine G O<|zV O O (qV O W) ?_
 rintro _ _ ⟨b1,rfl,rfl⟩
 refine A O<|Y<|G O<|A O<|A O<|qD O ok268 (ref01_gcd a b) ⟨R,O,R,O,T⟩<|A O<|Y<|G O<|A O<|A O<|zW O (zLr O O O ⟨zA,zA⟩)<|A O<|Y<|G O<|A O<|A O<|zW O (zLr O O O ⟨zA,zA⟩)<|A O<|Y<|zJ<|G O<|A O<|zW O (yC O O O)<|A O<|rL0 O (fun g4_2=>zO O O) O<|rL1 21 O (fun g4_2=>yC O O O) O<|r_or O (fun h=>(lzf h))<|Y<|zE O (fun c1=>?_) (fun c1=>?_)
 ·refine G O<|qT O W pl46<|rStR 0 L O<|A O<|Y<|zH<|fin2 (zP yO O (J 0 O) O) (rs_c O) ?_
  rw [madF_big c1];rfl
 ·refine zK<|zJ<|G O<|A O<|Y<|zE O (fun c2=>?_) (fun c2=>?_)
  ·try simp only [sx] at c2
   refine G O<|A O<|zW O (zAl O us154 ik2 O)<|zW O (zHa O O)<|A O<|zW O (zAl O us154 ik2 O)<|qT O W pl46<|rStR 0 L O<|A O<|Y<|zH<|fin2 (zP yO O (J 0 O) O) (rs_c O) ?_
   rw [madF_fin c1,c2];rfl
  ·try simp only [sx] at c2
   refine zK<|G O<|A O<|zW O (zAl O us154 ik2 O)<|A O<|zW O (zAl O us154 ik2 O)<|qT O W pl46<|rStR 0 L O<|A O<|Y<|zH<|fin2 (zP yO O (J 0 O) O) (rs_c O) ?_
   have c2:s=false:=by simpa using c2
   rw [madF_fin c1,c2];rfl
theorem zKe (n d:Int) (hn:tE n) (hd:tE d):
    Pur cfg 227 [vI n,vI d] (.tup [gL (pE n d).1,vI (pE n d).2]):=by
 refine zR Tryz.func227 O Tryz.ntmps227 Tryz.results227 O ?_
 intro z hz
 have hn1:=hn.1
 have hn2:=hn.2
 have hd1:=hd.1
 have hd2:=hd.2
 refine G O<|zV O O (qV O W) ?_
 rintro _ _ ⟨b1,rfl,rfl⟩
 refine A O<|Y<|zJ<|G O<|A O<|yE O<|Y<|zE O (fun c1=>?_) (fun c1=>?_)
 ·try simp only [sx] at c1
  refine G O<|qT O W pl46<|rStR 0 L O<|A O<|Y<|zH<|fin2 (zP yO O (J 0 O) O) (rs_c O) ?_
  rw [newF_zero c1];rfl
 ·try simp only [sx] at c1
  refine zK<|G O<|A O<|yG O<|A O<|yG O<|zW O (zOx O un4 O O)<|A O<|qD O ok252 (ref01_size n hn) ⟨R,O,T⟩<|A O<|qD O ok252 (ref01_size d hd) ⟨R,O,T⟩<|qD O ok251 (ref01_made (eR n d) n.natAbs d.natAbs zA zA zA) ⟨R,O,R,O,R,O,T⟩<|yH O<|qR O<|rStR 0 L O<|A O<|Y<|zH<|fin2 (zP yO O (J 0 O) O) (rs_c O) ?_
  rw [newF_nz c1];rfl
theorem zAe (v:Vl):
    Pur cfg 204 [gL v] (vB (gG v)):=by
 refine zR Tryz.func204 O Tryz.ntmps204 Tryz.results204 O ?_
 intro z hz
 refine G O<|zV O O (qJ O O) ?_
 rintro _ _ ⟨b1,rfl,rfl⟩
 refine A O<|Y<|G O<|qT O zr48 pl48<|zM yO (J 0 O) O<|qD O ok126 (zGr tFr v zB) ⟨R,O,R,O,T⟩<|A O<|Y<|zH<|zS O ?_
 exact O
theorem ref01_Add (a b:Vl):
    Pur cfg 199 [gL a,gL b] (.tup [gL (frX 4 a b).1,vI (frX 4 a b).2]):=by
 refine zR Tryz.func199 O Tryz.ntmps199 Tryz.results199 O ?_
 intro z hz
 refine G O<|zV O O (qJ O O) ?_
 rintro _ _ ⟨b1,rfl,rfl⟩
 refine zV O O (qJ O O) ?_
 rintro _ _ ⟨b2,rfl,rfl⟩
 refine zV O O (qV O W) ?_
 rintro _ _ ⟨b3,rfl,rfl⟩
 refine A O<|Y<|zJ<|G O<|zM yO (J 2 O) O<|qD O zVk (zAe a) ⟨R,O,T⟩<|kN O<|A O<|rL0 O (fun g1_3=>zU O yO O (J 1 O) O) O<|rL1 10 O (fun g1_3=>qG O zVk (zAe b) ⟨R,O,T⟩) O<|rL1 11 O (fun g1_3=>kJ O O) O<|r_or O (fun h=>(lzf h))<|Y<|zE O (fun c1=>?_) (fun c1=>?_)
 ·exact n5
 ·have c1:(!gG a|| !gG b)=false:=c1
  obtain ⟨ha,hb⟩:=fr_both c1
  obtain ⟨b1,b2,b3,b4,b5,b6,b7⟩:=zKo ha hb
  refine zK<|G O<|zD O zAd<|zI U (J 2 O) O<|zD O zAq<|zI U (J 1 O) O<|zW O (kB O O O ⟨zA,zA⟩)<|zD O zAd<|zI U (J 1 O) O<|zD O zAq<|zI U (J 2 O) O<|zW O (kB O O O ⟨zA,zA⟩)<|qI O ⟨zA,zA⟩<|zD O zAq<|zI U (J 2 O) O<|zD O zAq<|zI U (J 1 O) O<|zW O (kB O O O ⟨zA,zA⟩)<|qD O ok227 (zKe (a.N*b.D+b.N*a.D) (a.D*b.D) ⟨zA,zA⟩ ⟨zA,zA⟩) ⟨R,O,R,O,T⟩<|yH O<|qR O<|rStR 0 L O<|A O<|Y<|zH<|fin2 (zP yO O (J 0 O) O) (rs_c O) ?_
  rw [zKp ha hb];rfl
theorem ref01_Sub (a b:Vl):
    Pur cfg 200 [gL a,gL b] (.tup [gL (frX 5 a b).1,vI (frX 5 a b).2]):=by
 refine zR Tryz.func200 O Tryz.ntmps200 Tryz.results200 O ?_
 intro z hz
 refine G O<|zV O O (qJ O O) ?_
 rintro _ _ ⟨b1,rfl,rfl⟩
 refine zV O O (qJ O O) ?_
 rintro _ _ ⟨b2,rfl,rfl⟩
 refine zV O O (qV O W) ?_
 rintro _ _ ⟨b3,rfl,rfl⟩
 refine A O<|Y<|zJ<|G O<|zM yO (J 2 O) O<|qD O zVk (zAe a) ⟨R,O,T⟩<|kN O<|A O<|rL0 O (fun g1_3=>zU O yO O (J 1 O) O) O<|rL1 10 O (fun g1_3=>qG O zVk (zAe b) ⟨R,O,T⟩) O<|rL1 11 O (fun g1_3=>kJ O O) O<|r_or O (fun h=>(lzf h))<|Y<|zE O (fun c1=>?_) (fun c1=>?_)
 ·exact n5
 ·have c1:(!gG a|| !gG b)=false:=c1
  obtain ⟨ha,hb⟩:=fr_both c1
  obtain ⟨b1,b2,b3,b4,b5,b6,b7⟩:=zKo ha hb
  refine zK<|G O<|zD O zAd<|zI U (J 2 O) O<|zD O zAq<|zI U (J 1 O) O<|zW O (kB O O O ⟨zA,zA⟩)<|zD O zAd<|zI U (J 1 O) O<|zD O zAq<|zI U (J 2 O) O<|zW O (kB O O O ⟨zA,zA⟩)<|zW O (yA O O O ⟨zA,zA⟩)<|zD O zAq<|zI U (J 2 O) O<|zD O zAq<|zI U (J 1 O) O<|zW O (kB O O O ⟨zA,zA⟩)<|qD O ok227 (zKe (a.N*b.D-b.N*a.D) (a.D*b.D) ⟨zA,zA⟩ ⟨zA,zA⟩) ⟨R,O,R,O,T⟩<|yH O<|qR O<|rStR 0 L O<|A O<|Y<|zH<|fin2 (zP yO O (J 0 O) O) (rs_c O) ?_
  rw [zKp ha hb];rfl
theorem ref01_Mul (a b:Vl):
    Pur cfg 201 [gL a,gL b] (.tup [gL (frX 6 a b).1,vI (frX 6 a b).2]):=by
 refine zR Tryz.func201 O Tryz.ntmps201 Tryz.results201 O ?_
 intro z hz
 refine G O<|zV O O (qJ O O) ?_
 rintro _ _ ⟨b1,rfl,rfl⟩
 refine zV O O (qJ O O) ?_
 rintro _ _ ⟨b2,rfl,rfl⟩
 refine zV O O (qV O W) ?_
 rintro _ _ ⟨b3,rfl,rfl⟩
 refine A O<|Y<|zJ<|G O<|zM yO (J 2 O) O<|qD O zVk (zAe a) ⟨R,O,T⟩<|kN O<|A O<|rL0 O (fun g1_3=>zU O yO O (J 1 O) O) O<|rL1 10 O (fun g1_3=>qG O zVk (zAe b) ⟨R,O,T⟩) O<|rL1 11 O (fun g1_3=>kJ O O) O<|r_or O (fun h=>(lzf h))<|Y<|zE O (fun c1=>?_) (fun c1=>?_)
 ·exact n5
 ·have c1:(!gG a|| !gG b)=false:=c1
  obtain ⟨ha,hb⟩:=fr_both c1
  obtain ⟨b1,b2,b3,b4,b5,b6,b7⟩:=zKo ha hb
  refine zK<|G O<|zD O zAd<|zI U (J 2 O) O<|zD O zAd<|zI U (J 1 O) O<|zW O (kB O O O ⟨zA,zA⟩)<|zD O zAq<|zI U (J 2 O) O<|zD O zAq<|zI U (J 1 O) O<|zW O (kB O O O ⟨zA,zA⟩)<|qD O ok227 (zKe (a.N*b.N) (a.D*b.D) ⟨zA,zA⟩ ⟨zA,zA⟩) ⟨R,O,R,O,T⟩<|yH O<|qR O<|rStR 0 L O<|A O<|Y<|zH<|fin2 (zP yO O (J 0 O) O) (rs_c O) ?_
  rw [zKp ha hb];rfl
theorem ref01_Div (a b:Vl):
    Pur cfg 202 [gL a,gL b] (.tup [gL (frX 7 a b).1,vI (frX 7 a b).2]):=by
 refine zR Tryz.func202 O Tryz.ntmps202 Tryz.results202 O ?_
 intro z hz
 refine G O<|zV O O (qJ O O) ?_
 rintro _ _ ⟨b1,rfl,rfl⟩
 refine zV O O (qJ O O) ?_
 rintro _ _ ⟨b2,rfl,rfl⟩
 refine zV O O (qV O W) ?_
 rintro _ _ ⟨b3,rfl,rfl⟩
 refine A O<|Y<|zJ<|G O<|zM yO (J 2 O) O<|qD O zVk (zAe a) ⟨R,O,T⟩<|kN O<|A O<|rL0 O (fun g1_3=>zU O yO O (J 1 O) O) O<|rL1 10 O (fun g1_3=>qG O zVk (zAe b) ⟨R,O,T⟩) O<|rL1 11 O (fun g1_3=>kJ O O) O<|r_or O (fun h=>(lzf h))<|Y<|zE O (fun c1=>?_) (fun c1=>?_)
 ·exact n5
 ·have c1:(!gG a|| !gG b)=false:=c1
  obtain ⟨ha,hb⟩:=fr_both c1
  obtain ⟨b1,b2,b3,b4,b5,b6,b7⟩:=zKo ha hb
  refine zK<|G O<|zD O zAd<|zI U (J 2 O) O<|zD O zAq<|zI U (J 1 O) O<|zW O (kB O O O ⟨zA,zA⟩)<|zD O zAq<|zI U (J 2 O) O<|zD O zAd<|zI U (J 1 O) O<|zW O (kB O O O ⟨zA,zA⟩)<|qD O ok227 (zKe (a.N*b.D) (a.D*b.N) ⟨zA,zA⟩ ⟨zA,zA⟩) ⟨R,O,R,O,T⟩<|yH O<|qR O<|rStR 0 L O<|A O<|Y<|zH<|fin2 (zP yO O (J 0 O) O) (rs_c O) ?_
  rw [zKp ha hb];rfl
theorem ref01_Neg (a:Vl) (ha:gG a=true):
    Pur cfg 203 [gL a] (gL ⟨-a.N,a.D⟩):=by
 refine zR Tryz.func203 O Tryz.ntmps203 Tryz.results203 O ?_
 intro z hz
 obtain ⟨a1,a2,a3,a4,_⟩:=zWi ha
 refine G O<|zV O O (qJ O O) ?_
 rintro _ _ ⟨b1,rfl,rfl⟩
 refine zV O O (qV O W) ?_
 rintro _ _ ⟨b2,rfl,rfl⟩
 refine Y<|zJ<|G O<|zM yO (J 1 O) O<|qD O zVk (zAe a) ⟨R,O,T⟩<|kN O<|Y<|zE O (fun c1=>?_) (fun c1=>?_)
 ·exact absurd c1 (by rw [ha];simp)
 ·refine zK<|G O<|zD O zAd<|zI U (J 1 O) O<|zW O (zHa O O)<|zD O zAq<|zI U (J 1 O) O<|qT O W pl46<|rStR 0 L O<|Y<|zH<|fin1 (zP yO O (J 0 O) O) ?_
  rw [show IntKind.i64.wrap (-a.N)= -a.N from zCu ⟨zA,zA⟩]
  rfl
theorem ref01_order (a b:Int):
    Pur cfg 205 [vI a,vI b] (vI (rZ a b)):=by
 refine zR Tryz.func205 O Tryz.ntmps205 Tryz.results205 O ?_
 intro z hz
 refine G O<|A O<|Y<|zJ<|G O<|A O<|A O<|yG O<|Y<|zE O (fun c1=>?_) (fun c1=>?_)
 ·try simp only [sx] at c1
  refine G O<|A O<|Y<|zH<|zS O ?_
  rw [ordI_lt c1]
 ·try simp only [sx] at c1
  refine zK<|zJ<|G O<|A O<|A O<|zW O (yC O O O)<|Y<|zE O (fun c2=>?_) (fun c2=>?_)
  ·try simp only [sx] at c2
   refine G O<|A O<|Y<|zH<|zS O ?_
   rw [ordI_gt zA c2]
  ·try simp only [sx] at c2
   refine zK<|G O<|A O<|Y<|zH<|zS O ?_
   rw [ordI_eq zA zA]
theorem ref01_Compare (a b:Vl) (ha:gG a=true) (hb:gG b=true):
    Pur cfg 170 [gL a,gL b] (vI (rZ (a.N*b.D) (b.N*a.D))):=by
 refine zR Tryz.func170 O Tryz.ntmps170 Tryz.results170 O ?_
 intro z hz
 obtain ⟨b1,b2,b3,b4,b5,b6,b7⟩:=zKo ha hb
 refine G O<|zV O O (qJ O O) ?_
 rintro _ _ ⟨b1,rfl,rfl⟩
 refine zV O O (qJ O O) ?_
 rintro _ _ ⟨b2,rfl,rfl⟩
 refine A O<|Y<|zJ<|G O<|zM yO (J 1 O) O<|qD O zVk (zAe a) ⟨R,O,T⟩<|A O<|rL0 O (fun g1_2=>zU O yO O (J 0 O) O) O<|rL1 8 O (fun g1_2=>qG O zVk (zAe b) ⟨R,O,T⟩) O<|yR O (fun h=>h)<|Y<|zE O (fun c1=>?_) (fun c1=>?_)
 ·refine G O<|zD O zAd<|zI U (J 1 O) O<|zD O zAq<|zI U (J 0 O) O<|zW O (kB O O O ⟨zA,zA⟩)<|zD O zAd<|zI U (J 0 O) O<|zD O zAq<|zI U (J 1 O) O<|zW O (kB O O O ⟨zA,zA⟩)<|qD O ok205 (ref01_order _ _) ⟨R,O,R,O,T⟩<|A O<|Y<|zH<|zS O ?_
  exact O
 ·have c1:(gG a&&gG b)=false:=c1
  exact absurd c1 (by rw [ha,hb];simp)
end Go.W
end
section
set_option maxRecDepth 10000
namespace Go.W
open Go Go.Eng Go.Proofs Go.L41 Go.Br
attribute [local irreducible] AWP RWP TD fH
theorem ok193:bA Tryz.prog 193=true:=by kernel_rfl
theorem ok194:bA Tryz.prog 194=true:=by kernel_rfl
theorem ok195:bA Tryz.prog 195=true:=by kernel_rfl
theorem ok196:bA Tryz.prog 196=true:=by kernel_rfl
theorem zFt (n d:Int) (hn:n.natAbs<=9223372036854775806) (hd:0<d) (hd2:d<=9223372036854775807):
    Pur cfg 193 [vI n,vI d] (vI (n/d)):=by
 refine zR Tryz.func193 O Tryz.ntmps193 Tryz.results193 O ?_
 intro z hz
 have q1:=tdiv_le' (n:=n) (d:=d)
 have q2:=tdiv_mul_le (n:=n) (d:=d)
 refine G O<|A O<|Y<|G O<|A O<|A O<|zW O (det_quoE O O O zA (zCu ⟨zA,zA⟩))<|A O<|Y<|zJ<|G O<|A O<|A O<|zW O (kB O O O ⟨zA,zA⟩)<|A O<|zW O (yC O O O)<|Y<|zE O (fun c1=>?_) (fun c1=>?_)
 ·try simp only [sx] at c1
  refine G O<|A O<|zW O (yA O O O ⟨zA,zA⟩)<|A O<|Y<|zH<|zS O ?_
  rw [flo_lt hd c1]
 ·try simp only [sx] at c1
  refine zK<|G O<|A O<|A O<|Y<|zH<|zS O ?_
  rw [flo_ge hd zA]
theorem zIf (n d how:Int) (hn:n.natAbs<=4611686018427387904) (hd:0<d) (hd2:d<=4611686018427387904):
    Pur cfg 195 [vI n,vI d,vI how] (vI (rnd n d how)):=by
 refine zR Tryz.func195 O Tryz.ntmps195 Tryz.results195 O ?_
 intro z hz
 obtain ⟨q1,q2,q3,q4⟩:=ediv_b (n:=n) hd
 refine G O<|A O<|Y<|G O<|A O<|A O<|qD O ok193 (zFt n d zA hd zA) ⟨R,O,R,O,T⟩<|A O<|Y<|G O<|A O<|A O<|A O<|zW O (kB O O O ⟨zA,zA⟩)<|zW O (yA O O O ⟨zA,zA⟩)<|A O<|Y<|zJ<|G O<|A O<|yE O<|A O<|rL0 O (fun g3_2=>zO O O) O<|rL1 20 O (fun g3_2=>yM O O O) O<|r_or O (fun h=>(lzf h))<|Y<|zE O (fun c1=>?_) (fun c1=>?_)
 ·refine G O<|A O<|A O<|Y<|zH<|zS O ?_
  rw [rnd1 c1]
 ·refine zK<|zJ<|G O<|A O<|yE O<|Y<|zE O (fun c2=>?_) (fun c2=>?_)
  ·try simp only [sx] at c2
   refine G O<|A O<|qI O ⟨zA,zA⟩<|A O<|Y<|zH<|zS O ?_
   rw [rnd2 c1 c2]
  ·try simp only [sx] at c2
   refine zK<|zJ<|G O<|A O<|yE O<|Y<|zE O (fun c3=>?_) (fun c3=>?_)
   ·try simp only [sx] at c3
    refine zJ<|G O<|A O<|yG O<|Y<|zE O (fun c4=>?_) (fun c4=>?_)
    ·try simp only [sx] at c4
     refine G O<|A O<|qI O ⟨zA,zA⟩<|A O<|Y<|zH<|zS O ?_
     rw [rnd3 c1 c2 c3 c4]
    ·try simp only [sx] at c4
     refine zK<|G O<|A O<|A O<|Y<|zH<|zS O ?_
     rw [rnd4 c1 c2 c3 zA]
   ·try simp only [sx] at c3
    refine zK<|zJ<|G O<|A O<|A O<|A O<|zW O (yA O O O ⟨zA,zA⟩)<|zW O (yC O O O)<|A O<|rL0 O (fun g11_5=>zO O O) O<|rL0 O (fun g11_5=>zO O O) O<|rL0 O (fun g11_5=>zO O O) O<|rLz [(42,_),(43,_)] O B ⟨O,O,O,O,T⟩ (fun g11_5=>yA O O O ⟨zA,zA⟩) O<|rLz [(41,_),(44,_)] O B ⟨O,O,O,O,T⟩ (fun g11_5=>yM O O O) O<|rL1 45 O (fun g11_5=>zO O O) O<|rLz [] O gv2 T (fun g11_11=>zO O O) O<|rLz [(47,_)] O gv2 ⟨O,O,T⟩ (fun g11_11=>zMz O O O zB) O<|rLz [(48,_)] O gv2 ⟨O,O,T⟩ (fun g11_11=>kA O O O) O<|rL1 46 O (fun g11_5=>kZ O O O (fun h=>kC uB h) O) O<|r_or O (fun h=>(lzf h))<|Y<|zE O (fun c5=>?_) (fun c5=>?_)
    ·refine G O<|A O<|qI O ⟨zA,zA⟩<|A O<|Y<|zH<|zS O ?_
     rw [rnd5 c1 c2 c3 c5]
    ·refine zK<|G O<|A O<|A O<|Y<|zH<|zS O ?_
     rw [rnd6 c1 c2 c3 c5]
theorem zHf (t:Ty) (ht:fL t=true):
    Pur cfg 196 [vTy t] (vI (jF t.Frac)):=by
 refine zR Tryz.func196 O Tryz.ntmps196 Tryz.results196 O ?_
 intro z hz
 obtain ⟨hK,hB1,hB2,hF1,hF2,hR1,hR4,hO,hh1,hh2,hp1,hp2⟩:=fxT ht
 refine G O<|zV O O (qJ O O) ?_
 rintro _ _ ⟨b1,rfl,rfl⟩
 refine A O<|Y<|G O<|zD O zRm<|zI one3 (J 0 O) O<|zW O (zHo O us3 ik185 O (zEg ⟨zA,zA⟩))<|zW O (det_shlE O O O zA (one_shl hF1 hF2))<|A O<|Y<|zH<|zS O ?_
 exact O
theorem zFu (t:Ty) (n:Int) (ht:fL t=true) (hn:n.natAbs<=4611686018427387904):
    Pur cfg 194 [vTy t,vI n] (gL ⟨nar t n,1⟩):=by
 refine zR Tryz.func194 O Tryz.ntmps194 Tryz.results194 O ?_
 intro z hz
 obtain ⟨hK,hB1,hB2,hF1,hF2,hR1,hR4,hO,hh1,hh2,hp1,hp2⟩:=fxT ht
 obtain ⟨q1,q2,q3,q4⟩:=ediv_b (n:=n+fS t.Bits) (show 0<2*fS t.Bits by omega)
 have q5:=Int.mul_assoc ((n+fS t.Bits)/(2*fS t.Bits)) 2 (fS t.Bits)
 have q6:((n+fS t.Bits)/(2*fS t.Bits)*2).natAbs<=((n+fS t.Bits)/(2*fS t.Bits)*2*fS t.Bits).natAbs:=by rw [Int.natAbs_mul (_*2)];exact Nat.le_mul_of_pos_right _ zA
 refine G O<|zV O O (qJ O O) ?_
 rintro _ _ ⟨b1,rfl,rfl⟩
 refine zV O O (qV O W) ?_
 rintro _ _ ⟨b2,rfl,rfl⟩
 refine Y<|G O<|zD O zKs<|zI one3 (J 1 O) O<|zW O (yA O O O ⟨zA,zA⟩)<|zW O (zHo O us3 ik185 O O)<|zW O (det_shlE O O O (by rw [zEg ⟨zA,zA⟩];omega) (zOc hB1 hB2))<|A O<|Y<|zJ<|G O<|zD O zRl<|zI one3 (J 1 O) O<|yE O<|Y<|zE O (fun c1=>?_) (fun c1=>?_)
 ·try simp only [sx] at c1
  refine zT O<|A O<|A O<|A O<|qI O ⟨zA,zA⟩<|A O<|zW O (kB O O O ⟨zA,zA⟩)<|qD O ok193 (zFt (n+fS t.Bits) (2*fS t.Bits) zA zA zA) ⟨R,O,R,O,T⟩<|zW O (kB O O O ⟨zA,zA⟩)<|A O<|zW O (kB O O O ⟨zA,zA⟩)<|zW O (yA O O O ⟨zA,zA⟩)<|A O<|Y<|G O<|A O<|zW O (zBp O O ⟨zA,zA⟩)<|A O<|zW O (yA O O O ⟨zA,zA⟩)<|A O<|zW O (det_min O O O)<|zW O (zIt O O O)<|qT O W pl46<|rStR 0 L O<|Y<|zH<|fin1 (zP yO O (J 0 O) O) ?_
  exact congrArg (fun x=>gL ⟨x,1⟩) (fit_w c1)
 ·try simp only [sx] at c1
  refine zK<|G O<|A O<|zW O (zBp O O ⟨zA,zA⟩)<|A O<|zW O (yA O O O ⟨zA,zA⟩)<|A O<|zW O (det_min O O O)<|zW O (zIt O O O)<|qT O W pl46<|rStR 0 L O<|Y<|zH<|fin1 (zP yO O (J 0 O) O) ?_
  exact congrArg (fun x=>gL ⟨x,1⟩) (fit_n c1)
theorem ref04_fix (op:Int) (t:Ty) (a b:Int) (ht:fL t=true) (ha:a.natAbs<=1073741824) (hb:¬op=8->b.natAbs<=1073741824) (h1:4<=op) (h2:op<=8):
    Pur cfg 197 [vI op,vTy t,vI a,vI b] (.tup [gL (sI op t a b).1,vI (sI op t a b).2]):=by
 refine zR Tryz.func197 O Tryz.ntmps197 Tryz.results197 O ?_
 intro z hz
 obtain ⟨hK,hB1,hB2,hF1,hF2,hR1,hR4,hO,hh1,hh2,hp1,hp2⟩:=fxT ht
 refine G O<|zV O O (qJ O O) ?_
 rintro _ _ ⟨b1,rfl,rfl⟩
 refine zV O O (qV O W) ?_
 rintro _ _ ⟨b2,rfl,rfl⟩
 refine A O<|Y<|zJ<|G O<|A O<|Y<|zQ<|G O<|yE O<|A O<|Y<|zE O (fun c1=>?_) (fun c1=>?_)
 ·try simp only [sx] at c1
  have hb:=hb zA
  refine G O<|zM yD (J 1 O) O<|A O<|A O<|qI O ⟨zA,zA⟩<|qD O ok194 (zFu _ _ uB zA) ⟨R,O,R,O,T⟩<|rStR 0 L O<|A O<|Y<|zH<|fin2 (zP yO O (J 0 O) O) (rs_c O) ?_
  rw [fixA1 c1];rfl
 ·try simp only [sx] at c1
  refine G O<|yE O<|A O<|Y<|zE O (fun c2=>?_) (fun c2=>?_)
  ·try simp only [sx] at c2
   have hb:=hb zA
   refine G O<|zM yD (J 1 O) O<|A O<|A O<|zW O (yA O O O ⟨zA,zA⟩)<|qD O ok194 (zFu _ _ uB zA) ⟨R,O,R,O,T⟩<|rStR 0 L O<|A O<|Y<|zH<|fin2 (zP yO O (J 0 O) O) (rs_c O) ?_
   rw [fixA2 c2];rfl
  ·try simp only [sx] at c2
   refine G O<|yE O<|A O<|Y<|zE O (fun c3=>?_) (fun c3=>?_)
   ·try simp only [sx] at c3
    have hb:=hb zA
    have hm:=m31 (x:=a) (y:=b) zA zA zA zA
    have hr:=rnd_b (n:=a*b) (how:=t.Round) (show 0<jF t.Frac by omega)
    refine zJ<|qU 10 mixed uC O O<|zN O O (zU O yD O (J 1 O) O)<|zN O O (zO O O)<|zN O O (zO O O)<|zN O O (kB O O O ⟨zA,zA⟩)<|zN O O (zU O yD O (J 1 O) O)<|zN O O (qG O ok196 (zHf _ uB) ⟨R,O,T⟩)<|zN O O (zG O zKr O)<|zN O O (zF O one3 O (J 1 O) O)<|zN O O (qG O ok195 (zIf (a*b) (jF t.Frac) t.Round zA zA zA) ⟨R,O,R,O,R,O,T⟩)<|zN O O (qG O ok194 (zFu t (rnd (a*b) (jF t.Frac) t.Round) ht zA) ⟨R,O,R,O,T⟩)<|yP<|rStR 0 L O<|A O<|Y<|zH<|fin2 (zP yO O (J 0 O) O) (rs_c O) ?_
    rw [fixA3 c3];rfl
   ·try simp only [sx] at c3
    refine G O<|yE O<|A O<|Y<|zE O (fun c4=>?_) (fun c4=>?_)
    ·try simp only [sx] at c4
     refine G O<|zM yD (J 1 O) O<|A O<|zW O (zBp O O ⟨zA,zA⟩)<|qD O ok194 (zFu _ _ uB zA) ⟨R,O,R,O,T⟩<|rStR 0 L O<|A O<|Y<|zH<|fin2 (zP yO O (J 0 O) O) (rs_c O) ?_
     rw [fixA4 c4];rfl
    ·try simp only [sx] at c4
     have hb:=hb zA
     have hm2:=m60 (B:=1073741824) (x:=a) ha (show 0<=jF t.Frac by omega) hp2
     have hm3:=m60 (B:=1073741824) (x:= -a) zA (show 0<=jF t.Frac by omega) hp2
     refine zK<|zJ<|G O<|A O<|yE O<|Y<|zE O (fun c5=>?_) (fun c5=>?_)
     ·try simp only [sx] at c5
      refine G O<|qT O W pl46<|rStR 0 L O<|A O<|Y<|zH<|fin2 (zP yO O (J 0 O) O) (rs_c O) ?_
      rw [fixA5 zA c5];rfl
     ·try simp only [sx] at c5
      refine zK<|zJ<|G O<|A O<|yG O<|Y<|zE O (fun c6=>?_) (fun c6=>?_)
      ·try simp only [sx] at c6
       refine G O<|A O<|zW O (zBp O O ⟨zA,zA⟩)<|A O<|Y<|zT O<|A O<|zW O (zBp O O ⟨zA,zA⟩)<|A O<|Y<|zJ<|qU 10 mixed uC O O<|zN O O (zU O yD O (J 1 O) O)<|zN O O (zO O O)<|zN O O (zU O yD O (J 1 O) O)<|zN O O (qG O ok196 (zHf _ uB) ⟨R,O,T⟩)<|zN O O (kB O O O ⟨zA,zA⟩)<|zN O O (zO O O)<|zN O O (zG O zKr O)<|zN O O (zF O one3 O (J 1 O) O)<|zN O O (qG O ok195 (zIf (-a*jF t.Frac) (-b) t.Round zA zA zA) ⟨R,O,R,O,R,O,T⟩)<|zN O O (qG O ok194 (zFu t (rnd (-a*jF t.Frac) (-b) t.Round) ht (by have h_:=rnd_b (n:= -a*jF t.Frac) (d:= -b) (how:=t.Round) zA;omega)) ⟨R,O,R,O,T⟩)<|yP<|rStR 0 L O<|A O<|Y<|zH<|fin2 (zP yO O (J 0 O) O) (rs_c O) ?_
       rw [fixA6 zA c5,posN_neg c6,show (b.natAbs:Int)= -b by omega];rfl
      ·try simp only [sx] at c6
       refine zK<|zJ<|qU 10 mixed uC O O<|zN O O (zU O yD O (J 1 O) O)<|zN O O (zO O O)<|zN O O (zU O yD O (J 1 O) O)<|zN O O (qG O ok196 (zHf _ uB) ⟨R,O,T⟩)<|zN O O (kB O O O ⟨zA,zA⟩)<|zN O O (zO O O)<|zN O O (zG O zKr O)<|zN O O (zF O one3 O (J 1 O) O)<|zN O O (qG O ok195 (zIf (a*jF t.Frac) (b) t.Round zA zA zA) ⟨R,O,R,O,R,O,T⟩)<|zN O O (qG O ok194 (zFu t (rnd (a*jF t.Frac) (b) t.Round) ht (by have h_:=rnd_b (n:=a*jF t.Frac) (d:=b) (how:=t.Round) zA;omega)) ⟨R,O,R,O,T⟩)<|yP<|rStR 0 L O<|A O<|Y<|zH<|fin2 (zP yO O (J 0 O) O) (rs_c O) ?_
       rw [fixA6 zA c5,posN_pos zA,show (b.natAbs:Int)=b by omega];rfl
theorem ref04_whole (op a b:Int) (ha:dV a=true) (hb:¬op=8->dV b=true) (h1:4<=op) (h2:op<=8):
    Pur cfg 198 [vI op,vI a,vI b] (.tup [gL (tK op a b).1,vI (tK op a b).2]):=by
 refine zR Tryz.func198 O Tryz.ntmps198 Tryz.results198 O ?_
 intro z hz
 have hA:=n31 ha
 refine G O<|zV O O (qV O W) ?_
 rintro _ _ ⟨b1,rfl,rfl⟩
 refine A O<|Y<|G O<|A O<|zW O (zBp O O ⟨zA,zA⟩)<|A O<|Y<|zJ<|G O<|A O<|Y<|zQ<|G O<|yE O<|A O<|Y<|zE O (fun c1=>?_) (fun c1=>?_)
 ·try simp only [sx] at c1
  have hB:=n31 (hb zA)
  have hm:=m31 hA.1 hA.2 hB.1 hB.2
  refine zT O<|A O<|A O<|qI O ⟨zA,zA⟩<|A O<|Y<|zJ<|G O<|A O<|zW O (yC O O O)<|A O<|rL0 O (fun g16_2=>zO O O) O<|rL1 44 O (fun g16_2=>zAv O O O) O<|r_or O (fun h=>(lzf h))<|Y<|zE O (fun c7=>?_) (fun c7=>?_)
  ·have hi:jL op a b=a+b:=intN1 c1
   exact v7
  ·have hi:jL op a b=a+b:=intN1 c1
   exact v6
 ·try simp only [sx] at c1
  refine G O<|yE O<|A O<|Y<|zE O (fun c2=>?_) (fun c2=>?_)
  ·try simp only [sx] at c2
   have hB:=n31 (hb zA)
   have hm:=m31 hA.1 hA.2 hB.1 hB.2
   refine zT O<|A O<|A O<|zW O (yA O O O ⟨zA,zA⟩)<|A O<|Y<|zJ<|G O<|A O<|zW O (yC O O O)<|A O<|rL0 O (fun g16_2=>zO O O) O<|rL1 44 O (fun g16_2=>zAv O O O) O<|r_or O (fun h=>(lzf h))<|Y<|zE O (fun c7=>?_) (fun c7=>?_)
   ·have hi:jL op a b=a-b:=intN2 c2
    exact v7
   ·have hi:jL op a b=a-b:=intN2 c2
    exact v6
  ·try simp only [sx] at c2
   refine G O<|yE O<|A O<|Y<|zE O (fun c3=>?_) (fun c3=>?_)
   ·try simp only [sx] at c3
    have hB:=n31 (hb zA)
    have hm:=m31 hA.1 hA.2 hB.1 hB.2
    refine zT O<|A O<|A O<|zW O (kB O O O ⟨zA,zA⟩)<|A O<|Y<|zJ<|G O<|A O<|zW O (yC O O O)<|A O<|rL0 O (fun g16_2=>zO O O) O<|rL1 44 O (fun g16_2=>zAv O O O) O<|r_or O (fun h=>(lzf h))<|Y<|zE O (fun c7=>?_) (fun c7=>?_)
    ·have hi:jL op a b=a*b:=intN3 c3
     exact v7
    ·have hi:jL op a b=a*b:=intN3 c3
     exact v6
   ·try simp only [sx] at c3
    refine G O<|yE O<|A O<|Y<|zE O (fun c4=>?_) (fun c4=>?_)
    ·try simp only [sx] at c4
     have hB:=n31 (hb zA)
     have hm:=m31 hA.1 hA.2 hB.1 hB.2
     refine zJ<|G O<|A O<|yE O<|Y<|zE O (fun c5=>?_) (fun c5=>?_)
     ·try simp only [sx] at c5
      refine G O<|qT O W pl46<|rStR 0 L O<|A O<|Y<|zH<|fin2 (zP yO O (J 0 O) O) (rs_c O) ?_
      first|(rw [zQq zA zA];rfl)|(rw [zQp hz hx];rfl)|(rw [zQo hz hx,hi];rfl)
     ·try simp only [sx] at c5
      refine zK<|zJ<|G O<|A O<|yG O<|Y<|zE O (fun c6=>?_) (fun c6=>?_)
      ·try simp only [sx] at c6
       refine G O<|A O<|zW O (zBp O O ⟨zA,zA⟩)<|A O<|Y<|zT O<|A O<|zW O (zBp O O ⟨zA,zA⟩)<|A O<|Y<|zT O<|A O<|A O<|qD O ok193 (zFt (-a) (-b) zA zA zA) ⟨R,O,R,O,T⟩<|A O<|Y<|zJ<|G O<|A O<|zW O (yC O O O)<|A O<|rL0 O (fun g16_2=>zO O O) O<|rL1 44 O (fun g16_2=>zAv O O O) O<|r_or O (fun h=>(lzf h))<|Y<|zE O (fun c7=>?_) (fun c7=>?_)
       ·have hi:jL op a b= -a/ -b:=by rw [intN4 c4,posN_neg c6,show (b.natAbs:Int)= -b by omega]
        exact v7
       ·have hi:jL op a b= -a/ -b:=by rw [intN4 c4,posN_neg c6,show (b.natAbs:Int)= -b by omega]
        exact v6
      ·try simp only [sx] at c6
       refine zK<|zT O<|A O<|A O<|qD O ok193 (zFt (a) (b) zA zA zA) ⟨R,O,R,O,T⟩<|A O<|Y<|zJ<|G O<|A O<|zW O (yC O O O)<|A O<|rL0 O (fun g16_2=>zO O O) O<|rL1 44 O (fun g16_2=>zAv O O O) O<|r_or O (fun h=>(lzf h))<|Y<|zE O (fun c7=>?_) (fun c7=>?_)
       ·have hi:jL op a b=a/b:=by rw [intN4 c4,posN_pos zA,show (b.natAbs:Int)=b by omega]
        exact v7
       ·have hi:jL op a b=a/b:=by rw [intN4 c4,posN_pos zA,show (b.natAbs:Int)=b by omega]
        exact v6
    ·try simp only [sx] at c4
     refine zK<|zJ<|G O<|A O<|zW O (yC O O O)<|A O<|rL0 O (fun g16_2=>zO O O) O<|rL1 44 O (fun g16_2=>zAv O O O) O<|r_or O (fun h=>(lzf h))<|Y<|zE O (fun c7=>?_) (fun c7=>?_)
     ·have hi:jL op a b= -a:=intN5 zA
      exact v7
     ·have hi:jL op a b= -a:=intN5 zA
      exact v6
end Go.W
end
section
set_option maxRecDepth 10000
namespace Go.W
open Go Go.Eng Go.Proofs Go.L41 Go.Br
attribute [local irreducible] AWP RWP TD fH
theorem ok151:bA Tryz.prog 151=true:=by kernel_rfl
theorem ok169:bA Tryz.prog 169=true:=by kernel_rfl
theorem ok170:bA Tryz.prog 170=true:=by kernel_rfl
theorem ok192:bA Tryz.prog 192=true:=by kernel_rfl
theorem ok197:bA Tryz.prog 197=true:=by kernel_rfl
theorem ok198:bA Tryz.prog 198=true:=by kernel_rfl
theorem ok199:bA Tryz.prog 199=true:=by kernel_rfl
theorem ok200:bA Tryz.prog 200=true:=by kernel_rfl
theorem ok201:bA Tryz.prog 201=true:=by kernel_rfl
theorem ok202:bA Tryz.prog 202=true:=by kernel_rfl
theorem ok203:bA Tryz.prog 203=true:=by kernel_rfl
theorem zVf (t:Ty) (v:Vl):
    Pur cfg 169 [vTy t,gL v] (vB (bV t&&bI t v)):=by
 refine zR Tryz.func169 O Tryz.ntmps169 Tryz.results169 O ?_
 intro z hz
 refine G O<|zV O O (qJ O O) ?_
 rintro _ _ ⟨b1,rfl,rfl⟩
 refine zV O O (qJ O O) ?_
 rintro _ _ ⟨b2,rfl,rfl⟩
 refine A O<|Y<|G O<|zM yD (J 1 O) O<|qD O ok77 (zDr t) ⟨R,O,T⟩<|A O<|rL0 O (fun g1_2=>zU O yD O (J 1 O) O) O<|rL0 O (fun g1_2=>zU O yO O (J 0 O) O) O<|rLz [(8,_),(9,_)] O B ⟨O,O,O,O,T⟩ (fun g1_2=>qG O ok126 (zGr t v (by simpa [Lz] using g1_2)) ⟨R,O,R,O,T⟩) O<|yR O (fun h=>h)<|A O<|Y<|zH<|zS O ?_
 exact O
theorem zNx (t:Ty) (a b:Vl):
    Pur cfg 151 [vTy t,gL a,gL b] (vI (rO t a b)):=by
 refine zR Tryz.func151 O Tryz.ntmps151 Tryz.results151 O ?_
 intro z hz
 refine G O<|zV O O (qJ O O) ?_
 rintro _ _ ⟨b1,rfl,rfl⟩
 refine zV O O (qJ O O) ?_
 rintro _ _ ⟨b2,rfl,rfl⟩
 refine zV O O (qJ O O) ?_
 rintro _ _ ⟨b3,rfl,rfl⟩
 refine A O<|Y<|zJ<|G O<|zM yD (J 2 O) O<|zM yO (J 1 O) O<|qD O ok169 (zVf t a) ⟨R,O,R,O,T⟩<|kN O<|A O<|rL0 O (fun g1_4=>zU O yD O (J 2 O) O) O<|rL0 O (fun g1_4=>zU O yO O (J 0 O) O) O<|rLz [(12,_),(13,_)] O B ⟨O,O,O,O,T⟩ (fun g1_4=>qG O ok169 (zVf t b) ⟨R,O,R,O,T⟩) O<|rL1 14 O (fun g1_4=>kJ O O) O<|r_or O (fun h=>(lzf h))<|Y<|zE O (fun c1=>?_) (fun c1=>?_)
 ·have c1:(!(bV t&&bI t a)|| !(bV t&&bI t b))=true:=c1
  refine G O<|A O<|Y<|zH<|zS O ?_
  rw [cmp_no c1]
 ·have c1:(!(bV t&&bI t a)|| !(bV t&&bI t b))=false:=c1
  obtain ⟨ga,gb⟩:=both_ok c1
  have ha:=(zMa (Bool.and_eq_true _ _ ▸ ga).1 (Bool.and_eq_true _ _ ▸ ga).2).2.2
  have hb:=(zMa (Bool.and_eq_true _ _ ▸ gb).1 (Bool.and_eq_true _ _ ▸ gb).2).2.2
  refine zK<|G O<|zM yO (J 1 O) O<|zM yO (J 0 O) O<|qD O ok170 (ref01_Compare a b ha hb) ⟨R,O,R,O,T⟩<|A O<|Y<|zH<|zS O ?_
  rw [cmp_yes ga gb]
theorem ref04_Value (t:Ty) (a:Vl) (ht:bV t=true) (ha:bI t a=true):
    Pur cfg 192 [vTy t,gL a] (gL (gW t a)):=by
 refine zR Tryz.func192 O Tryz.ntmps192 Tryz.results192 O ?_
 intro z hz
 refine G O<|zV O O (qJ O O) ?_
 rintro _ _ ⟨b1,rfl,rfl⟩
 refine zV O O (qJ O O) ?_
 rintro _ _ ⟨b2,rfl,rfl⟩
 refine zV O O (qV O W) ?_
 rintro _ _ ⟨b3,rfl,rfl⟩
 refine Y<|zJ<|G O<|zD O zDo<|zI one3 (J 2 O) O<|yE O<|Y<|zE O (fun c1=>?_) (fun c1=>?_)
 ·try simp only [sx] at c1
  have hf:fL t=true:=by rw [←zAr uB];exact ht
  have hA:=fxN hf ha
  have hT:=fxT hf
  have hT1:=hT.p1
  have hT2:=hT.p2
  refine kI 9 0 [⟨0,.q []⟩,⟨1,.q [1]⟩,⟨2,.q [2]⟩,⟨3,.q []⟩,⟨4,.q []⟩,⟨5,.q []⟩,⟨6,.q []⟩,⟨7,.q []⟩,⟨8,.e 1 []⟩] mixed uC uC O O O<|zX O<|zX O<|zX O<|zX O<|zX O<|zX O<|zX O<|zX O<|zX O<|zBb<|qF O zB O O (zG O zAd O)<|qF O zB O O (zF O U O (J 0 O) O)<|qF O zB O O (zU O yD O (J 0 O) O)<|qF O zB O O (qG O ok196 (zHf t hf) ⟨R,O,T⟩)<|qF O zB O O (qG O ok227 (zKe a.N (jF t.Frac) ⟨zA,zA⟩ ⟨zA,zA⟩) ⟨R,O,R,O,T⟩)<|qF O zB O O (kH O O)<|qF O zB O O (wE O O O)<|qF O zB O O (wD O O O)<|zFr O O zB O O (yL O L O O O (zFf 0 O O)) ?_
  rintro _ _ ⟨rfl,rfl⟩
  refine ⟨_,O,?_⟩
  refine zAx O<|Y<|G O<|zM yO (J 1 O) O<|rStR 0 L O<|Y<|zH<|fin1 (zP yO O (J 0 O) O) ?_
  rw [fracV_2 c1];rfl
 ·try simp only [sx] at c1
  refine zK<|G O<|zM yO (J 1 O) O<|rStR 0 L O<|Y<|zH<|fin1 (zP yO O (J 0 O) O) ?_
  rw [fracV_n c1];rfl
theorem zMq (op:Int) (t:Ty) (a b:Vl):
    Pur cfg 168 [vI op,vTy t,gL a,gL b] (.tup [gL (mA op t a b).1,vI (mA op t a b).2]):=by
 refine zR Tryz.func168 O Tryz.ntmps168 Tryz.results168 O ?_
 intro z hz
 refine G O<|zV O O (qJ O O) ?_
 rintro _ _ ⟨b1,rfl,rfl⟩
 refine zV O O (qJ O O) ?_
 rintro _ _ ⟨b2,rfl,rfl⟩
 refine zV O O (qJ O O) ?_
 rintro _ _ ⟨b3,rfl,rfl⟩
 refine zV O O (qV O W) ?_
 rintro _ _ ⟨b4,rfl,rfl⟩
 refine A O<|Y<|zJ<|G O<|A O<|yG O<|A O<|rL0 O (fun g1_2=>zO O O) O<|rL1 13 O (fun g1_2=>yC O O O) O<|r_or O (fun h=>(lzf h))<|Y<|zE O (fun c1=>?_) (fun c1=>?_)
 ·refine G O<|qT O W pl46<|rStR 0 L O<|A O<|Y<|zH<|fin2 (zP yO O (J 0 O) O) (rs_c O) ?_
  rw [apl1 c1];rfl
 ·refine zK<|zJ<|G O<|zM yD (J 3 O) O<|qD O ok77 (zDr t) ⟨R,O,T⟩<|kN O<|Y<|zE O (fun c2=>?_) (fun c2=>?_)
  ·try simp only [sx] at c2
   have ht:bV t=false:=by simpa using c2
   refine G O<|qT O W pl46<|rStR 0 L O<|A O<|Y<|zH<|fin2 (zP yO O (J 0 O) O) (rs_c O) ?_
   rw [apl2 c1 ht];rfl
  ·try simp only [sx] at c2
   have ht:bV t=true:=by simpa using c2
   refine zK<|zJ<|G O<|zM yD (J 3 O) O<|zM yO (J 2 O) O<|qD O ok126 (zGr t a ht) ⟨R,O,R,O,T⟩<|kN O<|A O<|rL0 O (fun g5_4=>zO O O) O<|rL1 26 O (fun g5_4=>kA O O O) O<|rL1 27 O (fun g5_4=>zO O O) O<|rLz [] O gv2 T (fun g5_7=>zU O yD O (J 3 O) O) O<|rLz [] O gv2 T (fun g5_7=>zU O yO O (J 1 O) O) O<|rLz [(29,_),(30,_)] O gv2 ⟨O,O,O,O,T⟩ (fun g5_7=>qG O ok126 (zGr t b ht) ⟨R,O,R,O,T⟩) O<|rLz [(31,_)] O gv2 ⟨O,O,T⟩ (fun g5_7=>kJ O O) O<|rL1 28 O (fun g5_4=>kZ O O O (fun h=>kC uB h) O) O<|r_or O (fun h=>(lzf h))<|Y<|zE O (fun c3=>?_) (fun c3=>?_)
   ·have c3:(!bI t a||(!decide (op=8)&& !bI t b))=true:=c3
    refine G O<|qT O W pl46<|rStR 0 L O<|A O<|Y<|zH<|fin2 (zP yO O (J 0 O) O) (rs_c O) ?_
    rw [apl3 c1 ht c3];rfl
   ·have c3:(!bI t a||(!decide (op=8)&& !bI t b))=false:=c3
    obtain ⟨ha,hb⟩:=apl_ok c3
    have hr:=apl_rng c1
    have hfa:=(zMa ht ha).2.2
    refine zK<|zJ<|G O<|A O<|yE O<|A O<|rL0 O (fun g7_2=>zO O O) O<|rL1 39 O (fun g7_2=>yM O O O) O<|r_or O (fun h=>(lzf h))<|Y<|zE O (fun c4=>?_) (fun c4=>?_)
    ·have h8:¬op=8:=by simp at c4;omega
     refine zJ<|G O<|zM yD (J 3 O) O<|zM yO (J 2 O) O<|zM yO (J 1 O) O<|qD O ok151 (zNx t a b) ⟨R,O,R,O,R,O,T⟩<|zW O (yC O O O)<|A O<|yE O<|zW O (det_beql O un4 O O)<|Y<|zE O (fun c5=>?_) (fun c5=>?_)
     ·refine G O<|zM yO (J 1 O) O<|rStR 0 L O<|A O<|Y<|zH<|fin2 (zP yO O (J 0 O) O) (rs_c O) ?_
      rw [apl6 c1 ht c3 c4]
      exact congrArg (fun x=>V.tup [gL x,vI 0]) (by rw [c5];rfl)
     ·refine zK<|G O<|zM yO (J 2 O) O<|rStR 0 L O<|A O<|Y<|zH<|fin2 (zP yO O (J 0 O) O) (rs_c O) ?_
      rw [apl6 c1 ht c3 c4]
      exact congrArg (fun x=>V.tup [gL x,vI 0]) (by rw [c5];rfl)
    ·have hm:=c4
     have hop:op<=8:=by simp at c4;omega
     refine zK<|zJ<|G O<|zD O zDo<|zI one3 (J 3 O) O<|yE O<|Y<|zE O (fun c6=>?_) (fun c6=>?_)
     ·try simp only [sx] at c6
      have hf:fL t=true:=by rw [←zAr c6];exact ht
      refine G O<|A O<|zM yD (J 3 O) O<|zD O zAd<|zI U (J 2 O) O<|zD O zAd<|zI U (J 1 O) O<|qD O ok197 (ref04_fix op t a.N b.N hf (fxN hf ha) (fun h8=>fxN hf (hb h8)) zA zA) ⟨R,O,R,O,R,O,R,O,T⟩<|yH O<|qR O<|rStR 0 L O<|A O<|Y<|zH<|fin2 (zP yO O (J 0 O) O) (rs_c O) ?_
      rw [apl5 c1 ht c3 hm,ari2 c6];rfl
     ·try simp only [sx] at c6
      refine zK<|zJ<|G O<|zD O zDo<|zI one3 (J 3 O) O<|yE O<|Y<|zE O (fun c7=>?_) (fun c7=>?_)
      ·try simp only [sx] at c7
       refine G O<|A O<|zD O zAd<|zI U (J 2 O) O<|zD O zAd<|zI U (J 1 O) O<|qD O ok198 (ref04_whole op a.N b.N (fr31 hfa) (fun h8=>fr31 (zMa ht (hb h8)).2.2) zA zA) ⟨R,O,R,O,R,O,T⟩<|yH O<|qR O<|rStR 0 L O<|A O<|Y<|zH<|fin2 (zP yO O (J 0 O) O) (rs_c O) ?_
       rw [apl5 c1 ht c3 hm,ari3 c7];rfl
      ·try simp only [sx] at c7
       refine zK<|zJ<|G O<|A O<|Y<|zQ<|G O<|yE O<|A O<|Y<|zE O (fun c8=>?_) (fun c8=>?_)
       ·try simp only [sx] at c8
        refine G O<|zM yO (J 2 O) O<|zM yO (J 1 O) O<|qD O ok199 (ref01_Add a b) ⟨R,O,R,O,T⟩<|yH O<|qR O<|rStR 0 L O<|A O<|Y<|zH<|fin2 (zP yO O (J 0 O) O) (rs_c O) ?_
        rw [apl5 c1 ht c3 hm,ari1 c6 c7]
        subst c8
        rw [zKp hfa (zMa ht (hb zB)).2.2];rfl
       ·try simp only [sx] at c8
        refine G O<|yE O<|A O<|Y<|zE O (fun c9=>?_) (fun c9=>?_)
        ·try simp only [sx] at c9
         refine G O<|zM yO (J 2 O) O<|zM yO (J 1 O) O<|qD O ok200 (ref01_Sub a b) ⟨R,O,R,O,T⟩<|yH O<|qR O<|rStR 0 L O<|A O<|Y<|zH<|fin2 (zP yO O (J 0 O) O) (rs_c O) ?_
         rw [apl5 c1 ht c3 hm,ari1 c6 c7]
         subst c9
         rw [zKp hfa (zMa ht (hb zB)).2.2];rfl
        ·try simp only [sx] at c9
         refine G O<|yE O<|A O<|Y<|zE O (fun c10=>?_) (fun c10=>?_)
         ·try simp only [sx] at c10
          refine G O<|zM yO (J 2 O) O<|zM yO (J 1 O) O<|qD O ok201 (ref01_Mul a b) ⟨R,O,R,O,T⟩<|yH O<|qR O<|rStR 0 L O<|A O<|Y<|zH<|fin2 (zP yO O (J 0 O) O) (rs_c O) ?_
          rw [apl5 c1 ht c3 hm,ari1 c6 c7]
          subst c10
          rw [zKp hfa (zMa ht (hb zB)).2.2];rfl
         ·try simp only [sx] at c10
          refine G O<|yE O<|A O<|Y<|zE O (fun c11=>?_) (fun c11=>?_)
          ·try simp only [sx] at c11
           refine G O<|zM yO (J 2 O) O<|zM yO (J 1 O) O<|qD O ok202 (ref01_Div a b) ⟨R,O,R,O,T⟩<|yH O<|qR O<|rStR 0 L O<|A O<|Y<|zH<|fin2 (zP yO O (J 0 O) O) (rs_c O) ?_
           rw [apl5 c1 ht c3 hm,ari1 c6 c7]
           subst c11
           rw [zKp hfa (zMa ht (hb zB)).2.2];rfl
          ·try simp only [sx] at c11
           refine zK<|G O<|zM yO (J 2 O) O<|qD O ok203 (ref01_Neg a hfa) ⟨R,O,T⟩<|rStR 0 L O<|A O<|Y<|zH<|fin2 (zP yO O (J 0 O) O) (rs_c O) ?_
           have ho:op=8:=by omega
           rw [apl5 c1 ht c3 hm,ari1 c6 c7]
           subst ho
           rfl
theorem ref04_Cast (f t:Ty) (v:Vl):
    Pur cfg 167 [vTy f,vTy t,gL v] (.tup [gL (nR f t v).1,vI (nR f t v).2]):=by
 refine zR Tryz.func167 O Tryz.ntmps167 Tryz.results167 O ?_
 intro z hz
 refine G O<|zV O O (qJ O O) ?_
 rintro _ _ ⟨b1,rfl,rfl⟩
 refine zV O O (qJ O O) ?_
 rintro _ _ ⟨b2,rfl,rfl⟩
 refine zV O O (qJ O O) ?_
 rintro _ _ ⟨b3,rfl,rfl⟩
 refine zV O O (qV O W) ?_
 rintro _ _ ⟨b4,rfl,rfl⟩
 refine A O<|Y<|zJ<|G O<|zM yD (J 3 O) O<|qD O ok77 (zDr f) ⟨R,O,T⟩<|kN O<|A O<|rL0 O (fun g1_3=>zU O yD O (J 2 O) O) O<|rL1 13 O (fun g1_3=>qG O ok77 (zDr t) ⟨R,O,T⟩) O<|rL1 14 O (fun g1_3=>kJ O O) O<|r_or O (fun h=>(lzf h))<|Y<|zE O (fun c1=>?_) (fun c1=>?_)
 ·have c1:(!bV f|| !bV t)=true:=c1
  refine G O<|qT O W pl46<|rStR 0 L O<|A O<|Y<|zH<|fin2 (zP yO O (J 0 O) O) (rs_c O) ?_
  rw [cst1 c1];rfl
 ·have c1:(!bV f|| !bV t)=false:=c1
  have hf:bV f=true:=by cases h:bV f;rw [h] at c1;cases c1;rfl
  have ht:bV t=true:=by cases h:bV t;rw [h,hf] at c1;cases c1;rfl
  refine zK<|zJ<|G O<|zM yD (J 3 O) O<|zM yO (J 1 O) O<|qD O ok126 (zGr f v hf) ⟨R,O,R,O,T⟩<|kN O<|Y<|zE O (fun c2=>?_) (fun c2=>?_)
  ·try simp only [sx] at c2
   have hv:bI f v=false:=by simpa using c2
   refine G O<|qT O W pl46<|rStR 0 L O<|A O<|Y<|zH<|fin2 (zP yO O (J 0 O) O) (rs_c O) ?_
   rw [cst2 c1 hv];rfl
  ·try simp only [sx] at c2
   have hv:bI f v=true:=by simpa using c2
   have hfr:=fracV_ok hf hv
   obtain ⟨a1,a2,a3,a4,_⟩:=zWi hfr
   refine zK<|G O<|zM yD (J 3 O) O<|zM yO (J 1 O) O<|qD O ok192 (ref04_Value f v hf hv) ⟨R,O,R,O,T⟩<|zV O O (qV O W) ?_
   rintro _ _ ⟨b5,rfl,rfl⟩
   refine rStR 0 L O<|Y<|zJ<|G O<|zD O zDo<|zI one3 (J 3 O) O<|yE O<|Y<|zE O (fun c3=>?_) (fun c3=>?_)
   ·try simp only [sx] at c3
    refine G O<|zD O zAd<|zI U (J 0 O) O<|zD O zAq<|zI U (J 0 O) O<|qD O ok193 (zFt (gW f v).N (gW f v).D zA zA zA) ⟨R,O,R,O,T⟩<|qT O W pl46<|rStR 1 L O<|A O<|Y<|zH<|fin2 (zP yO O (J 1 O) O) (rs_c O) ?_
    rw [cst3 c1 hv c3];rfl
   ·try simp only [sx] at c3
    refine zK<|zJ<|G O<|zD O zDo<|zI one3 (J 3 O) O<|yE O<|Y<|zE O (fun c4=>?_) (fun c4=>?_)
    ·try simp only [sx] at c4
     have hft:fL t=true:=by rw [←zAr c4];exact ht
     have hT:=fxT hft
     have hT1:=hT.p1
     have hT2:=hT.p2
     have hm:=m60 (B:=2147483647) (x:=(gW f v).N) zA (show 0<=jF t.Frac by omega) hT2
     have hr:=rnd_b (n:=(gW f v).N*jF t.Frac) (how:=t.Round) (show 0<(gW f v).D by omega)
     refine zJ<|qU 12 mixed uC O O<|zN O O (zU O yD O (J 3 O) O)<|zN O O (zG O zAd O)<|zN O O (zF O U O (J 0 O) O)<|zN O O (zU O yD O (J 3 O) O)<|zN O O (qG O ok196 (zHf t hft) ⟨R,O,T⟩)<|zN O O (kB O O O ⟨zA,zA⟩)<|zN O O (zG O zAq O)<|zN O O (zF O U O (J 0 O) O)<|zN O O (zG O zKr O)<|zN O O (zF O one3 O (J 3 O) O)<|zN O O (qG O ok195 (zIf ((gW f v).N*jF t.Frac) (gW f v).D t.Round zA zA zA) ⟨R,O,R,O,R,O,T⟩)<|zN O O (qG O ok194 (zFu t (rnd ((gW f v).N*jF t.Frac) (gW f v).D t.Round) hft zA) ⟨R,O,R,O,T⟩)<|yP<|rStR 1 L O<|A O<|Y<|zH<|fin2 (zP yO O (J 1 O) O) (rs_c O) ?_
     rw [cst4 c1 hv c3 c4];rfl
    ·try simp only [sx] at c4
     refine zK<|G O<|zM yO (J 0 O) O<|rStR 1 L O<|A O<|Y<|zH<|fin2 (zP yO O (J 1 O) O) (rs_c O) ?_
     rw [cst5 c1 hv c3 c4];rfl
end Go.W
end
section
set_option maxRecDepth 10000
namespace Go.W
open Go Go.Eng Go.Proofs Go.L41 Go.Br
attribute [local irreducible] AWP RWP TD fH
theorem awp_seqJ {X:Cfg} {n:Nat} {z:Z} {Q:Exit->S->Prop} {x y:Code} {regs:List (Nat×V)} {μ:List E} (μ':List E) (h:AWP X n z x (fun e τ=>e=.normal/\Weak τ ⟨regs,μ'⟩) ⟨regs,μ⟩) (k:AWP X n z y Q ⟨regs,μ'⟩):AWP X n z (.seq x y) Q ⟨regs,μ⟩:=
  zJ (awp_mono h fun e τ ⟨he,hw⟩=>by subst he;exact zY _ hw k)
theorem det_usub {X:Cfg} {o:Oper} {e:Operand->V} {μ:List E} {t ty:TypeId} {x y:Operand} {a b:Nat} (ho:o.op=.binOp .sub t x y ty) (hx:e x=vUn a) (hy:e y=vUn b) (h:b<=a/\a<18446744073709551616):Det X o e μ (vUn (a-b)) μ:=by
  have h1:=zMy (X:=X) (μ:=μ) ho hx hy
  rw [←Int.ofNat_sub h.1,zSl zA] at h1
  exact h1
theorem zDs:mO Tryz.prog 276=some 6:=by kernel_rfl
theorem zEy:eI Tryz.prog 276=some (6,154,1):=by kernel_rfl
theorem fd147_1:bH Tryz.prog 147 1=some (1,2):=by kernel_rfl
theorem ok221:bA Tryz.prog 221=true:=by kernel_rfl
theorem ok222:bA Tryz.prog 222=true:=by kernel_rfl
theorem ok223:bA Tryz.prog 223=true:=by kernel_rfl
theorem ok224:bA Tryz.prog 224=true:=by kernel_rfl
theorem ok225:bA Tryz.prog 225=true:=by kernel_rfl
theorem ok226:bA Tryz.prog 226=true:=by kernel_rfl
theorem ok250:bA Tryz.prog 250=true:=by kernel_rfl
theorem zCh:lX Tryz.prog 154=true:=by kernel_rfl
theorem sz154:(Tryz.prog.info? 154).map (·.size)=some 1:=by kernel_rfl
theorem zRs:(Tryz.prog.info? 276).map (·.size)=some 6:=by kernel_rfl
theorem zr276:fF Tryz.prog 276=some [(Value.int IntKind.u64 0),(Value.int IntKind.u64 0),(Value.int IntKind.u64 0),(Value.int IntKind.u64 0),(Value.int IntKind.u64 0),(Value.int IntKind.u64 0)]:=by kernel_rfl
theorem ref05_Validate (l:Lf) (hl:l.L.length<=5864062014805):
    Pur cfg 221 [dF l] (vI (dZ l)):=by
 refine zR Tryz.func221 O Tryz.ntmps221 Tryz.results221 O ?_
 intro z hz
 refine G O<|zV O O (qJ O O) ?_
 rintro _ _ ⟨b1,rfl,rfl⟩
 refine A O<|Y<|zJ<|G O<|zM kP (J 0 O) O<|qD O ok220 (zFk l zA) ⟨R,O,T⟩<|kN O<|Y<|zE O (fun c1=>?_) (fun c1=>?_)
 ·try simp only [sx] at c1
  refine G O<|A O<|Y<|zH<|zS O ?_
  rw [show dZ l=1 by unfold dZ;rw [c1];rfl]
 ·try simp only [sx] at c1
  refine zK<|G O<|A O<|Y<|zH<|zS O ?_
  rw [show dZ l=0 by unfold dZ;rw [c1];rfl]
theorem zFl (n:Int) (hn:r64 n):
    Pur cfg 223 [vI n] (vUn n.natAbs):=by
 refine zR Tryz.func223 O Tryz.ntmps223 Tryz.results223 O ?_
 intro z hz
 unfold r64 at hn
 refine G O<|A O<|Y<|zJ<|G O<|A O<|yG O<|Y<|zE O (fun c1=>?_) (fun c1=>?_)
 ·try simp only [sx] at c1
  refine G O<|A O<|qI O ⟨zA,zA⟩<|zW O (zBp O O ⟨zA,zA⟩)<|zW O (zHo O us2 ik154 O (show IntKind.u64.wrap (-(n+1))=(((-(n+1)).toNat:Nat):Int) by rw [u64_eq];omega))<|zW O (zDq (b:=1) O O O zA)<|A O<|Y<|zH<|zS O ?_
  exact congrArg vUn zA
 ·try simp only [sx] at c1
  refine zK<|G O<|A O<|zW O (zHo O us2 ik154 O (show IntKind.u64.wrap n=((n.natAbs:Nat):Int) by rw [u64_eq];omega))<|A O<|Y<|zH<|zS O ?_
  rfl
theorem zIe (w:List Nat) (at_ N:Nat) (hw:w.length=6) (ho:gP w) (ha:at_<=6) (hN:N<18446744073709551616):
    Pur cfg 250 [vW w,vI at_,vUn N] (vW (gZ w at_ N)):=by
 refine zR Tryz.func250 O Tryz.ntmps250 Tryz.results250 O ?_
 intro z hz
 refine G O<|zV O O (qJ O O) ?_
 rintro _ _ ⟨b1,rfl,rfl⟩
 refine zV O O (qV O zr276) ?_
 rintro _ _ ⟨b2,rfl,rfl⟩
 refine Y<|G O<|A O<|Y<|zJ<|G O<|A O<|A O<|Y<|zQ<|zY ⟨[(8,.c _),(7,.c _),(2,.c _),(3,.c _),(6,.c _)],[_,_]⟩ (Weak.mk [true,true] ⟨R,R,R,R,R,T⟩ O)<|qK 3 2 O O (Nat×List Nat×Nat×Nat) (fun ⟨i,ds,c,n⟩=>[(8,vI i),(7,vUn c),(2,vUn n)]) (fun ⟨i,ds,c,n⟩=>[E.row b2 276 (dg0.map cU),E.row b1 276 (ds.map cU)]) (fun ⟨i,ds,c,n⟩=>i<=6/\ds.length=6/\gP ds/\c<=2/\n<18446744073709551616/\gZ w at_ N=ds.take i++lH (ds.drop i) c n) (fun ⟨i,ds,c,n⟩=>6-i) ⟨⟨at_,w,0,N⟩,⟨ha,hw,ho,zB,hN,O⟩,Weak.mk [true,true] ⟨R,R,R,R,R,T⟩ O⟩ ?_
 rintro ⟨i,ds,c,n⟩ ⟨hi,hl,hd,hc,hn,hq⟩
 refine zJ<|G O<|A O<|yG O<|Y<|zE O (fun c1=>?_) (fun c1=>?_)
 ·try simp only [sx] at c1
  obtain ⟨x,hx⟩:=qY ds i zA
  have hxl:=hd x (qA hx)
  refine zK<|zJ<|zQ<|G O<|A O<|zW O (yY O zEy O O zA zA)<|zW O (zF O zCh O (J 1 O) (zGz hx))<|A O<|zW O (zTj (b:=4294967296) O O O zB)<|zW O (zDq O O O zA)<|A O<|zW O (zDq O O O zA)<|A O<|Y<|G O<|A O<|A O<|zW O (zTj (b:=4294967296) O O O zB)<|zW O (yY O zEy O O zA zA)<|kQ O O (yL O sz154 O O O (zFq 1 O (dg_le zA _) (dg_spl zA)))<|Y<|G O<|A O<|zW O (zLr (b:=4294967296) O O O ⟨zB,zA⟩)<|A O<|Y<|zT O<|A O<|zW O (zLr (b:=4294967296) O O O ⟨zB,hn⟩)<|A O<|Y<|zT O<|A O<|qI O ⟨zA,zA⟩<|A O<|Y ?_
  refine ⟨⟨i+1,ds.set i ((x+n%4294967296+c)%4294967296),(x+n%4294967296+c)/4294967296,n/4294967296⟩,⟨zA,by rw [List.length_set];exact hl,dgOk_set hd (Nat.mod_lt _ zB),zA,zA,dgt_next hq hx⟩,(by show 6-(i+1)<6-i;omega),Weak.mk [true,true] ⟨R,R,R,R,R,T⟩ O⟩
 ·try simp only [sx] at c1
  have hE:=dgt_end hq zA
  obtain ⟨a1,a2,a3,a4,a5,a6,rfl⟩:=dg_six hl
  refine qN<|G O<|zM zDs (J 1 O) O<|rStR 0 zRs O<|Y<|zH<|fin1 (zP zDs O (J 0 O) O) ?_
  rw [hE];rfl
theorem zLk (w:List Nat) (a b:Nat) (hw:w.length=6) (ho:gP w) (ha:a<18446744073709551616) (hb:b<18446744073709551616):
    Pur cfg 222 [vW w,vUn a,vUn b] (vW (tI w a b)):=by
 refine zR Tryz.func222 O Tryz.ntmps222 Tryz.results222 O ?_
 intro z hz
 obtain ⟨p1,p2,p3,p4⟩:=part_le ha hb
 have l1:=zEc (at_:=0) (N:=a%4294967296*(b%4294967296)) hw ho
 have o1:gP (gZ w 0 (a%4294967296*(b%4294967296))):=zCa ho
 have l2:(gZ (gZ w 0 (a%4294967296*(b%4294967296))) 1 (a%4294967296*(b/4294967296))).length=6:=zEc l1 o1
 have o2:gP (gZ (gZ w 0 (a%4294967296*(b%4294967296))) 1 (a%4294967296*(b/4294967296))):=zCa o1
 have l3:(gZ (gZ (gZ w 0 (a%4294967296*(b%4294967296))) 1 (a%4294967296*(b/4294967296))) 1 (a/4294967296*(b%4294967296))).length=6:=zEc l2 o2
 have o3:gP (gZ (gZ (gZ w 0 (a%4294967296*(b%4294967296))) 1 (a%4294967296*(b/4294967296))) 1 (a/4294967296*(b%4294967296))):=zCa o2
 have l4:=(zFg (a:=a) (b:=b) hw ho).1
 refine G O<|zV O O (qJ O O) ?_
 rintro _ _ ⟨b1,rfl,rfl⟩
 refine zV O O (qV O zr276) ?_
 rintro _ _ ⟨b2,rfl,rfl⟩
 refine Y<|G O<|A O<|zW O (zTj (b:=4294967296) O O O zB)<|A O<|zW O (zLr (b:=4294967296) O O O ⟨zB,ha⟩)<|A O<|zW O (zTj (b:=4294967296) O O O zB)<|A O<|zW O (zLr (b:=4294967296) O O O ⟨zB,hb⟩)<|A O<|A O<|A O<|A O<|Y<|G O<|zW O (wH O zDs O (J 1 O) (zJd _) (zCi hw))<|A O<|A O<|zW O (zEj O O O zA)<|qD O ok250 (zIe w 0 _ hw ho zB zA) ⟨R,O,R,O,R,O,T⟩<|kQ O O (yL O zRs O O (zWv l1) (zFq 1 O (zWu (zCi hw) l1) (zWt (zCi hw) l1)))<|Y<|G O<|zW O (wH O zDs O (J 1 O) (zJd _) (zCi l1))<|A O<|A O<|zW O (zEj O O O zA)<|qD O ok250 (zIe (gZ w 0 (a%4294967296*(b%4294967296))) 1 _ l1 o1 zB zA) ⟨R,O,R,O,R,O,T⟩<|kQ O O (yL O zRs O O (zWv l2) (zFq 1 O (zWu (zCi l1) l2) (zWt (zCi l1) l2)))<|Y<|G O<|zW O (wH O zDs O (J 1 O) (zJd _) (zCi l2))<|A O<|A O<|zW O (zEj O O O zA)<|qD O ok250 (zIe (gZ (gZ w 0 (a%4294967296*(b%4294967296))) 1 (a%4294967296*(b/4294967296))) 1 _ l2 o2 zB zA) ⟨R,O,R,O,R,O,T⟩<|kQ O O (yL O zRs O O (zWv l3) (zFq 1 O (zWu (zCi l2) l3) (zWt (zCi l2) l3)))<|Y<|G O<|zW O (wH O zDs O (J 1 O) (zJd _) (zCi l3))<|A O<|A O<|zW O (zEj O O O zA)<|qD O ok250 (zIe (gZ (gZ (gZ w 0 (a%4294967296*(b%4294967296))) 1 (a%4294967296*(b/4294967296))) 1 (a/4294967296*(b%4294967296))) 2 _ l3 o3 zB zA) ⟨R,O,R,O,R,O,T⟩ ?_
 obtain ⟨a1,a2,a3,a4,a5,a6,h6⟩:=dg_six l4
 have h6:gZ (gZ (gZ (gZ w 0 (a%4294967296*(b%4294967296))) 1 (a%4294967296*(b/4294967296))) 1 (a/4294967296*(b%4294967296))) 2 (a/4294967296*(b/4294967296))=[a1,a2,a3,a4,a5,a6]:=h6
 rw [h6]
 refine rStR 0 zRs O<|Y<|zH<|fin1 (zP zDs O (J 0 O) O) ?_
 rw [show tI w a b=[a1,a2,a3,a4,a5,a6] from h6];rfl
theorem ref05_find (env:List Bd) (s:ByteArray) (hel:env.length<=1000000):
    Pur cfg 224 [jV env,vS s] (.tup [vI ((nD env s).getD 0),vB (nD env s).isSome]):=by
 refine zR Tryz.func224 O Tryz.ntmps224 Tryz.results224 O ?_
 intro z hz
 refine G O<|A O<|A O<|Y<|zJ<|G O<|A O<|Y<|zQ<|zY ⟨[(6,.c _),(0,.c _),(1,.c _)],[]⟩ (Weak.mk [] ⟨R,R,R,T⟩ O)<|qK 1 0 O O (Nat) (fun k=>[(6,vI k)]) (fun k=>[]) (fun k=>k<=env.length/\((env.take k).any (fun y=>decide (y.Name=s))=false)) (fun k=>env.length-k) ⟨0,⟨zA,O⟩,Weak.mk [] ⟨R,R,R,T⟩ O⟩ ?_
 rintro k ⟨hk,hp⟩
 refine zJ<|G O<|A O<|A O<|qB O zWq<|yG O<|Y<|zE O (fun c1=>?_) (fun c1=>?_)
 ·try simp only [sx] at c1
  obtain ⟨x,hx⟩:=qY env k zA
  refine zK<|zJ<|zQ<|G O<|A O<|A O<|qC O zWq zA (getm hx)<|qQ O fd147_0<|zI one9 zZ O<|A O<|wL O<|Y<|zE O (fun c2=>?_) (fun c2=>?_)
  ·try simp only [sx] at c2
   refine G O<|A O<|A O<|qC O zWq zA (getm hx)<|qQ O fd147_1<|zI U zZ O<|A O<|A O<|Y<|zH<|fin2 (rs_c O) (rs_c O) ?_
   rw [env_at hx c2 hp];rfl
  ·try simp only [sx] at c2
   refine zK<|zT O<|A O<|qI O ⟨zA,zA⟩<|A O<|Y ?_
   refine ⟨k+1,⟨zA,zPk hx hp (decide_eq_false c2)⟩,zA,Weak.mk [] ⟨R,R,R,T⟩ O⟩
 ·try simp only [sx] at c1
  refine qN<|G O<|A O<|A O<|Y<|zH<|fin2 (rs_c O) (rs_c O) ?_
  rw [yV zA] at hp
  rw [env_no hp];rfl
theorem ref05_less (a b:List Nat) (h1:a.length=6) (h2:b.length=6) (ha:gP a) (hb:gP b):
    Pur cfg 225 [vW a,vW b] (vB (decide (dgV a<dgV b))):=by
 refine zR Tryz.func225 O Tryz.ntmps225 Tryz.results225 O ?_
 intro z hz
 refine G O<|zV O O (qJ O O) ?_
 rintro _ _ ⟨b1,rfl,rfl⟩
 refine zV O O (qJ O O) ?_
 rintro _ _ ⟨b2,rfl,rfl⟩
 refine A O<|Y<|zJ<|G O<|A O<|Y<|zQ<|zY ⟨[(5,.c _),(2,.c _),(3,.c _)],[_,_]⟩ (Weak.mk [true,true] ⟨R,R,R,T⟩ O)<|qK 1 0 O O (Nat) (fun q=>[(5,vI ((q:Int)-1))]) (fun q=>[]) (fun q=>q<=6/\a.drop q=b.drop q) (fun q=>q) ⟨6,⟨Nat.le_refl _,by rw [List.drop_eq_nil_of_le zA,List.drop_eq_nil_of_le zA]⟩,Weak.mk [true,true] ⟨R,R,R,T⟩ O⟩ ?_
 rintro q ⟨hk,hq⟩
 refine zJ<|G O<|A O<|zW O (wF O O O)<|Y<|zE O (fun c1=>?_) (fun c1=>?_)
 ·try simp only [sx] at c1
  obtain ⟨j,rfl⟩:∃j,q=j+1:=⟨q-1,zA⟩
  obtain ⟨x,hx⟩:=qY a j zA
  obtain ⟨y,hy⟩:=qY b j zA
  rw [show (((j+1:Nat):Int)-1)=(j:Int) by omega]
  refine zK<|zJ<|zQ<|zJ<|qU 7 mixed uC O O<|zN O O (zO O O)<|zN O O (yY O zEy O O zA zA)<|zN O O (zF O zCh O (J 1 O) (zGz hx))<|zN O O (zO O O)<|zN O O (yY O zEy O O zA zA)<|zN O O (zF O zCh O (J 0 O) (zGz hy))<|zN O O (kA O O O)<|yP<|Y<|zE O (fun c2=>?_) (fun c2=>?_)
  ·try simp only [sx] at c2
   refine zJ<|qU 8 mixed uC O O<|zN O O (zO O O)<|zN O O (yY O zEy O O zA zA)<|zN O O (zF O zCh O (J 1 O) (zGz hx))<|zN O O (zO O O)<|zN O O (yY O zEy O O zA zA)<|zN O O (zF O zCh O (J 0 O) (zGz hy))<|zN O O (zAv O O O)<|zN O O (qX O O)<|yP<|Y<|zH<|zS O ?_
   rw [←dg_less (h1.trans h2.symm) ha hb hx hy zA hq]
   exact congrArg vB (decide_eq_decide.2 zA)
  ·try simp only [sx] at c2
   obtain rfl:x=y:=by omega
   refine zK<|zT O<|A O<|zW O (yA O O O ⟨zA,zA⟩)<|A O<|Y ?_
   refine ⟨j,⟨zA,dg_step hx hy hq⟩,zA,Weak.mk [true,true] ⟨VLe.of_eq ((congrArg vI zA)),R,R,T⟩ O⟩
 ·try simp only [sx] at c1
  obtain rfl:q=0:=by omega
  refine qN<|G O<|A O<|Y<|zH<|zS O ?_
  rw [dg_same hq]
theorem zVe (a b:List Nat) (h1:a.length=6) (h2:b.length=6) (ha:gP a) (hb:gP b):
    Pur cfg 226 [vW a,vW b] (vW (tX a b)):=by
 refine zR Tryz.func226 O Tryz.ntmps226 Tryz.results226 O ?_
 intro z hz
 refine G O<|zV O O (qJ O O) ?_
 rintro _ _ ⟨b1,rfl,rfl⟩
 refine zV O O (qJ O O) ?_
 rintro _ _ ⟨b2,rfl,rfl⟩
 refine zV O O (qV O zr276) ?_
 rintro _ _ ⟨b3,rfl,rfl⟩
 refine Y<|G O<|A O<|Y<|zJ<|G O<|A O<|Y<|zQ<|zY ⟨[(6,.c _),(5,.c _),(2,.c _),(3,.c _),(4,.c _)],[_,_,_]⟩ (Weak.mk [true,true,true] ⟨R,R,R,R,R,T⟩ O)<|qK 2 3 O O (Nat×List Nat×Nat) (fun ⟨i,ds,c⟩=>[(6,vI i),(5,vUn c)]) (fun ⟨i,ds,c⟩=>[E.row b3 276 (dg0.map cU),E.row b2 276 (b.map cU),E.row b1 276 (ds.map cU)]) (fun ⟨i,ds,c⟩=>i<=6/\ds.length=6/\gP ds/\c<=1/\tX a b=ds.take i++lO (ds.drop i) (b.drop i) c) (fun ⟨i,ds,c⟩=>6-i) ⟨⟨0,a,0⟩,⟨zB,h1,ha,zB,O⟩,Weak.mk [true,true,true] ⟨R,R,R,R,R,T⟩ O⟩ ?_
 rintro ⟨i,ds,c⟩ ⟨hi,hl,hd,hc,hq⟩
 refine zJ<|G O<|A O<|yG O<|Y<|zE O (fun c1=>?_) (fun c1=>?_)
 ·try simp only [sx] at c1
  obtain ⟨x,hx⟩:=qY ds i zA
  obtain ⟨y,hy⟩:=qY b i zA
  have hxl:=hd x (qA hx)
  have hyl:=hb y (qA hy)
  refine zK<|zJ<|zQ<|G O<|A O<|zW O (yY O zEy O O zA zA)<|zW O (zF O zCh O (J 1 O) (zGz hy))<|A O<|zW O (zDq O O O zA)<|A O<|Y<|G O<|A O<|Y<|zJ<|G O<|A O<|zW O (yY O zEy O O zA zA)<|zW O (zF O zCh O (J 2 O) (zGz hx))<|A O<|yG O<|Y<|zE O (fun c2=>?_) (fun c2=>?_)
  ·try simp only [sx] at c2
   have hx2:(ds.set i (x+4294967296))[i]? =some (x+4294967296):=List.getElem?_set_self zA
   have hx3:i<(ds.set i (x+4294967296)).length:=by rw [List.length_set];omega
   refine G O<|A O<|zW O (yY O zEy O O zA zA)<|zW O (zF O zCh O (J 2 O) (zGz hx))<|zW O (zDq (b:=4294967296) O O O zA)<|zW O (yY O zEy O O zA zA)<|kQ O O (yL O sz154 O O O (zFq 2 O (dg_le zA _) (dg_spl zA)))<|Y<|zT O<|A O<|Y<|zT O<|A O<|zW O (yY O zEy O O zA zA)<|zW O (zF O zCh O (J 2 O) (zGz hx2))<|A O<|zW O (det_usub O O O ⟨zA,zA⟩)<|zW O (yY O zEy O O zA zA)<|kQ O O (yL O sz154 O O O (zFq 2 O (dg_le hx3 _) (dg_spl hx3)))<|Y<|zT O<|A O<|qI O ⟨zA,zA⟩<|A O<|Y ?_
   refine ⟨⟨i+1,ds.set i (x+4294967296-(y+c)),1⟩,⟨zA,by rw [List.length_set];exact hl,dgOk_set hd zA,zB,mns_next hq hx hy (by rw [if_pos zA]) (by rw [if_pos zA])⟩,(by show 6-(i+1)<6-i;omega),Weak.mk [true,true,true] ⟨R,R,R,R,R,T⟩ (by rw [List.set_set];rfl)⟩
  ·try simp only [sx] at c2
   have hx2:=hx
   have hx3:i<ds.length:=by omega
   refine zK<|zT O<|A O<|zW O (yY O zEy O O zA zA)<|zW O (zF O zCh O (J 2 O) (zGz hx2))<|A O<|zW O (det_usub O O O ⟨zA,zA⟩)<|zW O (yY O zEy O O zA zA)<|kQ O O (yL O sz154 O O O (zFq 2 O (dg_le hx3 _) (dg_spl hx3)))<|Y<|zT O<|A O<|qI O ⟨zA,zA⟩<|A O<|Y ?_
   refine ⟨⟨i+1,ds.set i (x-(y+c)),0⟩,⟨zA,by rw [List.length_set];exact hl,dgOk_set hd zA,zB,mns_next hq hx hy (by rw [if_neg zA]) (by rw [if_neg zA])⟩,(by show 6-(i+1)<6-i;omega),Weak.mk [true,true,true] ⟨R,R,R,R,R,T⟩ O⟩
 ·try simp only [sx] at c1
  have hE:=mns_end hq zA
  obtain ⟨a1,a2,a3,a4,a5,a6,rfl⟩:=dg_six hl
  refine qN<|G O<|zM zDs (J 2 O) O<|rStR 0 zRs O<|Y<|zH<|fin1 (zP zDs O (J 0 O) O) ?_
  rw [hE];rfl
theorem zQd (l:Lf) (env:List Bd) (hel:env.length<=1000000) (her:∀x,x∈env->r64 x.Val) (hl:l.L.length<=5864062014805) (hr:l.rng):
    Pur cfg 190 [dF l,jV env] (.tup [vI (dE l env).1,vI (dE l env).2]):=by
 refine zR Tryz.func190 O Tryz.ntmps190 Tryz.results190 O ?_
 intro z hz
 refine G O<|zV O O (qJ O O) ?_
 rintro _ _ ⟨b1,rfl,rfl⟩
 refine A O<|A O<|Y<|zJ<|G O<|zM kP (J 0 O) O<|qD O ok221 (ref05_Validate l zA) ⟨R,O,T⟩<|yK O<|Y<|zE O (fun c1=>?_) (fun c1=>?_)
 ·try simp only [sx] at c1
  have hE:dE l env=(0,1):=ev_bad c1
  refine G O<|A O<|A O<|Y<|zH<|fin2 (rs_c O) (rs_c O) ?_
  rw [hE]
 ·try simp only [sx] at c1
  refine zK<|G O<|zV O O (qV O zr276) ?_
  rintro _ _ ⟨b2,rfl,rfl⟩
  refine zV O O (qV O zr276) ?_
  rintro _ _ ⟨b3,rfl,rfl⟩
  refine Y<|zY ⟨[(1,.c _),(2,.c _),(6,.c _),(7,.c _)],[_,_,_]⟩ (Weak.mk [true,true,true] ⟨R,R,R,R,T⟩ O)<|awp_seqJ [E.row b3 276 ((erQ l.K).map cU),E.row b2 276 ((erP l.K).map cU),E.row b1 51 l.cells] ?_ ?_
  ·refine G O<|zD O zEv<|zI U (J 2 O) O<|yG O<|Y<|zE O (fun c2=>?_) (fun c2=>?_)
   ·try simp only [sx] at c2
    refine qU 5 mixed uC O O<|zN O O (zU O zDs O (J 0 O) O)<|zN O O (zG O zEv O)<|zN O O (zF O U O (J 2 O) O)<|zN O O (qG O ok223 (zFl l.K hr.1) ⟨R,O,T⟩)<|zN O O (qG O ok222 (zLk dg0 l.K.natAbs 1 O zSf (by have:=zGw hr.1;omega) zB) ⟨R,O,R,O,R,O,T⟩)<|yP<|kQ O O (yL O zRs O O (zWv (zFg O zSf).1) (zFq 0 O (zWu O (zFg O zSf).1) (zWt O (zFg O zSf).1)))<|Y ?_
    exact ⟨O,Weak.mk [true,true,true] ⟨R,R,R,R,T⟩ (by unfold erP erQ;rw [if_pos c2,if_pos c2];rfl)⟩
   ·try simp only [sx] at c2
    refine qU 5 mixed uC O O<|zN O O (zU O zDs O (J 1 O) O)<|zN O O (zG O zEv O)<|zN O O (zF O U O (J 2 O) O)<|zN O O (qG O ok223 (zFl l.K hr.1) ⟨R,O,T⟩)<|zN O O (qG O ok222 (zLk dg0 l.K.natAbs 1 O zSf (by have:=zGw hr.1;omega) zB) ⟨R,O,R,O,R,O,T⟩)<|yP<|kQ O O (yL O zRs O O (zWv (zFg O zSf).1) (zFq 1 O (zWu O (zFg O zSf).1) (zWt O (zFg O zSf).1)))<|Y ?_
    exact ⟨O,Weak.mk [true,true,true] ⟨R,R,R,R,T⟩ (by unfold erP erQ;rw [if_neg (show ¬l.K<0 by omega),if_neg (show ¬l.K<0 by omega)];rfl)⟩
  ·refine zJ<|G O<|A O<|Y<|zQ<|zY ⟨[(8,.c _),(1,.c _),(2,.c _),(6,.c _),(7,.c _)],[_,_,_]⟩ (Weak.mk [true,true,true] ⟨R,R,R,R,R,T⟩ O)<|qK 1 2 O O (Nat×List Nat×List Nat×Int) (fun ⟨k,P,Q,z⟩=>[(8,vI k)]) (fun ⟨k,P,Q,z⟩=>[E.row b3 276 (Q.map cU),E.row b2 276 (P.map cU)]) (fun ⟨k,P,Q,z⟩=>k<=l.L.length/\(ErJ l env k P Q z)) (fun ⟨k,P,Q,z⟩=>l.L.length-k) ⟨⟨0,erP l.K,erQ l.K,0⟩,⟨zA,er_start hr.1⟩,Weak.mk [true,true,true] ⟨R,R,R,R,R,T⟩ O⟩ ?_
   rintro ⟨k,P,Q,z⟩ ⟨hk,hj⟩
   show AWP _ _ _ _ _ ⟨[(8,vI k)]++_,[E.row b3 276 (Q.map cU),E.row b2 276 (P.map cU)]++_⟩
   refine zJ<|G O<|A O<|zD O wK<|zI zBl (J 2 O) O<|qB O N<|yG O<|Y<|zE O (fun c3=>?_) (fun c3=>?_)
   ·try simp only [sx] at c3
    obtain ⟨m,hm⟩:=qY l.L k zA
    have hbr:=hr.2 m (qA hm)
    have h1:=zGw hbr
    refine zK<|zJ<|zQ<|G O<|A O<|zD O wK<|zI zBl (J 2 O) O<|A O<|qC O N zA (getm hm)<|qQ O zAa<|zI one9 zZ O<|qD O ok224 (ref05_find env m.Name zA) ⟨R,O,R,O,T⟩<|qO O<|qR O<|qR O<|A O<|A O<|Y<|zJ<|G O<|A O<|kN O<|Y<|zE O (fun c4=>?_) (fun c4=>?_)
    ·try simp only [sx] at c4
     have hE:=ev_none c1 hm (by simpa using c4)
     refine G O<|A O<|A O<|Y<|zH<|fin2 (rs_c O) (rs_c O) ?_
     rw [hE]
    ·try simp only [sx] at c4
     obtain ⟨v,hv⟩:=Option.isSome_iff_exists.1 (show (nD env m.Name).isSome=true by simpa using c4)
     rw [hv]
     have hvr:=env_r her hv
     have h2:=zGw hvr
     refine zK<|G O<|A O<|yG O<|zD O wK<|zI zBl (J 2 O) O<|A O<|qC O N zA (getm hm)<|qQ O zCo<|zI U zZ O<|yG O<|zW O (zOx O un4 O O)<|Y<|zE O (fun c5=>?_) (fun c5=>?_)
     ·have hs:=bne_t c5
      have hv9:=plu_v hj.ql hj.qo (er_bd (l:=l) hvr hbr (show k<=5864062014805 by omega) hj.qb)
      have hp9:=zFg (a:=v.natAbs) (b:=m.By.natAbs) hj.ql hj.qo
      have hn9:=er_neg hr hj hm hv hvr hs hp9.1 hp9.2 hv9
      refine qU 11 mixed uC O O<|zN O O (wH O zDs O (J 0 O) (zJd _) (zCi hj.ql))<|zN O O (zO O O)<|zN O O (qG O ok223 (zFl v hvr) ⟨R,O,T⟩)<|zN O O (zG O wK O)<|zN O O (zF O zBl O (J 2 O) O)<|zN O O (zO O O)<|zN O O (qE O N O O zA (getm hm))<|zN O O (qM O zCo O)<|zN O O (zF O U O zZ O)<|zN O O (qG O ok223 (zFl m.By hbr) ⟨R,O,T⟩)<|zN O O (qG O ok222 (zLk Q v.natAbs m.By.natAbs hj.ql hj.qo zA zA) ⟨R,O,R,O,R,O,T⟩)<|yP<|kQ O O (yL O zRs O O (zWv (zFg hj.ql hj.qo).1) (zFq 0 O (zWu (zCi hj.ql) (zFg hj.ql hj.qo).1) (zWt (zCi hj.ql) (zFg hj.ql hj.qo).1)))<|Y<|zT O<|A O<|qI O ⟨zA,zA⟩<|A O<|Y ?_
      refine ⟨⟨k+1,P,tI Q v.natAbs m.By.natAbs,z+m.By*v⟩,⟨zA,hn9⟩,(by show l.L.length-(k+1)<l.L.length-k;omega),Weak.mk [true,true,true] ⟨R,R,R,R,R,T⟩ O⟩
     ·have hs:=bne_f c5
      have hv9:=plu_v hj.pl hj.po (er_bd (l:=l) hvr hbr (show k<=5864062014805 by omega) hj.pb)
      have hp9:=zFg (a:=v.natAbs) (b:=m.By.natAbs) hj.pl hj.po
      have hn9:=er_pos hr hj hm hv hvr hs hp9.1 hp9.2 hv9
      refine qU 11 mixed uC O O<|zN O O (wH O zDs O (J 1 O) (zJd _) (zCi hj.pl))<|zN O O (zO O O)<|zN O O (qG O ok223 (zFl v hvr) ⟨R,O,T⟩)<|zN O O (zG O wK O)<|zN O O (zF O zBl O (J 2 O) O)<|zN O O (zO O O)<|zN O O (qE O N O O zA (getm hm))<|zN O O (qM O zCo O)<|zN O O (zF O U O zZ O)<|zN O O (qG O ok223 (zFl m.By hbr) ⟨R,O,T⟩)<|zN O O (qG O ok222 (zLk P v.natAbs m.By.natAbs hj.pl hj.po zA zA) ⟨R,O,R,O,R,O,T⟩)<|yP<|kQ O O (yL O zRs O O (zWv (zFg hj.pl hj.po).1) (zFq 1 O (zWu (zCi hj.pl) (zFg hj.pl hj.po).1) (zWt (zCi hj.pl) (zFg hj.pl hj.po).1)))<|Y<|zT O<|A O<|qI O ⟨zA,zA⟩<|A O<|Y ?_
      refine ⟨⟨k+1,tI P v.natAbs m.By.natAbs,Q,z+m.By*v⟩,⟨zA,hn9⟩,(by show l.L.length-(k+1)<l.L.length-k;omega),Weak.mk [true,true,true] ⟨R,R,R,R,R,T⟩ O⟩
   ·try simp only [sx] at c3
    refine qN<|zJ<|G O<|zW O (wH O zDs O (J 1 O) (zJd _) (zCi hj.pl))<|zW O (wH O zDs O (J 0 O) (zJd _) (zCi hj.ql))<|qD O ok225 (ref05_less P Q hj.pl hj.ql hj.po hj.qo) ⟨R,O,R,O,T⟩<|Y<|zE O (fun c6=>?_) (fun c6=>?_)
    ·try simp only [sx] at c6
     have hM:=mns_v hj.ql hj.pl hj.qo hj.po zA
     refine G O<|zW O (wH O zDs O (J 0 O) (zJd _) (zCi hj.ql))<|zW O (wH O zDs O (J 1 O) (zJd _) (zCi hj.pl))<|qD O ok226 (zVe Q P hj.ql hj.pl hj.qo hj.po) ⟨R,O,R,O,T⟩<|zV O O (qV O zr276) ?_
     rintro _ _ ⟨b4,rfl,rfl⟩
     obtain ⟨a1,a2,a3,a4,a5,a6,hM6⟩:=dg_six hM.2.2
     rw [hM6]
     rw [hM6] at hM
     have q1:=hM.2.1 a1 uD
     have q2:=hM.2.1 a2 uD
     refine rStR 0 zRs O<|Y<|G O<|zW O (yY O zEy O O zB zB)<|zI zCh (J 0 O) O<|zW O (yY O zEy O O zB zB)<|zI zCh (J 0 O) O<|zW O (zEj (b:=4294967296) O O O zA)<|zW O (zDq O O O zA)<|A O<|Y<|zJ<|G O<|zW O (yY O zEy O O zB zB)<|zI zCh (J 0 O) O<|yK O<|A O<|rL0 O (fun g19_3=>yY O zEy O O zB zB) O<|rL1 99 O (fun g19_3=>zF O zCh O (J 0 O) O) O<|rL1 100 O (fun g19_3=>kA O O O) O<|r_or O (fun h=>(lzf h))<|A O<|rL0 O (fun g19_8=>yY O zEy O O zB zB) O<|rL1 104 O (fun g19_8=>zF O zCh O (J 0 O) O) O<|rL1 105 O (fun g19_8=>kA O O O) O<|r_or O (fun h=>(lzf h))<|A O<|rL0 O (fun g19_13=>yY O zEy O O zB zB) O<|rL1 109 O (fun g19_13=>zF O zCh O (J 0 O) O) O<|rL1 110 O (fun g19_13=>kA O O O) O<|r_or O (fun h=>(lzf h))<|A O<|rL0 O (fun g19_18=>zO O O) O<|rL1 114 O (fun g19_18=>yC O O O) O<|r_or O (fun h=>(lzf h))<|Y<|zE O (fun c7=>?_) (fun c7=>?_)
     ·try simp only [sx] at c7
      have hB:=er_big hM.2.1 hM.1 zA
      have hE:=er_out hj (show l.L.length<=k by omega) c1 uH
      refine G O<|A O<|A O<|Y<|zH<|fin2 (rs_c O) (rs_c O) ?_
      rw [hE]
     ·try simp only [sx] at c7
      have hB:=er_small hM.2.1 hM.1 zA
      refine zK<|G O<|A O<|zW O (det_usub (b:=1) O O O ⟨zA,zA⟩)<|zW O (zHo O us154 ik2 O (show IntKind.i64.wrap ((a1+a2*4294967296-1:Nat):Int)=((a1+a2*4294967296-1:Nat):Int) from zIx uH))<|zW O (zBp O O ⟨zA,zA⟩)<|zW O (yA O O O ⟨zA,zA⟩)<|A O<|A O<|Y<|zH<|fin2 (rs_c O) (rs_c O) ?_
      rw [er_in hj (show l.L.length<=k by omega) c1 (n:= -((a1+a2*4294967296-1:Nat):Int)-1) zA uH]
    ·try simp only [sx] at c6
     have hM:=mns_v hj.pl hj.ql hj.po hj.qo zA
     refine zK<|G O<|zW O (wH O zDs O (J 1 O) (zJd _) (zCi hj.pl))<|zW O (wH O zDs O (J 0 O) (zJd _) (zCi hj.ql))<|qD O ok226 (zVe P Q hj.pl hj.ql hj.po hj.qo) ⟨R,O,R,O,T⟩<|zV O O (qV O zr276) ?_
     rintro _ _ ⟨b5,rfl,rfl⟩
     obtain ⟨a1,a2,a3,a4,a5,a6,hM6⟩:=dg_six hM.2.2
     rw [hM6]
     rw [hM6] at hM
     have q1:=hM.2.1 a1 uD
     have q2:=hM.2.1 a2 uD
     refine rStR 0 zRs O<|Y<|G O<|zW O (yY O zEy O O zB zB)<|zI zCh (J 0 O) O<|zW O (yY O zEy O O zB zB)<|zI zCh (J 0 O) O<|zW O (zEj (b:=4294967296) O O O zA)<|zW O (zDq O O O zA)<|A O<|Y<|zJ<|G O<|zW O (yY O zEy O O zB zB)<|zI zCh (J 0 O) O<|yK O<|A O<|rL0 O (fun g24_3=>yY O zEy O O zB zB) O<|rL1 135 O (fun g24_3=>zF O zCh O (J 0 O) O) O<|rL1 136 O (fun g24_3=>kA O O O) O<|r_or O (fun h=>(lzf h))<|A O<|rL0 O (fun g24_8=>yY O zEy O O zB zB) O<|rL1 140 O (fun g24_8=>zF O zCh O (J 0 O) O) O<|rL1 141 O (fun g24_8=>kA O O O) O<|r_or O (fun h=>(lzf h))<|A O<|rL0 O (fun g24_13=>yY O zEy O O zB zB) O<|rL1 145 O (fun g24_13=>zF O zCh O (J 0 O) O) O<|rL1 146 O (fun g24_13=>kA O O O) O<|r_or O (fun h=>(lzf h))<|A O<|rL0 O (fun g24_18=>zO O O) O<|rL1 150 O (fun g24_18=>yC O O O) O<|r_or O (fun h=>(lzf h))<|Y<|zE O (fun c8=>?_) (fun c8=>?_)
     ·try simp only [sx] at c8
      have hB:=er_big2 hM.2.1 hM.1 zA
      have hE:=er_out hj (show l.L.length<=k by omega) c1 uH
      refine G O<|A O<|A O<|Y<|zH<|fin2 (rs_c O) (rs_c O) ?_
      rw [hE]
     ·try simp only [sx] at c8
      have hB:=er_small hM.2.1 hM.1 zA
      refine zK<|G O<|A O<|zW O (zHo O us154 ik2 O (show IntKind.i64.wrap ((a1+a2*4294967296:Nat):Int)=((a1+a2*4294967296:Nat):Int) from zIx uH))<|A O<|A O<|Y<|zH<|fin2 (rs_c O) (rs_c O) ?_
      rw [er_in hj (show l.L.length<=k by omega) c1 (n:=((a1+a2*4294967296:Nat):Int)) zA uH]
end Go.W
end
