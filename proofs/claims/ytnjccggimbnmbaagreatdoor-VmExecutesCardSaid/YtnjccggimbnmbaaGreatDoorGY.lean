/-
  What functions compute.
  What functions compute.
  What functions compute.
  What functions compute.
  What functions compute.
  What functions compute.
  What functions compute.
  What functions compute.
  What functions compute.
  What functions compute.
  Conditions: none.
-/
import Derived.Test.YtnjccggimbnmbaaGreatDoorGL
import Derived.Test.YtnjccggimbnmbaaGreatDoorPlainM
import Derived.Test.YtnjccggimbnmbaaGreatDoorEngZ
import Derived.Test.YtnjccggimbnmbaaGreatDoorPlain2
set_option linter.unusedSimpArgs false
set_option linter.unusedVariables false
section
set_option maxRecDepth 10000
namespace Go.W
open Go Go.Eng Go.Proofs Go.L41 Go.Br
attribute [local irreducible] AWP RWP TD fT
theorem arr2_at {q k:Nat} (h:k<2):([.lit (.int .u64 (q:Int)),.lit (.int .u64 ((q+1:Nat):Int))]:List C)[((k:Int)).toNat]? =some (.lit (.int .u64 ((q+k:Nat):Int))):=by
  rcases (show k=0∨k=1 by omega) with rfl|rfl<;>rfl
theorem ar277:rW Tryz.prog 277=some (2,147,1):=by kernel_rfl
theorem ik2:tC Tryz.prog 2=some .i64:=by kernel_rfl
theorem ok176:bA Tryz.prog 176=true:=by kernel_rfl
theorem zSv:bA Tryz.prog 204=true:=by kernel_rfl
theorem ok205:bA Tryz.prog 205=true:=by kernel_rfl
theorem ok206:bA Tryz.prog 206=true:=by kernel_rfl
theorem ok214:bA Tryz.prog 214=true:=by kernel_rfl
theorem ok216:bA Tryz.prog 216=true:=by kernel_rfl
theorem ok238:bA Tryz.prog 238=true:=by kernel_rfl
theorem ok239:bA Tryz.prog 239=true:=by kernel_rfl
theorem ok240:bA Tryz.prog 240=true:=by kernel_rfl
theorem ok241:bA Tryz.prog 241=true:=by kernel_rfl
theorem ok263:bA Tryz.prog 263=true:=by kernel_rfl
theorem one147:jL Tryz.prog 147=true:=by kernel_rfl
theorem pla277:sF Tryz.prog 277=some (2,1):=by kernel_rfl
theorem zRs:(Tryz.prog.underlying 147).isSome=true:=by kernel_rfl
theorem zr277:dM Tryz.prog 277=some [(Value.int IntKind.u64 0),(Value.int IntKind.u64 0)]:=by kernel_rfl
theorem ref01_gcd (a b:Nat):
    Pur cfgO 263 [lB a,lB b] (lB (Nat.gcd a b)):=by
 refine zR Tryz.func263 O Tryz.ntmps263 Tryz.results263 O ?_
 exact s8
theorem zMr (n d:Int) (hn:lY n) (hd:lY d):
    Pur cfgO 214 [vI n,vI d] (.tup [bJ (lO n d).1,vI (lO n d).2]):=by
 refine zR Tryz.func214 O Tryz.ntmps214 Tryz.results214 O ?_
 intro z hz
 have hn1:=hn.1
 have hn2:=hn.2
 have hd1:=hd.1
 have hd2:=hd.2
 refine Y O<|zW O O (qS O zr59) ?_
 rintro _ _ ⟨b1,rfl,rfl⟩
 refine G O<|zA<|zK<|Y O<|G O<|qQ O<|zA<|zE O (fun c1=>?_) (fun c1=>?_)
 ·try simp only [sx] at c1
  refine Y O<|qR O zr59 pl59<|rStR 0 W O<|G O<|zA<|zG<|R (zP qN O (J 0 O) O) (L O) ?_
  rw [newF_zero c1];rfl
 ·try simp only [sx] at c1
  have hg:0<Nat.gcd n.natAbs d.natAbs:=Nat.gcd_pos_of_pos_right _ (by omega)
  refine zJ<|Y O<|G O<|yF O<|G O<|yF O<|zX O (zKo O un4 O O)<|G O<|zA<|Y O<|G O<|zZ O ok92 (upO (zGl n hn.1 hn.2)) ⟨zC,O,T⟩<|G O<|zZ O ok92 (upO (zGl d hd.1 hd.2)) ⟨zC,O,T⟩<|G O<|G O<|zA<|Y O<|G O<|G O<|zZ O ok91 (upO (frac_gcd n.natAbs d.natAbs)) ⟨zC,O,zC,O,T⟩<|G O<|zA<|zK<|qV 8 mixed (by kernel_rfl) O O<|zN O O (zO O O)<|zN O O (zO O O)<|zN O O (zNb O O O ⟨by omega,by omega⟩)<|zN O O (zO O O)<|zN O O (zO O O)<|zN O O (zNb O O O ⟨by omega,by omega⟩)<|zN O O (yE O O)<|zN O O (yE O O)<|yK<|zA<|zK<|Y O<|G O<|zAf O<|G O<|rL0 O (fun g7_2=>zO O O) O<|rL1 34 O (fun g7_2=>kD O O O) O<|r_or O (fun h=>(lzf h))<|zA<|zE O (fun c2=>?_) (fun c2=>?_)
  ·refine Y O<|qR O zr59 pl59<|rStR 0 W O<|G O<|zA<|zG<|R (zP qN O (J 0 O) O) (L O) ?_
   rw [newF_nz c1,madF_big c2];rfl
  ·refine zJ<|zK<|Y O<|G O<|zA<|zE O (fun c3=>?_) (fun c3=>?_)
   ·refine Y O<|G O<|zX O (wK O zRs ik2 O)<|zX O (zFr O O)<|G O<|zX O (wK O zRs ik2 O)<|qR O zr59 pl59<|rStR 0 W O<|G O<|zA<|zG<|R (zP qN O (J 0 O) O) (L O) ?_
    have c3:jF n d=true:=c3
    rw [newF_nz c1,zQs c2,c3];rfl
   ·refine zJ<|Y O<|G O<|zX O (wK O zRs ik2 O)<|G O<|zX O (wK O zRs ik2 O)<|qR O zr59 pl59<|rStR 0 W O<|G O<|zA<|zG<|R (zP qN O (J 0 O) O) (L O) ?_
    have c3:jF n d=false:=c3
    rw [newF_nz c1,zQs c2,c3];rfl
theorem ref01_size (n:Int) (hn:lY n):
    Pur cfgO 239 [vI n] (vUn n.natAbs):=by
 refine zR Tryz.func239 O Tryz.ntmps239 Tryz.results239 O ?_
 intro z hz
 have hn1:=hn.1
 have hn2:=hn.2
 refine Y O<|G O<|zA<|zK<|Y O<|G O<|yF O<|zA<|zE O (fun c1=>?_) (fun c1=>?_)
 ·try simp only [sx] at c1
  refine Y O<|G O<|qF O ⟨by omega,by omega⟩<|zX O (zFr O O)<|zX O (wK O us2 ik147 O)<|zX O (zUi O O O)<|G O<|zA<|zG<|zS O ?_
  exact congrArg lB (size_neg c1 hn)
 ·try simp only [sx] at c1
  refine zJ<|Y O<|G O<|zX O (wK O us2 ik147 O)<|G O<|zA<|zG<|zS O ?_
  exact congrArg lB (mag_pos (by omega) hn.2)
theorem ref01_made (s:Bool) (a b:Nat) (ha:a<18446744073709551616) (hb:b<18446744073709551616) (h0:0<b):
    Pur cfgO 238 [vB s,vUn a,vUn b] (.tup [bJ (pS s a b).1,vI (pS s a b).2]):=by
 refine zR Tryz.func238 O Tryz.ntmps238 Tryz.results238 O ?_
 intro z hz
 have hg:0<Nat.gcd a b:=Nat.gcd_pos_of_pos_right _ h0
 refine Y O<|zW O O (qS O zr59) ?_
 rintro _ _ ⟨b1,rfl,rfl⟩
 refine G O<|zA<|Y O<|G O<|G O<|zZ O ok263 (ref01_gcd a b) ⟨zC,O,zC,O,T⟩<|G O<|zA<|Y O<|G O<|G O<|zX O (zNb O O O ⟨by omega,by omega⟩)<|G O<|zA<|Y O<|G O<|G O<|zX O (zNb O O O ⟨by omega,by omega⟩)<|G O<|zA<|zK<|Y O<|G O<|zAf O<|G O<|rL0 O (fun g4_2=>zO O O) O<|rL1 21 O (fun g4_2=>kD O O O) O<|r_or O (fun h=>(lzf h))<|zA<|zE O (fun c1=>?_) (fun c1=>?_)
 ·refine Y O<|qR O zr59 pl59<|rStR 0 W O<|G O<|zA<|zG<|R (zP qN O (J 0 O) O) (L O) ?_
  rw [madF_big c1];rfl
 ·refine zJ<|zK<|Y O<|G O<|zA<|zE O (fun c2=>?_) (fun c2=>?_)
  ·try simp only [sx] at c2
   refine Y O<|G O<|zX O (wK O zRs ik2 O)<|zX O (zFr O O)<|G O<|zX O (wK O zRs ik2 O)<|qR O zr59 pl59<|rStR 0 W O<|G O<|zA<|zG<|R (zP qN O (J 0 O) O) (L O) ?_
   rw [zQs c1,c2];rfl
  ·try simp only [sx] at c2
   refine zJ<|Y O<|G O<|zX O (wK O zRs ik2 O)<|G O<|zX O (wK O zRs ik2 O)<|qR O zr59 pl59<|rStR 0 W O<|G O<|zA<|zG<|R (zP qN O (J 0 O) O) (L O) ?_
   have c2:s=false:=by simpa using c2
   rw [zQs c1,c2];rfl
theorem zJk (n d:Int) (hn:lY n) (hd:lY d):
    Pur cfgO 206 [vI n,vI d] (.tup [bJ (lO n d).1,vI (lO n d).2]):=by
 refine zR Tryz.func206 O Tryz.ntmps206 Tryz.results206 O ?_
 intro z hz
 have hn1:=hn.1
 have hn2:=hn.2
 have hd1:=hd.1
 have hd2:=hd.2
 refine Y O<|zW O O (qS O zr59) ?_
 rintro _ _ ⟨b1,rfl,rfl⟩
 refine G O<|zA<|zK<|Y O<|G O<|qQ O<|zA<|zE O (fun c1=>?_) (fun c1=>?_)
 ·try simp only [sx] at c1
  refine Y O<|qR O zr59 pl59<|rStR 0 W O<|G O<|zA<|zG<|R (zP qN O (J 0 O) O) (L O) ?_
  rw [newF_zero c1];rfl
 ·try simp only [sx] at c1
  refine zJ<|Y O<|G O<|yF O<|G O<|yF O<|zX O (zKo O un4 O O)<|G O<|zZ O ok239 (ref01_size n hn) ⟨zC,O,T⟩<|G O<|zZ O ok239 (ref01_size d hd) ⟨zC,O,T⟩<|zZ O ok238 (ref01_made (jF n d) n.natAbs d.natAbs (by omega) (by omega) (by omega)) ⟨zC,O,zC,O,zC,O,T⟩<|yD O<|qY O<|rStR 0 W O<|G O<|zA<|zG<|R (zP qN O (J 0 O) O) (L O) ?_
  rw [newF_nz c1];rfl
theorem zAo (v:Vl):
    Pur cfgO 204 [bJ v] (vB (bN v)):=by
 refine zR Tryz.func204 O Tryz.ntmps204 Tryz.results204 O ?_
 intro z hz
 refine Y O<|zW O O (qB O O) ?_
 rintro _ _ ⟨b1,rfl,rfl⟩
 refine G O<|zA<|Y O<|qR O zr43 pl43<|zL qN (J 0 O) O<|zZ O ok63 (upO (zGf tFr v (by decide))) ⟨zC,O,zC,O,T⟩<|G O<|zA<|zG<|zS O ?_
 exact O
theorem frac_Add (a b:Vl):
    Pur cfgO 183 [bJ a,bJ b] (.tup [bJ (frX 4 a b).1,vI (frX 4 a b).2]):=by
 refine zR Tryz.func183 O Tryz.ntmps183 Tryz.results183 O ?_
 intro z hz
 refine Y O<|zW O O (qB O O) ?_
 rintro _ _ ⟨b1,rfl,rfl⟩
 refine zW O O (qB O O) ?_
 rintro _ _ ⟨b2,rfl,rfl⟩
 refine zW O O (qS O zr59) ?_
 rintro _ _ ⟨b3,rfl,rfl⟩
 refine G O<|zA<|zK<|Y O<|zL qN (J 2 O) O<|zZ O ok54 (upO (wR a)) ⟨zC,O,T⟩<|yT O<|G O<|rL0 O (fun g1_3=>zV O qN O (J 1 O) O) O<|rL1 10 O (fun g1_3=>qE O ok54 (upO (wR b)) ⟨zC,O,T⟩) O<|rL1 11 O (fun g1_3=>kA O O) O<|r_or O (fun h=>(lzf h))<|zA<|zE O (fun c1=>?_) (fun c1=>?_)
 ·exact r3
 ·have c1:(!bN a|| !bN b)=false:=c1
  obtain ⟨ha,hb⟩:=zJu c1
  obtain ⟨b1,b2,b3,b4,b5,b6,b7⟩:=zCt ha hb
  refine zJ<|Y O<|zD O yR<|zI U (J 2 O) O<|zD O kU<|zI U (J 1 O) O<|zX O (yI O O O ⟨by omega,by omega⟩)<|zD O yR<|zI U (J 1 O) O<|zD O kU<|zI U (J 2 O) O<|zX O (yI O O O ⟨by omega,by omega⟩)<|qF O ⟨by omega,by omega⟩<|zD O kU<|zI U (J 2 O) O<|zD O kU<|zI U (J 1 O) O<|zX O (yI O O O ⟨by omega,by omega⟩)<|zZ O ok214 (zMr (a.N*b.D+b.N*a.D) (a.D*b.D) ⟨by omega,by omega⟩ ⟨by omega,by omega⟩) ⟨zC,O,zC,O,T⟩<|yD O<|qY O<|rStR 0 W O<|G O<|zA<|zG<|R (zP qN O (J 0 O) O) (L O) ?_
  rw [zCr ha hb];rfl
theorem ref01_Add (a b:Vl):
    Pur cfgO 166 [bJ a,bJ b] (.tup [bJ (frX 4 a b).1,vI (frX 4 a b).2]):=by
 refine zR Tryz.func166 O Tryz.ntmps166 Tryz.results166 O ?_
 intro z hz
 refine Y O<|zW O O (qB O O) ?_
 rintro _ _ ⟨b1,rfl,rfl⟩
 refine zW O O (qB O O) ?_
 rintro _ _ ⟨b2,rfl,rfl⟩
 refine zW O O (qS O zr59) ?_
 rintro _ _ ⟨b3,rfl,rfl⟩
 refine G O<|zA<|zK<|Y O<|zL qN (J 2 O) O<|zZ O zSv (zAo a) ⟨zC,O,T⟩<|yT O<|G O<|rL0 O (fun g1_3=>zV O qN O (J 1 O) O) O<|rL1 10 O (fun g1_3=>qE O zSv (zAo b) ⟨zC,O,T⟩) O<|rL1 11 O (fun g1_3=>kA O O) O<|r_or O (fun h=>(lzf h))<|zA<|zE O (fun c1=>?_) (fun c1=>?_)
 ·exact r3
 ·have c1:(!bN a|| !bN b)=false:=c1
  obtain ⟨ha,hb⟩:=zJu c1
  obtain ⟨b1,b2,b3,b4,b5,b6,b7⟩:=zCt ha hb
  refine zJ<|Y O<|zD O yR<|zI U (J 2 O) O<|zD O kU<|zI U (J 1 O) O<|zX O (yI O O O ⟨by omega,by omega⟩)<|zD O yR<|zI U (J 1 O) O<|zD O kU<|zI U (J 2 O) O<|zX O (yI O O O ⟨by omega,by omega⟩)<|qF O ⟨by omega,by omega⟩<|zD O kU<|zI U (J 2 O) O<|zD O kU<|zI U (J 1 O) O<|zX O (yI O O O ⟨by omega,by omega⟩)<|zZ O ok206 (zJk (a.N*b.D+b.N*a.D) (a.D*b.D) ⟨by omega,by omega⟩ ⟨by omega,by omega⟩) ⟨zC,O,zC,O,T⟩<|yD O<|qY O<|rStR 0 W O<|G O<|zA<|zG<|R (zP qN O (J 0 O) O) (L O) ?_
  rw [zCr ha hb];rfl
theorem frac_Sub (a b:Vl):
    Pur cfgO 184 [bJ a,bJ b] (.tup [bJ (frX 5 a b).1,vI (frX 5 a b).2]):=by
 refine zR Tryz.func184 O Tryz.ntmps184 Tryz.results184 O ?_
 intro z hz
 refine Y O<|zW O O (qB O O) ?_
 rintro _ _ ⟨b1,rfl,rfl⟩
 refine zW O O (qB O O) ?_
 rintro _ _ ⟨b2,rfl,rfl⟩
 refine zW O O (qS O zr59) ?_
 rintro _ _ ⟨b3,rfl,rfl⟩
 refine G O<|zA<|zK<|Y O<|zL qN (J 2 O) O<|zZ O ok54 (upO (wR a)) ⟨zC,O,T⟩<|yT O<|G O<|rL0 O (fun g1_3=>zV O qN O (J 1 O) O) O<|rL1 10 O (fun g1_3=>qE O ok54 (upO (wR b)) ⟨zC,O,T⟩) O<|rL1 11 O (fun g1_3=>kA O O) O<|r_or O (fun h=>(lzf h))<|zA<|zE O (fun c1=>?_) (fun c1=>?_)
 ·exact r3
 ·have c1:(!bN a|| !bN b)=false:=c1
  obtain ⟨ha,hb⟩:=zJu c1
  obtain ⟨b1,b2,b3,b4,b5,b6,b7⟩:=zCt ha hb
  refine zJ<|Y O<|zD O yR<|zI U (J 2 O) O<|zD O kU<|zI U (J 1 O) O<|zX O (yI O O O ⟨by omega,by omega⟩)<|zD O yR<|zI U (J 1 O) O<|zD O kU<|zI U (J 2 O) O<|zX O (yI O O O ⟨by omega,by omega⟩)<|zX O (qZ O O O ⟨by omega,by omega⟩)<|zD O kU<|zI U (J 2 O) O<|zD O kU<|zI U (J 1 O) O<|zX O (yI O O O ⟨by omega,by omega⟩)<|zZ O ok214 (zMr (a.N*b.D-b.N*a.D) (a.D*b.D) ⟨by omega,by omega⟩ ⟨by omega,by omega⟩) ⟨zC,O,zC,O,T⟩<|yD O<|qY O<|rStR 0 W O<|G O<|zA<|zG<|R (zP qN O (J 0 O) O) (L O) ?_
  rw [zCr ha hb];rfl
theorem ref01_Sub (a b:Vl):
    Pur cfgO 167 [bJ a,bJ b] (.tup [bJ (frX 5 a b).1,vI (frX 5 a b).2]):=by
 refine zR Tryz.func167 O Tryz.ntmps167 Tryz.results167 O ?_
 intro z hz
 refine Y O<|zW O O (qB O O) ?_
 rintro _ _ ⟨b1,rfl,rfl⟩
 refine zW O O (qB O O) ?_
 rintro _ _ ⟨b2,rfl,rfl⟩
 refine zW O O (qS O zr59) ?_
 rintro _ _ ⟨b3,rfl,rfl⟩
 refine G O<|zA<|zK<|Y O<|zL qN (J 2 O) O<|zZ O zSv (zAo a) ⟨zC,O,T⟩<|yT O<|G O<|rL0 O (fun g1_3=>zV O qN O (J 1 O) O) O<|rL1 10 O (fun g1_3=>qE O zSv (zAo b) ⟨zC,O,T⟩) O<|rL1 11 O (fun g1_3=>kA O O) O<|r_or O (fun h=>(lzf h))<|zA<|zE O (fun c1=>?_) (fun c1=>?_)
 ·exact r3
 ·have c1:(!bN a|| !bN b)=false:=c1
  obtain ⟨ha,hb⟩:=zJu c1
  obtain ⟨b1,b2,b3,b4,b5,b6,b7⟩:=zCt ha hb
  refine zJ<|Y O<|zD O yR<|zI U (J 2 O) O<|zD O kU<|zI U (J 1 O) O<|zX O (yI O O O ⟨by omega,by omega⟩)<|zD O yR<|zI U (J 1 O) O<|zD O kU<|zI U (J 2 O) O<|zX O (yI O O O ⟨by omega,by omega⟩)<|zX O (qZ O O O ⟨by omega,by omega⟩)<|zD O kU<|zI U (J 2 O) O<|zD O kU<|zI U (J 1 O) O<|zX O (yI O O O ⟨by omega,by omega⟩)<|zZ O ok206 (zJk (a.N*b.D-b.N*a.D) (a.D*b.D) ⟨by omega,by omega⟩ ⟨by omega,by omega⟩) ⟨zC,O,zC,O,T⟩<|yD O<|qY O<|rStR 0 W O<|G O<|zA<|zG<|R (zP qN O (J 0 O) O) (L O) ?_
  rw [zCr ha hb];rfl
theorem frac_Mul (a b:Vl):
    Pur cfgO 185 [bJ a,bJ b] (.tup [bJ (frX 6 a b).1,vI (frX 6 a b).2]):=by
 refine zR Tryz.func185 O Tryz.ntmps185 Tryz.results185 O ?_
 intro z hz
 refine Y O<|zW O O (qB O O) ?_
 rintro _ _ ⟨b1,rfl,rfl⟩
 refine zW O O (qB O O) ?_
 rintro _ _ ⟨b2,rfl,rfl⟩
 refine zW O O (qS O zr59) ?_
 rintro _ _ ⟨b3,rfl,rfl⟩
 refine G O<|zA<|zK<|Y O<|zL qN (J 2 O) O<|zZ O ok54 (upO (wR a)) ⟨zC,O,T⟩<|yT O<|G O<|rL0 O (fun g1_3=>zV O qN O (J 1 O) O) O<|rL1 10 O (fun g1_3=>qE O ok54 (upO (wR b)) ⟨zC,O,T⟩) O<|rL1 11 O (fun g1_3=>kA O O) O<|r_or O (fun h=>(lzf h))<|zA<|zE O (fun c1=>?_) (fun c1=>?_)
 ·exact r3
 ·have c1:(!bN a|| !bN b)=false:=c1
  obtain ⟨ha,hb⟩:=zJu c1
  obtain ⟨b1,b2,b3,b4,b5,b6,b7⟩:=zCt ha hb
  refine zJ<|Y O<|zD O yR<|zI U (J 2 O) O<|zD O yR<|zI U (J 1 O) O<|zX O (yI O O O ⟨by omega,by omega⟩)<|zD O kU<|zI U (J 2 O) O<|zD O kU<|zI U (J 1 O) O<|zX O (yI O O O ⟨by omega,by omega⟩)<|zZ O ok214 (zMr (a.N*b.N) (a.D*b.D) ⟨by omega,by omega⟩ ⟨by omega,by omega⟩) ⟨zC,O,zC,O,T⟩<|yD O<|qY O<|rStR 0 W O<|G O<|zA<|zG<|R (zP qN O (J 0 O) O) (L O) ?_
  rw [zCr ha hb];rfl
theorem ref01_Mul (a b:Vl):
    Pur cfgO 168 [bJ a,bJ b] (.tup [bJ (frX 6 a b).1,vI (frX 6 a b).2]):=by
 refine zR Tryz.func168 O Tryz.ntmps168 Tryz.results168 O ?_
 intro z hz
 refine Y O<|zW O O (qB O O) ?_
 rintro _ _ ⟨b1,rfl,rfl⟩
 refine zW O O (qB O O) ?_
 rintro _ _ ⟨b2,rfl,rfl⟩
 refine zW O O (qS O zr59) ?_
 rintro _ _ ⟨b3,rfl,rfl⟩
 refine G O<|zA<|zK<|Y O<|zL qN (J 2 O) O<|zZ O zSv (zAo a) ⟨zC,O,T⟩<|yT O<|G O<|rL0 O (fun g1_3=>zV O qN O (J 1 O) O) O<|rL1 10 O (fun g1_3=>qE O zSv (zAo b) ⟨zC,O,T⟩) O<|rL1 11 O (fun g1_3=>kA O O) O<|r_or O (fun h=>(lzf h))<|zA<|zE O (fun c1=>?_) (fun c1=>?_)
 ·exact r3
 ·have c1:(!bN a|| !bN b)=false:=c1
  obtain ⟨ha,hb⟩:=zJu c1
  obtain ⟨b1,b2,b3,b4,b5,b6,b7⟩:=zCt ha hb
  refine zJ<|Y O<|zD O yR<|zI U (J 2 O) O<|zD O yR<|zI U (J 1 O) O<|zX O (yI O O O ⟨by omega,by omega⟩)<|zD O kU<|zI U (J 2 O) O<|zD O kU<|zI U (J 1 O) O<|zX O (yI O O O ⟨by omega,by omega⟩)<|zZ O ok206 (zJk (a.N*b.N) (a.D*b.D) ⟨by omega,by omega⟩ ⟨by omega,by omega⟩) ⟨zC,O,zC,O,T⟩<|yD O<|qY O<|rStR 0 W O<|G O<|zA<|zG<|R (zP qN O (J 0 O) O) (L O) ?_
  rw [zCr ha hb];rfl
theorem frac_Div (a b:Vl):
    Pur cfgO 186 [bJ a,bJ b] (.tup [bJ (frX 7 a b).1,vI (frX 7 a b).2]):=by
 refine zR Tryz.func186 O Tryz.ntmps186 Tryz.results186 O ?_
 intro z hz
 refine Y O<|zW O O (qB O O) ?_
 rintro _ _ ⟨b1,rfl,rfl⟩
 refine zW O O (qB O O) ?_
 rintro _ _ ⟨b2,rfl,rfl⟩
 refine zW O O (qS O zr59) ?_
 rintro _ _ ⟨b3,rfl,rfl⟩
 refine G O<|zA<|zK<|Y O<|zL qN (J 2 O) O<|zZ O ok54 (upO (wR a)) ⟨zC,O,T⟩<|yT O<|G O<|rL0 O (fun g1_3=>zV O qN O (J 1 O) O) O<|rL1 10 O (fun g1_3=>qE O ok54 (upO (wR b)) ⟨zC,O,T⟩) O<|rL1 11 O (fun g1_3=>kA O O) O<|r_or O (fun h=>(lzf h))<|zA<|zE O (fun c1=>?_) (fun c1=>?_)
 ·exact r3
 ·have c1:(!bN a|| !bN b)=false:=c1
  obtain ⟨ha,hb⟩:=zJu c1
  obtain ⟨b1,b2,b3,b4,b5,b6,b7⟩:=zCt ha hb
  refine zJ<|Y O<|zD O yR<|zI U (J 2 O) O<|zD O kU<|zI U (J 1 O) O<|zX O (yI O O O ⟨by omega,by omega⟩)<|zD O kU<|zI U (J 2 O) O<|zD O yR<|zI U (J 1 O) O<|zX O (yI O O O ⟨by omega,by omega⟩)<|zZ O ok214 (zMr (a.N*b.D) (a.D*b.N) ⟨by omega,by omega⟩ ⟨by omega,by omega⟩) ⟨zC,O,zC,O,T⟩<|yD O<|qY O<|rStR 0 W O<|G O<|zA<|zG<|R (zP qN O (J 0 O) O) (L O) ?_
  rw [zCr ha hb];rfl
theorem ref01_Div (a b:Vl):
    Pur cfgO 169 [bJ a,bJ b] (.tup [bJ (frX 7 a b).1,vI (frX 7 a b).2]):=by
 refine zR Tryz.func169 O Tryz.ntmps169 Tryz.results169 O ?_
 intro z hz
 refine Y O<|zW O O (qB O O) ?_
 rintro _ _ ⟨b1,rfl,rfl⟩
 refine zW O O (qB O O) ?_
 rintro _ _ ⟨b2,rfl,rfl⟩
 refine zW O O (qS O zr59) ?_
 rintro _ _ ⟨b3,rfl,rfl⟩
 refine G O<|zA<|zK<|Y O<|zL qN (J 2 O) O<|zZ O zSv (zAo a) ⟨zC,O,T⟩<|yT O<|G O<|rL0 O (fun g1_3=>zV O qN O (J 1 O) O) O<|rL1 10 O (fun g1_3=>qE O zSv (zAo b) ⟨zC,O,T⟩) O<|rL1 11 O (fun g1_3=>kA O O) O<|r_or O (fun h=>(lzf h))<|zA<|zE O (fun c1=>?_) (fun c1=>?_)
 ·exact r3
 ·have c1:(!bN a|| !bN b)=false:=c1
  obtain ⟨ha,hb⟩:=zJu c1
  obtain ⟨b1,b2,b3,b4,b5,b6,b7⟩:=zCt ha hb
  refine zJ<|Y O<|zD O yR<|zI U (J 2 O) O<|zD O kU<|zI U (J 1 O) O<|zX O (yI O O O ⟨by omega,by omega⟩)<|zD O kU<|zI U (J 2 O) O<|zD O yR<|zI U (J 1 O) O<|zX O (yI O O O ⟨by omega,by omega⟩)<|zZ O ok206 (zJk (a.N*b.D) (a.D*b.N) ⟨by omega,by omega⟩ ⟨by omega,by omega⟩) ⟨zC,O,zC,O,T⟩<|yD O<|qY O<|rStR 0 W O<|G O<|zA<|zG<|R (zP qN O (J 0 O) O) (L O) ?_
  rw [zCr ha hb];rfl
theorem ref01_Neg (a:Vl) (ha:bN a=true):
    Pur cfgO 170 [bJ a] (bJ ⟨-a.N,a.D⟩):=by
 refine zR Tryz.func170 O Tryz.ntmps170 Tryz.results170 O ?_
 intro z hz
 obtain ⟨a1,a2,a3,a4,_⟩:=zEn ha
 refine Y O<|zW O O (qB O O) ?_
 rintro _ _ ⟨b1,rfl,rfl⟩
 refine zW O O (qS O zr59) ?_
 rintro _ _ ⟨b2,rfl,rfl⟩
 refine zA<|zK<|Y O<|zL qN (J 1 O) O<|zZ O zSv (zAo a) ⟨zC,O,T⟩<|yT O<|zA<|zE O (fun c1=>?_) (fun c1=>?_)
 ·exact absurd c1 (by rw [ha];simp)
 ·refine zJ<|Y O<|zD O yR<|zI U (J 1 O) O<|zX O (zFr O O)<|zD O kU<|zI U (J 1 O) O<|qR O zr59 pl59<|rStR 0 W O<|zA<|zG<|fin1 (zP qN O (J 0 O) O) ?_
  rw [show IntKind.i64.wrap (-a.N)= -a.N from zAv ⟨by omega,by omega⟩]
  rfl
theorem frac_order (a b:Int):
    Pur cfgO 176 [vI a,vI b] (vI (nJ a b)):=by
 refine zR Tryz.func176 O Tryz.ntmps176 Tryz.results176 O ?_
 intro z hz
 refine Y O<|G O<|zA<|zK<|zT<|Y O<|G O<|G O<|yF O<|G O<|zA<|zE O (fun c1=>?_) (fun c1=>?_)
 ·try simp only [sx] at c1
  refine Y O<|G O<|zA<|zG<|zS O ?_
  rw [ordI_lt c1]
 ·try simp only [sx] at c1
  refine Y O<|G O<|G O<|zAf O<|G O<|zA<|zE O (fun c2=>?_) (fun c2=>?_)
  ·try simp only [sx] at c2
   refine Y O<|G O<|zA<|zG<|zS O ?_
   rw [ordI_gt (by omega) c2]
  ·try simp only [sx] at c2
   refine zJ<|Y O<|G O<|zA<|zG<|zS O ?_
   rw [ordI_eq (by omega) (by omega)]
theorem ref01_order (a b:Int):
    Pur cfgO 205 [vI a,vI b] (vI (nJ a b)):=by
 refine zR Tryz.func205 O Tryz.ntmps205 Tryz.results205 O ?_
 intro z hz
 refine Y O<|G O<|zA<|zK<|Y O<|G O<|G O<|yF O<|zA<|zE O (fun c1=>?_) (fun c1=>?_)
 ·try simp only [sx] at c1
  refine Y O<|G O<|zA<|zG<|zS O ?_
  rw [ordI_lt c1]
 ·try simp only [sx] at c1
  refine zJ<|zK<|Y O<|G O<|G O<|zAf O<|zA<|zE O (fun c2=>?_) (fun c2=>?_)
  ·try simp only [sx] at c2
   refine Y O<|G O<|zA<|zG<|zS O ?_
   rw [ordI_gt (by omega) c2]
  ·try simp only [sx] at c2
   refine zJ<|Y O<|G O<|zA<|zG<|zS O ?_
   rw [ordI_eq (by omega) (by omega)]
theorem frac_Compare (a b:Vl) (ha:bN a=true) (hb:bN b=true):
    Pur cfgO 139 [bJ a,bJ b] (vI (nJ (a.N*b.D) (b.N*a.D))):=by
 refine zR Tryz.func139 O Tryz.ntmps139 Tryz.results139 O ?_
 intro z hz
 obtain ⟨b1,b2,b3,b4,b5,b6,b7⟩:=zCt ha hb
 refine Y O<|zW O O (qB O O) ?_
 rintro _ _ ⟨b1,rfl,rfl⟩
 refine zW O O (qB O O) ?_
 rintro _ _ ⟨b2,rfl,rfl⟩
 refine G O<|zA<|zK<|Y O<|zL qN (J 1 O) O<|zZ O ok54 (upO (wR a)) ⟨zC,O,T⟩<|G O<|rL0 O (fun g1_2=>zV O qN O (J 0 O) O) O<|rL1 9 O (fun g1_2=>qE O ok54 (upO (wR b)) ⟨zC,O,T⟩) O<|yO O (fun h=>h)<|zA<|zE O (fun c1=>?_) (fun c1=>?_)
 ·refine Y O<|zD O yR<|zI U (J 1 O) O<|zD O kU<|zI U (J 0 O) O<|zX O (yI O O O ⟨by omega,by omega⟩)<|zD O yR<|zI U (J 0 O) O<|zD O kU<|zI U (J 1 O) O<|zX O (yI O O O ⟨by omega,by omega⟩)<|zZ O ok176 (frac_order _ _) ⟨zC,O,zC,O,T⟩<|G O<|zA<|zG<|zS O ?_
  exact O
 ·have c1:(bN a&&bN b)=false:=c1
  exact absurd c1 (by rw [ha,hb];simp)
theorem ref01_Compare (a b:Vl) (ha:bN a=true) (hb:bN b=true):
    Pur cfgO 163 [bJ a,bJ b] (vI (nJ (a.N*b.D) (b.N*a.D))):=by
 refine zR Tryz.func163 O Tryz.ntmps163 Tryz.results163 O ?_
 intro z hz
 obtain ⟨b1,b2,b3,b4,b5,b6,b7⟩:=zCt ha hb
 refine Y O<|zW O O (qB O O) ?_
 rintro _ _ ⟨b1,rfl,rfl⟩
 refine zW O O (qB O O) ?_
 rintro _ _ ⟨b2,rfl,rfl⟩
 refine G O<|zA<|zK<|Y O<|zL qN (J 1 O) O<|zZ O zSv (zAo a) ⟨zC,O,T⟩<|G O<|rL0 O (fun g1_2=>zV O qN O (J 0 O) O) O<|rL1 8 O (fun g1_2=>qE O zSv (zAo b) ⟨zC,O,T⟩) O<|yO O (fun h=>h)<|zA<|zE O (fun c1=>?_) (fun c1=>?_)
 ·refine Y O<|zD O yR<|zI U (J 1 O) O<|zD O kU<|zI U (J 0 O) O<|zX O (yI O O O ⟨by omega,by omega⟩)<|zD O yR<|zI U (J 0 O) O<|zD O kU<|zI U (J 1 O) O<|zX O (yI O O O ⟨by omega,by omega⟩)<|zZ O ok205 (ref01_order _ _) ⟨zC,O,zC,O,T⟩<|G O<|zA<|zG<|zS O ?_
  exact O
 ·have c1:(bN a&&bN b)=false:=c1
  exact absurd c1 (by rw [ha,hb];simp)
theorem frac_Floor (v:Vl) (hv:bN v=true):
    Pur cfgO 143 [bJ v] (vI (v.N/v.D)):=by
 refine zR Tryz.func143 O Tryz.ntmps143 Tryz.results143 O ?_
 intro z hz
 obtain ⟨a1,a2,a3,a4,_⟩:=zEn hv
 have hq:=tdivW (d:=v.D) a3 a4
 have hq2:=tdiv_le (d:=v.D) a3 a4
 refine Y O<|zW O O (qB O O) ?_
 rintro _ _ ⟨b1,rfl,rfl⟩
 refine G O<|zA<|zK<|Y O<|zL qN (J 0 O) O<|zZ O ok54 (upO (wR v)) ⟨zC,O,T⟩<|yT O<|zA<|zE O (fun c1=>?_) (fun c1=>?_)
 ·have c1:(!bN v)=true:=c1
  exact absurd c1 (by rw [hv];simp)
 ·refine zJ<|Y O<|zD O yR<|zI U (J 0 O) O<|zD O kU<|zI U (J 0 O) O<|zX O (zUh O O O (by omega))<|G O<|zA<|zK<|Y O<|zD O yR<|zI U (J 0 O) O<|zD O kU<|zI U (J 0 O) O<|zX O (zLt O O O (by omega))<|yF O<|zA<|zE O (fun c2=>?_) (fun c2=>?_)
  ·try simp only [sx] at c2
   refine zQ O<|G O<|zX O (qZ O O O ⟨by omega,by omega⟩)<|G O<|zA<|Y O<|G O<|G O<|zA<|zG<|zS O ?_
   rw [hq,zTq (by omega) c2]
  ·try simp only [sx] at c2
   refine zJ<|Y O<|G O<|G O<|zA<|zG<|zS O ?_
   rw [hq,zTp (by omega) (by omega)]
theorem round_mode (m:Int):
    Pur cfgO 216 [vI m] (vB (decide (1<=m)&&decide (m<=4))):=by
 refine zR Tryz.func216 O Tryz.ntmps216 Tryz.results216 O ?_
 exact r6
theorem zJf (n:Int) (hn:lY n):
    Pur cfgO 241 [vI n] (vUn n.natAbs):=by
 refine zR Tryz.func241 O Tryz.ntmps241 Tryz.results241 O ?_
 intro z hz
 refine Y O<|G O<|zA<|zK<|Y O<|G O<|yF O<|zA<|zE O (fun c1=>?_) (fun c1=>?_)
 ·try simp only [sx] at c1
  refine Y O<|G O<|zX O (wK O us2 ik147 O)<|zX O (zFr O O)<|G O<|zA<|zG<|zS O ?_
  exact congrArg lB (mag_neg c1 hn.1)
 ·try simp only [sx] at c1
  refine zJ<|Y O<|G O<|zX O (wK O us2 ik147 O)<|G O<|zA<|zG<|zS O ?_
  exact congrArg lB (mag_pos (by omega) hn.2)
theorem round_rounded (a b:Nat) (ha:a<=9223372036854775808) (hb:b<=9223372036854775808) (h0:0<b) (neg:Bool) (how:Int):
    Pur cfgO 240 [vUn a,vUn b,vB neg,vI how] (vUn (rdd a b neg how)):=by
 refine zR Tryz.func240 O Tryz.ntmps240 Tryz.results240 O ?_
 intro z hz
 have hm:=Nat.mod_lt a h0
 have hq:=Nat.div_le_self a b
 refine Y O<|G O<|zA<|awp_scope<|zK<|qV 8 mixed (by kernel_rfl) O O<|zN O O (zO O O)<|zN O O (zO O O)<|zN O O (zNb O O O ⟨by omega,by omega⟩)<|zN O O (zO O O)<|zN O O (zO O O)<|zN O O (det_urem O O O (by omega))<|zN O O (yE O O)<|zN O O (yE O O)<|yK<|zA<|Y O<|G O<|G O<|zA<|zK<|awp_label<|zK<|Y O<|G O<|G O<|zX O (zNc O O O (by have h_:a/b+1<18446744073709551616:=(by omega);exact h_))<|zX O (det_build_arr O zr277 pla277 O)<|G O<|zA<|zT<|zY ⟨[(23,.c _),(11,.c _),(1,.c _),(2,.c _),(3,.c _),(9,.c _),(10,.c _),(22,.agg _)],[]⟩ (Weak.mk [] ⟨zC,zC,zC,zC,zC,zC,zC,zC,T⟩ O)<|qG 2 0 O O (Nat) (fun k=>[(23,vI k),(11,vUn (a/b+(k-1)))]) (fun k=>[]) (fun k=>k<=2/\(k=0∨stays (a/b) (a%b) b neg how=false)) (fun k=>2-k) ⟨0,⟨by omega,.inl O⟩,Weak.mk [] ⟨zC,zC,zC,zC,zC,zC,zC,zC,T⟩ O⟩ ?_
 rintro k ⟨hk,hs⟩
 refine Y O<|yF O<|zA<|zK<|zE O (fun c1=>?_) (fun c1=>?_)
 ·try simp only [sx] at c1
  have hk1:k<2:=by omega
  refine zJ<|zK<|zT<|Y O<|zX O (zHz O ar277 one147 O O (by omega) (by omega) (arr2_at hk1))<|G O<|zA<|zT<|Y O<|G O<|qQ O<|G O<|rL0 O (fun g6_2=>zO O O) O<|rL1 30 O (fun g6_2=>yM O O O) O<|r_or O (fun h=>(lzf h))<|G O<|zA<|zE O (fun c2=>?_) (fun c2=>?_)
  ·have hst:stays (a/b) (a%b) b neg how=true:=by unfold stays;rw [c2];rfl
   exact m9
  ·refine zK<|Y O<|G O<|qQ O<|G O<|rL0 O (fun g7_2=>zO O O) O<|rL1 37 O (fun g7_2=>kA O O) O<|yO O (fun h=>h)<|G O<|zA<|zE O (fun c3=>?_) (fun c3=>?_)
   ·refine zJ<|zE O (fun c4=>?_) (fun c4=>?_)
    ·have hst:stays (a/b) (a%b) b neg how=true:=by unfold stays;rw [c3];simp
     exact m9
    ·exact absurd c3 (by rw [c4];simp)
   ·refine zQ O<|G O<|qQ O<|G O<|rL0 O (fun g8_2=>zO O O) O<|yO O (fun h=>h)<|G O<|zA<|zE O (fun c4=>?_) (fun c4=>?_)
    ·have hst:stays (a/b) (a%b) b neg how=true:=by unfold stays;rw [c4];simp
     exact m9
    ·refine Y O<|G O<|qQ O<|G O<|rL0 O (fun g9_2=>zO O O) O<|rL1 49 O (fun g9_2=>zKm O O O (by have h_:2*(a%b)<18446744073709551616:=(by omega);exact h_)) O<|rL0 O (fun g9_2=>zO O O) O<|rLz [(50,_),(51,_)] O gv1 ⟨O,O,O,O,T⟩ (fun g9_2=>wI O O O) O<|rL1 52 O (fun g9_2=>zO O O) O<|rLz [] O A T (fun g9_7=>zO O O) O<|rLz [(54,_)] O A ⟨O,O,T⟩ (fun g9_7=>zKm O O O (by have h_:2*(a%b)<18446744073709551616:=(by omega);exact h_)) O<|rLz [] O A T (fun g9_7=>zO O O) O<|rLz [(55,_),(56,_)] O A ⟨O,O,O,O,T⟩ (fun g9_7=>yM O O O) O<|rLz [(57,_)] O A ⟨O,O,T⟩ (fun g9_7=>zO O O) O<|rLz [] O A T (fun g9_12=>zO O O) O<|rLz [(59,_)] O A ⟨O,O,T⟩ (fun g9_12=>det_urem O O O (by decide)) O<|rLz [(60,_)] O A ⟨O,O,T⟩ (fun g9_12=>yM O O O) O<|rLz [(58,_)] O A ⟨O,O,T⟩ (fun g9_7=>wF O O O (fun h=>kC (by assumption) h) O) O<|rL1 53 O (fun g9_2=>zAl O O O O (fun h=>kC (by assumption) (lzf h))) O<|yO O (fun h=>h)<|G O<|zA<|zE O (fun c5=>?_) (fun c5=>?_)
     ·have hst:stays (a/b) (a%b) b neg how=true:=by unfold stays;rw [c5];simp
      exact m9
     ·have hst:stays (a/b) (a%b) b neg how=false:=by unfold stays;rw [c2,c3,c4,c5];rfl
      refine zJ<|zQ O<|qF O ⟨by omega,by omega⟩<|G O<|zA ?_
      refine ⟨k+1,⟨by omega,.inr hst⟩,(by omega),Weak.mk [] ⟨zC,VLe.of_eq (by show vUn (a/b+k)=vUn (a/b+(k+1-1));rw [Nat.add_sub_cancel]),zC,zC,zC,zC,zC,zC,T⟩ O⟩
 ·try simp only [sx] at c1
  have hk2:k=2:=by omega
  subst hk2
  have hst:stays (a/b) (a%b) b neg how=false:=by rcases hs with hs|hs;cases hs;exact hs
  refine qM<|Y O<|G O<|G O<|zA<|zG<|zS O ?_
  first|(rw [rdd,hst];rfl)|(rw [rdd,hst])
theorem zJg (n d how:Int) (hn:n.natAbs<=4611686018427387904) (hd:lY d) (h1:1<=how) (h4:how<=4):
    Pur cfgO 212 [vI n,vI d,vI how] (.tup [vI (lU n d how).1,vI (lU n d how).2]):=by
 refine zR Tryz.func212 O Tryz.ntmps212 Tryz.results212 O ?_
 intro z hz
 have hd1:=hd.1
 have hd2:=hd.2
 have hle:=fun s=>rdd_le (a:=n.natAbs) (b:=d.natAbs) (neg:=s) (how:=how)
 refine Y O<|G O<|G O<|zA<|zK<|Y O<|G O<|zZ O ok216 (round_mode _) ⟨zC,O,T⟩<|yT O<|zA<|zE O (fun c1=>?_) (fun c1=>?_)
 ·try simp only [sx] at c1
  exact absurd c1 (by simp;omega)
 ·try simp only [sx] at c1
  refine zJ<|zK<|Y O<|G O<|qQ O<|zA<|zE O (fun c2=>?_) (fun c2=>?_)
  ·try simp only [sx] at c2
   refine Y O<|G O<|G O<|zA<|zG<|R (L O) (L O) ?_
   rw [zUd c2]
  ·try simp only [sx] at c2
   refine zJ<|Y O<|G O<|yF O<|G O<|yF O<|zX O (zKo O un4 O O)<|G O<|zA<|Y O<|G O<|zZ O ok241 (zJf n ⟨by omega,by omega⟩) ⟨zC,O,T⟩<|G O<|zZ O ok241 (zJf d hd) ⟨zC,O,T⟩<|G O<|G O<|zZ O ok240 (round_rounded n.natAbs d.natAbs (by omega) (by omega) (by omega) (jF n d) how) ⟨zC,O,zC,O,zC,O,zC,O,T⟩<|G O<|zA<|zK<|Y O<|G O<|zA<|zE O (fun c3=>?_) (fun c3=>?_)
   ·have c3:jF n d=true:=c3
    refine Y O<|G O<|zX O (zFr O O)<|zX O (wK O zRs ik2 O)<|G O<|G O<|zA<|zG<|R (L O) (L O) ?_
    rw [divR_neg c2 h1 h4 hn c3]
   ·have c3:jF n d=false:=c3
    refine zJ<|zK<|Y O<|G O<|zX O (kB O O O)<|zA<|zE O (fun c4=>?_) (fun c4=>?_)
    ·try simp only [sx] at c4
     have:=hle (jF n d)
     exact absurd c4 (by omega)
    ·refine zJ<|Y O<|G O<|zX O (wK O zRs ik2 O)<|G O<|G O<|zA<|zG<|R (L O) (L O) ?_
     rw [divR_pos c2 h1 h4 hn c3]
end Go.W
end
section
set_option maxRecDepth 10000
namespace Go.W
open Go Go.Eng Go.Proofs Go.L41 Go.Br
attribute [local irreducible] AWP RWP TD fT
theorem el50:dK Tryz.prog 50=some (59,2,16):=by kernel_rfl
theorem fd245_0:bE Tryz.prog 245 0=some (0,243):=by kernel_rfl
theorem ok172:bA Tryz.prog 172=true:=by kernel_rfl
theorem ok173:bA Tryz.prog 173=true:=by kernel_rfl
theorem ok174:bA Tryz.prog 174=true:=by kernel_rfl
theorem ok175:bA Tryz.prog 175=true:=by kernel_rfl
theorem ok188:bA Tryz.prog 188=true:=by kernel_rfl
theorem ok189:bA Tryz.prog 189=true:=by kernel_rfl
theorem ok207:bA Tryz.prog 207=true:=by kernel_rfl
theorem ok208:bA Tryz.prog 208=true:=by kernel_rfl
theorem ok209:bA Tryz.prog 209=true:=by kernel_rfl
theorem ok210:bA Tryz.prog 210=true:=by kernel_rfl
theorem ok211:bA Tryz.prog 211=true:=by kernel_rfl
theorem ok212:bA Tryz.prog 212=true:=by kernel_rfl
theorem ok213:bA Tryz.prog 213=true:=by kernel_rfl
theorem ok215:bA Tryz.prog 215=true:=by kernel_rfl
theorem ok217:bA Tryz.prog 217=true:=by kernel_rfl
theorem one243:jL Tryz.prog 243=true:=by kernel_rfl
theorem pl245:fG Tryz.prog 245=some [(0,1)]:=by kernel_rfl
theorem zr245:dM Tryz.prog 245=some [Value.nilFunc]:=by kernel_rfl
theorem round_Quantize (v:Vl) (b how:Int) (hv:bN v=true) (hb1:0<=b) (hb2:b<=30) (h1:1<=how) (h4:how<=4):
    Pur cfgO 188 [bJ v,vI b,vI how] (.tup [vI (rnd (v.N*dH b) v.D how),vI 0]):=by
 refine zR Tryz.func188 O Tryz.ntmps188 Tryz.results188 O ?_
 intro z hz
 obtain ⟨a1,a2,a3,a4,_⟩:=zEn hv
 have hp:=pow2_le hb1 hb2
 have hm:=m60 (B:=2147483647) (show v.N.natAbs<=2147483647 by omega) (show 0<=dH b by omega) hp.2
 refine Y O<|zW O O (qB O O) ?_
 rintro _ _ ⟨b1,rfl,rfl⟩
 refine G O<|G O<|zA<|zK<|Y O<|zL qN (J 0 O) O<|zZ O ok54 (upO (wR v)) ⟨zC,O,T⟩<|yT O<|G O<|rL0 O (fun g1_3=>zO O O) O<|rL1 12 O (fun g1_3=>wI O O O) O<|r_or O (fun h=>(lzf h))<|G O<|rL0 O (fun g1_7=>zO O O) O<|rL1 16 O (fun g1_7=>kD O O O) O<|r_or O (fun h=>(lzf h))<|G O<|rL0 O (fun g1_11=>zO O O) O<|rL1 20 O (fun g1_11=>qE O ok216 (round_mode _) ⟨zC,O,T⟩) O<|rL1 21 O (fun g1_11=>kA O O) O<|r_or O (fun h=>(lzf h))<|zA<|zE O (fun c1=>?_) (fun c1=>?_)
 ·have c1:(((!bN v||decide (b<0))||decide (30<b))|| !(decide (1<=how)&&decide (how<=4)))=true:=c1
  exact absurd c1 (by rw [hv];simp;omega)
 ·refine zJ<|Y O<|zD O yR<|zI U (J 0 O) O<|G O<|zX O (zEl O us3 ik129 O (zCh ⟨by omega,by omega⟩))<|zX O (zKn O O O (by omega) (shl_eq (B:=2147483647) hb1 hb2 (by omega) (by decide)))<|zD O kU<|zI U (J 0 O) O<|G O<|zZ O ok212 (zJg (v.N*dH b) v.D how (by omega) ⟨by omega,by omega⟩ (by omega) (by omega)) ⟨zC,O,zC,O,zC,O,T⟩<|qY O<|qY O<|G O<|G O<|zA<|zG<|R (L O) (L O) ?_
  rw [divR_eq (by omega)]
theorem round_Narrow (n b o:Int) (hn:lY n) (h1:2<=b) (h2:b<=31) (ho:o=1∨o=2):
    Pur cfgO 217 [vI n,vI b,vI o] (.tup [vI (pR b o n),vB (!(decide (-bL b<=n)&&decide (n<=bL b-1)))]):=by
 refine zR Tryz.func217 O Tryz.ntmps217 Tryz.results217 O ?_
 intro z hz
 have hh:=zDz h1 h2
 refine Y O<|G O<|G O<|zA<|zK<|Y O<|G O<|zZ O ok119 (upO (zLj b)) ⟨zC,O,T⟩<|yT O<|G O<|rL0 O (fun g1_3=>zO O O) O<|rL1 15 O (fun g1_3=>kT O O O) O<|rL1 16 O (fun g1_3=>zO O O) O<|rLz [] O A T (fun g1_6=>zO O O) O<|rLz [(18,_)] O A ⟨O,O,T⟩ (fun g1_6=>kT O O O) O<|rL1 17 O (fun g1_3=>wF O O O (fun h=>kC (by assumption) h) O) O<|r_or O (fun h=>(lzf h))<|zA<|zE O (fun c1=>?_) (fun c1=>?_)
 ·have c1:(!(decide (2<=b)&&decide (b<=31))||(!decide (o=1)&& !decide (o=2)))=true:=c1
  exact absurd c1 (by simp;omega)
 ·refine zJ<|Y O<|G O<|zZ O ok88 (upO (zPd b h1 h2)) ⟨zC,O,T⟩<|G O<|zZ O ok89 (upO (zPe b h1 h2)) ⟨zC,O,T⟩<|G O<|G O<|zA<|zK<|zT<|Y O<|G O<|G O<|zX O (kB O O O)<|G O<|rL0 O (fun g4_3=>zO O O) O<|rL0 O (fun g4_3=>zO O O) O<|rLz [(31,_),(32,_)] O gv1 ⟨O,O,O,O,T⟩ (fun g4_3=>kH O O O) O<|yO O (fun h=>h)<|G O<|zA<|zE O (fun c2=>?_) (fun c2=>?_)
  ·refine Y O<|G O<|G O<|G O<|zA<|zG<|R (L O) (L O) ?_
   rw [narI_in h1 h2 c2,c2];rfl
  ·refine Y O<|G O<|qQ O<|G O<|rL0 O (fun g6_2=>zO O O) O<|rL0 O (fun g6_2=>zO O O) O<|rLz [(40,_),(41,_)] O gv1 ⟨O,O,O,O,T⟩ (fun g6_2=>wI O O O) O<|yO O (fun h=>h)<|G O<|zA<|zE O (fun c3=>?_) (fun c3=>?_)
   ·try simp only [sx] at c3
    refine Y O<|G O<|G O<|G O<|zA<|zG<|R (L O) (L O) ?_
    rw [narI_lo h1 h2 c3.1 c3.2,c2];rfl
   ·try simp only [sx] at c3
    refine Y O<|G O<|qQ O<|G O<|zA<|zE O (fun c4=>?_) (fun c4=>?_)
    ·try simp only [sx] at c4
     refine Y O<|G O<|G O<|G O<|zA<|zG<|R (L O) (L O) ?_
     rw [narI_hi h1 h2 c4 (by omega) c2,c2];rfl
    ·try simp only [sx] at c4
     refine zJ<|Y O<|G O<|zX O (qZ O O O ⟨by omega,by omega⟩)<|zX O (zEl O us3 ik129 O (zCh ⟨by omega,by omega⟩))<|G O<|zA<|Y O<|G O<|zX O (wK O us2 ik147 O)<|G O<|zX O (zUg O O O (by omega))<|zX O (zEl O zRs ik2 O O)<|G O<|zX O (det_shrE O O O (by omega) (show _=lI b n from by rw [show min (64-b).toNat IntKind.u64.bits=(64-b).toNat from Nat.min_eq_left (by show (64-b).toNat<=64;omega),show min (64-b).toNat IntKind.i64.bits=(64-b).toNat from Nat.min_eq_left (by show (64-b).toNat<=64;omega)];exact wrap_shift h1 h2 hn))<|G O<|G O<|zA<|zG<|R (L O) (L O) ?_
     rw [narI_wrap h1 h2 (by omega),c2];rfl
theorem zPo (t:Ty) (n:Int) (ht:bP t=true) (hn:lY n):
    Pur cfgO 189 [vTy t,vI n] (bJ ⟨nar t n,1⟩):=by
 refine zR Tryz.func189 O Tryz.ntmps189 Tryz.results189 O ?_
 intro z hz
 obtain ⟨hK,hB1,hB2,hF1,hF2,hR1,hR4,hO,hh1,hh2,hp1,hp2⟩:=fxT ht
 refine Y O<|zW O O (qB O O) ?_
 rintro _ _ ⟨b1,rfl,rfl⟩
 refine zW O O (qS O zr59) ?_
 rintro _ _ ⟨b2,rfl,rfl⟩
 refine zA<|Y O<|G O<|zD O zIm<|zI one3 (J 1 O) O<|zD O zMv<|zI one3 (J 1 O) O<|zZ O ok217 (round_Narrow n t.Bits t.Over hn hB1 hB2 hO) ⟨zC,O,zC,O,zC,O,T⟩<|qW O<|qY O<|qY O<|G O<|G O<|zA<|Y O<|G O<|qR O zr59 pl59<|rStR 0 W O<|zA<|zG<|fin1 (zP qN O (J 0 O) O) ?_
 exact O
theorem zTs (t:Ty) (l:List Vl) (ht:bP t=true) (hl:∀v,v∈l->bC t v=true) (hlen:l.length<=1000):
    Pur cfgO 215 [vTy t,jM l] (vI 0):=by
 refine zR Tryz.func215 O Tryz.ntmps215 Tryz.results215 O ?_
 intro z hz
 obtain ⟨hK,hB1,hB2,hF1,hF2,hR1,hR4,hO,hh1,hh2,hp1,hp2⟩:=fxT ht
 refine Y O<|zW O O (qB O O) ?_
 rintro _ _ ⟨b1,rfl,rfl⟩
 refine G O<|zA<|zK<|Y O<|zL qX (J 0 O) O<|zZ O ok87 (upO (zAt t)) ⟨zC,O,T⟩<|G O<|zA<|Y O<|G O<|yQ O<|zA<|zE O (fun c1=>?_) (fun c1=>?_)
 ·try simp only [sx] at c1
  rw [ht] at c1
  exact absurd O c1
 ·try simp only [sx] at c1
  refine zJ<|zK<|Y O<|G O<|qC O el50<|G O<|zA<|zT<|zY ⟨[(15,.c _),(2,.c _),(13,.c _),(14,.c _)],[_]⟩ (Weak.mk [true] ⟨zC,zC,zC,zC,T⟩ O)<|qG 1 0 O O (Nat) (fun k=>[(15,vI k)]) (fun k=>[]) (fun k=>k<=l.length) (fun k=>l.length-k) ⟨0,(by omega),Weak.mk [true] ⟨zC,zC,zC,zC,T⟩ O⟩ ?_
  rintro k hk
  refine Y O<|yF O<|zA<|zK<|zE O (fun c2=>?_) (fun c2=>?_)
  ·try simp only [sx] at c2
   obtain ⟨x,hx⟩:=yC l k (by omega)
   refine zJ<|zK<|zT<|Y O<|qI O el50 (by omega) (D (by assumption))<|zL qN qD O<|zW O O (qS O zr59) ?_
   rintro _ _ ⟨b2,rfl,rfl⟩
   refine rStR 0 W O<|zA<|Y O<|zL qX (J 1 O) O<|zL qN (J 0 O) O<|zZ O ok52 (upO (zTt t x)) ⟨zC,O,zC,O,T⟩<|yT O<|zA<|zE O (fun c3=>?_) (fun c3=>?_)
   ·have h3:=fxV ht (hl x (qL hx))
    exact absurd c3 (by rw [ht];simp;omega)
   ·refine zJ<|zQ O<|qF O ⟨by omega,by omega⟩<|G O<|zA ?_
    refine ⟨k+1,(by omega),(by omega),Weak.mk [false,true] ⟨zC,zC,zC,zC,T⟩ O⟩
  ·refine qM<|Y O<|G O<|zA<|zG<|zS O ?_
   exact O
theorem zFo (y:C) (t:Ty) (a b:Vl) (n e:Int) (ht:bP t=true) (ha:bC t a=true) (hb:bC t b=true) (hn:lY n) (hy:FnPur cfgO y [vTy t,vI a.N,vI b.N] (.tup [vI n,vI e])):
    Pur cfgO 207 [.agg [y],vTy t,bJ a,bJ b] (.tup [bJ (bif decide (e=0) then ⟨nar t n,1⟩ else ⟨0,0⟩),vI e]):=by
 refine zR Tryz.func207 O Tryz.ntmps207 Tryz.results207 O ?_
 intro z hz
 refine Y O<|zW O O (qB O O) ?_
 rintro _ _ ⟨b1,rfl,rfl⟩
 refine zW O O (qB O O) ?_
 rintro _ _ ⟨b2,rfl,rfl⟩
 refine zW O O (qB O O) ?_
 rintro _ _ ⟨b3,rfl,rfl⟩
 refine zW O O (qB O O) ?_
 rintro _ _ ⟨b4,rfl,rfl⟩
 refine zW O O (qS O zr59) ?_
 rintro _ _ ⟨b5,rfl,rfl⟩
 refine G O<|zA<|zK<|Y O<|zL qX (J 3 O) O<|zL qN (J 2 O) O<|zL qN (J 1 O) O<|zX O (yS O el50 zr59 O O O O)<|zZ O ok215 (zTs t [a,b] ht (by simp [ha,hb]) (by simp)) ⟨zC,O,zC,O,T⟩<|G O<|zA<|Y O<|G O<|yQ O<|zA<|zE O (fun c1=>?_) (fun c1=>?_)
 ·try simp only [sx] at c1
  exact absurd T c1
 ·try simp only [sx] at c1
  refine zJ<|Y O<|zD O fd245_0<|zI one243 (J 4 O) O<|zL qX (J 3 O) O<|zD O yR<|zI U (J 2 O) O<|zD O yR<|zI U (J 1 O) O<|zX O (zAm O O hy ⟨zC,O,zC,O,zC,O,T⟩)<|qW O<|qY O<|qY O<|G O<|G O<|zA<|zK<|Y O<|G O<|yQ O<|zA<|zE O (fun c2=>?_) (fun c2=>?_)
  ·try simp only [sx] at c2
   refine Y O<|qR O zr59 pl59<|G O<|rStR 0 W O<|G O<|zA<|zG<|R (zP qN O (J 0 O) O) (L O) ?_
   rw [qK c2];rfl
  ·try simp only [sx] at c2
   refine zJ<|Y O<|zL qX (J 3 O) O<|G O<|zZ O ok189 (zPo t n ht hn) ⟨zC,O,zC,O,T⟩<|rStR 0 W O<|G O<|zA<|zG<|R (zP qN O (J 0 O) O) (L O) ?_
   rw [decide_eq_true c2,c2];rfl
theorem fixed_Add_1 (t:Ty) (x y:Int) (hx:x.natAbs<=1073741824) (hy:y.natAbs<=1073741824):
    Pur cfgO 209 [vTy t,vI x,vI y] (.tup [vI (x+y),vI 0]):=by
 refine zR Tryz.func209 O Tryz.ntmps209 Tryz.results209 O ?_
 intro z hz
 refine Y O<|zW O O (qB O O) ?_
 rintro _ _ ⟨b1,rfl,rfl⟩
 refine G O<|G O<|zA<|Y O<|G O<|G O<|qF O ⟨by omega,by omega⟩<|G O<|G O<|zA<|zG<|R (L O) (L O) ?_
 exact O
theorem fixed_Sub_1 (t:Ty) (x y:Int) (hx:x.natAbs<=1073741824) (hy:y.natAbs<=1073741824):
    Pur cfgO 210 [vTy t,vI x,vI y] (.tup [vI (x-y),vI 0]):=by
 refine zR Tryz.func210 O Tryz.ntmps210 Tryz.results210 O ?_
 intro z hz
 refine Y O<|zW O O (qB O O) ?_
 rintro _ _ ⟨b1,rfl,rfl⟩
 refine G O<|G O<|zA<|Y O<|G O<|G O<|zX O (qZ O O O ⟨by omega,by omega⟩)<|G O<|G O<|zA<|zG<|R (L O) (L O) ?_
 exact O
theorem fixed_Neg_1 (t:Ty) (x y:Int) (hx:x.natAbs<=1073741824) (hy:y.natAbs<=1073741824):
    Pur cfgO 208 [vTy t,vI x,vI y] (.tup [vI (-x),vI 0]):=by
 refine zR Tryz.func208 O Tryz.ntmps208 Tryz.results208 O ?_
 intro z hz
 refine Y O<|zW O O (qB O O) ?_
 rintro _ _ ⟨b1,rfl,rfl⟩
 refine G O<|G O<|zA<|Y O<|G O<|zX O (zBq O O ⟨by omega,by omega⟩)<|G O<|G O<|zA<|zG<|R (L O) (L O) ?_
 exact O
theorem fixed_Mul_1 (t:Ty) (x y:Int) (ht:bP t=true) (hx:x.natAbs<=1073741824) (hy:y.natAbs<=1073741824):
    Pur cfgO 211 [vTy t,vI x,vI y] (.tup [vI (rnd (x*y) (dH t.Frac) t.Round),vI 0]):=by
 refine zR Tryz.func211 O Tryz.ntmps211 Tryz.results211 O ?_
 intro z hz
 obtain ⟨hK,hB1,hB2,hF1,hF2,hR1,hR4,hO,hh1,hh2,hp1,hp2⟩:=fxT ht
 have hm:=m31 (x:=x) (y:=y) (by omega) (by omega) (by omega) (by omega)
 refine Y O<|zW O O (qB O O) ?_
 rintro _ _ ⟨b1,rfl,rfl⟩
 refine G O<|G O<|zA<|zK<|qV 13 mixed (by kernel_rfl) O O<|zN O O (zO O O)<|zN O O (zO O O)<|zN O O (yI O O O ⟨by omega,by omega⟩)<|zN O O (zF O zIl O)<|zN O O (zH O one3 O (J 0 O) O)<|zN O O (zKn O O O (by omega) (one_shl hF1 hF2))<|zN O O (zF O zGa O)<|zN O O (zH O one3 O (J 0 O) O)<|zN O O (qE O ok212 (zJg (x*y) (dH t.Frac) t.Round (by omega) ⟨by omega,by omega⟩ hR1 hR4) ⟨zC,O,zC,O,zC,O,T⟩)<|zN O O (wO O O O)<|zN O O (wO O O O)<|zN O O (yE O O)<|zN O O (yE O O)<|yK<|zA<|zG<|R (L O) (L O) ?_
 rw [divR_eq (by omega)]
theorem fixed_Div_1 (t:Ty) (x y:Int) (ht:bP t=true) (hx:x.natAbs<=1073741824) (hy:y.natAbs<=1073741824):
    Pur cfgO 213 [vTy t,vI x,vI y] (.tup [vI (lU (x*dH t.Frac) y t.Round).1,vI (lU (x*dH t.Frac) y t.Round).2]):=by
 refine zR Tryz.func213 O Tryz.ntmps213 Tryz.results213 O ?_
 intro z hz
 obtain ⟨hK,hB1,hB2,hF1,hF2,hR1,hR4,hO,hh1,hh2,hp1,hp2⟩:=fxT ht
 have hm:=m60 (B:=1073741824) (x:=x) hx (show 0<=dH t.Frac by omega) hp2
 refine Y O<|zW O O (qB O O) ?_
 rintro _ _ ⟨b1,rfl,rfl⟩
 refine G O<|G O<|zA<|zK<|qV 12 mixed (by kernel_rfl) O O<|zN O O (zO O O)<|zN O O (zF O zIl O)<|zN O O (zH O one3 O (J 0 O) O)<|zN O O (zKn O O O (by omega) (shl_eq (B:=1073741824) hF1 hF2 hx (by decide)))<|zN O O (zO O O)<|zN O O (zF O zGa O)<|zN O O (zH O one3 O (J 0 O) O)<|zN O O (qE O ok212 (zJg (x*dH t.Frac) y t.Round (by omega) ⟨by omega,by omega⟩ hR1 hR4) ⟨zC,O,zC,O,zC,O,T⟩)<|zN O O (wO O O O)<|zN O O (wO O O O)<|zN O O (yE O O)<|zN O O (yE O O)<|yK<|zA<|zG<|R (L O) (L O) ?_
 exact O
theorem fixed_Add (t:Ty) (a b:Vl) (ht:bP t=true) (ha:bC t a=true) (hb:bC t b=true):
    Pur cfgO 179 [vTy t,bJ a,bJ b] (.tup [bJ ⟨nar t (a.N+b.N),1⟩,vI 0]):=by
 refine zR Tryz.func179 O Tryz.ntmps179 Tryz.results179 O ?_
 intro z hz
 obtain ⟨hK,hB1,hB2,hF1,hF2,hR1,hR4,hO,hh1,hh2,hp1,hp2⟩:=fxT ht
 have hA:=fxN ht ha
 have hB:=fxN ht hb
 refine Y O<|zW O O (qB O O) ?_
 rintro _ _ ⟨b1,rfl,rfl⟩
 refine zW O O (qB O O) ?_
 rintro _ _ ⟨b2,rfl,rfl⟩
 refine zW O O (qB O O) ?_
 rintro _ _ ⟨b3,rfl,rfl⟩
 refine zW O O (qS O zr59) ?_
 rintro _ _ ⟨b4,rfl,rfl⟩
 refine G O<|zA<|Y O<|qR O zr245 pl245<|zL qX (J 3 O) O<|zL qN (J 2 O) O<|zL qN (J 1 O) O<|zZ O ok207 (zFo _ t a b (a.N+b.N) 0 ht ha hb ⟨by omega,by omega⟩ (FnPur.of_pur (first:=[]) (cap:=[]) ok209 (fixed_Add_1 t a.N b.N hA hB))) ⟨zC,O,zC,O,zC,O,zC,O,T⟩<|yD O<|qY O<|rStR 0 W O<|G O<|zA<|zG<|R (zP qN O (J 0 O) O) (L O) ?_
 exact O
theorem fixed_Sub (t:Ty) (a b:Vl) (ht:bP t=true) (ha:bC t a=true) (hb:bC t b=true):
    Pur cfgO 180 [vTy t,bJ a,bJ b] (.tup [bJ ⟨nar t (a.N-b.N),1⟩,vI 0]):=by
 refine zR Tryz.func180 O Tryz.ntmps180 Tryz.results180 O ?_
 intro z hz
 obtain ⟨hK,hB1,hB2,hF1,hF2,hR1,hR4,hO,hh1,hh2,hp1,hp2⟩:=fxT ht
 have hA:=fxN ht ha
 have hB:=fxN ht hb
 refine Y O<|zW O O (qB O O) ?_
 rintro _ _ ⟨b1,rfl,rfl⟩
 refine zW O O (qB O O) ?_
 rintro _ _ ⟨b2,rfl,rfl⟩
 refine zW O O (qB O O) ?_
 rintro _ _ ⟨b3,rfl,rfl⟩
 refine zW O O (qS O zr59) ?_
 rintro _ _ ⟨b4,rfl,rfl⟩
 refine G O<|zA<|Y O<|qR O zr245 pl245<|zL qX (J 3 O) O<|zL qN (J 2 O) O<|zL qN (J 1 O) O<|zZ O ok207 (zFo _ t a b (a.N-b.N) 0 ht ha hb ⟨by omega,by omega⟩ (FnPur.of_pur (first:=[]) (cap:=[]) ok210 (fixed_Sub_1 t a.N b.N hA hB))) ⟨zC,O,zC,O,zC,O,zC,O,T⟩<|yD O<|qY O<|rStR 0 W O<|G O<|zA<|zG<|R (zP qN O (J 0 O) O) (L O) ?_
 exact O
theorem fixed_Neg (t:Ty) (a:Vl) (ht:bP t=true) (ha:bC t a=true):
    Pur cfgO 177 [vTy t,bJ a] (.tup [bJ ⟨nar t (-a.N),1⟩,vI 0]):=by
 refine zR Tryz.func177 O Tryz.ntmps177 Tryz.results177 O ?_
 intro z hz
 obtain ⟨hK,hB1,hB2,hF1,hF2,hR1,hR4,hO,hh1,hh2,hp1,hp2⟩:=fxT ht
 have hA:=fxN ht ha
 refine Y O<|zW O O (qB O O) ?_
 rintro _ _ ⟨b1,rfl,rfl⟩
 refine zW O O (qB O O) ?_
 rintro _ _ ⟨b2,rfl,rfl⟩
 refine zW O O (qS O zr59) ?_
 rintro _ _ ⟨b3,rfl,rfl⟩
 refine G O<|zA<|Y O<|qR O zr245 pl245<|zL qX (J 2 O) O<|zL qN (J 1 O) O<|zL qN (J 1 O) O<|zZ O ok207 (zFo _ t a a (-a.N) 0 ht ha ha ⟨by omega,by omega⟩ (FnPur.of_pur (first:=[]) (cap:=[]) ok208 (fixed_Neg_1 t a.N a.N hA hA))) ⟨zC,O,zC,O,zC,O,zC,O,T⟩<|yD O<|qY O<|rStR 0 W O<|G O<|zA<|zG<|R (zP qN O (J 0 O) O) (L O) ?_
 exact O
theorem fixed_Mul (t:Ty) (a b:Vl) (ht:bP t=true) (ha:bC t a=true) (hb:bC t b=true):
    Pur cfgO 181 [vTy t,bJ a,bJ b] (.tup [bJ ⟨nar t (rnd (a.N*b.N) (dH t.Frac) t.Round),1⟩,vI 0]):=by
 refine zR Tryz.func181 O Tryz.ntmps181 Tryz.results181 O ?_
 intro z hz
 obtain ⟨hK,hB1,hB2,hF1,hF2,hR1,hR4,hO,hh1,hh2,hp1,hp2⟩:=fxT ht
 have hA:=fxN ht ha
 have hB:=fxN ht hb
 have hm:=m31 (x:=a.N) (y:=b.N) (by omega) (by omega) (by omega) (by omega)
 have hr:=rnd_b (n:=a.N*b.N) (how:=t.Round) (show 0<dH t.Frac by omega)
 refine Y O<|zW O O (qB O O) ?_
 rintro _ _ ⟨b1,rfl,rfl⟩
 refine zW O O (qB O O) ?_
 rintro _ _ ⟨b2,rfl,rfl⟩
 refine zW O O (qB O O) ?_
 rintro _ _ ⟨b3,rfl,rfl⟩
 refine zW O O (qS O zr59) ?_
 rintro _ _ ⟨b4,rfl,rfl⟩
 refine G O<|zA<|Y O<|qR O zr245 pl245<|zL qX (J 3 O) O<|zL qN (J 2 O) O<|zL qN (J 1 O) O<|zZ O ok207 (zFo _ t a b (rnd (a.N*b.N) (dH t.Frac) t.Round) 0 ht ha hb ⟨by omega,by omega⟩ (FnPur.of_pur (first:=[]) (cap:=[]) ok211 (fixed_Mul_1 t a.N b.N ht hA hB))) ⟨zC,O,zC,O,zC,O,zC,O,T⟩<|yD O<|qY O<|rStR 0 W O<|G O<|zA<|zG<|R (zP qN O (J 0 O) O) (L O) ?_
 exact O
theorem fixed_Div (t:Ty) (a b:Vl) (ht:bP t=true) (ha:bC t a=true) (hb:bC t b=true):
    Pur cfgO 182 [vTy t,bJ a,bJ b] (.tup [bJ (nC 7 t a.N b.N).1,vI (nC 7 t a.N b.N).2]):=by
 refine zR Tryz.func182 O Tryz.ntmps182 Tryz.results182 O ?_
 intro z hz
 obtain ⟨hK,hB1,hB2,hF1,hF2,hR1,hR4,hO,hh1,hh2,hp1,hp2⟩:=fxT ht
 have hA:=fxN ht ha
 have hB:=fxN ht hb
 have hd:=fixA_div t a.N b.N
 have hdb:=divR_b (y:=b.N) (how:=t.Round) (m60 (B:=1073741824) (x:=a.N) hA (show 0<=dH t.Frac by omega) hp2)
 refine Y O<|zW O O (qB O O) ?_
 rintro _ _ ⟨b1,rfl,rfl⟩
 refine zW O O (qB O O) ?_
 rintro _ _ ⟨b2,rfl,rfl⟩
 refine zW O O (qB O O) ?_
 rintro _ _ ⟨b3,rfl,rfl⟩
 refine zW O O (qS O zr59) ?_
 rintro _ _ ⟨b4,rfl,rfl⟩
 refine G O<|zA<|Y O<|qR O zr245 pl245<|zL qX (J 3 O) O<|zL qN (J 2 O) O<|zL qN (J 1 O) O<|zZ O ok207 (zFo _ t a b (lU (a.N*dH t.Frac) b.N t.Round).1 (lU (a.N*dH t.Frac) b.N t.Round).2 ht ha hb hdb (FnPur.of_pur (first:=[]) (cap:=[]) ok213 (fixed_Div_1 t a.N b.N ht hA hB))) ⟨zC,O,zC,O,zC,O,zC,O,T⟩<|yD O<|qY O<|rStR 0 W O<|G O<|zA<|zG<|R (zP qN O (J 0 O) O) (L O) ?_
 rw [hd];rfl
theorem fixed_ToFrac (t:Ty) (v:Vl) (ht:bP t=true) (hv:bC t v=true):
    Pur cfgO 187 [vTy t,bJ v] (.tup [bJ (lO v.N (dH t.Frac)).1,vI (lO v.N (dH t.Frac)).2]):=by
 refine zR Tryz.func187 O Tryz.ntmps187 Tryz.results187 O ?_
 intro z hz
 obtain ⟨hK,hB1,hB2,hF1,hF2,hR1,hR4,hO,hh1,hh2,hp1,hp2⟩:=fxT ht
 have hA:=fxN ht hv
 refine Y O<|zW O O (qB O O) ?_
 rintro _ _ ⟨b1,rfl,rfl⟩
 refine zW O O (qB O O) ?_
 rintro _ _ ⟨b2,rfl,rfl⟩
 refine zW O O (qS O zr59) ?_
 rintro _ _ ⟨b3,rfl,rfl⟩
 refine G O<|zA<|zK<|Y O<|zL qX (J 2 O) O<|zL qN (J 1 O) O<|zX O (yS O el50 zr59 O O O O)<|zZ O ok215 (zTs t [v] ht (by simp [hv]) (by simp)) ⟨zC,O,zC,O,T⟩<|G O<|zA<|Y O<|G O<|yQ O<|zA<|zE O (fun c1=>?_) (fun c1=>?_)
 ·try simp only [sx] at c1
  exact absurd T c1
 ·try simp only [sx] at c1
  refine zJ<|zK<|qV 8 mixed (by kernel_rfl) O O<|zN O O (zF O yR O)<|zN O O (zH O U O (J 1 O) O)<|zN O O (zF O zIl O)<|zN O O (zH O one3 O (J 2 O) O)<|zN O O (zKn O O O (by omega) (one_shl hF1 hF2))<|zN O O (qE O ok214 (zMr v.N (dH t.Frac) ⟨by omega,by omega⟩ ⟨by omega,by omega⟩) ⟨zC,O,zC,O,T⟩)<|zN O O (wM O O O)<|zN O O (wO O O O)<|yK<|rStR 0 W O<|G O<|zA<|zG<|R (zP qN O (J 0 O) O) (L O) ?_
  exact O
theorem fixed_FromFrac (t:Ty) (v:Vl) (ht:bP t=true) (hv:bN v=true):
    Pur cfgO 144 [vTy t,bJ v] (.tup [bJ ⟨nar t (rnd (v.N*dH t.Frac) v.D t.Round),1⟩,vI 0]):=by
 refine zR Tryz.func144 O Tryz.ntmps144 Tryz.results144 O ?_
 intro z hz
 obtain ⟨hK,hB1,hB2,hF1,hF2,hR1,hR4,hO,hh1,hh2,hp1,hp2⟩:=fxT ht
 obtain ⟨a1,a2,a3,a4,_⟩:=zEn hv
 have hm:=m60 (B:=2147483647) (x:=v.N) (by omega) (show 0<=dH t.Frac by omega) hp2
 have hr:=rnd_b (n:=v.N*dH t.Frac) (how:=t.Round) (show 0<v.D by omega)
 refine Y O<|zW O O (qB O O) ?_
 rintro _ _ ⟨b1,rfl,rfl⟩
 refine zW O O (qB O O) ?_
 rintro _ _ ⟨b2,rfl,rfl⟩
 refine zW O O (qS O zr59) ?_
 rintro _ _ ⟨b3,rfl,rfl⟩
 refine G O<|zA<|zK<|Y O<|zL qX (J 2 O) O<|zZ O ok87 (upO (zAt t)) ⟨zC,O,T⟩<|G O<|zA<|Y O<|G O<|yQ O<|zA<|zE O (fun c1=>?_) (fun c1=>?_)
 ·try simp only [sx] at c1
  rw [ht] at c1
  exact absurd O c1
 ·try simp only [sx] at c1
  refine zJ<|Y O<|zL qN (J 1 O) O<|zD O zIl<|zI one3 (J 2 O) O<|zD O zGa<|zI one3 (J 2 O) O<|zZ O ok188 (round_Quantize v t.Frac t.Round hv hF1 hF2 hR1 hR4) ⟨zC,O,zC,O,zC,O,T⟩<|qW O<|qY O<|qY O<|G O<|G O<|zA<|zK<|Y O<|G O<|yQ O<|G O<|rL0 O (fun g5_2=>zV O qN O (J 1 O) O) O<|rL1 27 O (fun g5_2=>qE O ok54 (upO (wR v)) ⟨zC,O,T⟩) O<|rL1 28 O (fun g5_2=>kA O O) O<|r_or O (fun h=>(lzf h))<|zA<|zE O (fun c2=>?_) (fun c2=>?_)
  ·have c2:(!decide ((0:Int)=0)|| !bN v)=true:=c2
   exact absurd c2 (by rw [hv];simp)
  ·refine zJ<|Y O<|zL qX (J 2 O) O<|G O<|zZ O ok189 (zPo t (rnd (v.N*dH t.Frac) v.D t.Round) ht ⟨by omega,by omega⟩) ⟨zC,O,zC,O,T⟩<|rStR 0 W O<|G O<|zA<|zG<|R (zP qN O (J 0 O) O) (L O) ?_
   exact O
theorem zFk (n d:Int) (hn:n.natAbs<=9223372036854775806) (hd:0<d) (hd2:d<=9223372036854775807):
    Pur cfgO 172 [vI n,vI d] (vI (n/d)):=by
 refine zR Tryz.func172 O Tryz.ntmps172 Tryz.results172 O ?_
 intro z hz
 have q1:=tdiv_le' (n:=n) (d:=d)
 have q2:=tdiv_mul_le (n:=n) (d:=d)
 refine Y O<|G O<|zA<|Y O<|G O<|G O<|zX O (det_quoE O O O (by omega) (zAv ⟨by omega,by omega⟩))<|G O<|zA<|zK<|Y O<|G O<|G O<|zX O (yI O O O ⟨by omega,by omega⟩)<|G O<|zAf O<|zA<|zE O (fun c1=>?_) (fun c1=>?_)
 ·try simp only [sx] at c1
  refine Y O<|G O<|zX O (qZ O O O ⟨by omega,by omega⟩)<|G O<|zA<|zG<|zS O ?_
  rw [flo_lt hd c1]
 ·try simp only [sx] at c1
  refine zJ<|Y O<|G O<|G O<|zA<|zG<|zS O ?_
  rw [flo_ge hd (by omega)]
theorem zHp (n d how:Int) (hn:n.natAbs<=4611686018427387904) (hd:0<d) (hd2:d<=4611686018427387904):
    Pur cfgO 174 [vI n,vI d,vI how] (vI (rnd n d how)):=by
 refine zR Tryz.func174 O Tryz.ntmps174 Tryz.results174 O ?_
 intro z hz
 obtain ⟨q1,q2,q3,q4⟩:=ediv_b (n:=n) hd
 refine Y O<|G O<|zA<|Y O<|G O<|G O<|zZ O ok172 (zFk n d (by omega) hd (by omega)) ⟨zC,O,zC,O,T⟩<|G O<|zA<|Y O<|G O<|G O<|G O<|zX O (yI O O O ⟨by omega,by omega⟩)<|zX O (qZ O O O ⟨by omega,by omega⟩)<|G O<|zA<|zK<|Y O<|G O<|qQ O<|G O<|rL0 O (fun g3_2=>zO O O) O<|rL1 20 O (fun g3_2=>yM O O O) O<|r_or O (fun h=>(lzf h))<|zA<|zE O (fun c1=>?_) (fun c1=>?_)
 ·refine Y O<|G O<|G O<|zA<|zG<|zS O ?_
  rw [rnd1 c1]
 ·refine zJ<|zK<|Y O<|G O<|qQ O<|zA<|zE O (fun c2=>?_) (fun c2=>?_)
  ·try simp only [sx] at c2
   refine Y O<|G O<|qF O ⟨by omega,by omega⟩<|G O<|zA<|zG<|zS O ?_
   rw [rnd2 c1 c2]
  ·try simp only [sx] at c2
   refine zJ<|zK<|Y O<|G O<|qQ O<|zA<|zE O (fun c3=>?_) (fun c3=>?_)
   ·try simp only [sx] at c3
    refine zK<|Y O<|G O<|yF O<|zA<|zE O (fun c4=>?_) (fun c4=>?_)
    ·try simp only [sx] at c4
     refine Y O<|G O<|qF O ⟨by omega,by omega⟩<|G O<|zA<|zG<|zS O ?_
     rw [rnd3 c1 c2 c3 c4]
    ·try simp only [sx] at c4
     refine zJ<|Y O<|G O<|G O<|zA<|zG<|zS O ?_
     rw [rnd4 c1 c2 c3 (by omega)]
   ·try simp only [sx] at c3
    refine zJ<|zK<|Y O<|G O<|G O<|G O<|zX O (qZ O O O ⟨by omega,by omega⟩)<|zAf O<|G O<|rL0 O (fun g11_5=>zO O O) O<|rL0 O (fun g11_5=>zO O O) O<|rL0 O (fun g11_5=>zO O O) O<|rLz [(42,_),(43,_)] O gv1 ⟨O,O,O,O,T⟩ (fun g11_5=>qZ O O O ⟨by omega,by omega⟩) O<|rLz [(41,_),(44,_)] O gv1 ⟨O,O,O,O,T⟩ (fun g11_5=>yM O O O) O<|rL1 45 O (fun g11_5=>zO O O) O<|rLz [] O A T (fun g11_11=>zO O O) O<|rLz [(47,_)] O A ⟨O,O,T⟩ (fun g11_11=>zLt O O O (by decide)) O<|rLz [(48,_)] O A ⟨O,O,T⟩ (fun g11_11=>kT O O O) O<|rL1 46 O (fun g11_5=>wF O O O (fun h=>kC (by assumption) h) O) O<|r_or O (fun h=>(lzf h))<|zA<|zE O (fun c5=>?_) (fun c5=>?_)
    ·refine Y O<|G O<|qF O ⟨by omega,by omega⟩<|G O<|zA<|zG<|zS O ?_
     rw [rnd5 c1 c2 c3 c5]
    ·refine zJ<|Y O<|G O<|G O<|zA<|zG<|zS O ?_
     rw [rnd6 c1 c2 c3 c5]
theorem zGu (t:Ty) (ht:bP t=true):
    Pur cfgO 175 [vTy t] (vI (dH t.Frac)):=by
 refine zR Tryz.func175 O Tryz.ntmps175 Tryz.results175 O ?_
 intro z hz
 obtain ⟨hK,hB1,hB2,hF1,hF2,hR1,hR4,hO,hh1,hh2,hp1,hp2⟩:=fxT ht
 refine Y O<|zW O O (qB O O) ?_
 rintro _ _ ⟨b1,rfl,rfl⟩
 refine G O<|zA<|Y O<|zD O zIl<|zI one3 (J 0 O) O<|zX O (zEl O us3 ik129 O (zCh ⟨by omega,by omega⟩))<|zX O (zKn O O O (by omega) (one_shl hF1 hF2))<|G O<|zA<|zG<|zS O ?_
 exact O
theorem zFl (t:Ty) (n:Int) (ht:bP t=true) (hn:n.natAbs<=4611686018427387904):
    Pur cfgO 173 [vTy t,vI n] (bJ ⟨nar t n,1⟩):=by
 refine zR Tryz.func173 O Tryz.ntmps173 Tryz.results173 O ?_
 intro z hz
 obtain ⟨hK,hB1,hB2,hF1,hF2,hR1,hR4,hO,hh1,hh2,hp1,hp2⟩:=fxT ht
 obtain ⟨q1,q2,q3,q4⟩:=ediv_b (n:=n+bL t.Bits) (show 0<2*bL t.Bits by omega)
 have q5:=Int.mul_assoc ((n+bL t.Bits)/(2*bL t.Bits)) 2 (bL t.Bits)
 have q6:((n+bL t.Bits)/(2*bL t.Bits)*2).natAbs<=((n+bL t.Bits)/(2*bL t.Bits)*2*bL t.Bits).natAbs:=by rw [Int.natAbs_mul (_*2)];exact Nat.le_mul_of_pos_right _ (by omega)
 refine Y O<|zW O O (qB O O) ?_
 rintro _ _ ⟨b1,rfl,rfl⟩
 refine zW O O (qS O zr59) ?_
 rintro _ _ ⟨b2,rfl,rfl⟩
 refine zA<|Y O<|zD O zIm<|zI one3 (J 1 O) O<|zX O (qZ O O O ⟨by omega,by omega⟩)<|zX O (zEl O us3 ik129 O O)<|zX O (zKn O O O (by rw [zCh ⟨by omega,by omega⟩];omega) (zMl hB1 hB2))<|G O<|zA<|zK<|Y O<|zD O zMv<|zI one3 (J 1 O) O<|qQ O<|zA<|zE O (fun c1=>?_) (fun c1=>?_)
 ·try simp only [sx] at c1
  refine zQ O<|G O<|G O<|G O<|qF O ⟨by omega,by omega⟩<|G O<|zX O (yI O O O ⟨by omega,by omega⟩)<|zZ O ok172 (zFk (n+bL t.Bits) (2*bL t.Bits) (by omega) (by omega) (by omega)) ⟨zC,O,zC,O,T⟩<|zX O (yI O O O ⟨by omega,by omega⟩)<|G O<|zX O (yI O O O ⟨by omega,by omega⟩)<|zX O (qZ O O O ⟨by omega,by omega⟩)<|G O<|zA<|Y O<|G O<|zX O (zBq O O ⟨by omega,by omega⟩)<|G O<|zX O (qZ O O O ⟨by omega,by omega⟩)<|G O<|zX O (zJx O O O)<|zX O (zEb O O O)<|qR O zr59 pl59<|rStR 0 W O<|zA<|zG<|fin1 (zP qN O (J 0 O) O) ?_
  exact congrArg (fun x=>bJ ⟨x,1⟩) (fit_w c1)
 ·try simp only [sx] at c1
  refine zJ<|Y O<|G O<|zX O (zBq O O ⟨by omega,by omega⟩)<|G O<|zX O (qZ O O O ⟨by omega,by omega⟩)<|G O<|zX O (zJx O O O)<|zX O (zEb O O O)<|qR O zr59 pl59<|rStR 0 W O<|zA<|zG<|fin1 (zP qN O (J 0 O) O) ?_
  exact congrArg (fun x=>bJ ⟨x,1⟩) (fit_n c1)
theorem ref04_fix (op:Int) (t:Ty) (a b:Int) (ht:bP t=true) (ha:a.natAbs<=1073741824) (hb:¬op=8->b.natAbs<=1073741824) (h1:4<=op) (h2:op<=8):
    Pur cfgO 164 [vI op,vTy t,vI a,vI b] (.tup [bJ (nC op t a b).1,vI (nC op t a b).2]):=by
 refine zR Tryz.func164 O Tryz.ntmps164 Tryz.results164 O ?_
 intro z hz
 obtain ⟨hK,hB1,hB2,hF1,hF2,hR1,hR4,hO,hh1,hh2,hp1,hp2⟩:=fxT ht
 refine Y O<|zW O O (qB O O) ?_
 rintro _ _ ⟨b1,rfl,rfl⟩
 refine zW O O (qS O zr59) ?_
 rintro _ _ ⟨b2,rfl,rfl⟩
 refine G O<|zA<|zK<|Y O<|G O<|zA<|zT<|Y O<|qQ O<|G O<|zA<|zE O (fun c1=>?_) (fun c1=>?_)
 ·try simp only [sx] at c1
  have hb:=hb (by omega)
  refine Y O<|zL qX (J 1 O) O<|G O<|G O<|qF O ⟨by omega,by omega⟩<|zZ O ok173 (zFl _ _ (by assumption) (by omega)) ⟨zC,O,zC,O,T⟩<|rStR 0 W O<|G O<|zA<|zG<|R (zP qN O (J 0 O) O) (L O) ?_
  rw [fixA1 c1];rfl
 ·try simp only [sx] at c1
  refine Y O<|qQ O<|G O<|zA<|zE O (fun c2=>?_) (fun c2=>?_)
  ·try simp only [sx] at c2
   have hb:=hb (by omega)
   refine Y O<|zL qX (J 1 O) O<|G O<|G O<|zX O (qZ O O O ⟨by omega,by omega⟩)<|zZ O ok173 (zFl _ _ (by assumption) (by omega)) ⟨zC,O,zC,O,T⟩<|rStR 0 W O<|G O<|zA<|zG<|R (zP qN O (J 0 O) O) (L O) ?_
   rw [fixA2 c2];rfl
  ·try simp only [sx] at c2
   refine Y O<|qQ O<|G O<|zA<|zE O (fun c3=>?_) (fun c3=>?_)
   ·try simp only [sx] at c3
    have hb:=hb (by omega)
    have hm:=m31 (x:=a) (y:=b) (by omega) (by omega) (by omega) (by omega)
    have hr:=rnd_b (n:=a*b) (how:=t.Round) (show 0<dH t.Frac by omega)
    refine zK<|qV 10 mixed (by kernel_rfl) O O<|zN O O (zV O qX O (J 1 O) O)<|zN O O (zO O O)<|zN O O (zO O O)<|zN O O (yI O O O ⟨by omega,by omega⟩)<|zN O O (zV O qX O (J 1 O) O)<|zN O O (qE O ok175 (zGu _ (by assumption)) ⟨zC,O,T⟩)<|zN O O (zF O zGa O)<|zN O O (zH O one3 O (J 1 O) O)<|zN O O (qE O ok174 (zHp (a*b) (dH t.Frac) t.Round (by omega) (by omega) (by omega)) ⟨zC,O,zC,O,zC,O,T⟩)<|zN O O (qE O ok173 (zFl t (rnd (a*b) (dH t.Frac) t.Round) ht (by omega)) ⟨zC,O,zC,O,T⟩)<|yK<|rStR 0 W O<|G O<|zA<|zG<|R (zP qN O (J 0 O) O) (L O) ?_
    rw [fixA3 c3];rfl
   ·try simp only [sx] at c3
    refine Y O<|qQ O<|G O<|zA<|zE O (fun c4=>?_) (fun c4=>?_)
    ·try simp only [sx] at c4
     refine Y O<|zL qX (J 1 O) O<|G O<|zX O (zBq O O ⟨by omega,by omega⟩)<|zZ O ok173 (zFl _ _ (by assumption) (by omega)) ⟨zC,O,zC,O,T⟩<|rStR 0 W O<|G O<|zA<|zG<|R (zP qN O (J 0 O) O) (L O) ?_
     rw [fixA4 c4];rfl
    ·try simp only [sx] at c4
     have hb:=hb (by omega)
     have hm2:=m60 (B:=1073741824) (x:=a) ha (show 0<=dH t.Frac by omega) hp2
     have hm3:=m60 (B:=1073741824) (x:= -a) (by omega) (show 0<=dH t.Frac by omega) hp2
     refine zJ<|zK<|Y O<|G O<|qQ O<|zA<|zE O (fun c5=>?_) (fun c5=>?_)
     ·try simp only [sx] at c5
      refine Y O<|qR O zr59 pl59<|rStR 0 W O<|G O<|zA<|zG<|R (zP qN O (J 0 O) O) (L O) ?_
      rw [fixA5 (by omega) c5];rfl
     ·try simp only [sx] at c5
      refine zJ<|zK<|Y O<|G O<|yF O<|zA<|zE O (fun c6=>?_) (fun c6=>?_)
      ·try simp only [sx] at c6
       refine Y O<|G O<|zX O (zBq O O ⟨by omega,by omega⟩)<|G O<|zA<|zQ O<|G O<|zX O (zBq O O ⟨by omega,by omega⟩)<|G O<|zA<|zK<|qV 10 mixed (by kernel_rfl) O O<|zN O O (zV O qX O (J 1 O) O)<|zN O O (zO O O)<|zN O O (zV O qX O (J 1 O) O)<|zN O O (qE O ok175 (zGu _ (by assumption)) ⟨zC,O,T⟩)<|zN O O (yI O O O ⟨by omega,by omega⟩)<|zN O O (zO O O)<|zN O O (zF O zGa O)<|zN O O (zH O one3 O (J 1 O) O)<|zN O O (qE O ok174 (zHp (-a*dH t.Frac) (-b) t.Round (by omega) (by omega) (by omega)) ⟨zC,O,zC,O,zC,O,T⟩)<|zN O O (qE O ok173 (zFl t (rnd (-a*dH t.Frac) (-b) t.Round) ht (by have h_:=rnd_b (n:= -a*dH t.Frac) (d:= -b) (how:=t.Round) (by omega);omega)) ⟨zC,O,zC,O,T⟩)<|yK<|rStR 0 W O<|G O<|zA<|zG<|R (zP qN O (J 0 O) O) (L O) ?_
       rw [fixA6 (by omega) c5,zMg c6,show (b.natAbs:Int)= -b by omega];rfl
      ·try simp only [sx] at c6
       refine zJ<|zK<|qV 10 mixed (by kernel_rfl) O O<|zN O O (zV O qX O (J 1 O) O)<|zN O O (zO O O)<|zN O O (zV O qX O (J 1 O) O)<|zN O O (qE O ok175 (zGu _ (by assumption)) ⟨zC,O,T⟩)<|zN O O (yI O O O ⟨by omega,by omega⟩)<|zN O O (zO O O)<|zN O O (zF O zGa O)<|zN O O (zH O one3 O (J 1 O) O)<|zN O O (qE O ok174 (zHp (a*dH t.Frac) (b) t.Round (by omega) (by omega) (by omega)) ⟨zC,O,zC,O,zC,O,T⟩)<|zN O O (qE O ok173 (zFl t (rnd (a*dH t.Frac) (b) t.Round) ht (by have h_:=rnd_b (n:=a*dH t.Frac) (d:=b) (how:=t.Round) (by omega);omega)) ⟨zC,O,zC,O,T⟩)<|yK<|rStR 0 W O<|G O<|zA<|zG<|R (zP qN O (J 0 O) O) (L O) ?_
       rw [fixA6 (by omega) c5,zKg (by omega),show (b.natAbs:Int)=b by omega];rfl
theorem ref04_whole (op a b:Int) (ha:bI a=true) (hb:¬op=8->bI b=true) (h1:4<=op) (h2:op<=8):
    Pur cfgO 165 [vI op,vI a,vI b] (.tup [bJ (nX op a b).1,vI (nX op a b).2]):=by
 refine zR Tryz.func165 O Tryz.ntmps165 Tryz.results165 O ?_
 intro z hz
 have hA:=n31 ha
 refine Y O<|zW O O (qS O zr59) ?_
 rintro _ _ ⟨b1,rfl,rfl⟩
 refine G O<|zA<|Y O<|G O<|zX O (zBq O O ⟨by omega,by omega⟩)<|G O<|zA<|zK<|Y O<|G O<|zA<|zT<|Y O<|qQ O<|G O<|zA<|zE O (fun c1=>?_) (fun c1=>?_)
 ·try simp only [sx] at c1
  have hB:=n31 (hb (by omega))
  have hm:=m31 hA.1 hA.2 hB.1 hB.2
  refine zQ O<|G O<|G O<|qF O ⟨by omega,by omega⟩<|G O<|zA<|zK<|Y O<|G O<|zAf O<|G O<|rL0 O (fun g16_2=>zO O O) O<|rL1 44 O (fun g16_2=>wI O O O) O<|r_or O (fun h=>(lzf h))<|zA<|zE O (fun c7=>?_) (fun c7=>?_)
  ·have hi:dU op a b=a+b:=intN1 c1
   exact l5
  ·have hi:dU op a b=a+b:=intN1 c1
   exact l7
 ·try simp only [sx] at c1
  refine Y O<|qQ O<|G O<|zA<|zE O (fun c2=>?_) (fun c2=>?_)
  ·try simp only [sx] at c2
   have hB:=n31 (hb (by omega))
   have hm:=m31 hA.1 hA.2 hB.1 hB.2
   refine zQ O<|G O<|G O<|zX O (qZ O O O ⟨by omega,by omega⟩)<|G O<|zA<|zK<|Y O<|G O<|zAf O<|G O<|rL0 O (fun g16_2=>zO O O) O<|rL1 44 O (fun g16_2=>wI O O O) O<|r_or O (fun h=>(lzf h))<|zA<|zE O (fun c7=>?_) (fun c7=>?_)
   ·have hi:dU op a b=a-b:=intN2 c2
    exact l5
   ·have hi:dU op a b=a-b:=intN2 c2
    exact l7
  ·try simp only [sx] at c2
   refine Y O<|qQ O<|G O<|zA<|zE O (fun c3=>?_) (fun c3=>?_)
   ·try simp only [sx] at c3
    have hB:=n31 (hb (by omega))
    have hm:=m31 hA.1 hA.2 hB.1 hB.2
    refine zQ O<|G O<|G O<|zX O (yI O O O ⟨by omega,by omega⟩)<|G O<|zA<|zK<|Y O<|G O<|zAf O<|G O<|rL0 O (fun g16_2=>zO O O) O<|rL1 44 O (fun g16_2=>wI O O O) O<|r_or O (fun h=>(lzf h))<|zA<|zE O (fun c7=>?_) (fun c7=>?_)
    ·have hi:dU op a b=a*b:=intN3 c3
     exact l5
    ·have hi:dU op a b=a*b:=intN3 c3
     exact l7
   ·try simp only [sx] at c3
    refine Y O<|qQ O<|G O<|zA<|zE O (fun c4=>?_) (fun c4=>?_)
    ·try simp only [sx] at c4
     have hB:=n31 (hb (by omega))
     have hm:=m31 hA.1 hA.2 hB.1 hB.2
     refine zK<|Y O<|G O<|qQ O<|zA<|zE O (fun c5=>?_) (fun c5=>?_)
     ·try simp only [sx] at c5
      exact w8
     ·try simp only [sx] at c5
      refine zJ<|zK<|Y O<|G O<|yF O<|zA<|zE O (fun c6=>?_) (fun c6=>?_)
      ·try simp only [sx] at c6
       refine Y O<|G O<|zX O (zBq O O ⟨by omega,by omega⟩)<|G O<|zA<|zQ O<|G O<|zX O (zBq O O ⟨by omega,by omega⟩)<|G O<|zA<|zQ O<|G O<|G O<|zZ O ok172 (zFk (-a) (-b) (by omega) (by omega) (by omega)) ⟨zC,O,zC,O,T⟩<|G O<|zA<|zK<|Y O<|G O<|zAf O<|G O<|rL0 O (fun g16_2=>zO O O) O<|rL1 44 O (fun g16_2=>wI O O O) O<|r_or O (fun h=>(lzf h))<|zA<|zE O (fun c7=>?_) (fun c7=>?_)
       ·have hi:dU op a b= -a/ -b:=by rw [intN4 c4,zMg c6,show (b.natAbs:Int)= -b by omega]
        exact l5
       ·have hi:dU op a b= -a/ -b:=by rw [intN4 c4,zMg c6,show (b.natAbs:Int)= -b by omega]
        exact l7
      ·try simp only [sx] at c6
       refine zJ<|zQ O<|G O<|G O<|zZ O ok172 (zFk (a) (b) (by omega) (by omega) (by omega)) ⟨zC,O,zC,O,T⟩<|G O<|zA<|zK<|Y O<|G O<|zAf O<|G O<|rL0 O (fun g16_2=>zO O O) O<|rL1 44 O (fun g16_2=>wI O O O) O<|r_or O (fun h=>(lzf h))<|zA<|zE O (fun c7=>?_) (fun c7=>?_)
       ·have hi:dU op a b=a/b:=by rw [intN4 c4,zKg (by omega),show (b.natAbs:Int)=b by omega]
        exact l5
       ·have hi:dU op a b=a/b:=by rw [intN4 c4,zKg (by omega),show (b.natAbs:Int)=b by omega]
        exact l7
    ·try simp only [sx] at c4
     refine zJ<|zK<|Y O<|G O<|zAf O<|G O<|rL0 O (fun g16_2=>zO O O) O<|rL1 44 O (fun g16_2=>wI O O O) O<|r_or O (fun h=>(lzf h))<|zA<|zE O (fun c7=>?_) (fun c7=>?_)
     ·have hi:dU op a b= -a:=intN5 (by omega)
      exact l5
     ·have hi:dU op a b= -a:=intN5 (by omega)
      exact l7
theorem value_integer (op a b:Int) (ha:bI a=true) (hb:bI b=true) (h1:4<=op) (h2:op<=7):
    Pur cfgO 178 [vI op,vI a,vI b] (.tup [bJ (nX op a b).1,vI (nX op a b).2]):=by
 refine zR Tryz.func178 O Tryz.ntmps178 Tryz.results178 O ?_
 intro z hz
 have hA:=n31 ha
 have hB:=n31 hb
 have hm:=m31 hA.1 hA.2 hB.1 hB.2
 have q1:=tdiv_le' (n:=a) (d:=b)
 refine Y O<|zW O O (qS O zr59) ?_
 rintro _ _ ⟨b1,rfl,rfl⟩
 refine G O<|zA<|Y O<|G O<|zA<|zK<|Y O<|G O<|zA<|zT<|Y O<|qQ O<|G O<|zA<|zE O (fun c1=>?_) (fun c1=>?_)
 ·try simp only [sx] at c1
  refine zQ O<|G O<|G O<|qF O ⟨by omega,by omega⟩<|G O<|zA<|zK<|Y O<|G O<|zZ O ok53 (upO (zDw (a+b))) ⟨zC,O,T⟩<|yT O<|zA<|zE O (fun c6=>?_) (fun c6=>?_)
  ·try simp only [sx] at c6
   have hi:dU op a b=a+b:=intN1 c1
   exact j2
  ·try simp only [sx] at c6
   have hi:dU op a b=a+b:=intN1 c1
   exact j3
 ·try simp only [sx] at c1
  refine Y O<|qQ O<|G O<|zA<|zE O (fun c2=>?_) (fun c2=>?_)
  ·try simp only [sx] at c2
   refine zQ O<|G O<|G O<|zX O (qZ O O O ⟨by omega,by omega⟩)<|G O<|zA<|zK<|Y O<|G O<|zZ O ok53 (upO (zDw (a-b))) ⟨zC,O,T⟩<|yT O<|zA<|zE O (fun c6=>?_) (fun c6=>?_)
   ·try simp only [sx] at c6
    have hi:dU op a b=a-b:=intN2 c2
    exact j2
   ·try simp only [sx] at c6
    have hi:dU op a b=a-b:=intN2 c2
    exact j3
  ·try simp only [sx] at c2
   refine Y O<|qQ O<|G O<|zA<|zE O (fun c3=>?_) (fun c3=>?_)
   ·try simp only [sx] at c3
    refine zQ O<|G O<|G O<|zX O (yI O O O ⟨by omega,by omega⟩)<|G O<|zA<|zK<|Y O<|G O<|zZ O ok53 (upO (zDw (a*b))) ⟨zC,O,T⟩<|yT O<|zA<|zE O (fun c6=>?_) (fun c6=>?_)
    ·try simp only [sx] at c6
     have hi:dU op a b=a*b:=intN3 c3
     exact j2
    ·try simp only [sx] at c6
     have hi:dU op a b=a*b:=intN3 c3
     exact j3
   ·try simp only [sx] at c3
    refine zK<|Y O<|G O<|qQ O<|zA<|zE O (fun c4=>?_) (fun c4=>?_)
    ·try simp only [sx] at c4
     exact w8
    ·try simp only [sx] at c4
     refine zJ<|Y O<|G O<|G O<|zX O (det_quoE O O O (by omega) (zAv ⟨by omega,by omega⟩))<|G O<|zA<|Y O<|G O<|G O<|zX O (zLt O O O (by omega))<|yQ O<|G O<|rL0 O (fun g6_4=>zO O O) O<|rL1 21 O (fun g6_4=>wI O O O) O<|rL0 O (fun g6_4=>zO O O) O<|rL1 23 O (fun g6_4=>wI O O O) O<|rLz [(22,_),(24,_)] O gv1 ⟨O,O,O,O,T⟩ (fun g6_4=>zKo O un4 O O) O<|yO O (fun h=>h)<|zA<|zE O (fun c5=>?_) (fun c5=>?_)
     ·refine zQ O<|G O<|zX O (qZ O O O ⟨by omega,by omega⟩)<|G O<|zA<|zK<|Y O<|G O<|zZ O ok53 (upO (zDw (a.tdiv b-1))) ⟨zC,O,T⟩<|yT O<|zA<|zE O (fun c6=>?_) (fun c6=>?_)
      ·try simp only [sx] at c6
       have c5:(!decide (a.tmod b=0)&&jF a b)=true:=c5
       have hi:dU op a b=a.tdiv b-1:=by rw [intN4 (by omega),idiv c4 c5]
       exact j2
      ·try simp only [sx] at c6
       have c5:(!decide (a.tmod b=0)&&jF a b)=true:=c5
       have hi:dU op a b=a.tdiv b-1:=by rw [intN4 (by omega),idiv c4 c5]
       exact j3
     ·refine zJ<|zK<|Y O<|G O<|zZ O ok53 (upO (zDw (a.tdiv b))) ⟨zC,O,T⟩<|yT O<|zA<|zE O (fun c6=>?_) (fun c6=>?_)
      ·try simp only [sx] at c6
       have c5:(!decide (a.tmod b=0)&&jF a b)=false:=c5
       have hi:dU op a b=a.tdiv b:=by rw [intN4 (by omega),idiv0 c4 c5]
       exact j2
      ·try simp only [sx] at c6
       have c5:(!decide (a.tmod b=0)&&jF a b)=false:=c5
       have hi:dU op a b=a.tdiv b:=by rw [intN4 (by omega),idiv0 c4 c5]
       exact j3
end Go.W
end
section
set_option maxRecDepth 10000
namespace Go.W
open Go Go.Eng Go.Proofs Go.L41 Go.Br
attribute [local irreducible] AWP RWP TD fT
theorem ok32:bA Tryz.prog 32=true:=by kernel_rfl
theorem ok110:bA Tryz.prog 110=true:=by kernel_rfl
theorem ok130:bA Tryz.prog 130=true:=by kernel_rfl
theorem ok139:bA Tryz.prog 139=true:=by kernel_rfl
theorem ok140:bA Tryz.prog 140=true:=by kernel_rfl
theorem ok141:bA Tryz.prog 141=true:=by kernel_rfl
theorem ok142:bA Tryz.prog 142=true:=by kernel_rfl
theorem ok143:bA Tryz.prog 143=true:=by kernel_rfl
theorem ok144:bA Tryz.prog 144=true:=by kernel_rfl
theorem ok163:bA Tryz.prog 163=true:=by kernel_rfl
theorem ok164:bA Tryz.prog 164=true:=by kernel_rfl
theorem ok165:bA Tryz.prog 165=true:=by kernel_rfl
theorem ok166:bA Tryz.prog 166=true:=by kernel_rfl
theorem ok167:bA Tryz.prog 167=true:=by kernel_rfl
theorem ok168:bA Tryz.prog 168=true:=by kernel_rfl
theorem ok169:bA Tryz.prog 169=true:=by kernel_rfl
theorem ok170:bA Tryz.prog 170=true:=by kernel_rfl
theorem ok171:bA Tryz.prog 171=true:=by kernel_rfl
theorem ok177:bA Tryz.prog 177=true:=by kernel_rfl
theorem ok178:bA Tryz.prog 178=true:=by kernel_rfl
theorem ok179:bA Tryz.prog 179=true:=by kernel_rfl
theorem ok180:bA Tryz.prog 180=true:=by kernel_rfl
theorem ok181:bA Tryz.prog 181=true:=by kernel_rfl
theorem ok182:bA Tryz.prog 182=true:=by kernel_rfl
theorem ok183:bA Tryz.prog 183=true:=by kernel_rfl
theorem ok184:bA Tryz.prog 184=true:=by kernel_rfl
theorem ok185:bA Tryz.prog 185=true:=by kernel_rfl
theorem ok186:bA Tryz.prog 186=true:=by kernel_rfl
theorem ok187:bA Tryz.prog 187=true:=by kernel_rfl
theorem value_negate (t:Ty) (a:Vl) (ht:bD t=true) (ha:bC t a=true):
    Pur cfgO 140 [vTy t,bJ a] (.tup [bJ (vG t a).1,vI (vG t a).2]):=by
 refine zR Tryz.func140 O Tryz.ntmps140 Tryz.results140 O ?_
 intro z hz
 obtain ⟨a1,a2,a3,a4,_⟩:=zEn (zDu ht ha).2.2
 refine Y O<|zW O O (qB O O) ?_
 rintro _ _ ⟨b1,rfl,rfl⟩
 refine zW O O (qB O O) ?_
 rintro _ _ ⟨b2,rfl,rfl⟩
 refine zW O O (qS O zr59) ?_
 rintro _ _ ⟨b3,rfl,rfl⟩
 refine G O<|zA<|zK<|Y O<|zD O zBx<|zI one3 (J 2 O) O<|qQ O<|zA<|zE O (fun c1=>?_) (fun c1=>?_)
 ·try simp only [sx] at c1
  have hf:bP t=true:=by rw [←wY (by assumption)];exact ht
  refine Y O<|zL qX (J 2 O) O<|zL qN (J 1 O) O<|zZ O ok177 (fixed_Neg t a hf ha) ⟨zC,O,zC,O,T⟩<|yD O<|qY O<|rStR 0 W O<|G O<|zA<|zG<|R (zP qN O (J 0 O) O) (L O) ?_
  rw [vG,decide_eq_true c1];rfl
 ·try simp only [sx] at c1
  refine zJ<|Y O<|zD O yR<|zI U (J 1 O) O<|zX O (zBq O O ⟨by omega,by omega⟩)<|zD O kU<|zI U (J 1 O) O<|qR O zr59 pl59<|rStR 0 W O<|G O<|zA<|zG<|R (zP qN O (J 0 O) O) (L O) ?_
  rw [vG,qK c1];rfl
theorem zIe (op:Int) (t:Ty) (a b:Vl) (ht:bD t=true) (ha:bC t a=true) (hb:bC t b=true) (h1:4<=op) (h2:op<=7):
    Pur cfgO 141 [vI op,vTy t,bJ a,bJ b] (.tup [bJ (pW op t a b).1,vI (pW op t a b).2]):=by
 refine zR Tryz.func141 O Tryz.ntmps141 Tryz.results141 O ?_
 intro z hz
 have hfa:=(zDu ht ha).2.2
 have hfb:=(zDu ht hb).2.2
 have hn1:bI a.N=true:=fr31 hfa
 have hn2:bI b.N=true:=fr31 hfb
 refine Y O<|zW O O (qB O O) ?_
 rintro _ _ ⟨b1,rfl,rfl⟩
 refine zW O O (qB O O) ?_
 rintro _ _ ⟨b2,rfl,rfl⟩
 refine zW O O (qB O O) ?_
 rintro _ _ ⟨b3,rfl,rfl⟩
 refine zW O O (qS O zr59) ?_
 rintro _ _ ⟨b4,rfl,rfl⟩
 refine G O<|zA<|Y O<|zD O zBx<|zI one3 (J 3 O) O<|qQ O<|G O<|zA<|zK<|zT<|Y O<|zD O zBx<|zI one3 (J 3 O) O<|qQ O<|G O<|zA<|zE O (fun c1=>?_) (fun c1=>?_)
 ·try simp only [sx] at c1
  have hk2:¬t.Kind=2:=by omega
  refine Y O<|G O<|zD O yR<|zI U (J 2 O) O<|zD O yR<|zI U (J 1 O) O<|zZ O ok178 (value_integer op a.N b.N hn1 hn2 (by omega) (by omega)) ⟨zC,O,zC,O,zC,O,T⟩<|yD O<|qY O<|rStR 0 W O<|G O<|zA<|zG<|R (zP qN O (J 0 O) O) (L O) ?_
  rw [ari3 c1];rfl
 ·try simp only [sx] at c1
  refine Y O<|G O<|qQ O<|G O<|rL0 O (fun g4_2=>zO O O) O<|yO O (fun h=>h)<|G O<|zA<|zE O (fun c2=>?_) (fun c2=>?_)
  ·obtain ⟨ho,hk⟩:=and_dec c2
   have hf:bP t=true:=by rw [←wY hk];exact ht
   refine Y O<|zL qX (J 3 O) O<|zL qN (J 2 O) O<|zL qN (J 1 O) O<|zZ O ok179 (fixed_Add t a b hf ha hb) ⟨zC,O,zC,O,zC,O,T⟩<|yD O<|qY O<|rStR 0 W O<|G O<|zA<|zG<|R (zP qN O (J 0 O) O) (L O) ?_
   rw [ari2 hk,fixA1 ho];rfl
  ·refine Y O<|G O<|qQ O<|G O<|rL0 O (fun g6_2=>zO O O) O<|yO O (fun h=>h)<|G O<|zA<|zE O (fun c3=>?_) (fun c3=>?_)
   ·obtain ⟨ho,hk⟩:=and_dec c3
    have hf:bP t=true:=by rw [←wY hk];exact ht
    refine Y O<|zL qX (J 3 O) O<|zL qN (J 2 O) O<|zL qN (J 1 O) O<|zZ O ok180 (fixed_Sub t a b hf ha hb) ⟨zC,O,zC,O,zC,O,T⟩<|yD O<|qY O<|rStR 0 W O<|G O<|zA<|zG<|R (zP qN O (J 0 O) O) (L O) ?_
    rw [ari2 hk,fixA2 ho];rfl
   ·refine Y O<|G O<|qQ O<|G O<|rL0 O (fun g8_2=>zO O O) O<|yO O (fun h=>h)<|G O<|zA<|zE O (fun c4=>?_) (fun c4=>?_)
    ·obtain ⟨ho,hk⟩:=and_dec c4
     have hf:bP t=true:=by rw [←wY hk];exact ht
     refine Y O<|zL qX (J 3 O) O<|zL qN (J 2 O) O<|zL qN (J 1 O) O<|zZ O ok181 (fixed_Mul t a b hf ha hb) ⟨zC,O,zC,O,zC,O,T⟩<|yD O<|qY O<|rStR 0 W O<|G O<|zA<|zG<|R (zP qN O (J 0 O) O) (L O) ?_
     rw [ari2 hk,fixA3 ho];rfl
    ·refine Y O<|G O<|G O<|zA<|zE O (fun c5=>?_) (fun c5=>?_)
     ·have hk:t.Kind=2:=of_decide_eq_true c5
      have hf:bP t=true:=by rw [←wY hk];exact ht
      have ho:op=7:=ari7 hk h1 h2 c2 c3 c4
      refine Y O<|zL qX (J 3 O) O<|zL qN (J 2 O) O<|zL qN (J 1 O) O<|zZ O ok182 (fixed_Div t a b hf ha hb) ⟨zC,O,zC,O,zC,O,T⟩<|yD O<|qY O<|rStR 0 W O<|G O<|zA<|zG<|R (zP qN O (J 0 O) O) (L O) ?_
      subst ho
      rw [ari2 hk];rfl
     ·have hk2:¬t.Kind=2:=of_decide_eq_false c5
      refine Y O<|G O<|qQ O<|G O<|zA<|zE O (fun c6=>?_) (fun c6=>?_)
      ·try simp only [sx] at c6
       refine Y O<|zL qN (J 2 O) O<|zL qN (J 1 O) O<|zZ O ok183 (frac_Add a b) ⟨zC,O,zC,O,T⟩<|yD O<|qY O<|rStR 0 W O<|G O<|zA<|zG<|R (zP qN O (J 0 O) O) (L O) ?_
       subst c6
       rw [ari1 hk2 c1,zCr hfa hfb];rfl
      ·try simp only [sx] at c6
       refine Y O<|G O<|qQ O<|G O<|zA<|zE O (fun c7=>?_) (fun c7=>?_)
       ·try simp only [sx] at c7
        refine Y O<|zL qN (J 2 O) O<|zL qN (J 1 O) O<|zZ O ok184 (frac_Sub a b) ⟨zC,O,zC,O,T⟩<|yD O<|qY O<|rStR 0 W O<|G O<|zA<|zG<|R (zP qN O (J 0 O) O) (L O) ?_
        subst c7
        rw [ari1 hk2 c1,zCr hfa hfb];rfl
       ·try simp only [sx] at c7
        refine Y O<|G O<|qQ O<|G O<|zA<|zE O (fun c8=>?_) (fun c8=>?_)
        ·try simp only [sx] at c8
         refine Y O<|zL qN (J 2 O) O<|zL qN (J 1 O) O<|zZ O ok185 (frac_Mul a b) ⟨zC,O,zC,O,T⟩<|yD O<|qY O<|rStR 0 W O<|G O<|zA<|zG<|R (zP qN O (J 0 O) O) (L O) ?_
         subst c8
         rw [ari1 hk2 c1,zCr hfa hfb];rfl
        ·try simp only [sx] at c8
         refine zJ<|Y O<|zL qN (J 2 O) O<|zL qN (J 1 O) O<|zZ O ok186 (frac_Div a b) ⟨zC,O,zC,O,T⟩<|yD O<|qY O<|rStR 0 W O<|G O<|zA<|zG<|R (zP qN O (J 0 O) O) (L O) ?_
         have ho:op=7:=by omega
         subst ho
         rw [ari1 hk2 c1,zCr hfa hfb];rfl
theorem zHg (t:Ty) (a b:Vl):
    Pur cfgO 110 [vTy t,bJ a,bJ b] (vI (jZ t a b)):=by
 refine zR Tryz.func110 O Tryz.ntmps110 Tryz.results110 O ?_
 intro z hz
 refine Y O<|zW O O (qB O O) ?_
 rintro _ _ ⟨b1,rfl,rfl⟩
 refine zW O O (qB O O) ?_
 rintro _ _ ⟨b2,rfl,rfl⟩
 refine zW O O (qB O O) ?_
 rintro _ _ ⟨b3,rfl,rfl⟩
 refine G O<|zA<|zK<|zT<|Y O<|zL qX (J 2 O) O<|zL qN (J 1 O) O<|zZ O ok22 (upO (zAw t a)) ⟨zC,O,zC,O,T⟩<|yT O<|G O<|rL0 O (fun g1_4=>zV O qX O (J 2 O) O) O<|rL0 O (fun g1_4=>zV O qN O (J 0 O) O) O<|rLz [(13,_),(14,_)] O gv1 ⟨O,O,O,O,T⟩ (fun g1_4=>qE O ok22 (upO (zAw t b)) ⟨zC,O,zC,O,T⟩) O<|rL1 15 O (fun g1_4=>kA O O) O<|r_or O (fun h=>(lzf h))<|G O<|zA<|zE O (fun c1=>?_) (fun c1=>?_)
 ·have c1:(!(bD t&&bC t a)|| !(bD t&&bC t b))=true:=c1
  refine Y O<|G O<|zA<|zG<|zS O ?_
  rw [cmp_no c1]
 ·have c1:(!(bD t&&bC t a)|| !(bD t&&bC t b))=false:=c1
  obtain ⟨ga,gb⟩:=both_ok c1
  have ha:=(zDu (Bool.and_eq_true _ _ ▸ ga).1 (Bool.and_eq_true _ _ ▸ ga).2).2.2
  have hb:=(zDu (Bool.and_eq_true _ _ ▸ gb).1 (Bool.and_eq_true _ _ ▸ gb).2).2.2
  refine Y O<|zD O zBx<|zI one3 (J 2 O) O<|qQ O<|G O<|zA<|zE O (fun c2=>?_) (fun c2=>?_)
  ·refine Y O<|zL qN (J 1 O) O<|zL qN (J 0 O) O<|zZ O ok139 (frac_Compare a b ha hb) ⟨zC,O,zC,O,T⟩<|G O<|zA<|zG<|zS O ?_
   rw [cmp_yes ga gb]
  ·try simp only [sx] at c2
   refine Y O<|zD O yR<|zI U (J 1 O) O<|zD O yR<|zI U (J 0 O) O<|yF O<|G O<|zA<|zE O (fun c3=>?_) (fun c3=>?_)
   ·try simp only [sx] at c3
    refine Y O<|G O<|zA<|zG<|zS O ?_
    rw [cmp_int c2 ga gb,ordI_lt c3]
   ·try simp only [sx] at c3
    refine Y O<|zD O yR<|zI U (J 1 O) O<|zD O yR<|zI U (J 0 O) O<|zAf O<|G O<|zA<|zE O (fun c4=>?_) (fun c4=>?_)
    ·try simp only [sx] at c4
     refine Y O<|G O<|zA<|zG<|zS O ?_
     rw [cmp_int c2 ga gb,ordI_gt (by omega) c4]
    ·try simp only [sx] at c4
     refine zJ<|Y O<|G O<|zA<|zG<|zS O ?_
     rw [cmp_int c2 ga gb,ordI_eq (by omega) (by omega)]
theorem zFm (t:Ty) (v:Vl):
    Pur cfgO 32 [vTy t,bJ v] (vB (bD t&&bC t v)):=by
 refine zR Tryz.func32 O Tryz.ntmps32 Tryz.results32 O ?_
 intro z hz
 refine Y O<|zW O O (qB O O) ?_
 rintro _ _ ⟨b1,rfl,rfl⟩
 refine zW O O (qB O O) ?_
 rintro _ _ ⟨b2,rfl,rfl⟩
 refine G O<|zA<|Y O<|zL qX (J 1 O) O<|zZ O ok62 (upO (zCv t)) ⟨zC,O,T⟩<|G O<|rL0 O (fun g1_2=>zV O qX O (J 1 O) O) O<|rL0 O (fun g1_2=>zV O qN O (J 0 O) O) O<|rLz [(8,_),(9,_)] O gv1 ⟨O,O,O,O,T⟩ (fun g1_2=>qE O ok63 (upO (zGf t v (by simpa [Lz] using g1_2))) ⟨zC,O,zC,O,T⟩) O<|yO O (fun h=>h)<|G O<|zA<|zG<|zS O ?_
 exact O
theorem zMf (t:Ty) (a b:Vl):
    Pur cfgO 130 [vTy t,bJ a,bJ b] (vI (jZ t a b)):=by
 refine zR Tryz.func130 O Tryz.ntmps130 Tryz.results130 O ?_
 intro z hz
 refine Y O<|zW O O (qB O O) ?_
 rintro _ _ ⟨b1,rfl,rfl⟩
 refine zW O O (qB O O) ?_
 rintro _ _ ⟨b2,rfl,rfl⟩
 refine zW O O (qB O O) ?_
 rintro _ _ ⟨b3,rfl,rfl⟩
 refine G O<|zA<|zK<|Y O<|zL qX (J 2 O) O<|zL qN (J 1 O) O<|zZ O ok32 (zFm t a) ⟨zC,O,zC,O,T⟩<|yT O<|G O<|rL0 O (fun g1_4=>zV O qX O (J 2 O) O) O<|rL0 O (fun g1_4=>zV O qN O (J 0 O) O) O<|rLz [(12,_),(13,_)] O gv1 ⟨O,O,O,O,T⟩ (fun g1_4=>qE O ok32 (zFm t b) ⟨zC,O,zC,O,T⟩) O<|rL1 14 O (fun g1_4=>kA O O) O<|r_or O (fun h=>(lzf h))<|zA<|zE O (fun c1=>?_) (fun c1=>?_)
 ·have c1:(!(bD t&&bC t a)|| !(bD t&&bC t b))=true:=c1
  refine Y O<|G O<|zA<|zG<|zS O ?_
  rw [cmp_no c1]
 ·have c1:(!(bD t&&bC t a)|| !(bD t&&bC t b))=false:=c1
  obtain ⟨ga,gb⟩:=both_ok c1
  have ha:=(zDu (Bool.and_eq_true _ _ ▸ ga).1 (Bool.and_eq_true _ _ ▸ ga).2).2.2
  have hb:=(zDu (Bool.and_eq_true _ _ ▸ gb).1 (Bool.and_eq_true _ _ ▸ gb).2).2.2
  refine zJ<|Y O<|zL qN (J 1 O) O<|zL qN (J 0 O) O<|zZ O ok163 (ref01_Compare a b ha hb) ⟨zC,O,zC,O,T⟩<|G O<|zA<|zG<|zS O ?_
  rw [cmp_yes ga gb]
theorem value_fraction (t:Ty) (a:Vl) (ht:bD t=true) (ha:bC t a=true):
    Pur cfgO 142 [vTy t,bJ a] (bJ (fO t a)):=by
 refine zR Tryz.func142 O Tryz.ntmps142 Tryz.results142 O ?_
 intro z hz
 refine Y O<|zW O O (qB O O) ?_
 rintro _ _ ⟨b1,rfl,rfl⟩
 refine zW O O (qB O O) ?_
 rintro _ _ ⟨b2,rfl,rfl⟩
 refine zW O O (qS O zr59) ?_
 rintro _ _ ⟨b3,rfl,rfl⟩
 refine zA<|zK<|Y O<|zD O zBx<|zI one3 (J 2 O) O<|qQ O<|zA<|zE O (fun c1=>?_) (fun c1=>?_)
 ·try simp only [sx] at c1
  have hf:bP t=true:=by rw [←wY (by assumption)];exact ht
  refine Y O<|zL qX (J 2 O) O<|zL qN (J 1 O) O<|zZ O ok187 (fixed_ToFrac t a hf ha) ⟨zC,O,zC,O,T⟩<|qW O<|yD O<|qY O<|zW O O (qS O zr59) ?_
  rintro _ _ ⟨b4,rfl,rfl⟩
  refine rStR 0 W O<|G O<|zA<|Y O<|zL qN (J 0 O) O<|rStR 1 W O<|zA<|zG<|fin1 (zP qN O (J 1 O) O) ?_
  rw [fracV_2 c1];rfl
 ·try simp only [sx] at c1
  refine zJ<|Y O<|zL qN (J 1 O) O<|rStR 0 W O<|zA<|zG<|fin1 (zP qN O (J 0 O) O) ?_
  rw [fracV_n c1];rfl
theorem ref04_Value (t:Ty) (a:Vl) (ht:bD t=true) (ha:bC t a=true):
    Pur cfgO 171 [vTy t,bJ a] (bJ (fO t a)):=by
 refine zR Tryz.func171 O Tryz.ntmps171 Tryz.results171 O ?_
 intro z hz
 refine Y O<|zW O O (qB O O) ?_
 rintro _ _ ⟨b1,rfl,rfl⟩
 refine zW O O (qB O O) ?_
 rintro _ _ ⟨b2,rfl,rfl⟩
 refine zW O O (qS O zr59) ?_
 rintro _ _ ⟨b3,rfl,rfl⟩
 refine zA<|zK<|Y O<|zD O zBx<|zI one3 (J 2 O) O<|qQ O<|zA<|zE O (fun c1=>?_) (fun c1=>?_)
 ·try simp only [sx] at c1
  have hf:bP t=true:=by rw [←wY (by assumption)];exact ht
  have hA:=fxN hf ha
  have hT:=fxT hf
  have hT1:=hT.p1
  have hT2:=hT.p2
  refine kG 9 0 [⟨0,.q []⟩,⟨1,.q [1]⟩,⟨2,.q [2]⟩,⟨3,.q []⟩,⟨4,.q []⟩,⟨5,.q []⟩,⟨6,.q []⟩,⟨7,.q []⟩,⟨8,.e 1 []⟩] mixed (by kernel_rfl) (by kernel_rfl) O O O<|zU O<|zU O<|zU O<|zU O<|zU O<|zU O<|zU O<|zU O<|zU O<|zAz<|qA O (by decide) O O (zF O yR O)<|qA O (by decide) O O (zH O U O (J 0 O) O)<|qA O (by decide) O O (zV O qX O (J 0 O) O)<|qA O (by decide) O O (qE O ok175 (zGu t hf) ⟨zC,O,T⟩)<|qA O (by decide) O O (qE O ok206 (zJk a.N (dH t.Frac) ⟨by omega,by omega⟩ ⟨by omega,by omega⟩) ⟨zC,O,zC,O,T⟩)<|qA O (by decide) O O (kW O O)<|qA O (by decide) O O (wM O O O)<|qA O (by decide) O O (wO O O O)<|zGq O O (by decide) O O (yL O W O O O (zEg 0 O O)) ?_
  rintro _ _ ⟨rfl,rfl⟩
  refine ⟨_,O,?_⟩
  refine zAy O<|zA<|Y O<|zL qN (J 1 O) O<|rStR 0 W O<|zA<|zG<|fin1 (zP qN O (J 0 O) O) ?_
  rw [fracV_2 c1];rfl
 ·try simp only [sx] at c1
  refine zJ<|Y O<|zL qN (J 1 O) O<|rStR 0 W O<|zA<|zG<|fin1 (zP qN O (J 0 O) O) ?_
  rw [fracV_n c1];rfl
theorem value_Apply (op:Int) (t:Ty) (a b:Vl):
    Pur cfgO 111 [vI op,vTy t,bJ a,bJ b] (.tup [bJ (mO op t a b).1,vI (mO op t a b).2]):=by
 refine zR Tryz.func111 O Tryz.ntmps111 Tryz.results111 O ?_
 intro z hz
 refine Y O<|zW O O (qB O O) ?_
 rintro _ _ ⟨b1,rfl,rfl⟩
 refine zW O O (qB O O) ?_
 rintro _ _ ⟨b2,rfl,rfl⟩
 refine zW O O (qB O O) ?_
 rintro _ _ ⟨b3,rfl,rfl⟩
 refine zW O O (qS O zr59) ?_
 rintro _ _ ⟨b4,rfl,rfl⟩
 refine G O<|zA<|zK<|zT<|Y O<|G O<|yF O<|G O<|rL0 O (fun g1_2=>zO O O) O<|rL1 15 O (fun g1_2=>kD O O O) O<|r_or O (fun h=>(lzf h))<|G O<|zA<|zE O (fun c1=>?_) (fun c1=>?_)
 ·refine Y O<|qR O zr59 pl59<|rStR 0 W O<|G O<|zA<|zG<|R (zP qN O (J 0 O) O) (L O) ?_
  rw [apl1 c1];rfl
 ·refine Y O<|zL qX (J 3 O) O<|zZ O ok51 (upO (kO t)) ⟨zC,O,T⟩<|yQ O<|G O<|zA<|zE O (fun c2=>?_) (fun c2=>?_)
  ·try simp only [sx] at c2
   have ht:bD t=false:=zHl c2
   refine Y O<|qR O zr59 pl59<|rStR 0 W O<|G O<|zA<|zG<|R (zP qN O (J 0 O) O) (L O) ?_
   rw [apl2 c1 ht];rfl
  ·try simp only [sx] at c2
   have ht:bD t=true:=zEc (by omega)
   refine Y O<|zL qX (J 3 O) O<|zL qN (J 2 O) O<|zZ O ok22 (upO (zAw t a)) ⟨zC,O,zC,O,T⟩<|yT O<|G O<|rL0 O (fun g5_4=>zO O O) O<|rL1 30 O (fun g5_4=>kT O O O) O<|rL1 31 O (fun g5_4=>zO O O) O<|rLz [] O A T (fun g5_7=>zV O qX O (J 3 O) O) O<|rLz [] O A T (fun g5_7=>zV O qN O (J 1 O) O) O<|rLz [(33,_),(34,_)] O A ⟨O,O,O,O,T⟩ (fun g5_7=>qE O ok22 (upO (zAw t b)) ⟨zC,O,zC,O,T⟩) O<|rLz [(35,_)] O A ⟨O,O,T⟩ (fun g5_7=>kA O O) O<|rL1 32 O (fun g5_4=>wF O O O (fun h=>kC (by assumption) h) O) O<|r_or O (fun h=>(lzf h))<|G O<|zA<|zE O (fun c3=>?_) (fun c3=>?_)
   ·have c3:(!bC t a||(!decide (op=8)&& !bC t b))=true:=by rw [ht] at c3;exact c3
    refine Y O<|qR O zr59 pl59<|rStR 0 W O<|G O<|zA<|zG<|R (zP qN O (J 0 O) O) (L O) ?_
    rw [apl3 c1 ht c3];rfl
   ·have c3:(!bC t a||(!decide (op=8)&& !bC t b))=false:=by rw [ht] at c3;exact c3
    obtain ⟨ha,hb⟩:=apl_ok c3
    refine zJ<|zK<|Y O<|G O<|zA<|zT<|Y O<|qQ O<|G O<|zA<|zE O (fun c4=>?_) (fun c4=>?_)
    ·try simp only [sx] at c4
     have hm:(decide (op=9)||decide (op=10))=false:=by simp;omega
     refine Y O<|zL qX (J 3 O) O<|zL qN (J 2 O) O<|zZ O ok140 (value_negate t a ht ha) ⟨zC,O,zC,O,T⟩<|yD O<|qY O<|rStR 0 W O<|G O<|zA<|zG<|R (zP qN O (J 0 O) O) (L O) ?_
     rw [apl5 c1 ht c3 hm,c4,ari_neg ht ha];rfl
    ·try simp only [sx] at c4
     refine zK<|Y O<|qQ O<|G O<|zA<|zE O (fun c5=>?_) (fun c5=>?_)
     ·try simp only [sx] at c5
      refine zJ<|zE O (fun c6=>?_) (fun c6=>?_)
      ·exact p8
      ·exact j1
     ·try simp only [sx] at c5
      refine zQ O<|qQ O<|G O<|zA<|zE O (fun c6=>?_) (fun c6=>?_)
      ·exact p8
      ·exact j1
theorem ref04_Apply (op:Int) (t:Ty) (a b:Vl):
    Pur cfgO 132 [vI op,vTy t,bJ a,bJ b] (.tup [bJ (mO op t a b).1,vI (mO op t a b).2]):=by
 refine zR Tryz.func132 O Tryz.ntmps132 Tryz.results132 O ?_
 intro z hz
 refine Y O<|zW O O (qB O O) ?_
 rintro _ _ ⟨b1,rfl,rfl⟩
 refine zW O O (qB O O) ?_
 rintro _ _ ⟨b2,rfl,rfl⟩
 refine zW O O (qB O O) ?_
 rintro _ _ ⟨b3,rfl,rfl⟩
 refine zW O O (qS O zr59) ?_
 rintro _ _ ⟨b4,rfl,rfl⟩
 refine G O<|zA<|zK<|Y O<|G O<|yF O<|G O<|rL0 O (fun g1_2=>zO O O) O<|rL1 13 O (fun g1_2=>kD O O O) O<|r_or O (fun h=>(lzf h))<|zA<|zE O (fun c1=>?_) (fun c1=>?_)
 ·refine Y O<|qR O zr59 pl59<|rStR 0 W O<|G O<|zA<|zG<|R (zP qN O (J 0 O) O) (L O) ?_
  rw [apl1 c1];rfl
 ·refine zJ<|zK<|Y O<|zL qX (J 3 O) O<|zZ O ok62 (upO (zCv t)) ⟨zC,O,T⟩<|yT O<|zA<|zE O (fun c2=>?_) (fun c2=>?_)
  ·try simp only [sx] at c2
   have ht:bD t=false:=by simpa using c2
   refine Y O<|qR O zr59 pl59<|rStR 0 W O<|G O<|zA<|zG<|R (zP qN O (J 0 O) O) (L O) ?_
   rw [apl2 c1 ht];rfl
  ·try simp only [sx] at c2
   have ht:bD t=true:=by simpa using c2
   refine zJ<|zK<|Y O<|zL qX (J 3 O) O<|zL qN (J 2 O) O<|zZ O ok63 (upO (zGf t a ht)) ⟨zC,O,zC,O,T⟩<|yT O<|G O<|rL0 O (fun g5_4=>zO O O) O<|rL1 26 O (fun g5_4=>kT O O O) O<|rL1 27 O (fun g5_4=>zO O O) O<|rLz [] O A T (fun g5_7=>zV O qX O (J 3 O) O) O<|rLz [] O A T (fun g5_7=>zV O qN O (J 1 O) O) O<|rLz [(29,_),(30,_)] O A ⟨O,O,O,O,T⟩ (fun g5_7=>qE O ok63 (upO (zGf t b ht)) ⟨zC,O,zC,O,T⟩) O<|rLz [(31,_)] O A ⟨O,O,T⟩ (fun g5_7=>kA O O) O<|rL1 28 O (fun g5_4=>wF O O O (fun h=>kC (by assumption) h) O) O<|r_or O (fun h=>(lzf h))<|zA<|zE O (fun c3=>?_) (fun c3=>?_)
   ·have c3:(!bC t a||(!decide (op=8)&& !bC t b))=true:=c3
    refine Y O<|qR O zr59 pl59<|rStR 0 W O<|G O<|zA<|zG<|R (zP qN O (J 0 O) O) (L O) ?_
    rw [apl3 c1 ht c3];rfl
   ·have c3:(!bC t a||(!decide (op=8)&& !bC t b))=false:=c3
    obtain ⟨ha,hb⟩:=apl_ok c3
    have hr:=zUu c1
    have hfa:=(zDu ht ha).2.2
    refine zJ<|zK<|Y O<|G O<|qQ O<|G O<|rL0 O (fun g7_2=>zO O O) O<|rL1 39 O (fun g7_2=>yM O O O) O<|r_or O (fun h=>(lzf h))<|zA<|zE O (fun c4=>?_) (fun c4=>?_)
    ·have h8:¬op=8:=by simp at c4;omega
     refine zK<|Y O<|zL qX (J 3 O) O<|zL qN (J 2 O) O<|zL qN (J 1 O) O<|zZ O ok130 (zMf t a b) ⟨zC,O,zC,O,zC,O,T⟩<|zAf O<|G O<|qQ O<|zX O (det_beql O un4 O O)<|zA<|zE O (fun c5=>?_) (fun c5=>?_)
     ·refine Y O<|zL qN (J 1 O) O<|rStR 0 W O<|G O<|zA<|zG<|R (zP qN O (J 0 O) O) (L O) ?_
      rw [apl6 c1 ht c3 c4]
      exact congrArg (fun x=>V.tup [bJ x,vI 0]) (by rw [c5];rfl)
     ·refine zJ<|Y O<|zL qN (J 2 O) O<|rStR 0 W O<|G O<|zA<|zG<|R (zP qN O (J 0 O) O) (L O) ?_
      rw [apl6 c1 ht c3 c4]
      exact congrArg (fun x=>V.tup [bJ x,vI 0]) (by rw [c5];rfl)
    ·have hm:=c4
     have hop:op<=8:=by simp at c4;omega
     refine zJ<|zK<|Y O<|zD O zBx<|zI one3 (J 3 O) O<|qQ O<|zA<|zE O (fun c6=>?_) (fun c6=>?_)
     ·try simp only [sx] at c6
      have hf:bP t=true:=by rw [←wY c6];exact ht
      refine Y O<|G O<|zL qX (J 3 O) O<|zD O yR<|zI U (J 2 O) O<|zD O yR<|zI U (J 1 O) O<|zZ O ok164 (ref04_fix op t a.N b.N hf (fxN hf ha) (fun h8=>fxN hf (hb h8)) (by omega) (by omega)) ⟨zC,O,zC,O,zC,O,zC,O,T⟩<|yD O<|qY O<|rStR 0 W O<|G O<|zA<|zG<|R (zP qN O (J 0 O) O) (L O) ?_
      rw [apl5 c1 ht c3 hm,ari2 c6];rfl
     ·try simp only [sx] at c6
      refine zJ<|zK<|Y O<|zD O zBx<|zI one3 (J 3 O) O<|qQ O<|zA<|zE O (fun c7=>?_) (fun c7=>?_)
      ·try simp only [sx] at c7
       refine Y O<|G O<|zD O yR<|zI U (J 2 O) O<|zD O yR<|zI U (J 1 O) O<|zZ O ok165 (ref04_whole op a.N b.N (fr31 hfa) (fun h8=>fr31 (zDu ht (hb h8)).2.2) (by omega) (by omega)) ⟨zC,O,zC,O,zC,O,T⟩<|yD O<|qY O<|rStR 0 W O<|G O<|zA<|zG<|R (zP qN O (J 0 O) O) (L O) ?_
       rw [apl5 c1 ht c3 hm,ari3 c7];rfl
      ·try simp only [sx] at c7
       refine zJ<|zK<|Y O<|G O<|zA<|zT<|Y O<|qQ O<|G O<|zA<|zE O (fun c8=>?_) (fun c8=>?_)
       ·try simp only [sx] at c8
        refine Y O<|zL qN (J 2 O) O<|zL qN (J 1 O) O<|zZ O ok166 (ref01_Add a b) ⟨zC,O,zC,O,T⟩<|yD O<|qY O<|rStR 0 W O<|G O<|zA<|zG<|R (zP qN O (J 0 O) O) (L O) ?_
        rw [apl5 c1 ht c3 hm,ari1 c6 c7]
        subst c8
        rw [zCr hfa (zDu ht (hb (by decide))).2.2];rfl
       ·try simp only [sx] at c8
        refine Y O<|qQ O<|G O<|zA<|zE O (fun c9=>?_) (fun c9=>?_)
        ·try simp only [sx] at c9
         refine Y O<|zL qN (J 2 O) O<|zL qN (J 1 O) O<|zZ O ok167 (ref01_Sub a b) ⟨zC,O,zC,O,T⟩<|yD O<|qY O<|rStR 0 W O<|G O<|zA<|zG<|R (zP qN O (J 0 O) O) (L O) ?_
         rw [apl5 c1 ht c3 hm,ari1 c6 c7]
         subst c9
         rw [zCr hfa (zDu ht (hb (by decide))).2.2];rfl
        ·try simp only [sx] at c9
         refine Y O<|qQ O<|G O<|zA<|zE O (fun c10=>?_) (fun c10=>?_)
         ·try simp only [sx] at c10
          refine Y O<|zL qN (J 2 O) O<|zL qN (J 1 O) O<|zZ O ok168 (ref01_Mul a b) ⟨zC,O,zC,O,T⟩<|yD O<|qY O<|rStR 0 W O<|G O<|zA<|zG<|R (zP qN O (J 0 O) O) (L O) ?_
          rw [apl5 c1 ht c3 hm,ari1 c6 c7]
          subst c10
          rw [zCr hfa (zDu ht (hb (by decide))).2.2];rfl
         ·try simp only [sx] at c10
          refine Y O<|qQ O<|G O<|zA<|zE O (fun c11=>?_) (fun c11=>?_)
          ·try simp only [sx] at c11
           refine Y O<|zL qN (J 2 O) O<|zL qN (J 1 O) O<|zZ O ok169 (ref01_Div a b) ⟨zC,O,zC,O,T⟩<|yD O<|qY O<|rStR 0 W O<|G O<|zA<|zG<|R (zP qN O (J 0 O) O) (L O) ?_
           rw [apl5 c1 ht c3 hm,ari1 c6 c7]
           subst c11
           rw [zCr hfa (zDu ht (hb (by decide))).2.2];rfl
          ·try simp only [sx] at c11
           refine zJ<|Y O<|zL qN (J 2 O) O<|zZ O ok170 (ref01_Neg a hfa) ⟨zC,O,T⟩<|rStR 0 W O<|G O<|zA<|zG<|R (zP qN O (J 0 O) O) (L O) ?_
           have ho:op=8:=by omega
           rw [apl5 c1 ht c3 hm,ari1 c6 c7]
           subst ho
           rfl
theorem value_Cast (f t:Ty) (v:Vl):
    Pur cfgO 112 [vTy f,vTy t,bJ v] (.tup [bJ (mN f t v).1,vI (mN f t v).2]):=by
 refine zR Tryz.func112 O Tryz.ntmps112 Tryz.results112 O ?_
 intro z hz
 refine Y O<|zW O O (qB O O) ?_
 rintro _ _ ⟨b1,rfl,rfl⟩
 refine zW O O (qB O O) ?_
 rintro _ _ ⟨b2,rfl,rfl⟩
 refine zW O O (qB O O) ?_
 rintro _ _ ⟨b3,rfl,rfl⟩
 refine zW O O (qS O zr59) ?_
 rintro _ _ ⟨b4,rfl,rfl⟩
 refine G O<|zA<|zK<|zT<|Y O<|zL qX (J 3 O) O<|zZ O ok51 (upO (kO f)) ⟨zC,O,T⟩<|yQ O<|G O<|rL0 O (fun g1_3=>zV O qX O (J 2 O) O) O<|rL1 14 O (fun g1_3=>qE O ok51 (upO (kO t)) ⟨zC,O,T⟩) O<|rL1 15 O (fun g1_3=>kT O O O) O<|r_or O (fun h=>(lzf h))<|G O<|zA<|zE O (fun c1=>?_) (fun c1=>?_)
 ·have c1:(!bD f|| !bD t)=true:=by rw [←err_ty];exact c1
  refine Y O<|qR O zr59 pl59<|rStR 0 W O<|G O<|zA<|zG<|R (zP qN O (J 0 O) O) (L O) ?_
  rw [cst1 c1];rfl
 ·have c1:(!bD f|| !bD t)=false:=by rw [←err_ty];exact c1
  have hf:bD f=true:=by cases h:bD f;rw [h] at c1;cases c1;rfl
  have ht:bD t=true:=by cases h:bD t;rw [h,hf] at c1;cases c1;rfl
  refine Y O<|zL qX (J 3 O) O<|zL qN (J 1 O) O<|zZ O ok22 (upO (zAw f v)) ⟨zC,O,zC,O,T⟩<|yT O<|G O<|zA<|zE O (fun c2=>?_) (fun c2=>?_)
  ·try simp only [sx] at c2
   have hv:bC f v=false:=by rw [hf] at c2;simpa using c2
   refine Y O<|qR O zr59 pl59<|rStR 0 W O<|G O<|zA<|zG<|R (zP qN O (J 0 O) O) (L O) ?_
   rw [cst2 c1 hv];rfl
  ·try simp only [sx] at c2
   have hv:bC f v=true:=by rw [hf] at c2;simpa using c2
   have hfr:=fracV_ok hf hv
   refine zJ<|Y O<|zL qX (J 3 O) O<|zL qN (J 1 O) O<|zZ O ok142 (value_fraction f v hf hv) ⟨zC,O,zC,O,T⟩<|zW O O (qS O zr59) ?_
   rintro _ _ ⟨b5,rfl,rfl⟩
   refine rStR 0 W O<|zA<|zK<|Y O<|zD O zBx<|zI one3 (J 3 O) O<|zA<|zT<|Y O<|qQ O<|G O<|zA<|zE O (fun c3=>?_) (fun c3=>?_)
   ·try simp only [sx] at c3
    refine Y O<|zL qN (J 0 O) O<|zZ O ok143 (frac_Floor (fO f v) hfr) ⟨zC,O,T⟩<|qR O zr59 pl59<|rStR 1 W O<|G O<|zA<|zG<|R (zP qN O (J 1 O) O) (L O) ?_
    rw [cst3 c1 hv c3];rfl
   ·try simp only [sx] at c3
    refine Y O<|qQ O<|G O<|zA<|zE O (fun c4=>?_) (fun c4=>?_)
    ·try simp only [sx] at c4
     have hft:bP t=true:=by rw [←wY c4];exact ht
     refine Y O<|zL qX (J 3 O) O<|zL qN (J 0 O) O<|zZ O ok144 (fixed_FromFrac t (fO f v) hft hfr) ⟨zC,O,zC,O,T⟩<|yD O<|qY O<|rStR 1 W O<|G O<|zA<|zG<|R (zP qN O (J 1 O) O) (L O) ?_
     rw [cst4 c1 hv c3 c4];rfl
    ·try simp only [sx] at c4
     refine zJ<|Y O<|zL qN (J 0 O) O<|rStR 1 W O<|G O<|zA<|zG<|R (zP qN O (J 1 O) O) (L O) ?_
     rw [cst5 c1 hv c3 c4];rfl
theorem ref04_Cast (f t:Ty) (v:Vl):
    Pur cfgO 133 [vTy f,vTy t,bJ v] (.tup [bJ (mN f t v).1,vI (mN f t v).2]):=by
 refine zR Tryz.func133 O Tryz.ntmps133 Tryz.results133 O ?_
 intro z hz
 refine Y O<|zW O O (qB O O) ?_
 rintro _ _ ⟨b1,rfl,rfl⟩
 refine zW O O (qB O O) ?_
 rintro _ _ ⟨b2,rfl,rfl⟩
 refine zW O O (qB O O) ?_
 rintro _ _ ⟨b3,rfl,rfl⟩
 refine zW O O (qS O zr59) ?_
 rintro _ _ ⟨b4,rfl,rfl⟩
 refine G O<|zA<|zK<|Y O<|zL qX (J 3 O) O<|zZ O ok62 (upO (zCv f)) ⟨zC,O,T⟩<|yT O<|G O<|rL0 O (fun g1_3=>zV O qX O (J 2 O) O) O<|rL1 13 O (fun g1_3=>qE O ok62 (upO (zCv t)) ⟨zC,O,T⟩) O<|rL1 14 O (fun g1_3=>kA O O) O<|r_or O (fun h=>(lzf h))<|zA<|zE O (fun c1=>?_) (fun c1=>?_)
 ·have c1:(!bD f|| !bD t)=true:=c1
  refine Y O<|qR O zr59 pl59<|rStR 0 W O<|G O<|zA<|zG<|R (zP qN O (J 0 O) O) (L O) ?_
  rw [cst1 c1];rfl
 ·have c1:(!bD f|| !bD t)=false:=c1
  have hf:bD f=true:=by cases h:bD f;rw [h] at c1;cases c1;rfl
  have ht:bD t=true:=by cases h:bD t;rw [h,hf] at c1;cases c1;rfl
  refine zJ<|zK<|Y O<|zL qX (J 3 O) O<|zL qN (J 1 O) O<|zZ O ok63 (upO (zGf f v hf)) ⟨zC,O,zC,O,T⟩<|yT O<|zA<|zE O (fun c2=>?_) (fun c2=>?_)
  ·try simp only [sx] at c2
   have hv:bC f v=false:=by simpa using c2
   refine Y O<|qR O zr59 pl59<|rStR 0 W O<|G O<|zA<|zG<|R (zP qN O (J 0 O) O) (L O) ?_
   rw [cst2 c1 hv];rfl
  ·try simp only [sx] at c2
   have hv:bC f v=true:=by simpa using c2
   have hfr:=fracV_ok hf hv
   obtain ⟨a1,a2,a3,a4,_⟩:=zEn hfr
   refine zJ<|Y O<|zL qX (J 3 O) O<|zL qN (J 1 O) O<|zZ O ok171 (ref04_Value f v hf hv) ⟨zC,O,zC,O,T⟩<|zW O O (qS O zr59) ?_
   rintro _ _ ⟨b5,rfl,rfl⟩
   refine rStR 0 W O<|zA<|zK<|Y O<|zD O zBx<|zI one3 (J 3 O) O<|qQ O<|zA<|zE O (fun c3=>?_) (fun c3=>?_)
   ·try simp only [sx] at c3
    refine Y O<|zD O yR<|zI U (J 0 O) O<|zD O kU<|zI U (J 0 O) O<|zZ O ok172 (zFk (fO f v).N (fO f v).D (by omega) (by omega) (by omega)) ⟨zC,O,zC,O,T⟩<|qR O zr59 pl59<|rStR 1 W O<|G O<|zA<|zG<|R (zP qN O (J 1 O) O) (L O) ?_
    rw [cst3 c1 hv c3];rfl
   ·try simp only [sx] at c3
    refine zJ<|zK<|Y O<|zD O zBx<|zI one3 (J 3 O) O<|qQ O<|zA<|zE O (fun c4=>?_) (fun c4=>?_)
    ·try simp only [sx] at c4
     have hft:bP t=true:=by rw [←wY c4];exact ht
     have hT:=fxT hft
     have hT1:=hT.p1
     have hT2:=hT.p2
     have hm:=m60 (B:=2147483647) (x:=(fO f v).N) (by omega) (show 0<=dH t.Frac by omega) hT2
     have hr:=rnd_b (n:=(fO f v).N*dH t.Frac) (how:=t.Round) (show 0<(fO f v).D by omega)
     refine zK<|qV 12 mixed (by kernel_rfl) O O<|zN O O (zV O qX O (J 3 O) O)<|zN O O (zF O yR O)<|zN O O (zH O U O (J 0 O) O)<|zN O O (zV O qX O (J 3 O) O)<|zN O O (qE O ok175 (zGu t hft) ⟨zC,O,T⟩)<|zN O O (yI O O O ⟨by omega,by omega⟩)<|zN O O (zF O kU O)<|zN O O (zH O U O (J 0 O) O)<|zN O O (zF O zGa O)<|zN O O (zH O one3 O (J 3 O) O)<|zN O O (qE O ok174 (zHp ((fO f v).N*dH t.Frac) (fO f v).D t.Round (by omega) (by omega) (by omega)) ⟨zC,O,zC,O,zC,O,T⟩)<|zN O O (qE O ok173 (zFl t (rnd ((fO f v).N*dH t.Frac) (fO f v).D t.Round) hft (by omega)) ⟨zC,O,zC,O,T⟩)<|yK<|rStR 1 W O<|G O<|zA<|zG<|R (zP qN O (J 1 O) O) (L O) ?_
     rw [cst4 c1 hv c3 c4];rfl
    ·try simp only [sx] at c4
     refine zJ<|Y O<|zL qN (J 0 O) O<|rStR 1 W O<|G O<|zA<|zG<|R (zP qN O (J 1 O) O) (L O) ?_
     rw [cst5 c1 hv c3 c4];rfl
end Go.W
end
section
set_option maxRecDepth 10000
namespace Go.W
open Go Go.Eng Go.Proofs Go.L41 Go.Br
attribute [local irreducible] AWP RWP TD fT
theorem zDc:lA Tryz.prog 61=some 11:=by kernel_rfl
theorem agg200:lA Tryz.prog 200=some 5:=by kernel_rfl
theorem ar200:rW Tryz.prog 200=some (5,3,1):=by kernel_rfl
theorem ar203:rW Tryz.prog 203=some (17,202,6):=by kernel_rfl
theorem el26:dK Tryz.prog 26=some (61,11,88):=by kernel_rfl
theorem zBo:bE Tryz.prog 61 0=some (0,3):=by kernel_rfl
theorem wC:bE Tryz.prog 61 1=some (1,3):=by kernel_rfl
theorem zAk:bE Tryz.prog 61 2=some (2,3):=by kernel_rfl
theorem wN:bE Tryz.prog 61 3=some (3,3):=by kernel_rfl
theorem wG:bE Tryz.prog 61 4=some (4,59):=by kernel_rfl
theorem zFp:bE Tryz.prog 61 5=some (6,43):=by kernel_rfl
theorem fd202_1:bE Tryz.prog 202 1=some (1,200):=by kernel_rfl
theorem fk61:tM Tryz.prog 61=some [.int,.int,.int,.int,.int,.int,.int,.int,.int,.int,.int]:=by kernel_rfl
theorem ok68:bA Tryz.prog 68=true:=by kernel_rfl
theorem ok69:bA Tryz.prog 69=true:=by kernel_rfl
theorem ok98:bA Tryz.prog 98=true:=by kernel_rfl
theorem ok99:bA Tryz.prog 99=true:=by kernel_rfl
theorem ok106:bA Tryz.prog 106=true:=by kernel_rfl
theorem ok107:bA Tryz.prog 107=true:=by kernel_rfl
theorem ok125:bA Tryz.prog 125=true:=by kernel_rfl
theorem ok126:bA Tryz.prog 126=true:=by kernel_rfl
theorem ok127:bA Tryz.prog 127=true:=by kernel_rfl
theorem ok128:bA Tryz.prog 128=true:=by kernel_rfl
theorem ok129:bA Tryz.prog 129=true:=by kernel_rfl
theorem ok135:bA Tryz.prog 135=true:=by kernel_rfl
theorem ok136:bA Tryz.prog 136=true:=by kernel_rfl
theorem ok137:bA Tryz.prog 137=true:=by kernel_rfl
theorem ok138:bA Tryz.prog 138=true:=by kernel_rfl
theorem ok162:bA Tryz.prog 162=true:=by kernel_rfl
theorem pl61:fG Tryz.prog 61=some [(0,1),(1,1),(2,1),(3,1),(4,2),(6,5)]:=by kernel_rfl
theorem sz61:(Tryz.prog.info? 61).map (·.size)=some 11:=by kernel_rfl
theorem zr61:dM Tryz.prog 61=some [(Value.int IntKind.i64 0),(Value.int IntKind.i64 0),(Value.int IntKind.i64 0),(Value.int IntKind.i64 0),(Value.int IntKind.i64 0),(Value.int IntKind.i64 0),(Value.int IntKind.i64 0),(Value.int IntKind.i64 0),(Value.int IntKind.i64 0),(Value.int IntKind.i64 0),(Value.int IntKind.i64 0)]:=by kernel_rfl
theorem isa_known (op:Int):
    Pur cfgO 135 [vI op] (vB (dS op)):=by
 refine zR Tryz.func135 O Tryz.ntmps135 Tryz.results135 O ?_
 intro z hz
 refine Y O<|G O<|zA<|Y O<|G O<|zX O (kB O O O)<|G O<|rL0 O (fun g1_2=>zO O O) O<|rL1 6 O (fun g1_2=>wI O O O) O<|yO O (fun h=>h)<|G O<|zA<|zG<|zS O ?_
 exact O
theorem zAr (n a b:Int):
    Pur cfgO 68 [vI n,vI a,vI b] (vB (bG n a b)):=by
 refine zR Tryz.func68 O Tryz.ntmps68 Tryz.results68 O ?_
 intro z hz
 refine Y O<|G O<|zA<|Y O<|G O<|G O<|zX O (kB O O O)<|G O<|rL0 O (fun g1_3=>zO O O) O<|rL0 O (fun g1_3=>zO O O) O<|rLz [(11,_),(12,_)] O gv1 ⟨O,O,O,O,T⟩ (fun g1_3=>kH O O O) O<|yO O (fun h=>h)<|G O<|zA<|zG<|zS O ?_
 exact O
theorem isa_keep0 (b:Nat) (u x:In) (k:Int):
    Con cfgO 138 [.c (.lit (.pointer (some ⟨b,0,none⟩))),vIn x,vI k] [E.row b 61 u.cells] fun r μ'=>r=.tup []/\∃ν,μ'=ν++[E.row b 61 (dA u x k).cells]:=by
 refine zR Tryz.func138 O Tryz.ntmps138 Tryz.results138 O ?_
 intro z hz
 refine Y O<|zW O O (qB O O) ?_
 rintro _ _ ⟨b1,rfl,rfl⟩
 refine zA<|Y O<|G O<|zA<|zT<|zK<|Y O<|qQ O<|G O<|zA<|zE O (fun c1=>?_) (fun c1=>?_)
 ·try simp only [sx] at c1
  refine zJ<|zE O (fun c3=>?_) (fun c3=>?_)
  ·exact m6
  ·try simp only [sx] at c3
   exact absurd c1 c3
 ·try simp only [sx] at c1
  refine Y O<|qQ O<|G O<|zA<|zE O (fun c2=>?_) (fun c2=>?_)
  ·try simp only [sx] at c2
   refine zJ<|zE O (fun c3=>?_) (fun c3=>?_)
   ·exact m6
   ·try simp only [sx] at c3
    exact absurd c2 c3
  ·try simp only [sx] at c2
   refine zQ O<|qQ O<|G O<|zA<|zE O (fun c3=>?_) (fun c3=>?_)
   ·exact m6
   ·try simp only [sx] at c3
    refine zK<|Y O<|qQ O<|G O<|zA<|zE O (fun c4=>?_) (fun c4=>?_)
    ·try simp only [sx] at c4
     refine zJ<|zE O (fun c6=>?_) (fun c6=>?_)
     ·exact m5
     ·try simp only [sx] at c6
      exact absurd c4 c6
    ·try simp only [sx] at c4
     refine Y O<|qQ O<|G O<|zA<|zE O (fun c5=>?_) (fun c5=>?_)
     ·try simp only [sx] at c5
      refine zJ<|zE O (fun c6=>?_) (fun c6=>?_)
      ·exact m5
      ·try simp only [sx] at c6
       exact absurd c5 c6
     ·try simp only [sx] at c5
      refine zQ O<|qQ O<|G O<|zA<|zE O (fun c6=>?_) (fun c6=>?_)
      ·exact m5
      ·try simp only [sx] at c6
       refine zK<|Y O<|qQ O<|G O<|zA<|zE O (fun c7=>?_) (fun c7=>?_)
       ·try simp only [sx] at c7
        refine zJ<|zE O (fun c11=>?_) (fun c11=>?_)
        ·exact s6
        ·try simp only [sx] at c11
         exact absurd c7 c11
       ·try simp only [sx] at c7
        refine Y O<|qQ O<|G O<|zA<|zE O (fun c8=>?_) (fun c8=>?_)
        ·try simp only [sx] at c8
         refine zJ<|zE O (fun c11=>?_) (fun c11=>?_)
         ·exact s6
         ·try simp only [sx] at c11
          exact absurd c8 c11
        ·try simp only [sx] at c8
         refine Y O<|qQ O<|G O<|zA<|zE O (fun c9=>?_) (fun c9=>?_)
         ·try simp only [sx] at c9
          refine zJ<|zE O (fun c11=>?_) (fun c11=>?_)
          ·exact s6
          ·try simp only [sx] at c11
           exact absurd c9 c11
         ·try simp only [sx] at c9
          refine Y O<|qQ O<|G O<|zA<|zE O (fun c10=>?_) (fun c10=>?_)
          ·try simp only [sx] at c10
           refine zJ<|zE O (fun c11=>?_) (fun c11=>?_)
           ·exact s6
           ·try simp only [sx] at c11
            exact absurd c10 c11
          ·try simp only [sx] at c10
           refine zQ O<|qQ O<|G O<|zA<|zE O (fun c11=>?_) (fun c11=>?_)
           ·exact s6
           ·try simp only [sx] at c11
            refine zK<|Y O<|qQ O<|G O<|zA<|zE O (fun c12=>?_) (fun c12=>?_)
            ·try simp only [sx] at c12
             refine zJ<|zE O (fun c15=>?_) (fun c15=>?_)
             ·exact r5
             ·try simp only [sx] at c15
              exact absurd c12 c15
            ·try simp only [sx] at c12
             refine Y O<|qQ O<|G O<|zA<|zE O (fun c13=>?_) (fun c13=>?_)
             ·try simp only [sx] at c13
              refine zJ<|zE O (fun c15=>?_) (fun c15=>?_)
              ·exact r5
              ·try simp only [sx] at c15
               exact absurd c13 c15
             ·try simp only [sx] at c13
              refine Y O<|qQ O<|G O<|zA<|zE O (fun c14=>?_) (fun c14=>?_)
              ·try simp only [sx] at c14
               refine zJ<|zE O (fun c15=>?_) (fun c15=>?_)
               ·exact r5
               ·try simp only [sx] at c15
                exact absurd c14 c15
              ·try simp only [sx] at c14
               refine zQ O<|qQ O<|G O<|zA<|zE O (fun c15=>?_) (fun c15=>?_)
               ·exact r5
               ·try simp only [sx] at c15
                refine Y O<|qQ O<|G O<|zA<|zE O (fun c16=>?_) (fun c16=>?_)
                ·try simp only [sx] at c16
                 refine zQ O<|G O<|zD O wG<|zL qN (J 0 O) O<|qP O<|zD O wG<|rStR 1 W O<|zA ?_
                 repeat (first|refine kN ?_|refine kI ?_)
                 refine wS<|fin0 ?_
                 exact ⟨O,[_],by rw [show dA u x k={ u with Val:=x.Val } by unfold dA;simp [*]];rfl⟩
                ·try simp only [sx] at c16
                 refine Y O<|qQ O<|G O<|zA<|zE O (fun c17=>?_) (fun c17=>?_)
                 ·try simp only [sx] at c17
                  refine zQ O<|G O<|zD O zFp<|zL qX (J 0 O) O<|qP O<|zD O zFp<|rStR 1 sz43 O<|zA ?_
                  repeat (first|refine kN ?_|refine kI ?_)
                  refine wS<|fin0 ?_
                  exact ⟨O,[_],by rw [show dA u x k={ u with Ty:=x.Ty } by unfold dA;simp [*]];rfl⟩
                 ·try simp only [sx] at c17
                  refine zJ ?_
                  repeat (first|refine kN ?_|refine kI ?_)
                  refine wS<|fin0 ?_
                  exact ⟨O,[_],by rw [show dA u x k=u by unfold dA;simp [*]];rfl⟩
theorem isa_keep (b:Nat) (u x:In) (k:Int):Con cfgO 138 [.c (.lit (.pointer (some ⟨b,0,none⟩))),vIn x,vI k] [E.row b 61 u.cells] fun r μ'=>r=.tup []/\μ'=[E.row b 61 (dA u x k).cells]:=Con.drop (isa_keep0 b u x k)
theorem isa_fits (x:In) (k:Int):
    Pur cfgO 137 [vIn x,vI k] (vB (fS x k)):=by
 refine zR Tryz.func137 O Tryz.ntmps137 Tryz.results137 O ?_
 intro z hz
 refine Y O<|zW O O (qB O O) ?_
 rintro _ _ ⟨b1,rfl,rfl⟩
 refine G O<|zA<|zK<|Y O<|G O<|zA<|zT<|zK<|Y O<|qQ O<|G O<|zA<|zE O (fun c1=>?_) (fun c1=>?_)
 ·try simp only [sx] at c1
  refine zJ<|zE O (fun c2=>?_) (fun c2=>?_)
  ·try simp only [sx] at c2
   exact v34
  ·try simp only [sx] at c2
   exact absurd c1 c2
 ·try simp only [sx] at c1
  refine zQ O<|qQ O<|G O<|zA<|zE O (fun c2=>?_) (fun c2=>?_)
  ·try simp only [sx] at c2
   exact v34
  ·try simp only [sx] at c2
   refine zK<|Y O<|qQ O<|G O<|zA<|zE O (fun c3=>?_) (fun c3=>?_)
   ·try simp only [sx] at c3
    refine zJ<|zE O (fun c4=>?_) (fun c4=>?_)
    ·try simp only [sx] at c4
     exact v33
    ·try simp only [sx] at c4
     exact absurd c3 c4
   ·try simp only [sx] at c3
    refine zQ O<|qQ O<|G O<|zA<|zE O (fun c4=>?_) (fun c4=>?_)
    ·try simp only [sx] at c4
     exact v33
    ·try simp only [sx] at c4
     refine zK<|Y O<|qQ O<|G O<|zA<|zE O (fun c5=>?_) (fun c5=>?_)
     ·try simp only [sx] at c5
      refine zJ<|zE O (fun c6=>?_) (fun c6=>?_)
      ·try simp only [sx] at c6
       exact l8
      ·try simp only [sx] at c6
       exact absurd c5 c6
     ·try simp only [sx] at c5
      refine zQ O<|qQ O<|G O<|zA<|zE O (fun c6=>?_) (fun c6=>?_)
      ·try simp only [sx] at c6
       exact l8
      ·try simp only [sx] at c6
       refine Y O<|qQ O<|G O<|zA<|zE O (fun c7=>?_) (fun c7=>?_)
       ·try simp only [sx] at c7
        exact v34
       ·try simp only [sx] at c7
        refine Y O<|qQ O<|G O<|zA<|zE O (fun c8=>?_) (fun c8=>?_)
        ·try simp only [sx] at c8
         exact v33
        ·try simp only [sx] at c8
         refine Y O<|qQ O<|G O<|zA<|zE O (fun c9=>?_) (fun c9=>?_)
         ·try simp only [sx] at c9
          exact l8
         ·try simp only [sx] at c9
          refine Y O<|qQ O<|G O<|zA<|zE O (fun c10=>?_) (fun c10=>?_)
          ·try simp only [sx] at c10
           refine Y O<|zD O wG<|zD O yR<|zI U (J 0 O) O<|zX O (kB O O O)<|G O<|rL0 O (fun g18_4=>zF O wG O) O<|rL1 46 O (fun g18_4=>zF O yR O) O<|rL1 47 O (fun g18_4=>zH O U O (J 0 O) O) O<|rL0 O (fun g18_4=>zF O wN O) O<|rL1 49 O (fun g18_4=>zH O one3 O (J 0 O) O) O<|rLz [(48,_),(50,_)] O gv1 ⟨O,O,O,O,T⟩ (fun g18_4=>kH O O O) O<|yO O (fun h=>h)<|G O<|zA<|zG<|zS O ?_
           exact t6
          ·try simp only [sx] at c10
           refine Y O<|qQ O<|G O<|zA<|zE O (fun c11=>?_) (fun c11=>?_)
           ·try simp only [sx] at c11
            exact l8
           ·try simp only [sx] at c11
            refine Y O<|qQ O<|G O<|zA<|zE O (fun c12=>?_) (fun c12=>?_)
            ·try simp only [sx] at c12
             refine Y O<|zD O wG<|zD O yR<|zI U (J 0 O) O<|zX O (kB O O O)<|G O<|rL0 O (fun g22_4=>zF O wG O) O<|rL1 65 O (fun g22_4=>zF O yR O) O<|rL1 66 O (fun g22_4=>zH O U O (J 0 O) O) O<|rL1 67 O (fun g22_4=>kH O O O) O<|yO O (fun h=>h)<|G O<|zA<|zG<|zS O ?_
             exact t6
            ·try simp only [sx] at c12
             refine Y O<|qQ O<|G O<|zA<|zE O (fun c13=>?_) (fun c13=>?_)
             ·try simp only [sx] at c13
              exact l8
             ·try simp only [sx] at c13
              refine Y O<|qQ O<|G O<|zA<|zE O (fun c14=>?_) (fun c14=>?_)
              ·try simp only [sx] at c14
               refine Y O<|zD O wG<|zL qN (J 0 O) O<|zZ O ok54 (upO (wR x.Val)) ⟨zC,O,T⟩<|G O<|zA<|zG<|zS O ?_
               exact t6
              ·try simp only [sx] at c14
               refine Y O<|qQ O<|G O<|zA<|zE O (fun c15=>?_) (fun c15=>?_)
               ·try simp only [sx] at c15
                refine Y O<|zD O wG<|zD O yR<|zI U (J 0 O) O<|zX O (kB O O O)<|G O<|rL0 O (fun g28_4=>zF O wG O) O<|rL1 87 O (fun g28_4=>zF O yR O) O<|rL1 88 O (fun g28_4=>zH O U O (J 0 O) O) O<|rL1 89 O (fun g28_4=>kH O O O) O<|yO O (fun h=>h)<|G O<|zA<|zG<|zS O ?_
                exact t6
               ·try simp only [sx] at c15
                refine Y O<|qQ O<|G O<|zA<|zE O (fun c16=>?_) (fun c16=>?_)
                ·try simp only [sx] at c16
                 refine Y O<|zD O wG<|zD O yR<|zI U (J 0 O) O<|zX O (kB O O O)<|G O<|rL0 O (fun g30_4=>zF O wG O) O<|rL1 99 O (fun g30_4=>zF O yR O) O<|rL1 100 O (fun g30_4=>zH O U O (J 0 O) O) O<|rL1 101 O (fun g30_4=>kH O O O) O<|yO O (fun h=>h)<|G O<|zA<|zG<|zS O ?_
                 exact t6
                ·try simp only [sx] at c16
                 refine zJ<|Y O<|zD O zFp<|zL qX (J 0 O) O<|zZ O ok51 (upO (kO x.Ty)) ⟨zC,O,T⟩<|qQ O<|G O<|zA<|zG<|zS O ?_
                 exact t6
theorem isa_operands (x:In) (h0:0<=x.Op) (h17:x.Op<17):
    OwnR cfgO 136 [vIn x] 3 1 ((kinds x).map fun n=>[cI n]):=by
 refine zR Tryz.func136 O Tryz.ntmps136 Tryz.results136 O ?_
 intro z hz
 have hlen:=kRow_len h0 h17
 refine Y O<|zW O O (qB O O) ?_
 rintro _ _ ⟨b1,rfl,rfl⟩
 refine G O<|yZ _ (wH 3 1)<|zA<|Y O<|G O<|yZ _ (wH 3 1)<|zA<|zK<|Y O<|zD O zBo<|zI one3 (J 2 O) O<|zX O (yU O ar203 O O h0 h17)<|zD O fd202_1<|zX O (zNd O agg200 O (ops_len h0 h17) ops_one (ops_row h0 h17))<|G O<|zA<|zT<|zY ⟨[(11,.c _),(3,.c _),(1,.c _),(10,.agg _)],[_,_]⟩ (Weak.mk [true,false,true] ⟨zC,zC,zC,zC,T⟩ O)<|qG 2 1 O O (Nat×Value) (fun ⟨k,sv⟩=>[(11,vI k),(3,.c (.lit sv))]) (fun ⟨k,sv⟩=>[E.vec sv 3 1 ((((lQ x.Op).take k).filter fun k=> !mR x k).map fun n=>[cI n])]) (fun ⟨k,sv⟩=>k<=(lQ x.Op).length) (fun ⟨k,sv⟩=>(lQ x.Op).length-k) ⟨⟨0,(.slice none 0 0)⟩,(by omega),Weak.mk [true,true] ⟨zC,zC,zC,zC,T⟩ O⟩ ?_
 rintro ⟨k,sv⟩ hk
 show AWP _ _ _ _ _ ⟨[(11,vI k),(3,.c (.lit sv))]++_,[E.vec sv 3 1 ((((lQ x.Op).take k).filter fun k=> !mR x k).map fun n=>[cI n])]++_⟩
 refine Y O<|yF O<|zA<|zK<|zE O (fun c1=>?_) (fun c1=>?_)
 ·try simp only [sx] at c1
  obtain ⟨q,hq⟩:=yC (lQ x.Op) k (by omega)
  refine zJ<|zK<|zT<|Y O<|zX O (zHz O ar200 one3 O O (by omega) (by omega) (kRow_at hq))<|G O<|zA<|zK<|Y O<|G O<|qQ O<|G O<|rL0 O (fun g5_2=>zO O O) O<|rL1 17 O (fun g5_2=>yM O O O) O<|rL1 18 O (fun g5_2=>zO O O) O<|rLz [] O A T (fun g5_5=>zF O zBo O) O<|rLz [(20,_)] O A ⟨O,O,T⟩ (fun g5_5=>zH O one3 O (J 1 O) O) O<|rLz [(21,_)] O A ⟨O,O,T⟩ (fun g5_5=>yM O O O) O<|rL1 19 O (fun g5_2=>wF O O O (fun h=>kC (by assumption) h) O) O<|rL1 23 O (fun g5_2=>zO O O) O<|rLz [] O A T (fun g5_10=>zF O wG O) O<|rLz [(25,_)] O A ⟨O,O,T⟩ (fun g5_10=>zF O yR O) O<|rLz [(26,_)] O A ⟨O,O,T⟩ (fun g5_10=>zH O U O (J 1 O) O) O<|rLz [(27,_)] O A ⟨O,O,T⟩ (fun g5_10=>yM O O O) O<|rL1 24 O (fun g5_2=>wF O O O (fun h=>kC (by assumption) h) O) O<|r_or O (fun h=>(lzf h))<|zA<|zE O (fun c2=>?_) (fun c2=>?_)
  ·have c2:mR x q=true:=by rw [←skip_eq];exact c2
   refine qM<|zQ O<|qF O ⟨by omega,by omega⟩<|G O<|zA ?_
   refine ⟨⟨k+1,sv⟩,(by omega),(by show (lQ x.Op).length-(k+1)<(lQ x.Op).length-k;omega),Weak.mk [true,true] ⟨zC,zC,zC,zC,T⟩ (by exact zBg (by rw [filt_no hq (by rw [c2];rfl)]))⟩
  ·have c2:mR x q=false:=by rw [←skip_eq];exact c2
   have hfl:(((lQ x.Op).take k).filter fun k=> !mR x k).length<=5:=Nat.le_trans (List.length_filter_le _ _) (by rw [List.length_take];omega)
   refine zJ<|zQ O<|G O<|G O<|zX O (yS O v zr3 O O O O)<|zW O O (yX 0 O v O O O (by simp only [List.length_map,List.length_cons,List.length_nil];omega) (by simp only [List.length_map,List.length_cons,List.length_nil];omega)) ?_
   rintro _ _ ⟨sv4,rfl,rfl⟩
   refine G O<|zA<|zQ O<|qF O ⟨by omega,by omega⟩<|G O<|zA ?_
   refine ⟨⟨k+1,sv4⟩,(by omega),(by show (lQ x.Op).length-(k+1)<(lQ x.Op).length-k;omega),Weak.mk [true,true] ⟨zC,zC,zC,zC,T⟩ (by exact zBg (by rw [filt_yes hq (by rw [c2];rfl),List.map_append];rfl))⟩
 ·try simp only [sx] at c1
  refine qM<|Y O<|G O<|G O<|zA<|zY _ (Weak.mem [true,false] O)<|zG<|zS O ?_
  exact ⟨_,O,by rw [kinds_all (by omega)];rfl⟩
theorem isa_jumps (op:Int):
    Pur cfgO 107 [vI op] (vB (dR op)):=by
 refine zR Tryz.func107 O Tryz.ntmps107 Tryz.results107 O ?_
 intro z hz
 refine Y O<|G O<|zA<|zK<|Y O<|G O<|zZ O ok135 (isa_known op) ⟨zC,O,T⟩<|yT O<|zA<|zE O (fun c1=>?_) (fun c1=>?_)
 ·have hk:dS op=false:=by simpa using c1
  refine Y O<|G O<|zA<|zG<|zS O ?_
  rw [jmp_out hk]
 ·have hk:dS op=true:=by simpa using c1
  obtain ⟨h0,h17⟩:=zQt hk
  have hlen:=kRow_len h0 h17
  refine zJ<|zK<|Y O<|G O<|zX O (yU O ar203 O O h0 h17)<|zD O fd202_1<|zX O (zNd O agg200 O (ops_len h0 h17) ops_one (ops_row h0 h17))<|G O<|zA<|zT<|zY ⟨[(12,.c _),(11,.agg _)],[]⟩ (Weak.mk [] ⟨zC,zC,T⟩ O)<|qG 1 0 O O (Nat) (fun k=>[(12,vI k)]) (fun k=>[]) (fun k=>k<=(lQ op).length/\(((lQ op).take k).any (fun k=>decide (k=7))=false)) (fun k=>(lQ op).length-k) ⟨0,⟨by omega,O⟩,Weak.mk [] ⟨zC,zC,T⟩ O⟩ ?_
  rintro k ⟨hk,hp⟩
  refine Y O<|yF O<|zA<|zK<|zE O (fun c2=>?_) (fun c2=>?_)
  ·try simp only [sx] at c2
   obtain ⟨q,hq⟩:=yC (lQ op) k (by omega)
   refine zJ<|zK<|zT<|Y O<|zX O (zHz O ar200 one3 O O (by omega) (by omega) (kRow_at hq))<|G O<|zA<|Y O<|G O<|qQ O<|zA<|zE O (fun c3=>?_) (fun c3=>?_)
   ·try simp only [sx] at c3
    refine Y O<|G O<|zA<|zG<|zS O ?_
    rw [←jmp_tab h0 h17,List.any_eq_true.2 ⟨q,qL hq,decide_eq_true c3⟩]
   ·try simp only [sx] at c3
    refine zJ<|zQ O<|qF O ⟨by omega,by omega⟩<|G O<|zA ?_
    refine ⟨k+1,⟨by omega,zAj hq hp (decide_eq_false c3)⟩,(by omega),Weak.mk [] ⟨zC,zC,T⟩ O⟩
  ·try simp only [sx] at c2
   refine qM<|Y O<|G O<|zA<|zG<|zS O ?_
   rw [yP (by omega)] at hp
   rw [←jmp_tab h0 h17,hp]
theorem isa_wellFormed (x:In):
    Pur cfgO 106 [vIn x] (vB (wfP x)):=by
 refine zR Tryz.func106 O Tryz.ntmps106 Tryz.results106 O ?_
 intro z hz
 refine Y O<|zW O O (qB O O) ?_
 rintro _ _ ⟨b1,rfl,rfl⟩
 refine G O<|zA<|zK<|Y O<|zD O zBo<|zI one3 (J 0 O) O<|zZ O ok135 (isa_known x.Op) ⟨zC,O,T⟩<|yT O<|zA<|zE O (fun c1=>?_) (fun c1=>?_)
 ·have hk:dS x.Op=false:=by simpa using c1
  refine Y O<|G O<|zA<|zG<|zS O ?_
  rw [wfP,hk];rfl
 ·have hkn:dS x.Op=true:=by simpa using c1
  obtain ⟨h0,h17⟩:=zQt hkn
  have hkl:(kinds x).length<=5:=Nat.le_trans (List.length_filter_le _ _) (Nat.le_of_eq (kRow_len h0 h17))
  refine zJ<|Y O<|zD O zBo<|zI one3 (J 0 O) O<|qR O zr61 pl61<|zW O O (qS O zr61) ?_
  rintro _ _ ⟨b2,rfl,rfl⟩
  refine rStR 0 sz61 O<|zA<|zK<|Y O<|zL zDc (J 1 O) O<|zZ O ok136 (OwnR.pur (isa_operands x h0 h17)) ⟨zC,O,T⟩<|qC O v<|G O<|zA<|zT<|zY ⟨[(16,.c _),(1,.c _),(3,.c _),(14,.c _),(15,.c _)],[_,_]⟩ (Weak.mk [true,true] ⟨zC,zC,zC,zC,zC,T⟩ O)<|qG 1 1 O O (Nat) (fun k=>[(16,vI k)]) (fun k=>[E.row b2 61 (((kinds x).take k).foldl (fun u k=>dA u x k) (in0 x.Op)).cells]) (fun k=>k<=(kinds x).length/\(((kinds x).take k).all (fS x)=true)) (fun k=>(kinds x).length-k) ⟨0,⟨by omega,O⟩,Weak.mk [true,true] ⟨zC,zC,zC,zC,zC,T⟩ O⟩ ?_
  rintro k ⟨hk,hp⟩
  refine Y O<|yF O<|zA<|zK<|zE O (fun c2=>?_) (fun c2=>?_)
  ·try simp only [sx] at c2
   obtain ⟨q,hq⟩:=yC (kinds x) k (by omega)
   refine zJ<|zK<|zT<|Y O<|qI O v (by omega) (D (by assumption))<|zI one3 qD O<|G O<|zA<|zK<|Y O<|zL zDc (J 1 O) O<|G O<|zZ O ok137 (isa_fits x q) ⟨zC,O,zC,O,T⟩<|yT O<|zA<|zE O (fun c3=>?_) (fun c3=>?_)
   ·have c3:fS x q=false:=by simpa using c3
    refine Y O<|G O<|zA<|zG<|zS O ?_
    rw [wf_no hq c3]
   ·have c3:fS x q=true:=by simpa using c3
    refine zJ<|zQ O<|zL zDc (J 1 O) O<|G O<|zX O (kX [0] O ok138 (isa_keep _ (((kinds x).take k).foldl (fun u k=>dA u x k) (in0 x.Op)) x q) ⟨zC,O,zC,O,zC,O,T⟩ O)<|zA<|zQ O<|qF O ⟨by omega,by omega⟩<|G O<|zA ?_
    refine ⟨k+1,⟨by omega,all_next hq hp c3⟩,(by omega),Weak.mk [true,true] ⟨zC,zC,zC,zC,zC,T⟩ (by show _=[E.row b2 61 (((kinds x).take (k+1)).foldl (fun u k=>dA u x k) (in0 x.Op)).cells]++_;rw [kK hq,List.foldl_append];rfl)⟩
  ·try simp only [sx] at c2
   rw [yP (l:=kinds x) (k:=k) (by omega)] at hp
   rw [yP (l:=kinds x) (k:=k) (by omega)]
   refine qM<|Y O<|zL zDc (J 0 O) O<|zL zDc (J 1 O) O<|zX O (det_aeql2 O fk61 O O O)<|G O<|zA<|zG<|zS O ?_
   exact congrArg vB (by rw [←wf_yes hkn hp,←in_lits];rfl)
theorem isa_valid (x:In) (m t w:Int):
    Pur cfgO 69 [vIn x,vI m,vI t,vI w] (vB (jI m t w x)):=by
 refine zR Tryz.func69 O Tryz.ntmps69 Tryz.results69 O ?_
 intro z hz
 refine Y O<|zW O O (qB O O) ?_
 rintro _ _ ⟨b1,rfl,rfl⟩
 refine G O<|zA<|zK<|zT<|Y O<|zL zDc (J 0 O) O<|zZ O ok106 (isa_wellFormed x) ⟨zC,O,T⟩<|yT O<|G O<|zA<|zE O (fun c1=>?_) (fun c1=>?_)
 ·have hw:wfP x=false:=by simpa using c1
  refine Y O<|G O<|zA<|zG<|zS O ?_
  rw [val1 hw]
 ·have hw:wfP x=true:=by simpa using c1
  refine Y O<|zD O zBo<|zI one3 (J 0 O) O<|zZ O ok107 (isa_jumps x.Op) ⟨zC,O,T⟩<|G O<|zA<|zE O (fun c2=>?_) (fun c2=>?_)
  ·try simp only [sx] at c2
   refine Y O<|zD O wC<|zI one3 (J 0 O) O<|G O<|yF O<|G O<|zA<|zG<|zS O ?_
   exact congrArg vB (val2 hw c2)
  ·try simp only [sx] at c2
   have hj:dR x.Op=false:=by simpa using c2
   refine Y O<|zD O zBo<|zI one3 (J 0 O) O<|qQ O<|G O<|rL0 O (fun g5_3=>zF O zBo O) O<|rL1 26 O (fun g5_3=>zH O one3 O (J 0 O) O) O<|rL1 27 O (fun g5_3=>yM O O O) O<|r_or O (fun h=>(lzf h))<|G O<|zA<|zE O (fun c3=>?_) (fun c3=>?_)
   ·have h3:x.Op=10∨x.Op=11:=by simpa using c3
    refine Y O<|zD O wN<|zI one3 (J 0 O) O<|G O<|zX O (kH O O O)<|G O<|zA<|zG<|zS O ?_
    exact congrArg vB (val3 hw hj h3)
   ·have h3:¬(x.Op=10∨x.Op=11):=by simpa using c3
    refine Y O<|zD O zBo<|zI one3 (J 0 O) O<|qQ O<|G O<|zA<|zE O (fun c4=>?_) (fun c4=>?_)
    ·try simp only [sx] at c4
     refine Y O<|zD O wG<|zD O yR<|zI U (J 0 O) O<|G O<|yF O<|G O<|zA<|zG<|zS O ?_
     exact congrArg vB (val4 hw hj c4)
    ·try simp only [sx] at c4
     refine zJ<|Y O<|G O<|zA<|zG<|zS O ?_
     rw [val5 hw hj h3 c4]
theorem zPl (code:List In) (tys:List Ty) (w:Int) (htl:tys.length<=1000000):
    Pur cfgO 35 [sV code,sU tys,vI w] (.tup [vI (vld code tys w).1,vI (vld code tys w).2]):=by
 refine zR Tryz.func35 O Tryz.ntmps35 Tryz.results35 O ?_
 intro z hz
 refine Y O<|G O<|G O<|zA<|zK<|zT<|Y O<|G O<|qC O el26<|zAf O<|G O<|zA<|zE O (fun c1=>?_) (fun c1=>?_)
 ·try simp only [sx] at c1
  refine Y O<|G O<|G O<|zA<|zG<|R (L O) (L O) ?_
  rw [vld1 c1]
 ·try simp only [sx] at c1
  refine Y O<|G O<|zZ O ok68 (zAr w 0 1048576) ⟨zC,O,zC,O,zC,O,T⟩<|yT O<|G O<|zA<|zE O (fun c2=>?_) (fun c2=>?_)
  ·have c2:bG w 0 1048576=false:=by simpa using c2
   refine Y O<|G O<|G O<|zA<|zG<|R (L O) (L O) ?_
   rw [vld2 (by omega) c2]
  ·have c2:bG w 0 1048576=true:=by simpa using c2
   refine zJ<|zK<|Y O<|G O<|qC O el27<|G O<|zA<|zT<|zY ⟨[(22,.c _),(0,.c _),(1,.c _),(2,.c _),(20,.c _),(21,.c _)],[]⟩ (Weak.mk [] ⟨zC,zC,zC,zC,zC,zC,T⟩ O)<|qG 1 0 O O (Nat) (fun k=>[(22,vI k)]) (fun k=>[]) (fun k=>k<=tys.length/\((tys.take k).any (fun t=> !bD t)=false)) (fun k=>tys.length-k) ⟨0,⟨by omega,O⟩,Weak.mk [] ⟨zC,zC,zC,zC,zC,zC,T⟩ O⟩ ?_
   rintro k ⟨hk,hp⟩
   refine Y O<|yF O<|zA<|zK<|zE O (fun c3=>?_) (fun c3=>?_)
   ·try simp only [sx] at c3
    obtain ⟨x,hx⟩:=yC tys k (by omega)
    refine zJ<|zK<|zT<|Y O<|qI O el27 (by omega) (D (by assumption))<|zL qX qD O<|zW O O (qS O zr43) ?_
    rintro _ _ ⟨b1,rfl,rfl⟩
    refine rStR 0 sz43 O<|zA<|Y O<|zL qX (J 0 O) O<|zZ O ok51 (upO (kO x)) ⟨zC,O,T⟩<|yQ O<|zA<|zE O (fun c4=>?_) (fun c4=>?_)
    ·try simp only [sx] at c4
     have h4:=zHl c4
     refine Y O<|G O<|G O<|zA<|zG<|R (L O) (L O) ?_
     rw [vld3 (by omega) c2 hx h4]
    ·try simp only [sx] at c4
     have h4:bD x=true:=zEc (by omega)
     refine zJ<|zQ O<|qF O ⟨by omega,by omega⟩<|G O<|zA ?_
     refine ⟨k+1,⟨by omega,zAj hx hp (by rw [h4];rfl)⟩,(by omega),Weak.mk [false] ⟨zC,zC,zC,zC,zC,zC,T⟩ O⟩
   ·try simp only [sx] at c3
    rw [yP (l:=tys) (k:=k) (by omega)] at hp
    refine qM<|zK<|Y O<|G O<|qC O el26<|G O<|zA<|zT<|zY ⟨[(32,.c _),(0,.c _),(1,.c _),(2,.c _),(30,.c _),(31,.c _)],[]⟩ (Weak.mk [] ⟨zC,zC,zC,zC,zC,zC,T⟩ O)<|qG 1 0 O O (Nat) (fun j=>[(32,vI j)]) (fun j=>[]) (fun j=>j<=code.length/\((code.take j).any (fun x=> !jI code.length tys.length w x)=false)) (fun j=>code.length-j) ⟨0,⟨by omega,O⟩,Weak.mk [] ⟨zC,zC,zC,zC,zC,zC,T⟩ O⟩ ?_
    rintro j ⟨hj,hr⟩
    refine Y O<|yF O<|zA<|zK<|zE O (fun c5=>?_) (fun c5=>?_)
    ·try simp only [sx] at c5
     obtain ⟨y,hy⟩:=yC code j (by omega)
     refine zJ<|zK<|zT<|Y O<|G O<|qI O el26 (by omega) (D (by assumption))<|zL zDc qD O<|zW O O (qS O zr61) ?_
     rintro _ _ ⟨b2,rfl,rfl⟩
     refine G O<|rStR 0 sz61 O<|zA<|Y O<|zL zDc (J 0 O) O<|G O<|qC O el26<|G O<|qC O el27<|G O<|zZ O ok69 (isa_valid y code.length tys.length w) ⟨zC,O,zC,O,zC,O,zC,O,T⟩<|yT O<|zA<|zE O (fun c6=>?_) (fun c6=>?_)
     ·have c6:(!jI code.length tys.length w y)=true:=c6
      refine Y O<|G O<|G O<|G O<|zA<|zG<|R (L O) (L O) ?_
      rw [vldF (by omega) c2 hp,zTv hy c6 hr]
     ·have c6:(!jI code.length tys.length w y)=false:=c6
      refine zJ<|zQ O<|qF O ⟨by omega,by omega⟩<|G O<|zA ?_
      refine ⟨j+1,⟨by omega,zAj hy hr c6⟩,(by omega),Weak.mk [false] ⟨zC,zC,zC,zC,zC,zC,T⟩ O⟩
    ·try simp only [sx] at c5
     refine qM<|Y O<|G O<|G O<|zA<|zG<|R (L O) (L O) ?_
     rw [vldF (by omega) c2 hp,zTu (by omega) hr]
theorem ref47_Mnemonic (op:Int):
    Pur cfgO 125 [vI op] (vS (mnT op)):=by
 refine zR Tryz.func125 O Tryz.ntmps125 Tryz.results125 O ?_
 intro z hz
 refine Y O<|G O<|zA<|Y O<|zX O (yS O zGn zr9 O O O O)<|G O<|zA<|zK<|Y O<|G O<|yF O<|G O<|rL0 O (fun g2_2=>zO O O) O<|rL0 O (fun g2_2=>zO O O) O<|rL1 9 O (fun g2_2=>det_len_sl O zGn O) O<|rLz [(8,_),(10,_)] O gv1 ⟨O,O,O,O,T⟩ (fun g2_2=>kB O O O) O<|r_or O (fun h=>(lzf h))<|zA<|zE O (fun c1=>?_) (fun c1=>?_)
 ·have c1:(decide (op<0)||decide (17<=op))=true:=c1
  refine Y O<|G O<|zA<|zG<|zS O ?_
  exact congrArg vS (mn_out c1)
 ·have c1:(decide (op<0)||decide (17<=op))=false:=c1
  have h0:0<=op:=by simp at c1;omega
  have h17:op<17:=by simp at c1;omega
  refine zJ<|Y O<|G O<|G O<|qI O zGn (by omega) (by exact mn_get h0 h17)<|zI one9 qD O<|G O<|zA<|zG<|zS O ?_
  exact congrArg vS (mn_known h0 h17)
theorem ref47_operands (op:Int) (h0:0<=op) (h17:op<17):
    Pur cfgO 126 [vI op] (vS (opTab.getD op.toNat (bs []))):=by
 refine zR Tryz.func126 O Tryz.ntmps126 Tryz.results126 O ?_
 intro z hz
 refine Y O<|G O<|zA<|Y O<|zX O (yS O zGn zr9 O O O O)<|G O<|zA<|Y O<|G O<|G O<|qI O zGn (by omega) (by exact op_get h0 h17)<|zI one9 qD O<|G O<|zA<|zG<|zS O ?_
 exact O
theorem zLk (k n:Int):
    Pur cfgO 127 [vU k,vI n] (vB (gF k n)):=by
 refine zR Tryz.func127 O Tryz.ntmps127 Tryz.results127 O ?_
 intro z hz
 refine Y O<|G O<|zA<|zK<|Y O<|G O<|zA<|zT<|Y O<|qQ O<|G O<|zA<|zE O (fun c1=>?_) (fun c1=>?_)
 ·try simp only [sx] at c1
  refine Y O<|G O<|qQ O<|G O<|zA<|zG<|zS O ?_
  exact congrArg vB (by unfold gF bI;simp [*])
 ·try simp only [sx] at c1
  refine zK<|Y O<|qQ O<|G O<|zA<|zE O (fun c2=>?_) (fun c2=>?_)
  ·try simp only [sx] at c2
   refine zJ<|zE O (fun c3=>?_) (fun c3=>?_)
   ·exact v39
   ·try simp only [sx] at c3
    exact absurd c2 c3
  ·try simp only [sx] at c2
   refine zQ O<|qQ O<|G O<|zA<|zE O (fun c3=>?_) (fun c3=>?_)
   ·exact v39
   ·try simp only [sx] at c3
    refine Y O<|qQ O<|G O<|zA<|zE O (fun c4=>?_) (fun c4=>?_)
    ·try simp only [sx] at c4
     refine Y O<|G O<|zX O (kB O O O)<|G O<|rL0 O (fun g8_2=>zO O O) O<|rL1 24 O (fun g8_2=>wI O O O) O<|yO O (fun h=>h)<|G O<|zA<|zG<|zS O ?_
     exact congrArg vB (by unfold gF bI;simp [*])
    ·try simp only [sx] at c4
     refine Y O<|qQ O<|G O<|zA<|zE O (fun c5=>?_) (fun c5=>?_)
     ·try simp only [sx] at c5
      refine Y O<|G O<|zX O (kB O O O)<|G O<|rL0 O (fun g10_2=>zO O O) O<|rL1 32 O (fun g10_2=>kH O O O) O<|yO O (fun h=>h)<|G O<|zA<|zG<|zS O ?_
      exact congrArg vB (by unfold gF bI;simp [*])
     ·try simp only [sx] at c5
      refine Y O<|qQ O<|G O<|zA<|zE O (fun c6=>?_) (fun c6=>?_)
      ·try simp only [sx] at c6
       refine Y O<|G O<|zX O (kB O O O)<|G O<|rL0 O (fun g12_2=>zO O O) O<|rL1 40 O (fun g12_2=>kH O O O) O<|yO O (fun h=>h)<|G O<|zA<|zG<|zS O ?_
       exact congrArg vB (by unfold gF bI;simp [*])
      ·try simp only [sx] at c6
       refine zJ<|Y O<|G O<|zX O (kB O O O)<|G O<|rL0 O (fun g13_2=>zO O O) O<|rL1 46 O (fun g13_2=>kH O O O) O<|yO O (fun h=>h)<|G O<|zA<|zG<|zS O ?_
       exact congrArg vB (by unfold gF bI;simp [*])
theorem zEi (v:Vl) (a b:Int):
    Pur cfgO 162 [bJ v,vI a,vI b] (vB (sG v a b)):=by
 refine zR Tryz.func162 O Tryz.ntmps162 Tryz.results162 O ?_
 intro z hz
 refine Y O<|zW O O (qB O O) ?_
 rintro _ _ ⟨b1,rfl,rfl⟩
 refine G O<|zA<|Y O<|zD O kU<|zI U (J 0 O) O<|qQ O<|G O<|rL0 O (fun g1_3=>zF O yR O) O<|rL1 11 O (fun g1_3=>zH O U O (J 0 O) O) O<|rL0 O (fun g1_3=>zO O O) O<|rLz [(12,_),(13,_)] O gv1 ⟨O,O,O,O,T⟩ (fun g1_3=>kB O O O) O<|yO O (fun h=>h)<|G O<|rL0 O (fun g1_9=>zF O yR O) O<|rL1 17 O (fun g1_9=>zH O U O (J 0 O) O) O<|rL0 O (fun g1_9=>zO O O) O<|rLz [(18,_),(19,_)] O gv1 ⟨O,O,O,O,T⟩ (fun g1_9=>kH O O O) O<|yO O (fun h=>h)<|G O<|zA<|zG<|zS O ?_
 exact O
theorem ref47_typed (op:Int):
    Pur cfgO 129 [vI op] (vB (mQ op)):=by
 refine zR Tryz.func129 O Tryz.ntmps129 Tryz.results129 O ?_
 exact v20
theorem ref47_Jumps (op:Int):
    Pur cfgO 99 [vI op] (vB (dR op)):=by
 refine zR Tryz.func99 O Tryz.ntmps99 Tryz.results99 O ?_
 exact v20
theorem ref47_val (x:In):
    Pur cfgO 128 [vIn x] (vB (vaB x)):=by
 refine zR Tryz.func128 O Tryz.ntmps128 Tryz.results128 O ?_
 intro z hz
 refine Y O<|zW O O (qB O O) ?_
 rintro _ _ ⟨b1,rfl,rfl⟩
 refine G O<|zA<|zK<|Y O<|zD O zBo<|zI one3 (J 0 O) O<|zA<|zT<|Y O<|qQ O<|G O<|zA<|zE O (fun c1=>?_) (fun c1=>?_)
 ·try simp only [sx] at c1
  refine Y O<|qR O zr43 pl43<|zD O wG<|zL qN (J 0 O) O<|zZ O ok63 (upO (zGf tFr x.Val (by decide))) ⟨zC,O,zC,O,T⟩<|G O<|zA<|zG<|zS O ?_
  exact congrArg vB (by unfold vaB;simp [*];rfl)
 ·try simp only [sx] at c1
  refine zK<|Y O<|qQ O<|G O<|zA<|zE O (fun c2=>?_) (fun c2=>?_)
  ·try simp only [sx] at c2
   refine zJ<|zE O (fun c3=>?_) (fun c3=>?_)
   ·exact v41
   ·try simp only [sx] at c3
    exact absurd c2 c3
  ·try simp only [sx] at c2
   refine zQ O<|qQ O<|G O<|zA<|zE O (fun c3=>?_) (fun c3=>?_)
   ·exact v41
   ·try simp only [sx] at c3
    refine Y O<|qQ O<|G O<|zA<|zE O (fun c4=>?_) (fun c4=>?_)
    ·try simp only [sx] at c4
     refine Y O<|zD O wG<|zL qN (J 0 O) O<|zZ O ok162 (zEi _ _ _) ⟨zC,O,zC,O,zC,O,T⟩<|G O<|rL0 O (fun g8_3=>zF O wG O) O<|rL1 25 O (fun g8_3=>zF O yR O) O<|rL1 26 O (fun g8_3=>zH O U O (J 0 O) O) O<|rL1 27 O (fun g8_3=>kT O O O) O<|rL1 28 O (fun g8_3=>zO O O) O<|rLz [] O A T (fun g8_8=>zF O wN O) O<|rLz [(30,_)] O A ⟨O,O,T⟩ (fun g8_8=>zH O one3 O (J 0 O) O) O<|rLz [(31,_)] O A ⟨O,O,T⟩ (fun g8_8=>yM O O O) O<|rL1 29 O (fun g8_3=>zAl O O O O (fun h=>kC (by assumption) (lzf h))) O<|yO O (fun h=>h)<|G O<|zA<|zG<|zS O ?_
     exact congrArg vB (by unfold vaB;simp [*])
    ·try simp only [sx] at c4
     refine Y O<|qQ O<|G O<|zA<|zE O (fun c5=>?_) (fun c5=>?_)
     ·try simp only [sx] at c5
      refine Y O<|zD O wG<|zL qN (J 0 O) O<|zZ O ok162 (zEi _ _ _) ⟨zC,O,zC,O,zC,O,T⟩<|G O<|zA<|zG<|zS O ?_
      exact congrArg vB (by unfold vaB;simp [*])
     ·try simp only [sx] at c5
      refine Y O<|qQ O<|G O<|zA<|zE O (fun c6=>?_) (fun c6=>?_)
      ·try simp only [sx] at c6
       refine Y O<|zD O wG<|zL qN (J 0 O) O<|zZ O ok162 (zEi _ _ _) ⟨zC,O,zC,O,zC,O,T⟩<|G O<|zA<|zG<|zS O ?_
       exact congrArg vB (by unfold vaB;simp [*])
      ·try simp only [sx] at c6
       refine zJ<|Y O<|zD O wG<|zL qN (J 0 O) O<|qR O zr59 pl59<|zX O (zKp O fl59 O O O)<|G O<|zA<|zG<|zS O ?_
       exact congrArg vB (by unfold vaB rB;simp [*];rfl)
theorem ref47_Formed (x:In):
    Pur cfgO 98 [vIn x] (vB (fmd x)):=by
 refine zR Tryz.func98 O Tryz.ntmps98 Tryz.results98 O ?_
 intro z hz
 refine Y O<|zW O O (qB O O) ?_
 rintro _ _ ⟨b1,rfl,rfl⟩
 refine G O<|zA<|zK<|Y O<|zD O zBo<|zI one3 (J 0 O) O<|zZ O ok125 (ref47_Mnemonic x.Op) ⟨zC,O,T⟩<|zX O (kF O O O)<|zA<|zE O (fun c1=>?_) (fun c1=>?_)
 ·try simp only [sx] at c1
  have hk:=mn_empty.1 c1
  refine Y O<|G O<|zA<|zG<|zS O ?_
  rw [fmd0 hk]
 ·try simp only [sx] at c1
  have hk:dS x.Op=true:=by cases h:dS x.Op;exact absurd (mn_empty.2 h) c1;rfl
  obtain ⟨h0,h17⟩:=zQt hk
  have hsz:=op_size h0 h17
  refine zJ<|Y O<|zD O zBo<|zI one3 (J 0 O) O<|zZ O ok126 (ref47_operands x.Op h0 h17) ⟨zC,O,T⟩<|G O<|zA<|zK<|zK<|qV 27 mixed (by kernel_rfl) O O<|zN O O (zO O O)<|zN O O (zBi O un9 O O (by omega) (by omega))<|zN O O (zF O wC O)<|zN O O (zH O one3 O (J 0 O) O)<|zN O O (qE O ok127 (zLk _ x.A) ⟨zC,O,zC,O,T⟩)<|zN O O (kA O O)<|zN O O (zO O O)<|qO [] O O O O gv1 T (fun g4_6=>zO O O) O<|qO [(18,_)] O O O O gv1 ⟨O,O,T⟩ (fun g4_6=>zBi O un9 O O (by omega) (by omega)) O<|qO [] O O O O gv1 T (fun g4_6=>zF O zAk O) O<|qO [(20,_)] O O O O gv1 ⟨O,O,T⟩ (fun g4_6=>zH O one3 O (J 0 O) O) O<|qO [(19,_),(21,_)] O O O O gv1 ⟨O,O,O,O,T⟩ (fun g4_6=>qE O ok127 (zLk _ x.B) ⟨zC,O,zC,O,T⟩) O<|qO [(22,_)] O O O O gv1 ⟨O,O,T⟩ (fun g4_6=>kA O O) O<|zN O O (zAl O O O O (fun h=>(lzf h)))<|zN O O (zO O O)<|qO [] O O O O gv1 T (fun g4_14=>zO O O) O<|qO [(26,_)] O O O O gv1 ⟨O,O,T⟩ (fun g4_14=>zBi O un9 O O (by omega) (by omega)) O<|qO [] O O O O gv1 T (fun g4_14=>zF O wN O) O<|qO [(28,_)] O O O O gv1 ⟨O,O,T⟩ (fun g4_14=>zH O one3 O (J 0 O) O) O<|qO [(27,_),(29,_)] O O O O gv1 ⟨O,O,O,O,T⟩ (fun g4_14=>qE O ok127 (zLk _ x.C) ⟨zC,O,zC,O,T⟩) O<|qO [(30,_)] O O O O gv1 ⟨O,O,T⟩ (fun g4_14=>kA O O) O<|zN O O (zAl O O O O (fun h=>(lzf h)))<|zN O O (zO O O)<|qO [] O O O O gv1 T (fun g4_22=>zV O zDc O (J 0 O) O) O<|qO [(34,_)] O O O O gv1 ⟨O,O,T⟩ (fun g4_22=>qE O ok128 (ref47_val x) ⟨zC,O,T⟩) O<|qO [(35,_)] O O O O gv1 ⟨O,O,T⟩ (fun g4_22=>kA O O) O<|zN O O (zAl O O O O (fun h=>(lzf h)))<|yK<|zA<|zE O (fun c2=>?_) (fun c2=>?_)
  ·have c2:(((!gF (jK x.Op 0) x.A|| !gF (jK x.Op 1) x.B)|| !gF (jK x.Op 2) x.C)|| !vaB x)=true:=c2
   refine Y O<|G O<|zA<|zG<|zS O ?_
   rw [fmd1 hk c2]
  ·have c2:(((!gF (jK x.Op 0) x.A|| !gF (jK x.Op 1) x.B)|| !gF (jK x.Op 2) x.C)|| !vaB x)=false:=c2
   refine zJ<|zK<|Y O<|zD O zBo<|zI one3 (J 0 O) O<|zZ O ok129 (ref47_typed x.Op) ⟨zC,O,T⟩<|zA<|zE O (fun c3=>?_) (fun c3=>?_)
   ·try simp only [sx] at c3
    refine Y O<|zD O zFp<|zL qX (J 0 O) O<|zZ O ok62 (upO (zCv x.Ty)) ⟨zC,O,T⟩<|G O<|zA<|zG<|zS O ?_
    rw [fmd2 hk c2,c3];rfl
   ·try simp only [sx] at c3
    refine zJ<|Y O<|zD O zFp<|zL qX (J 0 O) O<|qR O zr43 pl43<|zX O (zKp O fl43 O O O)<|G O<|zA<|zG<|zS O ?_
    rw [fmd2 hk c2,show mQ x.Op=false by simpa using c3];rfl
theorem ref47_Validate (code:List In) (tys:List Ty) (w:Int) (htl:tys.length<=1000000):
    Pur cfgO 58 [sV code,sU tys,vI w] (.tup [vI (vld code tys w).1,vI (vld code tys w).2]):=by
 refine zR Tryz.func58 O Tryz.ntmps58 Tryz.results58 O ?_
 intro z hz
 refine Y O<|G O<|G O<|zA<|zK<|Y O<|G O<|qC O el26<|zAf O<|zA<|zE O (fun c1=>?_) (fun c1=>?_)
 ·try simp only [sx] at c1
  refine Y O<|G O<|G O<|zA<|zG<|R (L O) (L O) ?_
  rw [vld1 c1]
 ·try simp only [sx] at c1
  refine zJ<|zK<|Y O<|G O<|yF O<|G O<|rL0 O (fun g3_2=>zO O O) O<|rL1 17 O (fun g3_2=>kD O O O) O<|r_or O (fun h=>(lzf h))<|zA<|zE O (fun c2=>?_) (fun c2=>?_)
  ·try simp only [sx] at c2
   have c2:bG w 0 1048576=false:=by unfold bG;simp;omega
   refine Y O<|G O<|G O<|zA<|zG<|R (L O) (L O) ?_
   rw [vld2 (by omega) c2]
  ·try simp only [sx] at c2
   have c2:bG w 0 1048576=true:=by unfold bG;simp;omega
   refine zJ<|zK<|Y O<|G O<|zA<|zT<|zY ⟨[(8,.c _),(0,.c _),(1,.c _),(2,.c _)],[]⟩ (Weak.mk [] ⟨zC,zC,zC,zC,T⟩ O)<|qG 1 0 O O (Nat) (fun k=>[(8,vI k)]) (fun k=>[]) (fun k=>k<=tys.length/\((tys.take k).any (fun t=> !bD t)=false)) (fun k=>tys.length-k) ⟨0,⟨by omega,O⟩,Weak.mk [] ⟨zC,zC,zC,zC,T⟩ O⟩ ?_
   rintro k ⟨hk,hp⟩
   refine zK<|Y O<|G O<|G O<|qC O el27<|yF O<|zA<|zE O (fun c3=>?_) (fun c3=>?_)
   ·try simp only [sx] at c3
    obtain ⟨x,hx⟩:=yC tys k (by omega)
    refine zJ<|zK<|zT<|Y O<|G O<|G O<|qI O el27 (by omega) (D (by assumption))<|zL qX qD O<|zZ O ok62 (upO (zCv x)) ⟨zC,O,T⟩<|yT O<|zA<|zE O (fun c4=>?_) (fun c4=>?_)
    ·try simp only [sx] at c4
     have h4:bD x=false:=by simpa using c4
     refine Y O<|G O<|G O<|zA<|zG<|R (L O) (L O) ?_
     rw [vld3 (by omega) c2 hx h4]
    ·try simp only [sx] at c4
     have h4:bD x=true:=by simpa using c4
     refine zJ<|zQ O<|G O<|qF O ⟨by omega,by omega⟩<|G O<|zA ?_
     refine ⟨k+1,⟨by omega,zAj hx hp (by rw [h4];rfl)⟩,(by omega),Weak.mk [] ⟨zC,zC,zC,zC,T⟩ O⟩
   ·try simp only [sx] at c3
    rw [yP (l:=tys) (k:=k) (by omega)] at hp
    refine qM<|zK<|Y O<|G O<|zA<|zT<|zY ⟨[(9,.c _),(0,.c _),(1,.c _),(2,.c _)],[]⟩ (Weak.mk [] ⟨zC,zC,zC,zC,T⟩ O)<|qG 1 0 O O (Nat) (fun j=>[(9,vI j)]) (fun j=>[]) (fun j=>j<=code.length/\((code.take j).any (fun x=> !jI code.length tys.length w x)=false)) (fun j=>code.length-j) ⟨0,⟨by omega,O⟩,Weak.mk [] ⟨zC,zC,zC,zC,T⟩ O⟩ ?_
    rintro j ⟨hj,hr⟩
    refine zK<|Y O<|G O<|G O<|qC O el26<|yF O<|zA<|zE O (fun c5=>?_) (fun c5=>?_)
    ·try simp only [sx] at c5
     obtain ⟨y,hy⟩:=yC code j (by omega)
     refine zJ<|zK<|zT<|Y O<|G O<|G O<|qI O el26 (by omega) (D (by assumption))<|zL zDc qD O<|zW O O (qS O zr61) ?_
     rintro _ _ ⟨b1,rfl,rfl⟩
     refine rStR 0 sz61 O<|zA<|Y O<|zL zDc (J 0 O) O<|zZ O ok98 (ref47_Formed y) ⟨zC,O,T⟩<|yT O<|G O<|rL0 O (fun g14_3=>zF O zBo O) O<|rL1 46 O (fun g14_3=>zH O one3 O (J 0 O) O) O<|rL1 47 O (fun g14_3=>qE O ok99 (ref47_Jumps y.Op) ⟨zC,O,T⟩) O<|rL1 48 O (fun g14_3=>zO O O) O<|rLz [] O A T (fun g14_7=>zF O wC O) O<|rLz [(50,_)] O A ⟨O,O,T⟩ (fun g14_7=>zH O one3 O (J 0 O) O) O<|rLz [] O A T (fun g14_7=>zO O O) O<|rLz [(52,_)] O A ⟨O,O,T⟩ (fun g14_7=>yH O el26 O) O<|rLz [(51,_),(53,_)] O A ⟨O,O,O,O,T⟩ (fun g14_7=>kB O O O) O<|rL1 49 O (fun g14_3=>wF O O O (fun h=>kC (by assumption) h) O) O<|r_or O (fun h=>(lzf h))<|G O<|rL0 O (fun g14_15=>zF O zBo O) O<|rL1 58 O (fun g14_15=>zH O one3 O (J 0 O) O) O<|rL1 59 O (fun g14_15=>yM O O O) O<|rL1 60 O (fun g14_15=>zO O O) O<|rLz [] O A T (fun g14_19=>zF O zBo O) O<|rLz [(62,_)] O A ⟨O,O,T⟩ (fun g14_19=>zH O one3 O (J 0 O) O) O<|rLz [(63,_)] O A ⟨O,O,T⟩ (fun g14_19=>yM O O O) O<|rL1 61 O (fun g14_15=>zAl O O O O (fun h=>kC (by assumption) (lzf h))) O<|rL1 65 O (fun g14_15=>zO O O) O<|rLz [] O A T (fun g14_24=>zF O wN O) O<|rLz [(67,_)] O A ⟨O,O,T⟩ (fun g14_24=>zH O one3 O (J 0 O) O) O<|rLz [] O A T (fun g14_24=>zO O O) O<|rLz [(68,_),(69,_)] O A ⟨O,O,O,O,T⟩ (fun g14_24=>kD O O O) O<|rL1 66 O (fun g14_15=>wF O O O (fun h=>kC (by assumption) h) O) O<|r_or O (fun h=>(lzf h))<|G O<|rL0 O (fun g14_31=>zF O zBo O) O<|rL1 74 O (fun g14_31=>zH O one3 O (J 0 O) O) O<|rL1 75 O (fun g14_31=>yM O O O) O<|rL1 76 O (fun g14_31=>zO O O) O<|rLz [] O A T (fun g14_35=>zF O wG O) O<|rLz [(78,_)] O A ⟨O,O,T⟩ (fun g14_35=>zF O yR O) O<|rLz [(79,_)] O A ⟨O,O,T⟩ (fun g14_35=>zH O U O (J 0 O) O) O<|rLz [] O A T (fun g14_35=>zO O O) O<|rLz [(81,_)] O A ⟨O,O,T⟩ (fun g14_35=>yH O el27 O) O<|rLz [(80,_),(82,_)] O A ⟨O,O,O,O,T⟩ (fun g14_35=>kB O O O) O<|rL1 77 O (fun g14_31=>wF O O O (fun h=>kC (by assumption) h) O) O<|r_or O (fun h=>(lzf h))<|zA<|zE O (fun c6=>?_) (fun c6=>?_)
     ·have c6:(!jI code.length tys.length w y)=true:=by rw [←bad_ref];exact c6
      refine Y O<|G O<|G O<|G O<|zA<|zG<|R (L O) (L O) ?_
      rw [vldF (by omega) c2 hp,zTv hy c6 hr]
     ·have c6:(!jI code.length tys.length w y)=false:=by rw [←bad_ref];exact c6
      refine zJ<|zQ O<|G O<|qF O ⟨by omega,by omega⟩<|G O<|zA ?_
      refine ⟨j+1,⟨by omega,zAj hy hr c6⟩,(by omega),Weak.mk [false] ⟨zC,zC,zC,zC,T⟩ O⟩
    ·try simp only [sx] at c5
     refine qM<|Y O<|G O<|G O<|zA<|zG<|R (L O) (L O) ?_
     rw [vldF (by omega) c2 hp,zTu (by omega) hr]
end Go.W
end
section
set_option maxRecDepth 10000
namespace Go.W
open Go Go.Eng Go.Proofs Go.L41 Go.Br
attribute [local irreducible] AWP RWP TD fT
theorem ar98:rW Tryz.prog 98=some (256,2,1):=by kernel_rfl
theorem ar99:rW Tryz.prog 99=some (256,59,2):=by kernel_rfl
theorem fd101_0:bE Tryz.prog 101 0=some (0,4):=by kernel_rfl
theorem fd101_1:bE Tryz.prog 101 1=some (1,26):=by kernel_rfl
theorem fd101_2:bE Tryz.prog 101 2=some (2,27):=by kernel_rfl
theorem zOp:bE Tryz.prog 101 3=some (3,50):=by kernel_rfl
theorem zDq:bE Tryz.prog 101 4=some (4,98):=by kernel_rfl
theorem zEa:bE Tryz.prog 101 5=some (260,99):=by kernel_rfl
theorem zCe:bE Tryz.prog 101 6=some (772,3):=by kernel_rfl
theorem fd101_7:bE Tryz.prog 101 7=some (773,4):=by kernel_rfl
theorem ok40:bA Tryz.prog 40=true:=by kernel_rfl
theorem ok71:bA Tryz.prog 71=true:=by kernel_rfl
theorem ok72:bA Tryz.prog 72=true:=by kernel_rfl
theorem ok73:bA Tryz.prog 73=true:=by kernel_rfl
theorem ok74:bA Tryz.prog 74=true:=by kernel_rfl
theorem ok111:bA Tryz.prog 111=true:=by kernel_rfl
theorem ok112:bA Tryz.prog 112=true:=by kernel_rfl
theorem one4:jL Tryz.prog 4=true:=by kernel_rfl
theorem one26:jL Tryz.prog 26=true:=by kernel_rfl
theorem one27:jL Tryz.prog 27=true:=by kernel_rfl
theorem zCq:jL Tryz.prog 50=true:=by kernel_rfl
theorem sz2:(Tryz.prog.info? 2).map (·.size)=some 1:=by kernel_rfl
theorem sz4:(Tryz.prog.info? 4).map (·.size)=some 1:=by kernel_rfl
theorem un55:Tryz.prog.underlying 55=some (.pointer 101):=by kernel_rfl
theorem vm_ready0 (b:Nat) (sv:Value) (s:Mc) (w:Int) (hs:s.Ok w)  :
    Con cfgO 40 [vPt b] (mcE b sv s) fun r μ'=>r=vB true/\∃ν,μ'=ν++mcE b sv s:=by
 refine zR Tryz.func40 O Tryz.ntmps40 Tryz.results40 O ?_
 intro z hz
 refine Y O<|G O<|zA<|Y O<|G O<|zX O (det_ptr_ne O O O un55)<|G O<|rL0 O (fun g1_2=>zO O O) O<|rL1 6 O (fun g1_2=>qJ O O) O<|rL1 7 O (fun g1_2=>zF O fd101_0 O) O<|rL1 8 O (fun g1_2=>zH O one4 O (J 0 O) O) O<|yO O (fun h=>h)<|G O<|zA<|zG<|zS O ?_
 exact ⟨O,[],O⟩
theorem zKb (b:Nat) (sv:Value) (s:Mc) (w:Int) (hs:s.Ok w)  :Con cfgO 40 [vPt b] (mcE b sv s) fun r μ'=>r=vB true/\μ'=mcE b sv s:=Con.drop (vm_ready0 b sv s w hs)
theorem vm_holds0 (b:Nat) (sv:Value) (s:Mc) (w:Int) (hs:s.Ok w) (a m:Int) (hl:s.M.length<=1048576):
    Con cfgO 48 [vPt b,vI a,vI m] (mcE b sv s) fun r μ'=>r=vB (dC s a m)/\∃ν,μ'=ν++mcE b sv s:=by
 refine zR Tryz.func48 O Tryz.ntmps48 Tryz.results48 O ?_
 intro z hz
 refine Y O<|G O<|zA<|Y O<|G O<|zX O (kB O O O)<|G O<|rL0 O (fun g1_2=>zO O O) O<|rL1 10 O (fun g1_2=>kB O O O) O<|yO O (fun h=>h)<|G O<|rL0 O (fun g1_6=>zO O O) O<|rL0 O (fun g1_6=>zO O O) O<|rL1 15 O (fun g1_6=>qJ O O) O<|rL1 16 O (fun g1_6=>zF O zOp O) O<|rL1 17 O (fun g1_6=>zH O zCq O (J 0 O) O) O<|rL1 18 O (fun g1_6=>kE 1 O el50 O O) O<|rLz [(14,_),(19,_)] O gv1 ⟨O,O,O,O,T⟩ (fun g1_6=>kH O O O) O<|yO O (fun h=>h)<|G O<|rL0 O (fun g1_15=>zO O O) O<|rL0 O (fun g1_15=>zO O O) O<|rL1 24 O (fun g1_15=>qJ O O) O<|rL1 25 O (fun g1_15=>zF O zOp O) O<|rL1 26 O (fun g1_15=>zH O zCq O (J 0 O) O) O<|rL1 27 O (fun g1_15=>kE 1 O el50 O O) O<|rL0 O (fun g1_15=>zO O O) O<|rLz [(28,_),(29,_)] O gv1 ⟨O,O,O,O,T⟩ (fun g1_15=>qZ O O O ⟨by simp only [List.length_map];have:=(by simpa [Lz,and_assoc] using g1_15:0<=a/\0<=m/\a<=s.M.length);omega,by simp only [List.length_map];have:=(by simpa [Lz,and_assoc] using g1_15:0<=a/\0<=m/\a<=s.M.length);omega⟩) O<|rLz [(23,_),(30,_)] O gv1 ⟨O,O,O,O,T⟩ (fun g1_15=>kH O O O) O<|yO O (fun h=>h)<|G O<|zA<|zG<|zS O ?_
 exact ⟨by simp only [dC,List.length_map],[],O⟩
theorem vm_holds (b:Nat) (sv:Value) (s:Mc) (w:Int) (hs:s.Ok w) (a m:Int) (hl:s.M.length<=1048576):Con cfgO 48 [vPt b,vI a,vI m] (mcE b sv s) fun r μ'=>r=vB (dC s a m)/\μ'=mcE b sv s:=Con.drop (vm_holds0 b sv s w hs a m hl)
theorem vm_PC0 (b:Nat) (sv:Value) (s:Mc) (w:Int) (hs:s.Ok w)  :
    Con cfgO 15 [vPt b] (mcE b sv s) fun r μ'=>r=vI s.pc/\∃ν,μ'=ν++mcE b sv s:=by
 refine zR Tryz.func15 O Tryz.ntmps15 Tryz.results15 O ?_
 intro z hz
 refine Y O<|G O<|zA<|zK<|Y O<|G O<|zX O (yG [0,0] O ok40 (zKb b sv s w hs) ⟨zC,O,T⟩ O)<|yT O<|zA<|zE O (fun c1=>?_) (fun c1=>?_)
 ·exact v24
 ·refine zJ<|Y O<|G O<|qP O<|zD O zCe<|zX O (zH O one3 O (J 0 O) (mc_pc hs))<|G O<|zA<|zG<|zS O ?_
  exact ⟨O,[],O⟩
theorem vm_PC (b:Nat) (sv:Value) (s:Mc) (w:Int) (hs:s.Ok w)  :Con cfgO 15 [vPt b] (mcE b sv s) fun r μ'=>r=vI s.pc/\μ'=mcE b sv s:=Con.drop (vm_PC0 b sv s w hs)
theorem vm_integer0 (b:Nat) (sv:Value) (s:Mc) (w:Int) (hs:s.Ok w) (x:In) (hx:fmd x=true) (ho:dR x.Op=false/\gN x.Op=false/\fQ x.Op=false/\x.Op≠0):
    Con cfgO 74 [vPt b,vIn x] (mcE b sv s) fun r μ'=>r=.tup []/\∃ν,μ'=ν++mcE b sv (s.sX x.A (lR s x)):=by
 refine zR Tryz.func74 O Tryz.ntmps74 Tryz.results74 O ?_
 intro z hz
 obtain ⟨⟨a1,a2⟩,fB,fC,fD,fo⟩:=int_facts hx ho
 refine Y O<|zW O O (qB O O) ?_
 rintro _ _ ⟨b1,rfl,rfl⟩
 refine zA<|zK<|qV 18 mixed (by kernel_rfl) O O<|zN O O (zO O O)<|zN O O (zF O zAk O)<|zN O O (zH O one3 O (J 0 O) O)<|zN O O (det_low8 O O O)<|zN O O (qJ O O)<|zN O O (zF O zDq O)<|zN O O (yU O ar98 O O (low8_0 _) (low8_1 _))<|zN O O (zH O U O (J 1 O) (mc_X hs (low8_0 _) (low8_1 _)))<|zN O O (zO O O)<|zN O O (zF O wN O)<|zN O O (zH O one3 O (J 0 O) O)<|zN O O (det_low8 O O O)<|zN O O (qJ O O)<|zN O O (zF O zDq O)<|zN O O (yU O ar98 O O (low8_0 _) (low8_1 _))<|zN O O (zH O U O (J 1 O) (mc_X hs (low8_0 _) (low8_1 _)))<|zN O O (yE O O)<|zN O O (yE O O)<|yK<|zA<|zK<|Y O<|zD O zBo<|zI one3 (J 0 O) O<|zA<|zT<|Y O<|qQ O<|G O<|zA<|zE O (fun c1=>?_) (fun c1=>?_)
 ·try simp only [sx] at c1
  refine zQ O<|zD O zAk<|zI one3 (J 0 O) O<|G O<|zA<|qV 7 mixed (by kernel_rfl) O O<|zN O O (zO O O)<|zN O O (zF O wC O)<|zN O O (zH O one3 O (J 0 O) O)<|zN O O (zO O O)<|zN O O (qJ O O)<|zN O O (zF O zDq O)<|zN O O (yU O ar98 O O (by omega) (by omega))<|yK<|kP O O (yL O sz2 O O O (wQ 1 O (by rw [zBc hs];show 0+4+x.A.toNat*1+1<=774;omega) (mc_sX hs _ (by omega) (by omega))))<|zA ?_
  repeat (first|refine kN ?_|refine kI ?_)
  refine wS<|fin0 ?_
  exact ⟨O,[_],by rw [intv1 c1];rfl⟩
 ·try simp only [sx] at c1
  refine Y O<|qQ O<|G O<|zA<|zE O (fun c2=>?_) (fun c2=>?_)
  ·try simp only [sx] at c2
   refine zQ O<|G O<|G O<|zX O (zUi O O O)<|G O<|zA<|qV 7 mixed (by kernel_rfl) O O<|zN O O (zO O O)<|zN O O (zF O wC O)<|zN O O (zH O one3 O (J 0 O) O)<|zN O O (zO O O)<|zN O O (qJ O O)<|zN O O (zF O zDq O)<|zN O O (yU O ar98 O O (by omega) (by omega))<|yK<|kP O O (yL O sz2 O O O (wQ 1 O (by rw [zBc hs];show 0+4+x.A.toNat*1+1<=774;omega) (mc_sX hs _ (by omega) (by omega))))<|zA ?_
   repeat (first|refine kN ?_|refine kI ?_)
   refine wS<|fin0 ?_
   exact ⟨O,[_],by rw [intv3 c2 (zAh (fB (by omega)).1 (fB (by omega)).2) (zAh (fC (by omega)).1 (fC (by omega)).2)];rfl⟩
  ·try simp only [sx] at c2
   refine Y O<|qQ O<|G O<|zA<|zE O (fun c3=>?_) (fun c3=>?_)
   ·try simp only [sx] at c3
    refine zQ O<|G O<|zD O wN<|zI one3 (J 0 O) O<|zX O (zOt O O O)<|G O<|zA<|qV 7 mixed (by kernel_rfl) O O<|zN O O (zO O O)<|zN O O (zF O wC O)<|zN O O (zH O one3 O (J 0 O) O)<|zN O O (zO O O)<|zN O O (qJ O O)<|zN O O (zF O zDq O)<|zN O O (yU O ar98 O O (by omega) (by omega))<|yK<|kP O O (yL O sz2 O O O (wQ 1 O (by rw [zBc hs];show 0+4+x.A.toNat*1+1<=774;omega) (mc_sX hs _ (by omega) (by omega))))<|zA ?_
    repeat (first|refine kN ?_|refine kI ?_)
    refine wS<|fin0 ?_
    exact ⟨O,[_],by rw [intv4 c3 (zAh (fB (by omega)).1 (fB (by omega)).2)];rfl⟩
   ·try simp only [sx] at c3
    refine Y O<|qQ O<|G O<|zA<|zE O (fun c4=>?_) (fun c4=>?_)
    ·try simp only [sx] at c4
     refine zQ O<|G O<|G O<|zX O (zJx O O O)<|G O<|zA<|qV 7 mixed (by kernel_rfl) O O<|zN O O (zO O O)<|zN O O (zF O wC O)<|zN O O (zH O one3 O (J 0 O) O)<|zN O O (zO O O)<|zN O O (qJ O O)<|zN O O (zF O zDq O)<|zN O O (yU O ar98 O O (by omega) (by omega))<|yK<|kP O O (yL O sz2 O O O (wQ 1 O (by rw [zBc hs];show 0+4+x.A.toNat*1+1<=774;omega) (mc_sX hs _ (by omega) (by omega))))<|zA ?_
     repeat (first|refine kN ?_|refine kI ?_)
     refine wS<|fin0 ?_
     exact ⟨O,[_],by rw [intv5 c4 (zAh (fB (by omega)).1 (fB (by omega)).2) (zAh (fC (by omega)).1 (fC (by omega)).2)];rfl⟩
    ·try simp only [sx] at c4
     refine Y O<|qQ O<|G O<|zA<|zE O (fun c5=>?_) (fun c5=>?_)
     ·try simp only [sx] at c5
      refine zQ O<|G O<|G O<|zX O (zEb O O O)<|G O<|zA<|qV 7 mixed (by kernel_rfl) O O<|zN O O (zO O O)<|zN O O (zF O wC O)<|zN O O (zH O one3 O (J 0 O) O)<|zN O O (zO O O)<|zN O O (qJ O O)<|zN O O (zF O zDq O)<|zN O O (yU O ar98 O O (by omega) (by omega))<|yK<|kP O O (yL O sz2 O O O (wQ 1 O (by rw [zBc hs];show 0+4+x.A.toNat*1+1<=774;omega) (mc_sX hs _ (by omega) (by omega))))<|zA ?_
      repeat (first|refine kN ?_|refine kI ?_)
      refine wS<|fin0 ?_
      exact ⟨O,[_],by rw [intv6 c5 (zAh (fB (by omega)).1 (fB (by omega)).2) (zAh (fC (by omega)).1 (fC (by omega)).2)];rfl⟩
     ·try simp only [sx] at c5
      refine Y O<|qQ O<|G O<|zA<|zE O (fun c6=>?_) (fun c6=>?_)
      ·try simp only [sx] at c6
       refine qV 14 mixed (by kernel_rfl) O O<|zN O O (zO O O)<|zN O O (zF O zAk O)<|zN O O (zH O one3 O (J 0 O) O)<|zN O O (qJ O O)<|zN O O (zF O zEa O)<|zN O O (yU O ar99 O O (by have:=fB (by omega);omega) (by have:=fB (by omega);omega))<|zN O O (zF O yR O)<|zN O O (zH O U O (J 1 O) (mc_RN hs (by have:=fB (by omega);omega) (by have:=fB (by omega);omega)))<|zN O O (zF O wN O)<|zN O O (zH O one3 O (J 0 O) O)<|zN O O (qZ O O O ⟨by have:=fD (by omega);omega,by have:=fD (by omega);omega⟩)<|zN O O (zJx O O O)<|zN O O (zEb O O O)<|zN O O (yE O O)<|yK<|zA<|qV 7 mixed (by kernel_rfl) O O<|zN O O (zO O O)<|zN O O (zF O wC O)<|zN O O (zH O one3 O (J 0 O) O)<|zN O O (zO O O)<|zN O O (qJ O O)<|zN O O (zF O zDq O)<|zN O O (yU O ar98 O O (by omega) (by omega))<|yK<|kP O O (yL O sz2 O O O (wQ 1 O (by rw [zBc hs];show 0+4+x.A.toNat*1+1<=774;omega) (mc_sX hs _ (by omega) (by omega))))<|zA ?_
       repeat (first|refine kN ?_|refine kI ?_)
       refine wS<|fin0 ?_
       exact ⟨O,[_],by rw [intv7 c6];rfl⟩
      ·try simp only [sx] at c6
       refine zJ<|qV 7 mixed (by kernel_rfl) O O<|zN O O (zO O O)<|zN O O (zF O wC O)<|zN O O (zH O one3 O (J 0 O) O)<|zN O O (zO O O)<|zN O O (qJ O O)<|zN O O (zF O zDq O)<|zN O O (yU O ar98 O O (by omega) (by omega))<|yK<|kP O O (yL O sz2 O O O (wQ 1 O (by rw [zBc hs];show 0+4+x.A.toNat*1+1<=774;omega) (mc_sX hs _ (by omega) (by omega))))<|zA ?_
       repeat (first|refine kN ?_|refine kI ?_)
       refine wS<|fin0 ?_
       exact ⟨O,[_],by rw [intv2 (by omega) (zAh (fB (by omega)).1 (fB (by omega)).2)];rfl⟩
theorem vm_integer (b:Nat) (sv:Value) (s:Mc) (w:Int) (hs:s.Ok w) (x:In) (hx:fmd x=true) (ho:dR x.Op=false/\gN x.Op=false/\fQ x.Op=false/\x.Op≠0):Con cfgO 74 [vPt b,vIn x] (mcE b sv s) fun r μ'=>r=.tup []/\μ'=mcE b sv (s.sX x.A (lR s x)):=Con.drop (vm_integer0 b sv s w hs x hx ho)
theorem vm_memory0 (b:Nat) (sv:Value) (s:Mc) (w:Int) (hs:s.Ok w) (x:In) (hx:fmd x=true) (ho:gN x.Op=true) (hC:x.C<=w):
    Con cfgO 72 [vPt b,vIn x] (mcE b sv s) fun r μ'=>r=vI (jQ s x).2/\∃ν,μ'=ν++mcE b sv (jQ s x).1:=by
 refine zR Tryz.func72 O Tryz.ntmps72 Tryz.results72 O ?_
 intro z hz
 obtain ⟨⟨a1,a2⟩,⟨b1,b2⟩,⟨d1,d2,d3,d4⟩,fo⟩:=mem_facts hx ho
 have hMl:=hs.hM
 refine Y O<|zW O O (qB O O) ?_
 rintro _ _ ⟨b1,rfl,rfl⟩
 refine G O<|zA<|zK<|qV 8 mixed (by kernel_rfl) O O<|zN O O (zO O O)<|zN O O (zF O zAk O)<|zN O O (zH O one3 O (J 0 O) O)<|zN O O (qJ O O)<|zN O O (zF O zDq O)<|zN O O (yU O ar98 O O (by omega) (by omega))<|zN O O (zH O U O (J 1 O) (mc_X hs (by omega) (by omega)))<|zN O O (yE O O)<|yK<|zA<|zK<|Y O<|G O<|zD O wG<|zD O yR<|zI U (J 0 O) O<|yF O<|G O<|rL0 O (fun g2_5=>zO O O) O<|rL0 O (fun g2_5=>zF O wN O) O<|rL1 20 O (fun g2_5=>zH O one3 O (J 0 O) O) O<|rLz [(19,_),(21,_)] O gv1 ⟨O,O,O,O,T⟩ (fun g2_5=>kB O O O) O<|r_or O (fun h=>(lzf h))<|zA<|zE O (fun c1=>?_) (fun c1=>?_)
 ·have c1:(decide (s.gX x.B<x.Val.N)||decide (x.C<=s.gX x.B))=true:=c1
  refine Y O<|G O<|zA<|zG<|zS O ?_
  rw [memv1 c1]
  exact ⟨O,[_],O⟩
 ·have c1:(decide (s.gX x.B<x.Val.N)||decide (x.C<=s.gX x.B))=false:=c1
  refine zJ<|zK<|Y O<|zD O zBo<|zI one3 (J 0 O) O<|qQ O<|zA<|zE O (fun c2=>?_) (fun c2=>?_)
  ·try simp only [sx] at c2
   refine qV 13 mixed (by kernel_rfl) O O<|zN O O (zO O O)<|zN O O (zF O wC O)<|zN O O (zH O one3 O (J 0 O) O)<|zN O O (zO O O)<|zN O O (qJ O O)<|zN O O (zF O zOp O)<|zN O O (zH O zCq O (J 1 O) O)<|zN O O (zO O O)<|zN O O (yJ 2 O el50 O O O (by have h_:=zGk c1;omega) (by have h_:=zGk c1;rw [List.length_map];omega))<|zN O O (zV O qN O (zAc 2 O (D (gM_at (by have h_:=zGk c1;omega)))) O)<|zN O O (qJ O O)<|zN O O (zF O zEa O)<|zN O O (yU O ar99 O O (by omega) (by omega))<|yK<|kP O O (yL O W O O O (wQ 1 O (by rw [zBc hs];show 0+260+x.A.toNat*2+2<=774;omega) (mc_sR hs _ (by omega) (by omega))))<|zA<|Y O<|G O<|zA<|zG<|zS O ?_
   rw [memv2 c1 c2]
   exact ⟨O,[_],O⟩
  ·try simp only [sx] at c2
   refine qV 13 mixed (by kernel_rfl) O O<|zN O O (zO O O)<|zN O O (qJ O O)<|zN O O (zF O zOp O)<|zN O O (zH O zCq O (J 1 O) O)<|zN O O (zO O O)<|zN O O (zO O O)<|zN O O (zF O wC O)<|zN O O (zH O one3 O (J 0 O) O)<|zN O O (qJ O O)<|zN O O (zF O zEa O)<|zN O O (yU O ar99 O O (by omega) (by omega))<|zN O O (zCm O qN O (J 1 O) (mc_R hs (by omega) (by omega)) O)<|zN O O (yJ 2 O el50 O O O (by have h_:=zGk c1;omega) (by have h_:=zGk c1;rw [List.length_map];omega))<|yK<|kP O O (yL O W O O O (st_vecE 2 O (D (gM_at (by have h_:=zGk c1;omega))) O set_row))<|zA<|Y O<|G O<|zA<|zG<|zS O ?_
   rw [memv3 c1 c2]
   exact ⟨O,[_],O⟩
theorem vm_memory (b:Nat) (sv:Value) (s:Mc) (w:Int) (hs:s.Ok w) (x:In) (hx:fmd x=true) (ho:gN x.Op=true) (hC:x.C<=w):Con cfgO 72 [vPt b,vIn x] (mcE b sv s) fun r μ'=>r=vI (jQ s x).2/\μ'=mcE b sv (jQ s x).1:=Con.drop (vm_memory0 b sv s w hs x hx ho hC)
theorem vm_element0 (b:Nat) (sv:Value) (s:Mc) (w:Int) (hs:s.Ok w) (x:In) (hx:fmd x=true) (ho:fQ x.Op=true) (hT:x.Op=13->x.Val.N<s.tys.length):
    Con cfgO 73 [vPt b,vIn x] (mcE b sv s) fun r μ'=>r=vI (jC s x).2/\∃ν,μ'=ν++mcE b sv (jC s x).1:=by
 refine zR Tryz.func73 O Tryz.ntmps73 Tryz.results73 O ?_
 intro z hz
 obtain ⟨⟨a1,a2⟩,fB,fC,fD,fo⟩:=cpt_facts hx ho
 refine Y O<|zW O O (qB O O) ?_
 rintro _ _ ⟨b1,rfl,rfl⟩
 refine G O<|zA<|Y O<|zD O wG<|zL qN (J 0 O) O<|zW O O (qS O zr59) ?_
 rintro _ _ ⟨b2,rfl,rfl⟩
 refine rStR 0 W O<|G O<|zA<|zK<|Y O<|zD O zBo<|zI one3 (J 1 O) O<|zA<|zT<|Y O<|qQ O<|G O<|zA<|zE O (fun c1=>?_) (fun c1=>?_)
 ·try simp only [sx] at c1
  have hB:=fB (by omega)
  have hC:=fC c1
  refine kG 24 0 [⟨0,.q []⟩,⟨1,.q []⟩,⟨2,.q [1]⟩,⟨3,.q []⟩,⟨4,.q [1]⟩,⟨5,.q []⟩,⟨6,.q []⟩,⟨7,.q [1]⟩,⟨8,.q []⟩,⟨9,.q []⟩,⟨10,.q []⟩,⟨11,.q [2]⟩,⟨12,.q []⟩,⟨13,.q []⟩,⟨14,.q [1]⟩,⟨15,.q []⟩,⟨16,.q []⟩,⟨17,.q []⟩,⟨18,.q [2]⟩,⟨19,.q []⟩,⟨20,.q []⟩,⟨21,.q []⟩,⟨22,.q []⟩,⟨23,.e 0 []⟩] mixed (by kernel_rfl) (by kernel_rfl) O O O<|zU O<|zU O<|zU O<|zU O<|zU O<|zU O<|zU O<|zU O<|zU O<|zU O<|zU O<|zU O<|zU O<|zU O<|zU O<|zU O<|zU O<|zU O<|zU O<|zU O<|zU O<|zU O<|zU O<|zU O<|zAz<|qA O (by decide) O O (zF O wG O)<|qA O (by decide) O O (zF O yR O)<|qA O (by decide) O O (zH O U O (J 0 O) O)<|qA O (by decide) O O (zF O zFp O)<|qA O (by decide) O O (zV O qX O (J 0 O) O)<|qA O (by decide) O O (zO O O)<|qA O (by decide) O O (zF O zAk O)<|qA O (by decide) O O (zH O one3 O (J 0 O) O)<|qA O (by decide) O O (qJ O O)<|qA O (by decide) O O (zF O zEa O)<|qA O (by decide) O O (yU O ar99 O O (by omega) (by omega))<|qA O (by decide) O O (zCm O qN O (J 0 O) (mc_R hs (by omega) (by omega)) O)<|qA O (by decide) O O (zO O O)<|qA O (by decide) O O (zF O wN O)<|qA O (by decide) O O (zH O one3 O (J 0 O) O)<|qA O (by decide) O O (qJ O O)<|qA O (by decide) O O (zF O zEa O)<|qA O (by decide) O O (yU O ar99 O O (by omega) (by omega))<|qA O (by decide) O O (zCm O qN O (J 0 O) (mc_R hs (by omega) (by omega)) O)<|qA O (by decide) O O (qE O ok111 (value_Apply x.Val.N x.Ty (s.gR x.B) (s.gR x.C)) ⟨zC,O,zC,O,zC,O,zC,O,T⟩)<|qA O (by decide) O O (kW O O)<|qA O (by decide) O O (wM O O O)<|qA O (by decide) O O (wO O O O)<|zGq O O (by decide) O O (yL O W O O O (zEg 0 O O)) ?_
  rintro _ _ ⟨rfl,rfl⟩
  refine ⟨_,O,?_⟩
  refine zAy O<|G O<|zA<|zK<|Y O<|G O<|qQ O<|zA<|zE O (fun c5=>?_) (fun c5=>?_)
  ·try simp only [sx] at c5
   have hv:=cptv2 (s:=s) c1
   rw [←hv] at c5
   refine qV 7 mixed (by kernel_rfl) O O<|zN O O (zO O O)<|zN O O (zF O wC O)<|zN O O (zH O one3 O (J 1 O) O)<|zN O O (zV O qN O (J 0 O) O)<|zN O O (qJ O O)<|zN O O (zF O zEa O)<|zN O O (yU O ar99 O O (by omega) (by omega))<|yK<|kP O O (yL O W O O O (wQ 2 O (by rw [zBc hs];show 0+260+x.A.toNat*2+2<=774;omega) (mc_sR hs ((mO x.Val.N x.Ty (s.gR x.B) (s.gR x.C)).1) (by omega) (by omega))))<|zA<|Y O<|G O<|G O<|zA<|zG<|zS O ?_
   rw [cptm1 (by exact c5),hv]
   exact ⟨by rw [hv] at c5;rw [c5],[_,_],O⟩
  ·try simp only [sx] at c5
   have hv:=cptv2 (s:=s) c1
   rw [←hv] at c5
   refine zJ<|Y O<|G O<|G O<|zA<|zG<|zS O ?_
   rw [cptm2 c5,hv]
   exact ⟨O,[_,_],O⟩
 ·try simp only [sx] at c1
  refine Y O<|qQ O<|G O<|zA<|zE O (fun c2=>?_) (fun c2=>?_)
  ·try simp only [sx] at c2
   have hB:=fB (by omega)
   have hD:=fD c2
   have hT:=hT c2
   refine kG 23 0 [⟨0,.q []⟩,⟨1,.q []⟩,⟨2,.q []⟩,⟨3,.q [2]⟩,⟨4,.q []⟩,⟨5,.q []⟩,⟨6,.q [1]⟩,⟨7,.q []⟩,⟨8,.q []⟩,⟨9,.q []⟩,⟨10,.q [1]⟩,⟨11,.q []⟩,⟨12,.q []⟩,⟨13,.q [1]⟩,⟨14,.q []⟩,⟨15,.q []⟩,⟨16,.q []⟩,⟨17,.q [2]⟩,⟨18,.q []⟩,⟨19,.q []⟩,⟨20,.q []⟩,⟨21,.q []⟩,⟨22,.e 0 []⟩] mixed (by kernel_rfl) (by kernel_rfl) O O O<|zU O<|zU O<|zU O<|zU O<|zU O<|zU O<|zU O<|zU O<|zU O<|zU O<|zU O<|zU O<|zU O<|zU O<|zU O<|zU O<|zU O<|zU O<|zU O<|zU O<|zU O<|zU O<|zU O<|zAz<|qA O (by decide) O O (zO O O)<|qA O (by decide) O O (qJ O O)<|qA O (by decide) O O (zF O fd101_2 O)<|qA O (by decide) O O (zH O one27 O (J 0 O) O)<|qA O (by decide) O O (zF O wG O)<|qA O (by decide) O O (zF O yR O)<|qA O (by decide) O O (zH O U O (J 0 O) O)<|qA O (by decide) O O (qH O el27 O O (by omega) (D (ty_at (by omega))))<|qA O (by decide) O O (zV O qX O qD O)<|qA O (by decide) O O (zF O zFp O)<|qA O (by decide) O O (zV O qX O (J 0 O) O)<|qA O (by decide) O O (zO O O)<|qA O (by decide) O O (zF O zAk O)<|qA O (by decide) O O (zH O one3 O (J 0 O) O)<|qA O (by decide) O O (qJ O O)<|qA O (by decide) O O (zF O zEa O)<|qA O (by decide) O O (yU O ar99 O O (by omega) (by omega))<|qA O (by decide) O O (zCm O qN O (J 0 O) (mc_R hs (by omega) (by omega)) O)<|qA O (by decide) O O (qE O ok112 (value_Cast (s.tys.getD x.Val.N.toNat ⟨0,0,0,0,0⟩) x.Ty (s.gR x.B)) ⟨zC,O,zC,O,zC,O,T⟩)<|qA O (by decide) O O (kW O O)<|qA O (by decide) O O (wM O O O)<|qA O (by decide) O O (wO O O O)<|zGq O O (by decide) O O (yL O W O O O (zEg 0 O O)) ?_
   rintro _ _ ⟨rfl,rfl⟩
   refine ⟨_,O,?_⟩
   refine zAy O<|G O<|zA<|zK<|Y O<|G O<|qQ O<|zA<|zE O (fun c5=>?_) (fun c5=>?_)
   ·try simp only [sx] at c5
    have hv:=cptv3 (s:=s) c2
    rw [←hv] at c5
    refine qV 7 mixed (by kernel_rfl) O O<|zN O O (zO O O)<|zN O O (zF O wC O)<|zN O O (zH O one3 O (J 1 O) O)<|zN O O (zV O qN O (J 0 O) O)<|zN O O (qJ O O)<|zN O O (zF O zEa O)<|zN O O (yU O ar99 O O (by omega) (by omega))<|yK<|kP O O (yL O W O O O (wQ 2 O (by rw [zBc hs];show 0+260+x.A.toNat*2+2<=774;omega) (mc_sR hs ((mN (s.tys.getD x.Val.N.toNat ⟨0,0,0,0,0⟩) x.Ty (s.gR x.B)).1) (by omega) (by omega))))<|zA<|Y O<|G O<|G O<|zA<|zG<|zS O ?_
    rw [cptm1 (by exact c5),hv]
    exact ⟨by rw [hv] at c5;rw [c5],[_,_],O⟩
   ·try simp only [sx] at c5
    have hv:=cptv3 (s:=s) c2
    rw [←hv] at c5
    refine zJ<|Y O<|G O<|G O<|zA<|zG<|zS O ?_
    rw [cptm2 c5,hv]
    exact ⟨O,[_,_],O⟩
  ·try simp only [sx] at c2
   refine Y O<|qQ O<|G O<|zA<|zE O (fun c3=>?_) (fun c3=>?_)
   ·try simp only [sx] at c3
    have hB:=fB (by omega)
    refine zK<|qV 8 mixed (by kernel_rfl) O O<|zN O O (zO O O)<|zN O O (zF O zAk O)<|zN O O (zH O one3 O (J 1 O) O)<|zN O O (qJ O O)<|zN O O (zF O zDq O)<|zN O O (yU O ar98 O O (by omega) (by omega))<|zN O O (zH O U O (J 2 O) (mc_X hs (by omega) (by omega)))<|zN O O (yE O O)<|yK<|zA<|zK<|Y O<|G O<|zAf O<|G O<|rL0 O (fun g9_2=>zO O O) O<|rL1 73 O (fun g9_2=>wI O O O) O<|r_or O (fun h=>(lzf h))<|zA<|zE O (fun c4=>?_) (fun c4=>?_)
    ·have c4:(decide (2147483647<s.gX x.B)||decide (s.gX x.B< -2147483647))=true:=c4
     refine Y O<|G O<|zA<|zG<|zS O ?_
     rw [show jC s x=(s,3) by rw [cptm2 (by rw [cptv4 c3 c4];decide),cptv4 c3 c4]]
     exact ⟨O,[_,_],O⟩
    ·have c4:(decide (2147483647<s.gX x.B)||decide (s.gX x.B< -2147483647))=false:=c4
     refine zJ<|zQ O<|G O<|qR O zr59 pl59<|rStR 0 W O<|zA<|zK<|Y O<|G O<|qQ O<|zA<|zE O (fun c5=>?_) (fun c5=>?_)
     ·try simp only [sx] at c5
      have hv:=cptv5 c3 c4
      refine qV 7 mixed (by kernel_rfl) O O<|zN O O (zO O O)<|zN O O (zF O wC O)<|zN O O (zH O one3 O (J 1 O) O)<|zN O O (zV O qN O (J 0 O) O)<|zN O O (qJ O O)<|zN O O (zF O zEa O)<|zN O O (yU O ar99 O O (by omega) (by omega))<|yK<|kP O O (yL O W O O O (wQ 2 O (by rw [zBc hs];show 0+260+x.A.toNat*2+2<=774;omega) (mc_sR hs (⟨s.gX x.B,1⟩) (by omega) (by omega))))<|zA<|Y O<|G O<|G O<|zA<|zG<|zS O ?_
      rw [cptm1 (by rw [hv]),hv]
      exact ⟨O,[_,_],O⟩
     ·try simp only [sx] at c5
      have hv:=cptv5 c3 c4
      refine zJ<|Y O<|G O<|G O<|zA<|zG<|zS O ?_
      exact absurd T c5
   ·try simp only [sx] at c3
    refine zJ<|zK<|Y O<|G O<|qQ O<|zA<|zE O (fun c5=>?_) (fun c5=>?_)
    ·try simp only [sx] at c5
     have hv:=cptv1 (s:=s) (show x.Op=9 by omega)
     refine qV 7 mixed (by kernel_rfl) O O<|zN O O (zO O O)<|zN O O (zF O wC O)<|zN O O (zH O one3 O (J 1 O) O)<|zN O O (zV O qN O (J 0 O) O)<|zN O O (qJ O O)<|zN O O (zF O zEa O)<|zN O O (yU O ar99 O O (by omega) (by omega))<|yK<|kP O O (yL O W O O O (wQ 2 O (by rw [zBc hs];show 0+260+x.A.toNat*2+2<=774;omega) (mc_sR hs (x.Val) (by omega) (by omega))))<|zA<|Y O<|G O<|G O<|zA<|zG<|zS O ?_
     rw [cptm1 (by rw [hv]),hv]
     exact ⟨O,[_,_],O⟩
    ·try simp only [sx] at c5
     have hv:=cptv1 (s:=s) (show x.Op=9 by omega)
     refine zJ<|Y O<|G O<|G O<|zA<|zG<|zS O ?_
     exact absurd T c5
theorem zKc (b:Nat) (sv:Value) (s:Mc) (w:Int) (hs:s.Ok w) (x:In) (hx:fmd x=true) (ho:fQ x.Op=true) (hT:x.Op=13->x.Val.N<s.tys.length):Con cfgO 73 [vPt b,vIn x] (mcE b sv s) fun r μ'=>r=vI (jC s x).2/\μ'=mcE b sv (jC s x).1:=Con.drop (vm_element0 b sv s w hs x hx ho hT)
theorem vm_jumps0 (b:Nat) (sv:Value) (s:Mc) (w:Int) (hs:s.Ok w) (x:In) (hx:fmd x=true) (ho:dR x.Op=true):
    Con cfgO 71 [vPt b,vIn x] (mcE b sv s) fun r μ'=>r=.tup [vB (lT s x).1,vI (lT s x).2]/\∃ν,μ'=ν++mcE b sv s:=by
 refine zR Tryz.func71 O Tryz.ntmps71 Tryz.results71 O ?_
 intro z hz
 obtain ⟨⟨a1,a2⟩,fB,fC,fo⟩:=zTj hx ho
 refine Y O<|zW O O (qB O O) ?_
 rintro _ _ ⟨b1,rfl,rfl⟩
 refine G O<|G O<|zA<|zK<|Y O<|zD O zBo<|zI one3 (J 0 O) O<|zA<|zT<|Y O<|qQ O<|G O<|zA<|zE O (fun c1=>?_) (fun c1=>?_)
 ·try simp only [sx] at c1
  refine Y O<|G O<|G O<|zA<|zG<|R (L O) (L O) ?_
  rw [jmpv1 c1]
  exact ⟨O,[_],O⟩
 ·try simp only [sx] at c1
  refine Y O<|qQ O<|G O<|zA<|zE O (fun c2=>?_) (fun c2=>?_)
  ·try simp only [sx] at c2
   obtain ⟨⟨b1,b2⟩,d1,d2⟩:=fB (by omega)
   refine zK<|qV 17 mixed (by kernel_rfl) O O<|zN O O (zO O O)<|zN O O (zF O zAk O)<|zN O O (zH O one3 O (J 0 O) O)<|zN O O (qJ O O)<|zN O O (zF O zDq O)<|zN O O (yU O ar98 O O (by omega) (by omega))<|zN O O (zH O U O (J 1 O) (mc_X hs (by omega) (by omega)))<|zN O O (zO O O)<|zN O O (zF O wN O)<|zN O O (zH O one3 O (J 0 O) O)<|zN O O (qJ O O)<|zN O O (zF O zDq O)<|zN O O (yU O ar98 O O (by omega) (by omega))<|zN O O (zH O U O (J 1 O) (mc_X hs (by omega) (by omega)))<|zN O O (wI O O O)<|zN O O (yE O O)<|zN O O (yE O O)<|yK<|zA<|zG<|R (L O) (L O) ?_
   rw [jmpv2 c2]
   exact ⟨O,[_],O⟩
  ·try simp only [sx] at c2
   obtain ⟨⟨b1,b2⟩,d1,d2⟩:=fB (by omega)
   have h14:x.Op=14:=by omega
   have hN:=fC h14
   refine zJ<|zK<|kG 17 2 [⟨0,.q []⟩,⟨1,.q []⟩,⟨2,.q [2]⟩,⟨3,.q []⟩,⟨4,.q []⟩,⟨5,.q []⟩,⟨6,.q [3]⟩,⟨7,.q []⟩,⟨8,.q []⟩,⟨9,.q [2]⟩,⟨10,.q []⟩,⟨11,.q []⟩,⟨12,.q []⟩,⟨13,.q [3]⟩,⟨14,.f 1⟩,⟨15,.f 0⟩,⟨16,.g 1 []⟩] mixed (by kernel_rfl) (by kernel_rfl) O O O<|zU O<|zU O<|zU O<|zU O<|zU O<|zU O<|zU O<|zU O<|zU O<|zU O<|zU O<|zU O<|zU O<|zU O<|zFb O O (zBe (qS O zr59)) ⟨_,_,0,O,O⟩<|zFb O O (zBe (qS O zr59)) ⟨_,_,0,O,O⟩<|zU O<|zAz<|qA O (by decide) O O (zO O O)<|qA O (by decide) O O (zF O zAk O)<|qA O (by decide) O O (zH O one3 O (J 0 O) O)<|qA O (by decide) O O (qJ O O)<|qA O (by decide) O O (zF O zEa O)<|qA O (by decide) O O (yU O ar99 O O (by omega) (by omega))<|qA O (by decide) O O (zCm O qN O (J 0 O) (mc_R hs (by omega) (by omega)) O)<|qA O (by decide) O O (zO O O)<|qA O (by decide) O O (zF O wN O)<|qA O (by decide) O O (zH O one3 O (J 0 O) O)<|qA O (by decide) O O (qJ O O)<|qA O (by decide) O O (zF O zEa O)<|qA O (by decide) O O (yU O ar99 O O (by omega) (by omega))<|qA O (by decide) O O (zCm O qN O (J 0 O) (mc_R hs (by omega) (by omega)) O)<|zEv O O ?_
   rintro _ _ ⟨b2,rfl,rfl⟩
   refine zEv O O ?_
   rintro _ _ ⟨b3,rfl,rfl⟩
   refine sq_v0 O O (by decide) O O O (yL O W O O O (zEg 0 O O)) O<|zAy O<|rStR 0 W O<|zA<|zK<|Y O<|zD O zFp<|zL qX (J 2 O) O<|zL qN (J 1 O) O<|zZ O ok22 (upO (zAw x.Ty (s.gR x.B))) ⟨zC,O,zC,O,T⟩<|yT O<|G O<|rL0 O (fun g7_5=>zF O zFp O) O<|rL1 50 O (fun g7_5=>zV O qX O (J 2 O) O) O<|rL0 O (fun g7_5=>zV O qN O (J 0 O) O) O<|rLz [(51,_),(52,_)] O gv1 ⟨O,O,O,O,T⟩ (fun g7_5=>qE O ok22 (upO (zAw x.Ty (s.gR x.C))) ⟨zC,O,zC,O,T⟩) O<|rL1 53 O (fun g7_5=>kA O O) O<|r_or O (fun h=>(lzf h))<|zA<|zE O (fun c3=>?_) (fun c3=>?_)
   ·have c3:(!(bD x.Ty&&bC x.Ty (s.gR x.B))|| !(bD x.Ty&&bC x.Ty (s.gR x.C)))=true:=c3
    refine Y O<|G O<|G O<|zA<|zG<|R (L O) (L O) ?_
    rw [jmpv3 h14 c3]
    exact ⟨O,[_,_,_],O⟩
   ·have c3:(!(bD x.Ty&&bC x.Ty (s.gR x.B))|| !(bD x.Ty&&bC x.Ty (s.gR x.C)))=false:=c3
    refine zJ<|Y O<|zD O zFp<|zL qX (J 2 O) O<|zL qN (J 1 O) O<|zL qN (J 0 O) O<|zZ O ok110 (zHg x.Ty (s.gR x.B) (s.gR x.C)) ⟨zC,O,zC,O,zC,O,T⟩<|G O<|zA<|zK<|Y O<|zD O wG<|zD O yR<|zI U (J 2 O) O<|zA<|zT<|Y O<|qQ O<|G O<|zA<|zE O (fun c4=>?_) (fun c4=>?_)
    ·try simp only [sx] at c4
     refine Y O<|G O<|zX O (kB O O O)<|G O<|G O<|zA<|zG<|R (L O) (L O) ?_
     rw [jmpv4 h14 c3]
     exact ⟨congrArg (fun q=>V.tup [vB q,vI 0]) (jmp13 c4),[_,_,_],O⟩
    ·try simp only [sx] at c4
     refine Y O<|qQ O<|G O<|zA<|zE O (fun c5=>?_) (fun c5=>?_)
     ·try simp only [sx] at c5
      refine Y O<|G O<|zAf O<|G O<|G O<|zA<|zG<|R (L O) (L O) ?_
      rw [jmpv4 h14 c3]
      exact ⟨congrArg (fun q=>V.tup [vB q,vI 0]) (jmp14 c5),[_,_,_],O⟩
     ·try simp only [sx] at c5
      refine zJ<|Y O<|G O<|yQ O<|G O<|G O<|zA<|zG<|R (L O) (L O) ?_
      rw [jmpv4 h14 c3]
      exact ⟨congrArg (fun q=>V.tup [vB q,vI 0]) (jmp15 (by omega)),[_,_,_],O⟩
theorem vm_jumps (b:Nat) (sv:Value) (s:Mc) (w:Int) (hs:s.Ok w) (x:In) (hx:fmd x=true) (ho:dR x.Op=true):Con cfgO 71 [vPt b,vIn x] (mcE b sv s) fun r μ'=>r=.tup [vB (lT s x).1,vI (lT s x).2]/\μ'=mcE b sv s:=Con.drop (vm_jumps0 b sv s w hs x hx ho)
theorem vm_Step0 (b:Nat) (sv:Value) (s:Mc) (w:Int) (hs:s.Ok w)  :
    Con cfgO 41 [vPt b] (mcE b sv s) fun r μ'=>r=.tup [vB (dX s).2.1,vI (dX s).2.2]/\∃ν,μ'=ν++mcE b sv (dX s).1:=by
 refine zR Tryz.func41 O Tryz.ntmps41 Tryz.results41 O ?_
 intro z hz
 refine Y O<|G O<|G O<|zA<|zK<|zT<|Y O<|G O<|zX O (yG [0,0] O ok40 (zKb b sv s w hs) ⟨zC,O,T⟩ O)<|yT O<|G O<|zA<|zE O (fun c1=>?_) (fun c1=>?_)
 ·exact v24
 ·try simp only [sx] at c1
  refine Y O<|G O<|qP O<|zD O fd101_7<|zX O (zH O one4 O (J 0 O) (mc_hl hs))<|G O<|zA<|zE O (fun c2=>?_) (fun c2=>?_)
  ·try simp only [sx] at c2
   refine Y O<|G O<|G O<|zA<|zG<|R (L O) (L O) ?_
   rw [stepM1 c2]
   exact ⟨O,[],O⟩
  ·try simp only [sx] at c2
   have hl0:s.hl=false:=by simpa using c2
   refine zK<|qV 11 mixed (by kernel_rfl) O O<|zN O O (zO O O)<|zN O O (qJ O O)<|zN O O (zF O zCe O)<|zN O O (zH O one3 O (J 0 O) (mc_pc hs))<|zN O O (zO O O)<|zN O O (qJ O O)<|zN O O (zF O fd101_1 O)<|zN O O (zH O one26 O (J 0 O) O)<|zN O O (yH O el26 O)<|zN O O (kB O O O)<|zN O O (yE O O)<|yK<|zA<|zE O (fun c3=>?_) (fun c3=>?_)
   ·try simp only [sx] at c3
    refine Y O<|G O<|G O<|zA<|zG<|R (L O) (L O) ?_
    rw [stepM2 hl0 c3]
    exact ⟨O,[],O⟩
   ·try simp only [sx] at c3
    have h3:¬(s.code.length:Int)<=s.pc:=by omega
    obtain ⟨hget,hok⟩:=hs.insOk (by omega)
    obtain ⟨hf,hJ,hMm,hT⟩:=inOk_fmd hok
    have hpc:=hs.hp
    have hcl:=hs.hn
    refine zJ<|zK<|kG 11 1 [⟨0,.q []⟩,⟨1,.q []⟩,⟨2,.q []⟩,⟨3,.q [1]⟩,⟨4,.q []⟩,⟨5,.q []⟩,⟨6,.q []⟩,⟨7,.q [1]⟩,⟨8,.q []⟩,⟨9,.q []⟩,⟨10,.f 0⟩] mixed (by kernel_rfl) (by kernel_rfl) O O O<|zU O<|zU O<|zU O<|zU O<|zU O<|zU O<|zU O<|zU O<|zU O<|zU O<|zFb O O (zBe (qS O zr61)) ⟨_,_,0,O,O⟩<|zAz<|qA O (by decide) O O (zO O O)<|qA O (by decide) O O (qJ O O)<|qA O (by decide) O O (zF O fd101_1 O)<|qA O (by decide) O O (zH O one26 O (J 0 O) O)<|qA O (by decide) O O (zO O O)<|qA O (by decide) O O (qJ O O)<|qA O (by decide) O O (zF O zCe O)<|qA O (by decide) O O (zH O one3 O (J 0 O) (mc_pc hs))<|qA O (by decide) O O (qH O el26 O O (by have:=hs.hp;omega) (D hget))<|qA O (by decide) O O (zV O zDc O qD O)<|zEv O O ?_
    rintro _ _ ⟨b1,rfl,rfl⟩
    refine zAy O<|rStR 0 sz61 O<|zA<|Y O<|G O<|qP O<|zD O zCe<|zX O (zH O one3 O (J 1 O) (mc_pc hs))<|qF O ⟨by omega,by omega⟩<|G O<|zA<|Y O<|G O<|zA<|zK<|Y O<|zD O zBo<|zI one3 (J 0 O) O<|zA<|zT<|Y O<|qQ O<|G O<|zA<|zE O (fun c4=>?_) (fun c4=>?_)
    ·try simp only [sx] at c4
     refine Y O<|G O<|qP O<|zD O fd101_7<|kP O O (yL O sz4 O O O (wQ 1 O (by rw [zBc hs];show 0+773+1<=774;omega) (mc_sHL hs)))<|zA<|Y O<|G O<|G O<|zA<|zG<|R (L O) (L O) ?_
     rw [stepM3 hl0 h3 c4]
     exact ⟨O,[_],O⟩
    ·try simp only [sx] at c4
     refine zK<|Y O<|qQ O<|G O<|zA<|zE O (fun c5=>?_) (fun c5=>?_)
     ·try simp only [sx] at c5
      refine zJ<|zE O (fun c7=>?_) (fun c7=>?_)
      ·exact w5
      ·try simp only [sx] at c7
       exact absurd c5 c7
     ·try simp only [sx] at c5
      refine Y O<|qQ O<|G O<|zA<|zE O (fun c6=>?_) (fun c6=>?_)
      ·try simp only [sx] at c6
       refine zJ<|zE O (fun c7=>?_) (fun c7=>?_)
       ·exact w5
       ·try simp only [sx] at c7
        exact absurd c6 c7
      ·try simp only [sx] at c6
       refine zQ O<|qQ O<|G O<|zA<|zE O (fun c7=>?_) (fun c7=>?_)
       ·exact w5
       ·try simp only [sx] at c7
        have hjn:dR s.ins.Op=false:=by simp [dR];omega
        refine zK<|Y O<|qQ O<|G O<|zA<|zE O (fun c9=>?_) (fun c9=>?_)
        ·try simp only [sx] at c9
         refine zJ<|zE O (fun c10=>?_) (fun c10=>?_)
         ·exact o4
         ·try simp only [sx] at c10
          exact absurd c9 c10
        ·try simp only [sx] at c9
         refine zQ O<|qQ O<|G O<|zA<|zE O (fun c10=>?_) (fun c10=>?_)
         ·exact o4
         ·try simp only [sx] at c10
          have hmn:gN s.ins.Op=false:=by simp [gN];omega
          refine zK<|Y O<|qQ O<|G O<|zA<|zE O (fun c11=>?_) (fun c11=>?_)
          ·try simp only [sx] at c11
           refine zJ<|zE O (fun c14=>?_) (fun c14=>?_)
           ·exact w7
           ·try simp only [sx] at c14
            exact absurd c11 c14
          ·try simp only [sx] at c11
           refine Y O<|qQ O<|G O<|zA<|zE O (fun c12=>?_) (fun c12=>?_)
           ·try simp only [sx] at c12
            refine zJ<|zE O (fun c14=>?_) (fun c14=>?_)
            ·exact w7
            ·try simp only [sx] at c14
             exact absurd c12 c14
           ·try simp only [sx] at c12
            refine Y O<|qQ O<|G O<|zA<|zE O (fun c13=>?_) (fun c13=>?_)
            ·try simp only [sx] at c13
             refine zJ<|zE O (fun c14=>?_) (fun c14=>?_)
             ·exact w7
             ·try simp only [sx] at c14
              exact absurd c13 c14
            ·try simp only [sx] at c13
             refine zQ O<|qQ O<|G O<|zA<|zE O (fun c14=>?_) (fun c14=>?_)
             ·exact w7
             ·try simp only [sx] at c14
              have hpn:fQ s.ins.Op=false:=by simp [fQ];omega
              refine zQ O<|G O<|zL zDc (J 0 O) O<|zX O (kX [1,1] O ok74 (vm_integer b sv s w hs s.ins hf ⟨hjn,hmn,hpn,c4⟩) ⟨zC,O,zC,O,T⟩ O)<|zA<|zK<|Y O<|G O<|yQ O<|zA<|zE O (fun c15=>?_) (fun c15=>?_)
              ·try simp only [sx] at c15
               exact absurd T c15
              ·try simp only [sx] at c15
               have hd:=doM4 (s:=s) hjn hmn hpn
               have hd0:doM s s.ins=(s.sX s.ins.A (lR s s.ins),0):=by rw [hd]
               have hs2:=zGc hs s.ins
               rw [hd0] at hs2
               have hnx:dY s s.ins=s.pc+1:=zMk hjn
               exact t8
theorem vm_Step (b:Nat) (sv:Value) (s:Mc) (w:Int) (hs:s.Ok w)  :Con cfgO 41 [vPt b] (mcE b sv s) fun r μ'=>r=.tup [vB (dX s).2.1,vI (dX s).2.2]/\μ'=mcE b sv (dX s).1:=Con.drop (vm_Step0 b sv s w hs)
end Go.W
end
section
set_option maxRecDepth 10000
namespace Go.W
open Go Go.Eng Go.Proofs Go.L41 Go.Br
attribute [local irreducible] AWP RWP TD fT
theorem el64:dK Tryz.prog 64=some (2,1,8):=by kernel_rfl
theorem ik3:tC Tryz.prog 3=some .i64:=by kernel_rfl
theorem ok41:bA Tryz.prog 41=true:=by kernel_rfl
theorem ok42:bA Tryz.prog 42=true:=by kernel_rfl
theorem ok48:bA Tryz.prog 48=true:=by kernel_rfl
theorem ok49:bA Tryz.prog 49=true:=by kernel_rfl
theorem ok70:bA Tryz.prog 70=true:=by kernel_rfl
theorem ok109:bA Tryz.prog 109=true:=by kernel_rfl
theorem us129:(Tryz.prog.underlying 129).isSome=true:=by kernel_rfl
theorem zr2:dM Tryz.prog 2=some [(Value.int IntKind.i64 0)]:=by kernel_rfl
theorem zSd (l:List In) (hl:l.length<=1048576):
    OwnR cfgO 36 [sV l] 61 11 (l.map (In.cells)):=by
 refine zR Tryz.func36 O Tryz.ntmps36 Tryz.results36 O ?_
 intro z hz
 refine Y O<|yN 11 O<|zA<|zK<|Y O<|G O<|zW O O (zJl O el26 O O) ?_
 rintro _ _ ⟨nb1,rfl,hnil1,rfl⟩
 refine zA<|zE O (fun c1=>?_) (fun c1=>?_)
 ·try simp only [sx] at c1
  refine Y O<|G O<|yZ _ (wH 61 11)<|zA<|zG<|zS O ?_
  exact ⟨_,O,by rw [hnil1 c1]⟩
 ·try simp only [sx] at c1
  refine zJ<|Y O<|zW O O (zFe O el26 zr61 O O O O) ?_
  rintro _ _ ⟨sv3,rfl,rfl⟩
  refine G O<|zW O O (yX 0 O el26 O O O (by simp only [List.length_map,List.length_nil,Nat.zero_add];omega) (by simp only [List.length_map,List.length_nil,Nat.zero_add];omega)) ?_
  exact v15
theorem zSc (l:List Ty) (hl:l.length<=1048576):
    OwnR cfgO 37 [sU l] 43 5 (l.map (Ty.cells)):=by
 refine zR Tryz.func37 O Tryz.ntmps37 Tryz.results37 O ?_
 intro z hz
 refine Y O<|yN 5 O<|zA<|zK<|Y O<|G O<|zW O O (zJl O el27 O O) ?_
 rintro _ _ ⟨nb1,rfl,hnil1,rfl⟩
 refine zA<|zE O (fun c1=>?_) (fun c1=>?_)
 ·try simp only [sx] at c1
  refine Y O<|G O<|yZ _ (wH 43 5)<|zA<|zG<|zS O ?_
  exact ⟨_,O,by rw [hnil1 c1]⟩
 ·try simp only [sx] at c1
  refine zJ<|Y O<|zW O O (zFe O el27 zr43 O O O O) ?_
  rintro _ _ ⟨sv3,rfl,rfl⟩
  refine G O<|zW O O (yX 0 O el27 O O O (by simp only [List.length_map,List.length_nil,Nat.zero_add];omega) (by simp only [List.length_map,List.length_nil,Nat.zero_add];omega)) ?_
  exact v15
theorem zIf (l:List Vl) (hl:l.length<=1048576):
    OwnR cfgO 49 [jM l] 59 2 (l.map (Vl.cells)):=by
 refine zR Tryz.func49 O Tryz.ntmps49 Tryz.results49 O ?_
 intro z hz
 refine Y O<|yN 2 O<|zA<|zK<|Y O<|G O<|zW O O (zJl O el50 O O) ?_
 rintro _ _ ⟨nb1,rfl,hnil1,rfl⟩
 refine zA<|zE O (fun c1=>?_) (fun c1=>?_)
 ·try simp only [sx] at c1
  refine Y O<|G O<|yZ _ (wH 59 2)<|zA<|zG<|zS O ?_
  exact ⟨_,O,by rw [hnil1 c1]⟩
 ·try simp only [sx] at c1
  refine zJ<|Y O<|zW O O (zFe O el50 zr59 O O O O) ?_
  rintro _ _ ⟨sv3,rfl,rfl⟩
  refine G O<|zW O O (yX 0 O el50 O O O (by simp only [List.length_map,List.length_nil,Nat.zero_add];omega) (by simp only [List.length_map,List.length_nil,Nat.zero_add];omega)) ?_
  exact v15
theorem zPz (l:List Int) (hl:l.length<=1048576):
    OwnR cfgO 42 [vIs l] 2 1 (l.map (fun n=>[cI n])):=by
 refine zR Tryz.func42 O Tryz.ntmps42 Tryz.results42 O ?_
 intro z hz
 refine Y O<|yN 1 O<|zA<|zK<|Y O<|G O<|zW O O (zJl O el64 O O) ?_
 rintro _ _ ⟨nb1,rfl,hnil1,rfl⟩
 refine zA<|zE O (fun c1=>?_) (fun c1=>?_)
 ·try simp only [sx] at c1
  refine Y O<|G O<|yZ _ (wH 2 1)<|zA<|zG<|zS O ?_
  exact ⟨_,O,by rw [hnil1 c1]⟩
 ·try simp only [sx] at c1
  refine zJ<|Y O<|zW O O (zFe O el64 zr2 O O O O) ?_
  rintro _ _ ⟨sv3,rfl,rfl⟩
  refine G O<|zW O O (yX 0 O el64 O O O (by simp only [List.length_map,List.length_nil,Nat.zero_add];omega) (by simp only [List.length_map,List.length_nil,Nat.zero_add];omega)) ?_
  exact v15
theorem bits_Mul64 (a b:Nat) (ha:a<18446744073709551616) (hb:b<18446744073709551616):
    Pur cfgO 109 [vUn a,vUn b] (.tup [vUn (hiN a b),vUn (a*b%18446744073709551616)]):=by
 refine zR Tryz.func109 O Tryz.ntmps109 Tryz.results109 O ?_
 intro z hz
 obtain ⟨p1,p2,p3,p4⟩:=part_le ha hb
 obtain ⟨q1,q2,q3,q4⟩:=hi_bounds ha hb
 refine Y O<|G O<|G O<|zA<|Y O<|G O<|zX O (det_uand O O O ha)<|G O<|zA<|Y O<|G O<|zX O (zNa O O O )<|G O<|zA<|Y O<|G O<|zX O (det_uand O O O hb)<|G O<|zA<|Y O<|G O<|zX O (zNa O O O )<|G O<|zA<|Y O<|G O<|G O<|zX O (zKm O O O (by omega))<|G O<|zA<|Y O<|G O<|G O<|zX O (zKm O O O (by omega))<|G O<|zX O (zNa O O O )<|zX O (zNc O O O q1)<|G O<|zA<|Y O<|G O<|zX O (det_uand O O O q1)<|G O<|zA<|Y O<|G O<|zX O (zNa O O O )<|G O<|zA<|Y O<|G O<|G O<|G O<|zX O (zKm O O O (by omega))<|zX O (zNc O O O (by rw [Nat.add_comm];exact q2))<|G O<|zA<|Y O<|G O<|G O<|zX O (zKm O O O (by omega)) ?_
 refine G O<|zX O (zNc O O O q3)<|G O<|zX O (zNa O O O )<|zX O (zNc O O O (by rw [Nat.add_comm (_%4294967296)];exact q4))<|G O<|zA<|Y O<|G O<|G O<|zX O (det_umod O O O )<|G O<|zA<|zG<|R (L O) (L O) ?_
 rw [Nat.add_comm (_%4294967296)];rfl
theorem bits_Mul (a b:Nat) (ha:a*b<18446744073709551616) (h1:a<18446744073709551616) (h2:b<18446744073709551616):
    Pur cfgO 70 [vUn a,vUn b] (.tup [vUn 0,vUn (a*b)]):=by
 refine zR Tryz.func70 O Tryz.ntmps70 Tryz.results70 O ?_
 intro z hz
 refine Y O<|G O<|G O<|zA<|zK<|zE O (fun c1=>?_) (fun c1=>?_)
 ·exact absurd c1 (by decide)
 ·refine zJ<|Y O<|G O<|G O<|zZ O ok109 (bits_Mul64 a b h1 h2) ⟨zC,O,zC,O,T⟩<|qW O<|qY O<|qY O<|G O<|G O<|zA<|Y O<|G O<|G O<|G O<|G O<|zA<|zG<|R (L O) (L O) ?_
  rw [hi_zero.2 ha,Nat.mod_eq_of_lt ha]
theorem vm_zero  :
    Pur cfgO 39 [] (bJ ⟨0,1⟩):=by
 refine zR Tryz.func39 O Tryz.ntmps39 Tryz.results39 O ?_
 intro z hz
 refine Y O<|zW O O (qS O zr59) ?_
 rintro _ _ ⟨b1,rfl,rfl⟩
 refine zA<|Y O<|qR O zr59 pl59<|rStR 0 W O<|zA<|zG<|fin1 (zP qN O (J 0 O) O) ?_
 exact O
theorem zNv (v:Vl) (n:Nat) (hn:n<=1048576):
    OwnR cfgO 38 [jM [v],vI n] 59 2 ((List.replicate n v).map Vl.cells):=by
 refine zR Tryz.func38 O Tryz.ntmps38 Tryz.results38 O ?_
 intro z hz
 refine Y O<|yN 2 O<|zA<|zK<|Y O<|G O<|yF O<|zA<|zE O (fun c1=>?_) (fun c1=>?_)
 ·try simp only [sx] at c1
  exact absurd c1 (by omega)
 ·try simp only [sx] at c1
  refine zJ<|Y O<|G O<|qC O el50<|zX O (zEl O us3 ik129 O (show _=((1:Nat):Int) from O))<|G O<|zX O (zEl O us3 ik129 O (show _=((n:Nat):Int) from zCh ⟨by omega,by omega⟩))<|zZ O ok70 (bits_Mul 1 n (by omega) (by decide) (by omega)) ⟨zC,O,zC,O,T⟩<|qW O<|qY O<|qY O<|G O<|G O<|zA<|zK<|Y O<|G O<|zAf O<|G O<|rL0 O (fun g4_2=>zO O O) O<|rL1 24 O (fun g4_2=>kD O O O) O<|r_or O (fun h=>(lzf h))<|zA<|zE O (fun c2=>?_) (fun c2=>?_)
  ·have c2:(decide ((0:Int)<((0:Nat):Int))||decide ((9223372036854775807:Int)<((1*n:Nat):Int)))=true:=c2
   exact absurd c2 (by simp;omega)
  ·refine zJ<|Y O<|G O<|zX O (zEl O us129 ik3 O (show _=((n:Nat):Int) from by rw [Nat.one_mul];exact zAv ⟨by omega,by omega⟩))<|zW O O (ope_make n O el50 zr59 O O O O (by omega) (by omega)) ?_
   rintro _ _ ⟨sv1,rfl,rfl⟩
   refine G O<|zA<|Y O<|G O<|G O<|zX O (det_copy 0 O el50 O (isCut_self (m:=n) (by rw [List.length_replicate])) O O (by rw [List.length_replicate];omega))<|G O<|zA<|zK<|zT<|zY ⟨[(8,.c _),(7,.c _)],[_]⟩ (Weak.mk [true] ⟨zC,zC,T⟩ O)<|qG 1 1 O O (Nat) (fun j=>[(8,vI j)]) (fun j=>[E.vec sv1 59 2 ((List.replicate j v).map Vl.cells++List.replicate (n-j) [cI 0,cI 0])]) (fun j=>j<=n/\(j<n->1<=j)) (fun j=>n-j) ⟨(min 1 n),⟨by omega,fun h=>by omega⟩,Weak.mk [true] ⟨VLe.of_eq (by rfl),zC,T⟩ (by exact zBg (rep_init _))⟩ ?_
   rintro j hj
   refine zK<|Y O<|G O<|G O<|zX O (kE 0 O el50 O O)<|yF O<|zA<|zE O (fun c3=>?_) (fun c3=>?_)
   ·try simp only [sx] at c3
    have c3:j<n:=by simp only [List.length_append,List.length_map,List.length_replicate] at c3;omega
    have hj1:=hj.2 c3
    refine zJ<|zT<|kG 8 0 [⟨0,.q []⟩,⟨1,.q []⟩,⟨2,.q []⟩,⟨3,.q [0]⟩,⟨4,.q []⟩,⟨5,.q []⟩,⟨6,.q [0]⟩,⟨7,.e 0 []⟩] mixed (by kernel_rfl) (by kernel_rfl) O O O<|zU O<|zU O<|zU O<|zU O<|zU O<|zU O<|zU O<|zU O<|zAz<|qA O (by decide) O O (zO O O)<|qA O (by decide) O O (zO O O)<|qA O (by decide) O O (zO O O)<|qA O (by decide) O O (zRb (k:=j) (m:=(n-j)) 0 O el50 O O ⟨.i64,_,O,O⟩ (by show j+(n-j)=_;rw [List.length_append,List.length_map,List.length_replicate,List.length_replicate]) (by rw [List.length_append,List.length_map,List.length_replicate,List.length_replicate];omega))<|qA O (by decide) O O (zO O O)<|qA O (by decide) O O (zO O O)<|qA O (by decide) O O (zRb (k:=0) (m:=j) 0 O el50 O O O ⟨.i64,_,O,by omega⟩ (by rw [List.length_append,List.length_map,List.length_replicate,List.length_replicate];omega))<|zIx O O (by decide) O O (det_copy_in 0 O el50 O isCut_gh O O isCut_gh (by rw [List.length_append,List.length_map,List.length_replicate,List.length_replicate];omega) (by rw [List.length_append,List.length_map,List.length_replicate,List.length_replicate];omega) (by omega) (by omega) (k:=j) (m:=n-j) (l:=j) (rows:=(List.replicate j v).map Vl.cells++List.replicate (n-j) [cI 0,cI 0])) ?_
    rintro _ _ ⟨rfl,rfl⟩
    refine ⟨_,O,?_⟩
    refine zAy O<|qF O ⟨by omega,by omega⟩<|G O<|zA ?_
    refine ⟨j+min j (n-j),⟨by omega,fun h=>by omega⟩,(by omega),Weak.mk [true] ⟨VLe.of_eq (by rfl),zC,T⟩ (by exact zBg (rep_rows hj1 hj.1 _))⟩
   ·try simp only [sx] at c3
    have hjn:j=n:=by simp only [List.length_append,List.length_map,List.length_replicate] at c3;omega
    subst hjn
    refine qM<|Y O<|G O<|G O<|zA<|zG<|zS O ?_
    exact ⟨_,O,by show [E.vec sv1 _ 2 ((List.replicate j v).map Vl.cells++List.replicate (j-j) _)]=_;rw [Nat.sub_self,List.replicate_zero,List.append_nil]⟩
theorem vm_Load0 (b:Nat) (sv:Value) (s:Mc) (w:Int) (hs:s.Ok w) (a m:Int):
    Con cfgO 19 [vPt b,vI a,vI m] (mcE b sv s) fun r μ'=>r=.tup [jM (pI s a m).1,vI (pI s a m).2]/\∃ν,μ'=ν++mcE b sv s:=by
 refine zR Tryz.func19 O Tryz.ntmps19 Tryz.results19 O ?_
 intro z hz
 refine Y O<|yN 2 O<|G O<|zA<|zK<|Y O<|G O<|zX O (yG [0,0] O ok40 (zKb b sv s w hs) ⟨zC,O,T⟩ O)<|yT O<|zA<|zE O (fun c1=>?_) (fun c1=>?_)
 ·exact v24
 ·try simp only [sx] at c1
  refine zJ<|zK<|Y O<|G O<|G O<|G O<|zX O (yG [0,0] O ok48 (vm_holds b sv s w hs a m (by have:=hs.hM;have:=hs.hw;omega)) ⟨zC,O,zC,O,zC,O,T⟩ O)<|yT O<|zA<|zE O (fun c2=>?_) (fun c2=>?_)
  ·try simp only [sx] at c2
   have hh:dC s a m=false:=by simpa using c2
   refine Y O<|yN 2 O<|G O<|zA<|zG<|R (L O) (L O) ?_
   rw [loa_no hh]
   exact ⟨O,[],O⟩
  ·try simp only [sx] at c2
   have hh:dC s a m=true:=by simpa using c2
   have hb:=zTl hh
   have hml:=hs.hM
   have hmw:=hs.hw
   refine zJ<|Y O<|G O<|qP O<|zD O zOp<|zI zCq (J 0 O) O<|G O<|G O<|G O<|qF O ⟨by omega,by omega⟩<|zX O (zRb (k:=a.toNat) (m:=m.toNat) 1 O el50 O O ⟨.i64,_,O,by omega⟩ ⟨.i64,_,O,by omega⟩ (by rw [List.length_map];omega))<|zW O O (zLb 1 [.c (.gh (pP sv 2 a.toNat m.toNat))] O ok49 O (.inr ⟨_,_,_,_,O⟩) (zIf ((s.M.drop a.toNat).take m.toNat) (by rw [List.length_take];have:=hs.hM;have:=hs.hw;omega)) (vals_lit _) ⟨.inl ⟨_,_,O,O,(by rw [List.map_take,List.map_drop];exact lend_cut (by rw [List.length_map];omega))⟩,T⟩ ⟨zC,O,T⟩) ?_
   rintro _ _ ⟨sv1,rfl,rfl⟩
   refine yZ _ (kS 0 O (regs':=[(25,_)]) (μ':=[_,_]) ⟨FLe.sl,T⟩ ⟨EFle.refl _,EFle.refl _,T⟩)<|G O<|G O<|zA<|zG<|R (L O) (L O) ?_
   rw [loa_yes hh]
   exact ⟨O,[],O⟩
theorem vm_Load (b:Nat) (sv:Value) (s:Mc) (w:Int) (hs:s.Ok w) (a m:Int):Con cfgO 19 [vPt b,vI a,vI m] (mcE b sv s) fun r μ'=>r=.tup [jM (pI s a m).1,vI (pI s a m).2]/\μ'=mcE b sv s:=Con.drop (vm_Load0 b sv s w hs a m)
theorem vm_Store0 (b:Nat) (sv:Value) (s:Mc) (w:Int) (hs:s.Ok w) (a:Int) (v:List Vl) (hv:v.length<=1048576):
    Con cfgO 18 [vPt b,vI a,jM v] (mcE b sv s) fun r μ'=>r=vI (nG s a v).2/\∃ν,μ'=ν++mcE b sv (nG s a v).1:=by
 refine zR Tryz.func18 O Tryz.ntmps18 Tryz.results18 O ?_
 intro z hz
 refine Y O<|G O<|zA<|zK<|Y O<|G O<|zX O (yG [0,0] O ok40 (zKb b sv s w hs) ⟨zC,O,T⟩ O)<|yT O<|zA<|zE O (fun c1=>?_) (fun c1=>?_)
 ·exact v24
 ·try simp only [sx] at c1
  refine zJ<|zK<|Y O<|G O<|G O<|G O<|qC O el50<|zX O (yG [0,0] O ok48 (vm_holds b sv s w hs a v.length (by have:=hs.hM;have:=hs.hw;omega)) ⟨zC,O,zC,O,zC,O,T⟩ O)<|yT O<|zA<|zE O (fun c2=>?_) (fun c2=>?_)
  ·try simp only [sx] at c2
   have hh:dC s a v.length=false:=by simpa using c2
   refine Y O<|G O<|zA<|zG<|zS O ?_
   rw [sto_no hh]
   exact ⟨O,[],O⟩
  ·try simp only [sx] at c2
   have hh:dC s a v.length=true:=by simpa using c2
   have hb:=zTl hh
   refine zJ<|Y O<|G O<|qP O<|zD O zOp<|zI zCq (J 0 O) O<|G O<|zX O (zRb (k:=a.toNat) (m:=(s.M.length-a.toNat)) 1 O el50 O O ⟨.i64,_,O,by omega⟩ (by show _=_;rw [List.length_map];omega) (by rw [List.length_map];omega))<|G O<|zX O (det_copy 1 O el50 O isCut_gh O O (by rw [List.length_map];omega))<|zA<|Y O<|G O<|zA<|zG<|zS O ?_
   rw [sto_yes hh]
   exact ⟨O,[],by show [E.row b _ (mcC sv s),E.vec sv _ 2 _]=[E.row b _ (mcC sv s),E.vec sv _ 2 ((s.M.take a.toNat++v++s.M.drop (a.toNat+v.length)).map Vl.cells)];rw [←sto_rows hh]⟩
theorem vm_Store (b:Nat) (sv:Value) (s:Mc) (w:Int) (hs:s.Ok w) (a:Int) (v:List Vl) (hv:v.length<=1048576):Con cfgO 18 [vPt b,vI a,jM v] (mcE b sv s) fun r μ'=>r=vI (nG s a v).2/\μ'=mcE b sv (nG s a v).1:=Con.drop (vm_Store0 b sv s w hs a v hv)
theorem zPw (b:Nat) (sv:Value) (s:Mc) (w:Int) (hs:s.Ok w)  :
    Con cfgO 14 [vPt b] (mcE b sv s) fun r μ'=>r=vIs s.X/\∃ν,μ'=ν++mcE b sv s:=by
 refine zR Tryz.func14 O Tryz.ntmps14 Tryz.results14 O ?_
 intro z hz
 refine Y O<|yN 1 O<|zA<|zK<|Y O<|G O<|zX O (yG [0,0] O ok40 (zKb b sv s w hs) ⟨zC,O,T⟩ O)<|yT O<|zA<|zE O (fun c1=>?_) (fun c1=>?_)
 ·exact v24
 ·try simp only [sx] at c1
  refine zJ<|Y O<|G O<|qP O<|zD O zDq<|zX O (det_cut_arrp O ar98 O (by decide))<|zW O O (zLb 0 [.c (.lit (.slice (some ⟨b,0+4,none⟩) 256 256))] O ok42 O (.inl ⟨_,_,_,O⟩) (zPz s.X (by rw [hs.hX];decide)) (rows_lit _) ⟨.inl ⟨_,_,O,O,(by rw [←xs_rows];exact lend_arr (mc_arr hs) (by rw [zHe];exact hs.hX))⟩,T⟩ ⟨zC,O,T⟩) ?_
  rintro _ _ ⟨sv1,rfl,rfl⟩
  refine yZ _ (kS 0 O (regs':=[(10,_)]) (μ':=[_,_]) ⟨FLe.sl,T⟩ ⟨EFle.refl _,EFle.refl _,T⟩)<|G O<|zA<|zG<|zS O ?_
  exact ⟨O,[],O⟩
theorem zRq (b:Nat) (sv:Value) (s:Mc) (w:Int) (hs:s.Ok w)  :Con cfgO 14 [vPt b] (mcE b sv s) fun r μ'=>r=vIs s.X/\μ'=mcE b sv s:=Con.drop (zPw b sv s w hs)
theorem vm_Run0 (b:Nat) (sv:Value) (s:Mc) (w:Int) (hs:s.Ok w) (f:Int):
    Con cfgO 13 [vPt b,vI f] (mcE b sv s) fun r μ'=>r=.tup [vI (dN s f).2.1,vI (dN s f).2.2]/\∃ν,μ'=ν++mcE b sv (dN s f).1:=by
 refine zR Tryz.func13 O Tryz.ntmps13 Tryz.results13 O ?_
 intro z hz
 refine Y O<|G O<|G O<|zA<|zK<|Y O<|G O<|zX O (yG [0,0] O ok40 (zKb b sv s w hs) ⟨zC,O,T⟩ O)<|yT O<|G O<|rL0 O (fun g1_3=>zO O O) O<|rL1 13 O (fun g1_3=>wI O O O) O<|r_or O (fun h=>(lzf h))<|G O<|rL0 O (fun g1_7=>zO O O) O<|rL1 17 O (fun g1_7=>kD O O O) O<|r_or O (fun h=>(lzf h))<|zA<|zE O (fun c1=>?_) (fun c1=>?_)
 ·have hf:f<0∨16777216<f:=by simpa using c1
  refine Y O<|G O<|G O<|zA<|zG<|R (L O) (L O) ?_
  rw [runX_no hf]
  exact ⟨O,[],O⟩
 ·have hf:¬(f<0∨16777216<f):=by simpa using c1
  refine zJ<|Y O<|G O<|zA<|zT<|zY ⟨[(6,.c _),(0,.c _),(1,.c _)],[_,_]⟩ (Weak.mk [true,true] ⟨zC,zC,zC,T⟩ O)<|qG 1 2 O O (Nat×Mc) (fun ⟨k,t⟩=>[(6,vI k)]) (fun ⟨k,t⟩=>[E.row b 101 (mcC sv t),E.vec sv 59 2 (t.M.map Vl.cells)]) (fun ⟨k,t⟩=>k<=f.toNat/\t.Ok w/\mA (f.toNat-k) t k=mA f.toNat s 0) (fun ⟨k,t⟩=>f.toNat-k) ⟨⟨0,s⟩,⟨by omega,hs,O⟩,Weak.mk [true,true] ⟨zC,zC,zC,T⟩ O⟩ ?_
  rintro ⟨k,t⟩ ⟨hk,hs,hr⟩
  show AWP _ _ _ _ _ ⟨[(6,vI k)]++_,[E.row b 101 (mcC sv t),E.vec sv 59 2 (t.M.map Vl.cells)]++_⟩
  refine zK<|zT<|zK<|Y O<|G O<|qP O<|zD O fd101_7<|zX O (zH O one4 O (J 0 O) (mc_hl hs))<|zA<|zE O (fun c2=>?_) (fun c2=>?_)
  ·try simp only [sx] at c2
   refine Y O<|G O<|G O<|G O<|zA<|zG<|R (L O) (L O) ?_
   rw [zKf hf,←hr,runM_hl c2]
   exact ⟨O,[],O⟩
  ·try simp only [sx] at c2
   have hl0:t.hl=false:=by simpa using c2
   refine zJ<|zK<|Y O<|G O<|G O<|qQ O<|zA<|zE O (fun c3=>?_) (fun c3=>?_)
   ·try simp only [sx] at c3
    have hz0:f.toNat-k=0:=by omega
    refine Y O<|G O<|G O<|zA<|zG<|R (L O) (L O) ?_
    rw [zKf hf,←hr,hz0,runM_0 hl0]
    exact ⟨O,[],O⟩
   ·try simp only [sx] at c3
    have hz1:f.toNat-k=(f.toNat-(k+1))+1:=by omega
    refine zJ<|Y O<|G O<|zX O (kX [0,0] O ok41 (vm_Step b sv t w hs) ⟨zC,O,T⟩ O)<|qW O<|qY O<|qY O<|G O<|G O<|zA<|Y O<|G O<|yQ O<|zA<|zE O (fun c4=>?_) (fun c4=>?_)
    ·try simp only [sx] at c4
     refine Y O<|G O<|G O<|G O<|zA<|zG<|R (L O) (L O) ?_
     rw [zKf hf,←hr,hz1,runM_e hl0 c4]
     exact ⟨O,[],by rw [stepM_err c4];rfl⟩
    ·try simp only [sx] at c4
     refine zJ<|zQ O<|G O<|qF O ⟨by omega,by omega⟩<|G O<|zA ?_
     refine ⟨⟨k+1,(dX t).1⟩,⟨by omega,stepM_ok hs,by rw [←hr,hz1,runM_s hl0 c4];rfl⟩,(by show f.toNat-(k+1)<f.toNat-k;omega),Weak.mk [true,true] ⟨zC,zC,zC,T⟩ O⟩
theorem vm_Run (b:Nat) (sv:Value) (s:Mc) (w:Int) (hs:s.Ok w) (f:Int):Con cfgO 13 [vPt b,vI f] (mcE b sv s) fun r μ'=>r=.tup [vI (dN s f).2.1,vI (dN s f).2.2]/\μ'=mcE b sv (dN s f).1:=Con.drop (vm_Run0 b sv s w hs f)
end Go.W
end
section
set_option maxRecDepth 10000
namespace Go.W
open Go Go.Eng Go.Proofs Go.L41 Go.Br
attribute [local irreducible] AWP RWP TD fT
theorem yY:lA Tryz.prog 79=some 7:=by kernel_rfl
theorem fd79_0:bE Tryz.prog 79 0=some (0,26):=by kernel_rfl
theorem fd79_1:bE Tryz.prog 79 1=some (1,27):=by kernel_rfl
theorem zBn:bE Tryz.prog 79 2=some (2,3):=by kernel_rfl
theorem zFy:bE Tryz.prog 79 3=some (3,64):=by kernel_rfl
theorem zMt:bE Tryz.prog 79 4=some (4,50):=by kernel_rfl
theorem zTw:bE Tryz.prog 79 5=some (5,50):=by kernel_rfl
theorem fd79_6:bE Tryz.prog 79 6=some (6,4):=by kernel_rfl
theorem ok29:bA Tryz.prog 29=true:=by kernel_rfl
theorem ok58:bA Tryz.prog 58=true:=by kernel_rfl
theorem ok59:bA Tryz.prog 59=true:=by kernel_rfl
theorem ok60:bA Tryz.prog 60=true:=by kernel_rfl
theorem ok61:bA Tryz.prog 61=true:=by kernel_rfl
theorem ok100:bA Tryz.prog 100=true:=by kernel_rfl
theorem ok101:bA Tryz.prog 101=true:=by kernel_rfl
theorem ok102:bA Tryz.prog 102=true:=by kernel_rfl
theorem ok103:bA Tryz.prog 103=true:=by kernel_rfl
theorem ok131:bA Tryz.prog 131=true:=by kernel_rfl
theorem ok132:bA Tryz.prog 132=true:=by kernel_rfl
theorem ok133:bA Tryz.prog 133=true:=by kernel_rfl
theorem ok134:bA Tryz.prog 134=true:=by kernel_rfl
theorem zOe:jL Tryz.prog 64=true:=by kernel_rfl
theorem pl79:fG Tryz.prog 79=some [(0,1),(1,1),(2,1),(3,1),(4,1),(5,1),(6,1)]:=by kernel_rfl
theorem sz50:(Tryz.prog.info? 50).map (·.size)=some 1:=by kernel_rfl
theorem sz64:(Tryz.prog.info? 64).map (·.size)=some 1:=by kernel_rfl
theorem r:(Tryz.prog.info? 79).map (·.size)=some 7:=by kernel_rfl
theorem zr79:dM Tryz.prog 79=some [(Value.slice none 0 0),(Value.slice none 0 0),(Value.int IntKind.i64 0),(Value.slice none 0 0),(Value.slice none 0 0),(Value.slice none 0 0),(Value.bool false)]:=by kernel_rfl
theorem zSk (n:Nat) (hn:n<=1048576):
    OwnR cfgO 59 [vI n] 59 2 ((List.replicate n (⟨0,1⟩:Vl)).map Vl.cells):=by
 refine zR Tryz.func59 O Tryz.ntmps59 Tryz.results59 O ?_
 intro z hz
 refine Y O<|yN 2 O<|zA<|Y O<|G O<|yZ _ (wH 59 2)<|zA<|zK<|Y O<|G O<|zA<|zT<|zY ⟨[(4,.c _),(3,.c _),(0,.c _)],[_]⟩ (Weak.mk [true] ⟨zC,zC,zC,T⟩ O)<|qG 2 1 O O (Nat×Value) (fun ⟨k,sv⟩=>[(4,vI k),(3,.c (.lit sv))]) (fun ⟨k,sv⟩=>[E.vec sv 59 2 ((List.replicate k (⟨0,1⟩:Vl)).map Vl.cells)]) (fun ⟨k,sv⟩=>k<=n) (fun ⟨k,sv⟩=>n-k) ⟨⟨0,.slice none 0 0⟩,(Nat.zero_le _),Weak.mk [true] ⟨zC,zC,zC,T⟩ O⟩ ?_
 rintro ⟨k,sv⟩ hk
 refine zK<|Y O<|G O<|G O<|yF O<|zA<|zE O (fun c1=>?_) (fun c1=>?_)
 ·try simp only [sx] at c1
  refine zJ<|zK<|zT<|zQ O<|G O<|qR O zr59 pl59<|zX O (yS O el50 zr59 O O O O)<|zW O O (yX 0 O el50 O O O (by simp only [List.length_map,List.length_replicate,List.length_cons,List.length_nil,Nat.zero_add,List.length_append,List.length_take,List.length_drop];omega) (by simp only [List.length_map,List.length_replicate,List.length_cons,List.length_nil,Nat.zero_add,List.length_append,List.length_take,List.length_drop];omega)) ?_
  rintro _ _ ⟨sv2,rfl,rfl⟩
  refine G O<|zA<|zQ O<|G O<|qF O ⟨by omega,by omega⟩<|G O<|zA ?_
  refine ⟨⟨k+1,sv2⟩,(by omega),(by show n-(k+1)<n-k;omega),Weak.mk [true] ⟨zC,zC,zC,T⟩ (by exact zBg rep_next)⟩
 ·try simp only [sx] at c1
  refine qM<|Y O<|G O<|G O<|zA<|zG<|zS O ?_
  obtain rfl:k=n:=by have hk:k<=n:=hk;omega
  exact ⟨_,O,O⟩
theorem zJh (s:Mc) (a m:Int) (hl:s.M.length<=1048576):
    Pur cfgO 60 [vMc s,vI a,vI m] (vB (dC s a m)):=by
 refine zR Tryz.func60 O Tryz.ntmps60 Tryz.results60 O ?_
 intro z hz
 refine Y O<|zW O O (qB O O) ?_
 rintro _ _ ⟨b1,rfl,rfl⟩
 refine G O<|zA<|Y O<|G O<|zX O (kB O O O)<|G O<|rL0 O (fun g1_2=>zO O O) O<|rL1 10 O (fun g1_2=>kB O O O) O<|yO O (fun h=>h)<|G O<|rL0 O (fun g1_6=>zO O O) O<|rL0 O (fun g1_6=>zF O zTw O) O<|rL1 15 O (fun g1_6=>zH O zCq O (J 0 O) O) O<|rL1 16 O (fun g1_6=>yH O el50 O) O<|rLz [(14,_),(17,_)] O gv1 ⟨O,O,O,O,T⟩ (fun g1_6=>kH O O O) O<|yO O (fun h=>h)<|G O<|rL0 O (fun g1_13=>zO O O) O<|rL0 O (fun g1_13=>zF O zTw O) O<|rL1 22 O (fun g1_13=>zH O zCq O (J 0 O) O) O<|rL1 23 O (fun g1_13=>yH O el50 O) O<|rL0 O (fun g1_13=>zO O O) O<|rLz [(24,_),(25,_)] O gv1 ⟨O,O,O,O,T⟩ (fun g1_13=>qZ O O O ⟨by (try simp only [List.length_map] at *);have:=(by simpa [Lz,and_assoc] using g1_13:0<=a/\0<=m/\a<=s.M.length);omega,by (try simp only [List.length_map] at *);have:=(by simpa [Lz,and_assoc] using g1_13:0<=a/\0<=m/\a<=s.M.length);omega⟩) O<|rLz [(21,_),(26,_)] O gv1 ⟨O,O,O,O,T⟩ (fun g1_13=>kH O O O) O<|yO O (fun h=>h)<|G O<|zA<|zG<|zS O ?_
 simp only [dC,List.length_map]
theorem zDy (s:Mc) (i n:Int) (w:Int) (hs:s.Ok w) (h0:0<=i) (h:i<256):
    Pur cfgO 134 [vMc s,vI i,vI n] (vMc (s.sX i n)):=by
 refine zR Tryz.func134 O Tryz.ntmps134 Tryz.results134 O ?_
 intro z hz
 refine Y O<|zW O O (qB O O) ?_
 rintro _ _ ⟨b1,rfl,rfl⟩
 refine zW O O (qT [some 11,some 5,none,some 1,some 2,some 2,none] O zr79 O) ?_
 rintro _ _ ⟨b2,rfl,rfl⟩
 refine zA<|Y O<|G O<|yZ _ (wH 2 1)<|zA<|Y O<|G O<|zD O zFy<|zI zOe (J 2 O) O<|zW O O (yX 0 O el64 O O O (by simp [lenX hs]) (by simp [lenX hs])) ?_
 rintro _ _ ⟨sv4,rfl,rfl⟩
 refine G O<|zA<|Y O<|G O<|G O<|G O<|zX O (yJ 0 O el64 O O O (by omega) (by rw [List.nil_append,lenX hs];omega))<|kP O O (yL O sz2 O O O (st_vecE 0 O (getX hs h0 h) O set_X))<|yZ _ (kS 0 O (regs':=[(7,_),(11,_),(12,_)]) (μ':=[_,_]) ⟨FLe.sl,FLe.sl,FLe.sl,T⟩ ⟨EFle.refl _,EFle.refl _,T⟩)<|zA<|Y O<|G O<|zD O zFy<|rStR 1 sz64 O<|zA<|Y O<|zL yY (J 1 O) O<|rStR 0 r O<|zA<|zG<|fin1 (zP yY O (J 0 O) O) ?_
 exact O
theorem zGt (s:Mc) (i:Int) (v:Vl) (w:Int) (hs:s.Ok w) (h0:0<=i) (h:i<256):
    Pur cfgO 131 [vMc s,vI i,bJ v] (vMc (s.sR i v)):=by
 refine zR Tryz.func131 O Tryz.ntmps131 Tryz.results131 O ?_
 intro z hz
 refine Y O<|zW O O (qB O O) ?_
 rintro _ _ ⟨b1,rfl,rfl⟩
 refine zW O O (qB O O) ?_
 rintro _ _ ⟨b2,rfl,rfl⟩
 refine zW O O (qT [some 11,some 5,none,some 1,some 2,some 2,none] O zr79 O) ?_
 rintro _ _ ⟨b3,rfl,rfl⟩
 refine zA<|Y O<|G O<|yZ _ (wH 59 2)<|zA<|Y O<|G O<|zD O zMt<|zI zCq (J 3 O) O<|zW O O (yX 0 O el50 O O O (by simp [lenR hs]) (by simp [lenR hs])) ?_
 rintro _ _ ⟨sv5,rfl,rfl⟩
 refine G O<|zA<|Y O<|G O<|G O<|zL qN (J 2 O) O<|zX O (yJ 0 O el50 O O O (by omega) (by rw [List.nil_append,lenR hs];omega))<|kP O O (yL O W O O O (st_vecE 0 O (getR hs h0 h) O set_row))<|yZ _ (kS 0 O (regs':=[(7,_),(11,_),(12,_)]) (μ':=[_,_,_]) ⟨FLe.sl,FLe.sl,FLe.sl,T⟩ ⟨EFle.refl _,EFle.refl _,EFle.refl _,T⟩)<|zA<|Y O<|G O<|zD O zMt<|rStR 2 sz50 O<|zA<|Y O<|zL yY (J 2 O) O<|rStR 0 r O<|zA<|zG<|fin1 (zP yY O (J 0 O) O) ?_
 exact O
theorem zSl (s:Mc) (a:Int) (v:List Vl) (hl:s.M.length<=1048576) (hv:v.length<=1048576):
    Pur cfgO 29 [vMc s,vI a,jM v] (.tup [vMc (nG s a v).1,vI (nG s a v).2]):=by
 refine zR Tryz.func29 O Tryz.ntmps29 Tryz.results29 O ?_
 intro z hz
 refine Y O<|zW O O (qB O O) ?_
 rintro _ _ ⟨b1,rfl,rfl⟩
 refine zW O O (qT [some 11,some 5,none,some 1,some 2,some 2,none] O zr79 O) ?_
 rintro _ _ ⟨b2,rfl,rfl⟩
 refine G O<|zA<|zK<|Y O<|zL yY (J 1 O) O<|G O<|G O<|qC O el50<|zZ O ok60 (zJh s a v.length hl) ⟨zC,O,zC,O,zC,O,T⟩<|yT O<|zA<|zE O (fun c1=>?_) (fun c1=>?_)
 ·try simp only [sx] at c1
  have hh:dC s a v.length=false:=by simpa using c1
  refine Y O<|zL yY (J 1 O) O<|rStR 0 r O<|G O<|zA<|zG<|R (zP yY O (J 0 O) O) (L O) ?_
  rw [sto_no hh]
  rfl
 ·try simp only [sx] at c1
  have hh:dC s a v.length=true:=by simpa using c1
  have hb:=zTl hh
  refine zJ<|Y O<|G O<|yZ _ (wH 59 2)<|zA<|Y O<|G O<|zD O zTw<|zI zCq (J 2 O) O<|G O<|zX O (zPr (k:=a.toNat) O el50 O (by show vI a=vI (a.toNat:Int);rw [Int.toNat_of_nonneg hb.1]) (by omega))<|zW O O (yX 0 O el50 O O O (by simp only [List.length_map,List.length_replicate,List.length_cons,List.length_nil,Nat.zero_add,List.length_append,List.length_take,List.length_drop];omega) (by simp only [List.length_map,List.length_replicate,List.length_cons,List.length_nil,Nat.zero_add,List.length_append,List.length_take,List.length_drop];omega)) ?_
  rintro _ _ ⟨sv4,rfl,rfl⟩
  refine G O<|zA<|Y O<|G O<|G O<|zW O O (yX 0 O el50 O O O (by simp only [List.length_map,List.length_replicate,List.length_cons,List.length_nil,Nat.zero_add,List.length_append,List.length_take,List.length_drop];omega) (by simp only [List.length_map,List.length_replicate,List.length_cons,List.length_nil,Nat.zero_add,List.length_append,List.length_take,List.length_drop];omega)) ?_
  rintro _ _ ⟨sv5,rfl,rfl⟩
  refine G O<|zA<|Y O<|G O<|zD O zTw<|zI zCq (J 2 O) O<|G O<|G O<|qC O el50<|qF O ⟨by omega,by omega⟩<|zX O (det_cut_drop (k:=(a.toNat+v.length)) O el50 O (by show vI (a+v.length)=vI ((a.toNat+v.length:Nat):Int);rw [Int.natCast_add,Int.toNat_of_nonneg hb.1]) (by omega))<|zW O O (yX 0 O el50 O O O (by simp only [List.length_map,List.length_replicate,List.length_cons,List.length_nil,Nat.zero_add,List.length_append,List.length_take,List.length_drop];omega) (by simp only [List.length_map,List.length_replicate,List.length_cons,List.length_nil,Nat.zero_add,List.length_append,List.length_take,List.length_drop];omega)) ?_
  rintro _ _ ⟨sv6,rfl,rfl⟩
  refine yZ _ (kS 0 O (regs':=[(33,_)]) (μ':=[_,_]) ⟨FLe.sl,T⟩ ⟨EFle.refl _,EFle.refl _,T⟩)<|zD O zTw<|rStR 1 sz50 O<|zA<|Y O<|zL yY (J 1 O) O<|rStR 0 r O<|G O<|zA<|zG<|R (zP yY O (J 0 O) O) (L O) ?_
  rw [sto_yes hh]
  show _=V.tup [vMc { s with M:=s.M.take a.toNat++v++s.M.drop (a.toNat+v.length) },vI 0]
  rw [vMc,List.map_append,List.map_append]
  rfl
theorem ref49_Load (s:Mc) (a m:Int) (hl:s.M.length<=1048576):
    Pur cfgO 31 [vMc s,vI a,vI m] (.tup [jM (pI s a m).1,vI (pI s a m).2]):=by
 refine zR Tryz.func31 O Tryz.ntmps31 Tryz.results31 O ?_
 intro z hz
 refine Y O<|zW O O (qB O O) ?_
 rintro _ _ ⟨b1,rfl,rfl⟩
 refine yN 2 O<|G O<|zA<|zK<|Y O<|zL yY (J 0 O) O<|G O<|G O<|zZ O ok60 (zJh s a m hl) ⟨zC,O,zC,O,zC,O,T⟩<|yT O<|zA<|zE O (fun c1=>?_) (fun c1=>?_)
 ·try simp only [sx] at c1
  have hh:dC s a m=false:=by simpa using c1
  refine Y O<|yN 2 O<|G O<|zA<|zG<|R (L O) (L O) ?_
  rw [loa_no hh]
  rfl
 ·try simp only [sx] at c1
  have hh:dC s a m=true:=by simpa using c1
  have hb:=zTl hh
  refine zJ<|Y O<|zD O zTw<|zI zCq (J 0 O) O<|G O<|G O<|G O<|qF O ⟨by omega,by omega⟩<|zX O (zOu a.toNat (a.toNat+m.toNat) O el50 O ⟨.i64,_,O,by omega⟩ ⟨.i64,_,O,by omega⟩ (by omega) (by rw [List.length_map];omega))<|G O<|G O<|zA<|zG<|R (L O) (L O) ?_
  rw [loa_yes hh]
  show _=V.tup [jM ((s.M.drop a.toNat).take m.toNat),vI 0]
  rw [jM,List.map_take,List.map_drop,List.drop_take,Nat.add_sub_cancel_left]
theorem ref49_integer (s:Mc) (w:Int) (hs:s.Ok w) (x:In) (hx:fmd x=true) (ho:dR x.Op=false/\gN x.Op=false/\fQ x.Op=false/\x.Op≠0):
    Pur cfgO 103 [vMc s,vIn x] (vMc (s.sX x.A (lR s x))):=by
 refine zR Tryz.func103 O Tryz.ntmps103 Tryz.results103 O ?_
 intro z hz
 obtain ⟨⟨a1,a2⟩,fB,fC,fD,fo⟩:=int_facts hx ho
 refine Y O<|zW O O (qB O O) ?_
 rintro _ _ ⟨b1,rfl,rfl⟩
 refine zW O O (qB O O) ?_
 rintro _ _ ⟨b2,rfl,rfl⟩
 refine zW O O (qT [some 11,some 5,none,some 1,some 2,some 2,none] O zr79 O) ?_
 rintro _ _ ⟨b3,rfl,rfl⟩
 refine zA<|zK<|Y O<|zD O zBo<|zI one3 (J 1 O) O<|zA<|zT<|Y O<|qQ O<|G O<|zA<|zE O (fun c1=>?_) (fun c1=>?_)
 ·try simp only [sx] at c1
  refine Y O<|zL yY (J 2 O) O<|zD O wC<|zI one3 (J 1 O) O<|zD O zAk<|zI one3 (J 1 O) O<|zZ O ok134 (zDy s x.A (x.B) w hs a1 (by omega)) ⟨zC,O,zC,O,zC,O,T⟩<|rStR 0 r O<|zA<|zG<|fin1 (zP yY O (J 0 O) O) ?_
  rw [intv1 c1]
  rfl
 ·try simp only [sx] at c1
  refine Y O<|qQ O<|G O<|zA<|zE O (fun c2=>?_) (fun c2=>?_)
  ·try simp only [sx] at c2
   refine zK<|qV 10 mixed (by kernel_rfl) O O<|zN O O (zV O yY O (J 2 O) O)<|zN O O (zF O wC O)<|zN O O (zH O one3 O (J 1 O) O)<|zN O O (zF O zFy O)<|zN O O (zH O zOe O (J 2 O) O)<|zN O O (zF O zAk O)<|zN O O (zH O one3 O (J 1 O) O)<|zN O O (qH O el64 O O (by have:=fB (by omega);omega) (getX hs (by have:=fB (by omega);omega) (by have:=fB (by omega);omega)))<|zN O O (zH O U O qD O)<|zN O O (qE O ok134 (zDy s x.A (s.gX x.B) w hs a1 (by omega)) ⟨zC,O,zC,O,zC,O,T⟩)<|yK<|rStR 0 r O<|zA<|zG<|fin1 (zP yY O (J 0 O) O) ?_
   rw [intv2 c2 (zAh (fB (by omega)).1 (fB (by omega)).2),zAh (fB (by omega)).1 (fB (by omega)).2]
   rfl
  ·try simp only [sx] at c2
   refine Y O<|qQ O<|G O<|zA<|zE O (fun c3=>?_) (fun c3=>?_)
   ·try simp only [sx] at c3
    refine zK<|qV 17 mixed (by kernel_rfl) O O<|zN O O (zV O yY O (J 2 O) O)<|zN O O (zF O wC O)<|zN O O (zH O one3 O (J 1 O) O)<|zN O O (zF O zFy O)<|zN O O (zH O zOe O (J 2 O) O)<|zN O O (zF O zAk O)<|zN O O (zH O one3 O (J 1 O) O)<|zN O O (qH O el64 O O (by have:=fB (by omega);omega) (getX hs (by have:=fB (by omega);omega) (by have:=fB (by omega);omega)))<|zN O O (zH O U O qD O)<|zN O O (zF O zFy O)<|zN O O (zH O zOe O (J 2 O) O)<|zN O O (zF O wN O)<|zN O O (zH O one3 O (J 1 O) O)<|zN O O (qH O el64 O O (by have:=fC (by omega);omega) (getX hs (by have:=fC (by omega);omega) (by have:=fC (by omega);omega)))<|zN O O (zH O U O qD O)<|zN O O (zUi O O O)<|zN O O (qE O ok134 (zDy s x.A (IntKind.i64.wrap (s.gX x.B+s.gX x.C)) w hs a1 (by omega)) ⟨zC,O,zC,O,zC,O,T⟩)<|yK<|rStR 0 r O<|zA<|zG<|fin1 (zP yY O (J 0 O) O) ?_
    rw [intv3 c3 (zAh (fB (by omega)).1 (fB (by omega)).2) (zAh (fC (by omega)).1 (fC (by omega)).2),zAh (fB (by omega)).1 (fB (by omega)).2,zAh (fC (by omega)).1 (fC (by omega)).2]
    rfl
   ·try simp only [sx] at c3
    refine Y O<|qQ O<|G O<|zA<|zE O (fun c4=>?_) (fun c4=>?_)
    ·try simp only [sx] at c4
     refine zK<|qV 13 mixed (by kernel_rfl) O O<|zN O O (zV O yY O (J 2 O) O)<|zN O O (zF O wC O)<|zN O O (zH O one3 O (J 1 O) O)<|zN O O (zF O zFy O)<|zN O O (zH O zOe O (J 2 O) O)<|zN O O (zF O zAk O)<|zN O O (zH O one3 O (J 1 O) O)<|zN O O (qH O el64 O O (by have:=fB (by omega);omega) (getX hs (by have:=fB (by omega);omega) (by have:=fB (by omega);omega)))<|zN O O (zH O U O qD O)<|zN O O (zF O wN O)<|zN O O (zH O one3 O (J 1 O) O)<|zN O O (zOt O O O)<|zN O O (qE O ok134 (zDy s x.A (IntKind.i64.wrap (s.gX x.B*x.C)) w hs a1 (by omega)) ⟨zC,O,zC,O,zC,O,T⟩)<|yK<|rStR 0 r O<|zA<|zG<|fin1 (zP yY O (J 0 O) O) ?_
     rw [intv4 c4 (zAh (fB (by omega)).1 (fB (by omega)).2),zAh (fB (by omega)).1 (fB (by omega)).2]
     rfl
    ·try simp only [sx] at c4
     refine Y O<|qQ O<|G O<|zA<|zE O (fun c5=>?_) (fun c5=>?_)
     ·try simp only [sx] at c5
      refine zK<|qV 17 mixed (by kernel_rfl) O O<|zN O O (zV O yY O (J 2 O) O)<|zN O O (zF O wC O)<|zN O O (zH O one3 O (J 1 O) O)<|zN O O (zF O zFy O)<|zN O O (zH O zOe O (J 2 O) O)<|zN O O (zF O zAk O)<|zN O O (zH O one3 O (J 1 O) O)<|zN O O (qH O el64 O O (by have:=fB (by omega);omega) (getX hs (by have:=fB (by omega);omega) (by have:=fB (by omega);omega)))<|zN O O (zH O U O qD O)<|zN O O (zF O zFy O)<|zN O O (zH O zOe O (J 2 O) O)<|zN O O (zF O wN O)<|zN O O (zH O one3 O (J 1 O) O)<|zN O O (qH O el64 O O (by have:=fC (by omega);omega) (getX hs (by have:=fC (by omega);omega) (by have:=fC (by omega);omega)))<|zN O O (zH O U O qD O)<|zN O O (zJx O O O)<|zN O O (qE O ok134 (zDy s x.A (min (s.gX x.B) (s.gX x.C)) w hs a1 (by omega)) ⟨zC,O,zC,O,zC,O,T⟩)<|yK<|rStR 0 r O<|zA<|zG<|fin1 (zP yY O (J 0 O) O) ?_
      rw [intv5 c5 (zAh (fB (by omega)).1 (fB (by omega)).2) (zAh (fC (by omega)).1 (fC (by omega)).2),zAh (fB (by omega)).1 (fB (by omega)).2,zAh (fC (by omega)).1 (fC (by omega)).2]
      rfl
     ·try simp only [sx] at c5
      refine Y O<|qQ O<|G O<|zA<|zE O (fun c6=>?_) (fun c6=>?_)
      ·try simp only [sx] at c6
       refine zK<|qV 17 mixed (by kernel_rfl) O O<|zN O O (zV O yY O (J 2 O) O)<|zN O O (zF O wC O)<|zN O O (zH O one3 O (J 1 O) O)<|zN O O (zF O zFy O)<|zN O O (zH O zOe O (J 2 O) O)<|zN O O (zF O zAk O)<|zN O O (zH O one3 O (J 1 O) O)<|zN O O (qH O el64 O O (by have:=fB (by omega);omega) (getX hs (by have:=fB (by omega);omega) (by have:=fB (by omega);omega)))<|zN O O (zH O U O qD O)<|zN O O (zF O zFy O)<|zN O O (zH O zOe O (J 2 O) O)<|zN O O (zF O wN O)<|zN O O (zH O one3 O (J 1 O) O)<|zN O O (qH O el64 O O (by have:=fC (by omega);omega) (getX hs (by have:=fC (by omega);omega) (by have:=fC (by omega);omega)))<|zN O O (zH O U O qD O)<|zN O O (zEb O O O)<|zN O O (qE O ok134 (zDy s x.A (max (s.gX x.B) (s.gX x.C)) w hs a1 (by omega)) ⟨zC,O,zC,O,zC,O,T⟩)<|yK<|rStR 0 r O<|zA<|zG<|fin1 (zP yY O (J 0 O) O) ?_
       rw [intv6 c6 (zAh (fB (by omega)).1 (fB (by omega)).2) (zAh (fC (by omega)).1 (fC (by omega)).2),zAh (fB (by omega)).1 (fB (by omega)).2,zAh (fC (by omega)).1 (fC (by omega)).2]
       rfl
      ·try simp only [sx] at c6
       refine zJ<|zK<|qV 16 mixed (by kernel_rfl) O O<|zN O O (zV O yY O (J 2 O) O)<|zN O O (zF O wC O)<|zN O O (zH O one3 O (J 1 O) O)<|zN O O (zF O zMt O)<|zN O O (zH O zCq O (J 2 O) O)<|zN O O (zF O zAk O)<|zN O O (zH O one3 O (J 1 O) O)<|zN O O (qH O el50 O O (by have:=fB (by omega);omega) (getR hs (by have:=fB (by omega);omega) (by have:=fB (by omega);omega)))<|zN O O (qU O yR O)<|zN O O (zH O U O qD O)<|zN O O (zF O wN O)<|zN O O (zH O one3 O (J 1 O) O)<|zN O O (qZ O O O ⟨by have:=fD (by omega);omega,by have:=fD (by omega);omega⟩)<|zN O O (zJx O O O)<|zN O O (zEb O O O)<|zN O O (qE O ok134 (zDy s x.A (max 0 (min (s.gR x.B).N (x.C-1))) w hs a1 (by omega)) ⟨zC,O,zC,O,zC,O,T⟩)<|yK<|rStR 0 r O<|zA<|zG<|fin1 (zP yY O (J 0 O) O) ?_
       rw [intv7 (by omega)]
       rfl
theorem zPf (s:Mc) (w:Int) (hs:s.Ok w) (x:In) (hx:fmd x=true) (ho:gN x.Op=true) (hC:x.C<=w):
    Pur cfgO 101 [vMc s,vIn x] (.tup [vMc (jQ s x).1,vI (jQ s x).2]):=by
 refine zR Tryz.func101 O Tryz.ntmps101 Tryz.results101 O ?_
 intro z hz
 obtain ⟨⟨a1,a2⟩,⟨b1,b2⟩,⟨d1,d2,d3,d4⟩,fo⟩:=mem_facts hx ho
 have hMl:=hs.hM
 have hMw:=hs.hw
 refine Y O<|zW O O (qB O O) ?_
 rintro _ _ ⟨b1,rfl,rfl⟩
 refine zW O O (qB O O) ?_
 rintro _ _ ⟨b2,rfl,rfl⟩
 refine zW O O (qT [some 11,some 5,none,some 1,some 2,some 2,none] O zr79 O) ?_
 rintro _ _ ⟨b3,rfl,rfl⟩
 refine G O<|zA<|Y O<|zD O zFy<|zI zOe (J 2 O) O<|zD O zAk<|zI one3 (J 1 O) O<|qI O el64 (by omega) (getX hs (by omega) (by omega))<|zI U qD O<|G O<|zA<|zK<|Y O<|G O<|zD O wG<|zD O yR<|zI U (J 1 O) O<|yF O<|G O<|rL0 O (fun g2_5=>zO O O) O<|rL0 O (fun g2_5=>zF O wN O) O<|rL1 20 O (fun g2_5=>zH O one3 O (J 1 O) O) O<|rLz [(19,_),(21,_)] O gv1 ⟨O,O,O,O,T⟩ (fun g2_5=>kB O O O) O<|r_or O (fun h=>(lzf h))<|zA<|zE O (fun c1=>?_) (fun c1=>?_)
 ·have c1:(decide (s.gX x.B<x.Val.N)||decide (x.C<=s.gX x.B))=true:=c1
  refine Y O<|zL yY (J 2 O) O<|rStR 0 r O<|G O<|zA<|zG<|R (zP yY O (J 0 O) O) (L O) ?_
  rw [memv1 c1]
  rfl
 ·have c1:(decide (s.gX x.B<x.Val.N)||decide (x.C<=s.gX x.B))=false:=c1
  refine zJ<|zK<|Y O<|zD O zBo<|zI one3 (J 1 O) O<|qQ O<|zA<|zE O (fun c2=>?_) (fun c2=>?_)
  ·try simp only [sx] at c2
   refine zK<|qV 9 mixed (by kernel_rfl) O O<|zN O O (zV O yY O (J 2 O) O)<|zN O O (zF O wC O)<|zN O O (zH O one3 O (J 1 O) O)<|zN O O (zF O zTw O)<|zN O O (zH O zCq O (J 2 O) O)<|zN O O (zO O O)<|zN O O (qH O el50 O O (by have h_:=zGk c1;omega) (getM (by have h_:=zGk c1;omega)))<|zN O O (zV O qN O qD O)<|zN O O (qE O ok131 (zGt s x.A (s.gM (s.gX x.B)) w hs a1 (by omega)) ⟨zC,O,zC,O,zC,O,T⟩)<|yK<|rStR 0 r O<|G O<|zA<|zG<|R (zP yY O (J 0 O) O) (L O) ?_
   rw [memv2 c1 c2]
   rfl
  ·try simp only [sx] at c2
   refine zJ<|zK<|qV 12 mixed (by kernel_rfl) O O<|zN O O (zV O yY O (J 2 O) O)<|zN O O (zO O O)<|zN O O (zF O zMt O)<|zN O O (zH O zCq O (J 2 O) O)<|zN O O (zF O wC O)<|zN O O (zH O one3 O (J 1 O) O)<|zN O O (qH O el50 O O (by omega) (getR hs (by omega) (by omega)))<|zN O O (zV O qN O qD O)<|zN O O (yS O el50 zr59 O O O O)<|zN O O (qE O ok29 (zSl s (s.gX x.B) [s.gR x.A] (by omega) (by simp)) ⟨zC,O,zC,O,zC,O,T⟩)<|zN O O (wM O O O)<|zN O O (wO O O O)<|yK<|rStR 0 r O<|G O<|zA<|zG<|R (zP yY O (J 0 O) O) (L O) ?_
   rw [memv3 c1 c2,sto_one (by have h_:=zGk c1;omega) (by have h_:=zGk c1;omega)]
   rfl
theorem zEw (s:Mc) (w:Int) (hs:s.Ok w) (x:In) (hx:fmd x=true) (ho:fQ x.Op=true) (hT:x.Op=13->x.Val.N<s.tys.length):
    Pur cfgO 102 [vMc s,vIn x] (.tup [vMc (nE s x).1,vI (nE s x).2]):=by
 refine zR Tryz.func102 O Tryz.ntmps102 Tryz.results102 O ?_
 intro z hz
 obtain ⟨⟨a1,a2⟩,fB,fC,fD,fo⟩:=cpt_facts hx ho
 refine Y O<|zW O O (qB O O) ?_
 rintro _ _ ⟨b1,rfl,rfl⟩
 refine zW O O (qB O O) ?_
 rintro _ _ ⟨b2,rfl,rfl⟩
 refine zW O O (qT [some 11,some 5,none,some 1,some 2,some 2,none] O zr79 O) ?_
 rintro _ _ ⟨b3,rfl,rfl⟩
 refine G O<|zA<|zK<|Y O<|zD O zBo<|zI one3 (J 1 O) O<|zA<|zT<|Y O<|qQ O<|G O<|zA<|zE O (fun c1=>?_) (fun c1=>?_)
 ·try simp only [sx] at c1
  refine Y O<|zL yY (J 2 O) O<|zD O wC<|zI one3 (J 1 O) O<|zD O wG<|zL qN (J 1 O) O<|zZ O ok131 (zGt s x.A (x.Val) w hs a1 (by omega)) ⟨zC,O,zC,O,zC,O,T⟩<|rStR 0 r O<|G O<|zA<|zG<|R (zP yY O (J 0 O) O) (L O) ?_
  rw [cptr1 (by omega),cptv1 c1]
  rfl
 ·try simp only [sx] at c1
  refine Y O<|qQ O<|G O<|zA<|zE O (fun c2=>?_) (fun c2=>?_)
  ·try simp only [sx] at c2
   have hB:=fB (by omega)
   have hC:=fC c2
   refine zK<|kG 23 1 [⟨0,.q []⟩,⟨1,.q []⟩,⟨2,.q [2]⟩,⟨3,.q []⟩,⟨4,.q [2]⟩,⟨5,.q []⟩,⟨6,.q [3]⟩,⟨7,.q []⟩,⟨8,.q [2]⟩,⟨9,.q []⟩,⟨10,.q []⟩,⟨11,.q []⟩,⟨12,.q [3]⟩,⟨13,.q []⟩,⟨14,.q [2]⟩,⟨15,.q []⟩,⟨16,.q []⟩,⟨17,.q []⟩,⟨18,.q []⟩,⟨19,.q []⟩,⟨20,.q []⟩,⟨21,.e 0 []⟩,⟨22,.e 0 []⟩] mixed (by kernel_rfl) (by kernel_rfl) O O O<|zU O<|zU O<|zU O<|zU O<|zU O<|zU O<|zU O<|zU O<|zU O<|zU O<|zU O<|zU O<|zU O<|zU O<|zU O<|zU O<|zU O<|zU O<|zU O<|zU O<|zU O<|zU O<|zU O<|zAz<|qA O (by decide) O O (zF O wG O)<|qA O (by decide) O O (zF O yR O)<|qA O (by decide) O O (zH O U O (J 0 O) O)<|qA O (by decide) O O (zF O zFp O)<|qA O (by decide) O O (zV O qX O (J 0 O) O)<|qA O (by decide) O O (zF O zMt O)<|qA O (by decide) O O (zH O zCq O (J 0 O) O)<|qA O (by decide) O O (zF O zAk O)<|qA O (by decide) O O (zH O one3 O (J 0 O) O)<|qA O (by decide) O O (qH O el50 O O (by omega) (getR hs (by omega) (by omega)))<|qA O (by decide) O O (zV O qN O qD O)<|qA O (by decide) O O (zF O zMt O)<|qA O (by decide) O O (zH O zCq O (J 0 O) O)<|qA O (by decide) O O (zF O wN O)<|qA O (by decide) O O (zH O one3 O (J 0 O) O)<|qA O (by decide) O O (qH O el50 O O (by omega) (getR hs (by omega) (by omega)))<|qA O (by decide) O O (zV O qN O qD O)<|qA O (by decide) O O (qE O ok132 (ref04_Apply x.Val.N x.Ty (s.gR x.B) (s.gR x.C)) ⟨zC,O,zC,O,zC,O,zC,O,T⟩)<|qA O (by decide) O O (kW O O)<|qA O (by decide) O O (wM O O O)<|qA O (by decide) O O (wO O O O)<|zIx O O (by decide) O O (qS O zr59) ?_
   rintro _ _ ⟨b4,rfl,rfl⟩
   refine ⟨_,O,?_⟩
   refine zGq O O (by decide) O O (yL O W O O O (zEg 0 O O)) ?_
   rintro _ _ ⟨rfl,rfl⟩
   refine ⟨_,O,?_⟩
   refine zAy O<|G O<|zA<|Y O<|zL yY (J 3 O) O<|zD O wC<|zI one3 (J 2 O) O<|zL qN (J 0 O) O<|zZ O ok131 (zGt s x.A ((mO x.Val.N x.Ty (s.gR x.B) (s.gR x.C)).1) w hs a1 (by omega)) ⟨zC,O,zC,O,zC,O,T⟩<|G O<|rStR 1 r O<|G O<|zA<|zG<|R (zP yY O (J 1 O) O) (L O) ?_
   rw [cptr1 (by omega),cptv2 c2]
   rfl
  ·try simp only [sx] at c2
   refine Y O<|qQ O<|G O<|zA<|zE O (fun c3=>?_) (fun c3=>?_)
   ·try simp only [sx] at c3
    have hB:=fB (by omega)
    have hD:=fD c3
    have hT:=hT c3
    refine zK<|kG 21 1 [⟨0,.q []⟩,⟨1,.q [3]⟩,⟨2,.q []⟩,⟨3,.q []⟩,⟨4,.q [2]⟩,⟨5,.q []⟩,⟨6,.q []⟩,⟨7,.q []⟩,⟨8,.q [2]⟩,⟨9,.q []⟩,⟨10,.q [3]⟩,⟨11,.q []⟩,⟨12,.q [2]⟩,⟨13,.q []⟩,⟨14,.q []⟩,⟨15,.q []⟩,⟨16,.q []⟩,⟨17,.q []⟩,⟨18,.q []⟩,⟨19,.e 0 []⟩,⟨20,.e 0 []⟩] mixed (by kernel_rfl) (by kernel_rfl) O O O<|zU O<|zU O<|zU O<|zU O<|zU O<|zU O<|zU O<|zU O<|zU O<|zU O<|zU O<|zU O<|zU O<|zU O<|zU O<|zU O<|zU O<|zU O<|zU O<|zU O<|zU O<|zAz<|qA O (by decide) O O (zF O fd79_1 O)<|qA O (by decide) O O (zH O one27 O (J 0 O) O)<|qA O (by decide) O O (zF O wG O)<|qA O (by decide) O O (zF O yR O)<|qA O (by decide) O O (zH O U O (J 0 O) O)<|qA O (by decide) O O (qH O el27 O O (by omega) (D (ty_at (by omega))))<|qA O (by decide) O O (zV O qX O qD O)<|qA O (by decide) O O (zF O zFp O)<|qA O (by decide) O O (zV O qX O (J 0 O) O)<|qA O (by decide) O O (zF O zMt O)<|qA O (by decide) O O (zH O zCq O (J 0 O) O)<|qA O (by decide) O O (zF O zAk O)<|qA O (by decide) O O (zH O one3 O (J 0 O) O)<|qA O (by decide) O O (qH O el50 O O (by omega) (getR hs (by omega) (by omega)))<|qA O (by decide) O O (zV O qN O qD O)<|qA O (by decide) O O (qE O ok133 (ref04_Cast (s.tys.getD x.Val.N.toNat ⟨0,0,0,0,0⟩) x.Ty (s.gR x.B)) ⟨zC,O,zC,O,zC,O,T⟩)<|qA O (by decide) O O (kW O O)<|qA O (by decide) O O (wM O O O)<|qA O (by decide) O O (wO O O O)<|zIx O O (by decide) O O (qS O zr59) ?_
    rintro _ _ ⟨b5,rfl,rfl⟩
    refine ⟨_,O,?_⟩
    refine zGq O O (by decide) O O (yL O W O O O (zEg 0 O O)) ?_
    rintro _ _ ⟨rfl,rfl⟩
    refine ⟨_,O,?_⟩
    refine zAy O<|G O<|zA<|Y O<|zL yY (J 3 O) O<|zD O wC<|zI one3 (J 2 O) O<|zL qN (J 0 O) O<|zZ O ok131 (zGt s x.A ((mN (s.tys.getD x.Val.N.toNat ⟨0,0,0,0,0⟩) x.Ty (s.gR x.B)).1) w hs a1 (by omega)) ⟨zC,O,zC,O,zC,O,T⟩<|G O<|rStR 1 r O<|G O<|zA<|zG<|R (zP yY O (J 1 O) O) (L O) ?_
    rw [cptr1 (by omega),cptv3 c3]
    rfl
   ·try simp only [sx] at c3
    have hB:=fB (by omega)
    have h16:x.Op=16:=by omega
    refine zJ<|Y O<|zD O zFy<|zI zOe (J 2 O) O<|zD O zAk<|zI one3 (J 1 O) O<|qI O el64 (by omega) (getX hs (by omega) (by omega))<|zI U qD O<|G O<|zA<|zK<|Y O<|G O<|zAf O<|G O<|rL0 O (fun g11_2=>zO O O) O<|rL1 86 O (fun g11_2=>wI O O O) O<|r_or O (fun h=>(lzf h))<|zA<|zE O (fun c4=>?_) (fun c4=>?_)
    ·have c4:(decide (2147483647<s.gX x.B)||decide (s.gX x.B< -2147483647))=true:=c4
     refine Y O<|zL yY (J 2 O) O<|rStR 0 r O<|G O<|zA<|zG<|R (zP yY O (J 0 O) O) (L O) ?_
     rw [cptr2 h16 c4]
     rfl
    ·have c4:(decide (2147483647<s.gX x.B)||decide (s.gX x.B< -2147483647))=false:=c4
     refine zJ<|Y O<|zL yY (J 2 O) O<|zD O wC<|zI one3 (J 1 O) O<|G O<|qR O zr59 pl59<|zZ O ok131 (zGt s x.A (⟨s.gX x.B,1⟩) w hs a1 (by omega)) ⟨zC,O,zC,O,zC,O,T⟩<|rStR 0 r O<|G O<|zA<|zG<|R (zP yY O (J 0 O) O) (L O) ?_
     rw [cptr3 h16 c4]
     rfl
theorem ref49_test (s:Mc) (w:Int) (hs:s.Ok w) (x:In) (hx:fmd x=true) (h14:x.Op=14):
    Pur cfgO 100 [vMc s,vIn x] (.tup [vB (sC s x).1,vI (sC s x).2]):=by
 refine zR Tryz.func100 O Tryz.ntmps100 Tryz.results100 O ?_
 intro z hz
 obtain ⟨⟨a1,a2⟩,fB,fC,fo⟩:=zTj hx (by simp [dR,h14])
 obtain ⟨⟨b1,b2⟩,d1,d2⟩:=fB (by omega)
 refine Y O<|zW O O (qB O O) ?_
 rintro _ _ ⟨b1,rfl,rfl⟩
 refine zW O O (qB O O) ?_
 rintro _ _ ⟨b2,rfl,rfl⟩
 refine G O<|G O<|zA<|zK<|kG 15 2 [⟨0,.q []⟩,⟨1,.q [3]⟩,⟨2,.q []⟩,⟨3,.q [2]⟩,⟨4,.q []⟩,⟨5,.q []⟩,⟨6,.q []⟩,⟨7,.q [3]⟩,⟨8,.q []⟩,⟨9,.q [2]⟩,⟨10,.q []⟩,⟨11,.q []⟩,⟨12,.f 1⟩,⟨13,.f 0⟩,⟨14,.g 1 []⟩] mixed (by kernel_rfl) (by kernel_rfl) O O O<|zU O<|zU O<|zU O<|zU O<|zU O<|zU O<|zU O<|zU O<|zU O<|zU O<|zU O<|zU O<|zFb O O (zBe (qS O zr59)) ⟨_,_,0,O,O⟩<|zFb O O (zBe (qS O zr59)) ⟨_,_,0,O,O⟩<|zU O<|zAz<|qA O (by decide) O O (zF O zMt O)<|qA O (by decide) O O (zH O zCq O (J 0 O) O)<|qA O (by decide) O O (zF O zAk O)<|qA O (by decide) O O (zH O one3 O (J 0 O) O)<|qA O (by decide) O O (qH O el50 O O (by omega) (getR hs (by omega) (by omega)))<|qA O (by decide) O O (zV O qN O qD O)<|qA O (by decide) O O (zF O zMt O)<|qA O (by decide) O O (zH O zCq O (J 0 O) O)<|qA O (by decide) O O (zF O wN O)<|qA O (by decide) O O (zH O one3 O (J 0 O) O)<|qA O (by decide) O O (qH O el50 O O (by omega) (getR hs (by omega) (by omega)))<|qA O (by decide) O O (zV O qN O qD O)<|zEv O O ?_
 rintro _ _ ⟨b3,rfl,rfl⟩
 refine zEv O O ?_
 rintro _ _ ⟨b4,rfl,rfl⟩
 refine sq_v0 O O (by decide) O O O (yL O W O O O (zEg 0 O O)) O<|zAy O<|rStR 0 W O<|zA<|zK<|Y O<|zD O zFp<|zL qX (J 2 O) O<|zL qN (J 1 O) O<|zZ O ok32 (zFm x.Ty (s.gR x.B)) ⟨zC,O,zC,O,T⟩<|yT O<|G O<|rL0 O (fun g2_5=>zF O zFp O) O<|rL1 27 O (fun g2_5=>zV O qX O (J 2 O) O) O<|rL0 O (fun g2_5=>zV O qN O (J 0 O) O) O<|rLz [(28,_),(29,_)] O gv1 ⟨O,O,O,O,T⟩ (fun g2_5=>qE O ok32 (zFm x.Ty (s.gR x.C)) ⟨zC,O,zC,O,T⟩) O<|rL1 30 O (fun g2_5=>kA O O) O<|r_or O (fun h=>(lzf h))<|zA<|zE O (fun c1=>?_) (fun c1=>?_)
 ·have c1:(!(bD x.Ty&&bC x.Ty (s.gR x.B))|| !(bD x.Ty&&bC x.Ty (s.gR x.C)))=true:=c1
  refine Y O<|G O<|G O<|zA<|zG<|R (L O) (L O) ?_
  rw [tst1 c1]
 ·have c1:(!(bD x.Ty&&bC x.Ty (s.gR x.B))|| !(bD x.Ty&&bC x.Ty (s.gR x.C)))=false:=c1
  refine zJ<|Y O<|zD O zFp<|zL qX (J 2 O) O<|zL qN (J 1 O) O<|zL qN (J 0 O) O<|zZ O ok130 (zMf x.Ty (s.gR x.B) (s.gR x.C)) ⟨zC,O,zC,O,zC,O,T⟩<|G O<|zA<|Y O<|G O<|yF O<|G O<|rL0 O (fun g5_2=>zF O wG O) O<|rL1 41 O (fun g5_2=>zF O yR O) O<|rL1 42 O (fun g5_2=>zH O U O (J 2 O) O) O<|rL1 43 O (fun g5_2=>kT O O O) O<|yO O (fun h=>h)<|G O<|rL0 O (fun g5_8=>zO O O) O<|rL1 47 O (fun g5_8=>yM O O O) O<|rL1 48 O (fun g5_8=>zO O O) O<|rLz [] O A T (fun g5_11=>zF O wG O) O<|rLz [(50,_)] O A ⟨O,O,T⟩ (fun g5_11=>zF O yR O) O<|rLz [(51,_)] O A ⟨O,O,T⟩ (fun g5_11=>zH O U O (J 2 O) O) O<|rLz [(52,_)] O A ⟨O,O,T⟩ (fun g5_11=>kT O O O) O<|rL1 49 O (fun g5_8=>wF O O O (fun h=>kC (by assumption) h) O) O<|r_or O (fun h=>(lzf h))<|G O<|G O<|zA<|zG<|R (L O) (L O) ?_
  rw [tst2 c1]
  rfl
theorem ref49_Step (s:Mc) (w:Int) (hs:s.Ok w):
    Pur cfgO 61 [vMc s] (.tup [vMc (dX s).1,vB (dX s).2.1,vI (dX s).2.2]):=by
 refine zR Tryz.func61 O Tryz.ntmps61 Tryz.results61 O ?_
 intro z hz
 refine Y O<|zW O O (qB O O) ?_
 rintro _ _ ⟨b1,rfl,rfl⟩
 refine zW O O (qT [some 11,some 5,none,some 1,some 2,some 2,none] O zr79 O) ?_
 rintro _ _ ⟨b2,rfl,rfl⟩
 refine G O<|G O<|zA<|zK<|Y O<|zD O fd79_6<|zI one4 (J 1 O) O<|zA<|zE O (fun c1=>?_) (fun c1=>?_)
 ·try simp only [sx] at c1
  refine Y O<|zL yY (J 1 O) O<|rStR 0 r O<|G O<|G O<|zA<|zG<|fin3 (zP yY O (J 0 O) O) (L O) (L O) ?_
  rw [stepM1 c1]
  rfl
 ·try simp only [sx] at c1
  have hl0:s.hl=false:=by simpa using c1
  refine zJ<|zK<|Y O<|zD O zBn<|zI one3 (J 1 O) O<|zD O fd79_0<|zI one26 (J 1 O) O<|qC O el26<|zX O (kB O O O)<|zA<|zE O (fun c2=>?_) (fun c2=>?_)
  ·try simp only [sx] at c2
   have c2:(s.code.length:Int)<=s.pc:=by simpa only [List.length_map] using c2
   refine Y O<|zL yY (J 1 O) O<|rStR 0 r O<|G O<|G O<|zA<|zG<|fin3 (zP yY O (J 0 O) O) (L O) (L O) ?_
   rw [stepM2 hl0 c2]
   rfl
  ·try simp only [sx] at c2
   have h3:¬(s.code.length:Int)<=s.pc:=by (try simp only [List.length_map] at c2);omega
   obtain ⟨hget,hok⟩:=hs.insOk (by omega)
   obtain ⟨hf,hJ,hMm,hT⟩:=inOk_fmd hok
   have hpc:=hs.hp
   have hcl:=hs.hn
   refine zJ<|Y O<|zD O fd79_0<|zI one26 (J 1 O) O<|zD O zBn<|zI one3 (J 1 O) O<|qI O el26 (by omega) (D hget)<|zL zDc qD O<|zW O O (qS O zr61) ?_
   rintro _ _ ⟨b3,rfl,rfl⟩
   refine rStR 0 sz61 O<|zA<|Y O<|zL yY (J 2 O) O<|zW O O (qT [some 11,some 5,none,some 1,some 2,some 2,none] O zr79 O) ?_
   rintro _ _ ⟨b4,rfl,rfl⟩
   refine rStR 0 r O<|G O<|G O<|zA<|zK<|Y O<|zD O zBo<|zI one3 (J 1 O) O<|zA<|zT<|Y O<|qQ O<|G O<|zA<|zE O (fun c3=>?_) (fun c3=>?_)
   ·try simp only [sx] at c3
    refine Y O<|zD O fd79_6<|rStR 3 sz4 O<|zA<|Y O<|zL yY (J 3 O) O<|rStR 2 r O<|G O<|G O<|zA<|zG<|fin3 (zP yY O (J 2 O) O) (L O) (L O) ?_
    rw [stepM3 hl0 h3 c3]
    rfl
   ·try simp only [sx] at c3
    refine Y O<|qQ O<|G O<|zA<|zE O (fun c4=>?_) (fun c4=>?_)
    ·try simp only [sx] at c4
     have hj:dR s.ins.Op=true:=by simp [dR];omega
     refine zQ O<|G O<|zA<|zK<|Y O<|G O<|yQ O<|zA<|zE O (fun c13=>?_) (fun c13=>?_)
     ·try simp only [sx] at c13
      exact absurd T c13
     ·try simp only [sx] at c13
      have hd0:doM s s.ins=(s,0):=by rw [doM1 hj,jmpv1 c4]
      refine zJ<|Y O<|zD O zBn<|zI one3 (J 3 O) O<|qF O ⟨by omega,by omega⟩<|zD O zBn<|rStR 0 sz3 O<|zA<|zK<|Y O<|G O<|zA<|zE O (fun c14=>?_) (fun c14=>?_)
      ·have hnx:dY s s.ins=s.ins.A:=next1 hj (by rw [jmpv1 c4])
       exact j0
      ·try simp only [sx] at c14
       exact absurd c14 (by decide)
    ·try simp only [sx] at c4
     refine Y O<|qQ O<|G O<|zA<|zE O (fun c5=>?_) (fun c5=>?_)
     ·try simp only [sx] at c5
      have hj:dR s.ins.Op=true:=by simp [dR];omega
      obtain ⟨fA,fB,fC,fo⟩:=zTj hf hj
      obtain ⟨⟨b1,b2⟩,d1,d2⟩:=fB (by omega)
      refine qV 14 mixed (by kernel_rfl) O O<|zN O O (zF O zFy O)<|zN O O (zH O zOe O (J 3 O) O)<|zN O O (zF O zAk O)<|zN O O (zH O one3 O (J 1 O) O)<|zN O O (qH O el64 O O (by omega) (getX hs (by omega) (by omega)))<|zN O O (zH O U O qD O)<|zN O O (zF O zFy O)<|zN O O (zH O zOe O (J 3 O) O)<|zN O O (zF O wN O)<|zN O O (zH O one3 O (J 1 O) O)<|zN O O (qH O el64 O O (by omega) (getX hs (by omega) (by omega)))<|zN O O (zH O U O qD O)<|zN O O (wI O O O)<|zN O O (yE O O)<|yK<|zA<|zK<|Y O<|G O<|yQ O<|zA<|zE O (fun c13=>?_) (fun c13=>?_)
      ·try simp only [sx] at c13
       exact absurd T c13
      ·try simp only [sx] at c13
       have hd0:doM s s.ins=(s,0):=by rw [doM1 hj,jmpv2 c5]
       refine zJ<|Y O<|zD O zBn<|zI one3 (J 3 O) O<|qF O ⟨by omega,by omega⟩<|zD O zBn<|rStR 0 sz3 O<|zA<|zK<|Y O<|G O<|zA<|zE O (fun c14=>?_) (fun c14=>?_)
       ·try simp only [sx] at c14
        have hnx:dY s s.ins=s.ins.A:=next1 hj (by rw [jmpv2 c5];exact decide_eq_true c14)
        exact j0
       ·try simp only [sx] at c14
        have hnx:dY s s.ins=s.pc+1:=next2 (by rw [jmpv2 c5];simpa using c14)
        exact v19
     ·try simp only [sx] at c5
      refine Y O<|qQ O<|G O<|zA<|zE O (fun c6=>?_) (fun c6=>?_)
      ·try simp only [sx] at c6
       have h14:=c6
       have hj:dR s.ins.Op=true:=by simp [dR];omega
       refine Y O<|zL yY (J 3 O) O<|zL zDc (J 1 O) O<|zZ O ok100 (ref49_test s w hs s.ins hf h14) ⟨zC,O,zC,O,T⟩<|qW O<|qY O<|qY O<|G O<|G O<|zA<|Y O<|G O<|yT O<|G O<|zA<|zQ O<|G O<|G O<|zA<|zK<|Y O<|G O<|yQ O<|zA<|zE O (fun c13=>?_) (fun c13=>?_)
       ·try simp only [sx] at c13
        have hd:=doM1 (s:=s) hj
        rw [(zRu h14).1] at c13
        have hE:=c13
        rw [(zRu h14).1]
        exact v25
       ·try simp only [sx] at c13
        have hE:=(zRu h14).1.symm.trans c13
        have hd0:doM s s.ins=(s,0):=by rw [doM1 hj,hE]
        refine zJ<|Y O<|zD O zBn<|zI one3 (J 3 O) O<|qF O ⟨by omega,by omega⟩<|zD O zBn<|rStR 0 sz3 O<|zA<|zK<|Y O<|G O<|zA<|zE O (fun c14=>?_) (fun c14=>?_)
        ·try simp only [sx] at c14
         have hnx:dY s s.ins=s.ins.A:=next1 hj (((zRu h14).2 c13).trans (by rw [c14];rfl))
         exact j0
        ·try simp only [sx] at c14
         have hnx:dY s s.ins=s.pc+1:=next2 (((zRu h14).2 c13).trans (by rw [c14];rfl))
         exact v19
      ·try simp only [sx] at c6
       have hjn:dR s.ins.Op=false:=by simp [dR];omega
       refine zK<|Y O<|qQ O<|G O<|zA<|zE O (fun c7=>?_) (fun c7=>?_)
       ·try simp only [sx] at c7
        have hm:gN s.ins.Op=true:=by simp [gN];omega
        refine zJ<|zE O (fun c8=>?_) (fun c8=>?_)
        ·exact o5
        ·try simp only [sx] at c8
         exact absurd c7 c8
       ·try simp only [sx] at c7
        refine zQ O<|qQ O<|G O<|zA<|zE O (fun c8=>?_) (fun c8=>?_)
        ·exact o5
        ·try simp only [sx] at c8
         have hmn:gN s.ins.Op=false:=by simp [gN];omega
         refine zK<|Y O<|qQ O<|G O<|zA<|zE O (fun c9=>?_) (fun c9=>?_)
         ·try simp only [sx] at c9
          have hp:fQ s.ins.Op=true:=by simp [fQ];omega
          refine zJ<|zE O (fun c12=>?_) (fun c12=>?_)
          ·exact w6
          ·try simp only [sx] at c12
           exact absurd c9 c12
         ·try simp only [sx] at c9
          refine Y O<|qQ O<|G O<|zA<|zE O (fun c10=>?_) (fun c10=>?_)
          ·try simp only [sx] at c10
           have hp:fQ s.ins.Op=true:=by simp [fQ];omega
           refine zJ<|zE O (fun c12=>?_) (fun c12=>?_)
           ·exact w6
           ·try simp only [sx] at c12
            exact absurd c10 c12
          ·try simp only [sx] at c10
           refine Y O<|qQ O<|G O<|zA<|zE O (fun c11=>?_) (fun c11=>?_)
           ·try simp only [sx] at c11
            have hp:fQ s.ins.Op=true:=by simp [fQ];omega
            refine zJ<|zE O (fun c12=>?_) (fun c12=>?_)
            ·exact w6
            ·try simp only [sx] at c12
             exact absurd c11 c12
           ·try simp only [sx] at c11
            refine zQ O<|qQ O<|G O<|zA<|zE O (fun c12=>?_) (fun c12=>?_)
            ·exact w6
            ·try simp only [sx] at c12
             have hpn:fQ s.ins.Op=false:=by simp [fQ];omega
             refine zQ O<|zL yY (J 3 O) O<|zL zDc (J 1 O) O<|zZ O ok103 (ref49_integer s w hs s.ins hf ⟨hjn,hmn,hpn,c3⟩) ⟨zC,O,zC,O,T⟩<|rStR 0 r O<|zA<|zK<|Y O<|G O<|yQ O<|zA<|zE O (fun c13=>?_) (fun c13=>?_)
             ·try simp only [sx] at c13
              exact absurd T c13
             ·try simp only [sx] at c13
              have hd0:doM s s.ins=(s.sX s.ins.A (lR s s.ins),0):=doM4 hjn hmn hpn
              exact t7
theorem ref49_Run (s:Mc) (f w:Int) (hs:s.Ok w):
    Pur cfgO 30 [vMc s,vI f] (.tup [vMc (dN s f).1,vI (dN s f).2.1,vI (dN s f).2.2]):=by
 refine zR Tryz.func30 O Tryz.ntmps30 Tryz.results30 O ?_
 intro z hz
 refine Y O<|zW O O (qB O O) ?_
 rintro _ _ ⟨b1,rfl,rfl⟩
 refine zW O O (qT [some 11,some 5,none,some 1,some 2,some 2,none] O zr79 O) ?_
 rintro _ _ ⟨b2,rfl,rfl⟩
 refine G O<|G O<|zA<|zK<|Y O<|G O<|yF O<|G O<|rL0 O (fun g1_2=>zO O O) O<|rL1 14 O (fun g1_2=>kD O O O) O<|r_or O (fun h=>(lzf h))<|zA<|zE O (fun c1=>?_) (fun c1=>?_)
 ·have hf:f<0∨16777216<f:=by simpa using c1
  refine Y O<|zL yY (J 1 O) O<|rStR 0 r O<|G O<|G O<|zA<|zG<|fin3 (zP yY O (J 0 O) O) (L O) (L O) ?_
  rw [runX_no hf]
  rfl
 ·have hf:¬(f<0∨16777216<f):=by simpa using c1
  refine zJ<|Y O<|G O<|zA<|zK<|zT<|zY ⟨[(7,.c _),(1,.c _),(2,.c _),(4,.c _)],[_,_]⟩ (Weak.mk [true,true] ⟨zC,zC,zC,zC,T⟩ O)<|qG 1 2 O O (Nat×Mc) (fun ⟨k,t⟩=>[(7,vI k)]) (fun ⟨k,t⟩=>[E.row b2 79 [.sl 11 [],.sl 5 [],cI 0,.sl 1 [],.sl 2 [],.sl 2 [],.lit (.bool false)],E.row b1 79 [.sl 11 (t.code.map In.cells),.sl 5 (t.tys.map Ty.cells),cI t.pc,.sl 1 (t.X.map fun n=>[cI n]),.sl 2 (t.R.map Vl.cells),.sl 2 (t.M.map Vl.cells),.lit (.bool t.hl)]]) (fun ⟨k,t⟩=>k<=f.toNat/\t.Ok w/\mA (f.toNat-k) t k=mA f.toNat s 0) (fun ⟨k,t⟩=>f.toNat-k) ⟨⟨0,s⟩,⟨by omega,hs,O⟩,Weak.mk [true,true] ⟨zC,zC,zC,zC,T⟩ O⟩ ?_
  rintro ⟨k,t⟩ ⟨hk,hs,hr⟩
  refine zK<|Y O<|zD O fd79_6<|zI one4 (J 1 O) O<|yT O<|zA<|zE O (fun c2=>?_) (fun c2=>?_)
  ·try simp only [sx] at c2
   have hl0:t.hl=false:=by simpa using c2
   refine zJ<|zT<|zK<|Y O<|G O<|G O<|qQ O<|zA<|zE O (fun c3=>?_) (fun c3=>?_)
   ·try simp only [sx] at c3
    have hz0:f.toNat-k=0:=by omega
    refine Y O<|zL yY (J 1 O) O<|rStR 0 r O<|G O<|G O<|zA<|zG<|fin3 (zP yY O (J 0 O) O) (L O) (L O) ?_
    rw [zKf hf,←hr,hz0,runM_0 hl0]
    rfl
   ·try simp only [sx] at c3
    have hz1:f.toNat-k=(f.toNat-(k+1))+1:=by omega
    refine zJ<|Y O<|zL yY (J 1 O) O<|zZ O ok61 (ref49_Step t w hs) ⟨zC,O,T⟩<|qW O<|yD O<|qY O<|qY O<|zW O O (qT [some 11,some 5,none,some 1,some 2,some 2,none] O zr79 O) ?_
    rintro _ _ ⟨b3,rfl,rfl⟩
    refine rStR 0 r O<|G O<|G O<|zA<|zK<|Y O<|G O<|yQ O<|zA<|zE O (fun c4=>?_) (fun c4=>?_)
    ·try simp only [sx] at c4
     refine Y O<|zL yY (J 2 O) O<|G O<|rStR 1 r O<|G O<|G O<|zA<|zG<|fin3 (zP yY O (J 1 O) O) (L O) (L O) ?_
     rw [zKf hf,←hr,hz1,runM_e hl0 c4]
     rfl
    ·try simp only [sx] at c4
     refine zJ<|Y O<|zL yY (J 0 O) O<|rStR 2 r O<|zA<|zQ O<|G O<|qF O ⟨by omega,by omega⟩<|G O<|zA ?_
     refine ⟨⟨k+1,(dX t).1⟩,⟨by omega,stepM_ok hs,by rw [←hr,hz1,runM_s hl0 c4];rfl⟩,(by show f.toNat-(k+1)<f.toNat-k;omega),Weak.mk [false,true,true] ⟨zC,zC,zC,zC,T⟩ O⟩
  ·try simp only [sx] at c2
   have hl1:t.hl=true:=by simpa using c2
   refine qM<|Y O<|zL yY (J 1 O) O<|G O<|rStR 0 r O<|G O<|G O<|zA<|zG<|fin3 (zP yY O (J 0 O) O) (L O) (L O) ?_
   rw [zKf hf,←hr,runM_hl hl1]
   rfl
theorem ref49_zerosW (w:Int) (h0:0<=w) (h:w<=1048576):OwnR cfgO 59 [vI w] 59 2 ((List.replicate w.toNat (⟨0,1⟩:Vl)).map Vl.cells):=by
  have e:=zSk w.toNat (by omega)
  rw [Int.toNat_of_nonneg h0] at e
  exact e
theorem ref49_New (code:List In) (tys:List Ty) (w:Int) (htl:tys.length<=1000000):
    Pur cfgO 25 [sV code,sU tys,vI w] (.tup [vMc (vD code tys w).1,vI (vD code tys w).2]):=by
 refine zR Tryz.func25 O Tryz.ntmps25 Tryz.results25 O ?_
 intro z hz
 refine Y O<|zW O O (qT [some 11,some 5,none,some 1,some 2,some 2,none] O zr79 O) ?_
 rintro _ _ ⟨b1,rfl,rfl⟩
 refine G O<|zA<|zK<|Y O<|G O<|G O<|G O<|zZ O ok58 (ref47_Validate code tys w htl) ⟨zC,O,zC,O,zC,O,T⟩<|qW O<|qY O<|qY O<|G O<|G O<|zA<|Y O<|G O<|yQ O<|zA<|zE O (fun c1=>?_) (fun c1=>?_)
 ·try simp only [sx] at c1
  refine Y O<|zX O (kY [some 11,some 5,none,some 1,some 2,some 2,none] O zr79 pl79 O O)<|G O<|rStR 0 r O<|G O<|zA<|zG<|R (zP yY O (J 0 O) O) (L O) ?_
  rw [newr2 c1]
  rfl
 ·try simp only [sx] at c1
  obtain ⟨h1,h2,h3,h4,h5⟩:=vld_ok c1
  refine zJ<|zK<|kG 6 1 [⟨0,.q []⟩,⟨1,.q []⟩,⟨3,.q []⟩,⟨4,.q []⟩,⟨5,.q []⟩,⟨2,.f 0⟩] mixed (by kernel_rfl) (by kernel_rfl) O O O<|zU O<|zU O<|zU O<|zU O<|zU O<|zFb O O (fresh_own (ope_make 256 O el64 zr2 O O O O (by omega) (by omega))) ⟨_,_,.slice none 0 0,O,O⟩<|zAz<|qA O (by decide) O O (zO O O)<|qA O (by decide) O O (zO O O)<|qA O (by decide) O O (qE O ok59 (OwnR.pur (zSk 256 (by decide))) ⟨zC,O,T⟩)<|qA O (by decide) O O (zO O O)<|qA O (by decide) O O (qE O ok59 (OwnR.pur (ref49_zerosW w (by omega) (by omega))) ⟨zC,O,T⟩)<|zEv O O ?_
  rintro _ _ ⟨sv2,rfl,rfl⟩
  refine zAy O<|yZ _ (kS 0 O (regs':=[(23,_)]) (μ':=[_]) ⟨FLe.sl,T⟩ ⟨EFle.refl _,T⟩)<|qR O zr79 pl79<|rStR 0 r O<|G O<|zA<|zG<|R (zP yY O (J 0 O) O) (L O) ?_
  rw [newr1 c1]
  exact congrArg (fun q=>V.tup [q,vI 0]) (new_st code tys w).symm
end Go.W
end
section
set_option maxRecDepth 10000
namespace Go.W
open Go Go.Eng Go.Proofs Go.L41 Go.Br
attribute [local irreducible] AWP RWP TD fT
theorem el28:dK Tryz.prog 28=some (49,3,32):=by kernel_rfl
theorem fd30_0:bE Tryz.prog 30 0=some (0,26):=by kernel_rfl
theorem fd30_1:bE Tryz.prog 30 1=some (1,27):=by kernel_rfl
theorem fd30_2:bE Tryz.prog 30 2=some (2,28):=by kernel_rfl
theorem fd30_3:bE Tryz.prog 30 3=some (3,3):=by kernel_rfl
theorem fd49_0:bE Tryz.prog 49 0=some (0,9):=by kernel_rfl
theorem ok35:bA Tryz.prog 35=true:=by kernel_rfl
theorem ok36:bA Tryz.prog 36=true:=by kernel_rfl
theorem ok37:bA Tryz.prog 37=true:=by kernel_rfl
theorem ok38:bA Tryz.prog 38=true:=by kernel_rfl
theorem ok39:bA Tryz.prog 39=true:=by kernel_rfl
theorem one28:jL Tryz.prog 28=true:=by kernel_rfl
theorem pl101:fG Tryz.prog 101=some [(0,1),(1,1),(2,1),(3,1),(4,256),(260,512),(772,1),(773,1)]:=by kernel_rfl
theorem base_Vals (l:List Vl) (hl:l.length<=140737488355328):
    Pur cfgO 65 [jM l,jM l] (vB true):=by
 refine zR Tryz.func65 O Tryz.ntmps65 Tryz.results65 O ?_
 intro z hz
 refine Y O<|G O<|zA<|zK<|Y O<|G O<|qC O el50<|G O<|qC O el50<|yQ O<|zA<|zE O (fun c1=>?_) (fun c1=>?_)
 ·exact v24
 ·try simp only [sx] at c1
  refine zJ<|zK<|Y O<|G O<|zA<|zT<|zY ⟨[(5,.c _),(0,.c _),(1,.c _)],[]⟩ (Weak.mk [] ⟨zC,zC,zC,T⟩ O)<|qG 1 0 O O (Nat) (fun k=>[(5,vI k)]) (fun k=>[]) (fun k=>k<=l.length) (fun k=>l.length-k) ⟨0,(by omega),Weak.mk [] ⟨zC,zC,zC,T⟩ O⟩ ?_
  rintro k hk
  refine zK<|Y O<|G O<|G O<|qC O el50<|yF O<|zA<|zE O (fun c2=>?_) (fun c2=>?_)
  ·try simp only [sx] at c2
   obtain ⟨x,hx⟩:=yC l k (by omega)
   refine zJ<|zK<|zT<|zK<|qV 9 mixed (by kernel_rfl) O O<|zN O O (zO O O)<|zN O O (zO O O)<|zN O O (qH O el50 O O (by omega) (D (by assumption)))<|zN O O (zV O qN O qD O)<|zN O O (zO O O)<|zN O O (zO O O)<|zN O O (qH O el50 O O (by omega) (D hx))<|zN O O (zV O qN O qD O)<|zN O O (zAu O fl59 O O O)<|yK<|zA<|zE O (fun c3=>?_) (fun c3=>?_)
   ·try simp only [sx] at c3
    exact absurd c3 (by first|(rw [show List.take 2 x.cells=x.cells from rfl,vl_lits];simp;done)|simp)
   ·try simp only [sx] at c3
    refine zJ<|zQ O<|G O<|qF O ⟨by omega,by omega⟩<|G O<|zA ?_
    refine ⟨k+1,(by omega),(by omega),Weak.mk [] ⟨zC,zC,zC,T⟩ O⟩
  ·refine qM<|Y O<|G O<|zA<|zG<|zS O ?_
   exact O
theorem law49_Few (u:Un0) (hf:u.Fit):
    Pur cfgO 5 [vU0 u] (vB u.few):=by
 refine zR Tryz.func5 O Tryz.ntmps5 Tryz.results5 O ?_
 intro z hz
 have hs1:=hf.hs
 have hc1:=hf.hc
 have ht1:=hf.ht
 refine Y O<|zW O O (qB O O) ?_
 rintro _ _ ⟨b1,rfl,rfl⟩
 refine G O<|zA<|zK<|Y O<|G O<|zA<|zT<|zY ⟨[(3,.c _),(1,.c _)],[_]⟩ (Weak.mk [true] ⟨zC,zC,T⟩ O)<|qG 1 0 O O (Nat) (fun k=>[(3,vI k)]) (fun k=>[]) (fun k=>k<=u.slots.length/\((u.slots.take k).any (fun x=>decide ((100:Int)<(x.Name.size:Int)))=false)) (fun k=>u.slots.length-k) ⟨0,⟨by omega,O⟩,Weak.mk [true] ⟨zC,zC,T⟩ O⟩ ?_
 rintro k ⟨hk,hp⟩
 refine zK<|Y O<|G O<|zD O fd30_2<|zI one28 (J 0 O) O<|qC O el28<|yF O<|zA<|zE O (fun c1=>?_) (fun c1=>?_)
 ·try simp only [sx] at c1
  obtain ⟨x,hx⟩:=yC u.slots k (by omega)
  refine zJ<|zK<|zT<|Y O<|zD O fd30_2<|zI one28 (J 0 O) O<|G O<|qI O el28 (by omega) (D (by assumption))<|yB O fd49_0<|zI one9 qD O<|zX O (wT O un9 O)<|zAf O<|zA<|zE O (fun c2=>?_) (fun c2=>?_)
  ·try simp only [sx] at c2
   refine Y O<|G O<|zA<|zG<|zS O ?_
   rw [few_no hx c2]
  ·try simp only [sx] at c2
   refine zJ<|zQ O<|G O<|qF O ⟨by omega,by omega⟩<|G O<|zA ?_
   refine ⟨k+1,⟨by omega,zAj hx hp (decide_eq_false (by omega))⟩,(by omega),Weak.mk [true] ⟨zC,zC,T⟩ O⟩
 ·try simp only [sx] at c1
  have hend:¬k<u.slots.length:=by omega
  refine qM<|Y O<|zD O fd30_0<|zI one26 (J 0 O) O<|qC O el26<|zX O (kH O O O)<|G O<|rL0 O (fun g6_4=>zF O fd30_1 O) O<|rL1 24 O (fun g6_4=>zH O one27 O (J 0 O) O) O<|rL1 25 O (fun g6_4=>yH O el27 O) O<|rL1 26 O (fun g6_4=>kH O O O) O<|yO O (fun h=>h)<|G O<|rL0 O (fun g6_10=>zF O fd30_2 O) O<|rL1 30 O (fun g6_10=>zH O one28 O (J 0 O) O) O<|rL1 31 O (fun g6_10=>yH O el28 O) O<|rL1 32 O (fun g6_10=>kH O O O) O<|yO O (fun h=>h)<|G O<|rL0 O (fun g6_16=>zF O fd30_3 O) O<|rL1 36 O (fun g6_16=>zH O one3 O (J 0 O) O) O<|rL1 37 O (fun g6_16=>kH O O O) O<|rL1 38 O (fun g6_16=>zO O O) O<|rLz [] O A T (fun g6_20=>zF O fd30_3 O) O<|rLz [(40,_)] O A ⟨O,O,T⟩ (fun g6_20=>zH O one3 O (J 0 O) O) O<|rLz [(41,_)] O A ⟨O,O,T⟩ (fun g6_20=>kD O O O) O<|rL1 39 O (fun g6_16=>zAl O O O O (fun h=>kC (by assumption) (lzf h))) O<|yO O (fun h=>h)<|G O<|zA<|zG<|zS O ?_
  rw [few_yes hend hp]
theorem zrM:dM Tryz.prog 101=some zM:=by kernel_rfl
theorem fillM (sv:Value) (code:List In) (tys:List Ty) (M:List Vl):mK (nth [(0,1),(1,1),(2,1),(3,1),(4,256),(260,512),(772,1),(773,1)]) (zM.map .lit) [(0,.c (.lit (.bool true))),(1,.c (.sl 11 (code.map In.cells))),(2,.c (.sl 5 (tys.map Ty.cells))),(3,.c (.lit sv))]=some (mcC sv ⟨code,tys,0,List.replicate 256 0,List.replicate 256 ⟨0,0⟩,M,false⟩):=by kernel_rfl
theorem repeatW (v:Vl) (w:Int) (h0:0<=w) (h:w<=1048576):OwnR cfgO 38 [jM [v],vI w] 59 2 ((List.replicate w.toNat v).map Vl.cells):=by
  have e:=zNv v w.toNat (by omega)
  rw [Int.toNat_of_nonneg h0] at e
  exact e
theorem vm_New_bad (u:Un0) (ht:u.tys.length<=1000000) (hv:¬(vld u.code u.tys u.words).2=0):
    Pur cfgO 12 [vU0 u] (.tup [.c (.lit (.pointer none)),vI (vld u.code u.tys u.words).2]):=by
 refine zR Tryz.func12 O Tryz.ntmps12 Tryz.results12 O ?_
 intro z hz
 refine Y O<|zW O O (qB O O) ?_
 rintro _ _ ⟨b1,rfl,rfl⟩
 refine G O<|G O<|zA<|zK<|Y O<|zD O fd30_0<|zI one26 (J 0 O) O<|zD O fd30_1<|zI one27 (J 0 O) O<|zD O fd30_3<|zI one3 (J 0 O) O<|zZ O ok35 (zPl u.code u.tys u.words ht) ⟨zC,O,zC,O,zC,O,T⟩<|qW O<|qY O<|qY O<|G O<|G O<|zA<|Y O<|G O<|yQ O<|zA<|zE O (fun c1=>?_) (fun c1=>?_)
 ·refine Y O<|G O<|G O<|G O<|zA<|zG<|R (L O) (L O) ?_
  exact O
 ·try simp only [sx] at c1
  exact absurd c1 hv
theorem zLx (u:Un0) (ht:u.tys.length<=1000000) (hv:(vld u.code u.tys u.words).2=0):
    Con cfgO 12 [vU0 u] [] fun r μ'=>∃b sv,r=.tup [vPt b,vI 0]/\μ'=mcE b sv (dJ u.code u.tys u.words):=by
 refine zR Tryz.func12 O Tryz.ntmps12 Tryz.results12 O ?_
 intro z hz
 obtain ⟨v1,v2,v3,v4,v5⟩:=vld_ok hv
 refine Y O<|zW O O (qB O O) ?_
 rintro _ _ ⟨b1,rfl,rfl⟩
 refine G O<|G O<|zA<|zK<|Y O<|zD O fd30_0<|zI one26 (J 0 O) O<|zD O fd30_1<|zI one27 (J 0 O) O<|zD O fd30_3<|zI one3 (J 0 O) O<|zZ O ok35 (zPl u.code u.tys u.words ht) ⟨zC,O,zC,O,zC,O,T⟩<|qW O<|qY O<|qY O<|G O<|G O<|zA<|Y O<|G O<|yQ O<|zA<|zE O (fun c1=>?_) (fun c1=>?_)
 ·try simp only [sx] at c1
  exact absurd hv c1
 ·try simp only [sx] at c1
  refine zJ<|zK<|qV 10 mixed (by kernel_rfl) O O<|zN O O (zF O fd30_0 O)<|zN O O (zH O one26 O (J 0 O) O)<|zN O O (qE O ok36 (OwnR.pur (zSd u.code (by omega))) ⟨zC,O,T⟩)<|zN O O (zF O fd30_1 O)<|zN O O (zH O one27 O (J 0 O) O)<|zN O O (qE O ok37 (OwnR.pur (zSc u.tys (by omega))) ⟨zC,O,T⟩)<|zN O O (qE O ok39 (vm_zero) T)<|zN O O (yS O el50 zr59 O O O O)<|zN O O (zF O fd30_3 O)<|zN O O (zH O one3 O (J 0 O) O)<|yK<|zW O O (ope_call_own O ok38 (repeatW ⟨0,1⟩ u.words v2 v3) ⟨zC,O,zC,O,T⟩) ?_
  rintro _ _ ⟨sv2,rfl,rfl⟩
  refine zX O (zBp O zrM pl101 (fillM _ u.code u.tys (List.replicate u.words.toNat ⟨0,1⟩)))<|zW O O (qB O O) ?_
  rintro _ _ ⟨b3,rfl,rfl⟩
  refine G O<|zA<|zK<|Y O<|G O<|zA<|zT<|zY ⟨[(34,.c _),(6,.c _)],[_,_]⟩ (Weak.mk [true,true,false] ⟨zC,zC,T⟩ O)<|qG 1 1 O O (Nat) (fun k=>[(34,vI k)]) (fun k=>[E.row b3 101 (mcC sv2 (vF u.code u.tys u.words k))]) (fun k=>k<=256) (fun k=>256-k) ⟨0,(Nat.zero_le _),Weak.mk [true,true] ⟨zC,zC,T⟩ O⟩ ?_
  rintro k hk
  refine Y O<|yF O<|zA<|zK<|zE O (fun c2=>?_) (fun c2=>?_)
  ·try simp only [sx] at c2
   refine zJ<|zK<|zT<|Y O<|G O<|G O<|zA<|qV 6 mixed (by kernel_rfl) O O<|zN O O (zO O O)<|zN O O (zO O O)<|zN O O (qE O ok39 (vm_zero) T)<|zN O O (qJ O O)<|zN O O (zF O zEa O)<|zN O O (yU O ar99 O O (by omega) (by omega))<|yK<|kP O O (yL O W O O O (wQ 0 O (by rw [zBc (newK_ok hv hk)];show 0+260+(k:Int).toNat*2+2<=774;omega) (mc_sR (newK_ok hv hk) ⟨0,1⟩ (by omega) (by omega))))<|zA<|zQ O<|qF O ⟨by omega,by omega⟩<|G O<|zA ?_
   refine ⟨(k+1),(by omega),(by omega),Weak.mk [true,true] ⟨zC,zC,T⟩ (by rw [←newK_next (by omega)];rfl)⟩
  ·try simp only [sx] at c2
   refine qM<|Y O<|G O<|G O<|G O<|zA<|zG<|R (L O) (L O) ?_
   exact ⟨_,_,O,by rw [←newK_all,show (256:Nat)=k by omega];rfl⟩
end Go.W
end
section
set_option maxRecDepth 10000
namespace Go.W
open Go Go.Eng Go.Proofs Go.L41 Go.Br
attribute [local irreducible] AWP RWP TD fT
end Go.W
end
section
set_option maxRecDepth 10000
namespace Go.W
open Go Go.Eng Go.Proofs Go.L41 Go.Br
attribute [local irreducible] AWP RWP TD fT
theorem ok12:bA Tryz.prog 12=true:=by kernel_rfl
theorem ok13:bA Tryz.prog 13=true:=by kernel_rfl
theorem ok14:bA Tryz.prog 14=true:=by kernel_rfl
theorem ok15:bA Tryz.prog 15=true:=by kernel_rfl
theorem pl30:fG Tryz.prog 30=some [(0,1),(1,1),(2,1),(3,1)]:=by kernel_rfl
theorem zr30:dM Tryz.prog 30=some [(Value.slice none 0 0),(Value.slice none 0 0),(Value.slice none 0 0),(Value.int IntKind.i64 0)]:=by kernel_rfl
theorem law49_live  :
    Pur cfgO 7 [] (vB true):=by
 refine zR Tryz.func7 O Tryz.ntmps7 Tryz.results7 O ?_
 intro z hz
 have h1:(dN m1 10).1.Ok 0:=runX_ok (zHu v1) 10
 have h1X:=h1.hX
 refine Y O<|G O<|zA<|Y O<|qR O zr61 pl61<|qR O zr61 pl61<|zX O (yS O el26 zr61 O O O O)<|zX O (kY [none,some 5,some 3,none] O zr30 pl30 O O)<|zW O O (zBw O ok12 (Con.frame (zLx u1 (by decide) v1) _) ⟨zC,O,T⟩) ?_
 rintro _ _ ⟨_,⟨b_1,sv_1,rfl,rfl⟩,rfl⟩
 refine qW O<|qY O<|qY O<|G O<|G O<|zA<|zK<|Y O<|G O<|yQ O<|G O<|rL0 O (fun g2_2=>zO O O) O<|rL1 25 O (fun g2_2=>zOs O O O un55) O<|r_or O (fun h=>(lzf h))<|zA<|zE O (fun c1=>?_) (fun c1=>?_)
 ·exact v24
 ·try simp only [sx] at c1
  refine zJ<|Y O<|G O<|zX O (kX [0,0] O ok13 (vm_Run b_1 sv_1 m1 0 (zHu v1) 10) ⟨zC,O,zC,O,T⟩ O)<|qW O<|qY O<|qY O<|G O<|G O<|zA<|Y O<|G O<|zX O (yG [0,0] O ok14 (zRq b_1 sv_1 (dN m1 10).1 0 h1) ⟨zC,O,T⟩ O)<|G O<|zA<|Y O<|qR O zr61 pl61<|qR O zr59 pl59<|qR O zr61 pl61<|zX O (yS O el26 zr61 O O O O)<|zX O (kY [none,some 5,some 3,none] O zr30 pl30 O O)<|zW O O (zBw O ok12 (Con.frame (zLx u2 (by decide) v2) _) ⟨zC,O,T⟩) ?_
  rintro _ _ ⟨_,⟨b_2,sv_2,rfl,rfl⟩,rfl⟩
  refine qW O<|qY O<|qY O<|G O<|G O<|zA<|Y O<|qR O zr61 pl61<|zX O (yS O el26 zr61 O O O O)<|zX O (kY [none,some 5,some 3,none] O zr30 pl30 O O)<|zW O O (zBw O ok12 (Con.frame (zLx u3 (by decide) v3) _) ⟨zC,O,T⟩) ?_
  rintro _ _ ⟨_,⟨b_3,sv_3,rfl,rfl⟩,rfl⟩
  refine qW O<|qY O<|qY O<|G O<|G O<|zA<|zK<|Y O<|G O<|yQ O<|G O<|rL0 O (fun g8_2=>zO O O) O<|rL1 54 O (fun g8_2=>kT O O O) O<|r_or O (fun h=>(lzf h))<|G O<|rL0 O (fun g8_6=>zO O O) O<|rL1 58 O (fun g8_6=>zOs O O O un55) O<|r_or O (fun h=>(lzf h))<|G O<|rL0 O (fun g8_10=>zO O O) O<|rL1 62 O (fun g8_10=>zOs O O O un55) O<|r_or O (fun h=>(lzf h))<|zA<|zE O (fun c2=>?_) (fun c2=>?_)
  ·try simp only [sx] at c2
   exact absurd c2 (by simp)
  ·try simp only [sx] at c2
   refine zJ<|Y O<|G O<|zX O (kX [2,2] O ok13 (vm_Run b_2 sv_2 m2 2 (zHu v2) 10) ⟨zC,O,zC,O,T⟩ O)<|qW O<|qY O<|qY O<|G O<|G O<|zA<|Y O<|G O<|zX O (kX [0,0] O ok13 (vm_Run b_3 sv_3 m3 0 (zHu v3) 10) ⟨zC,O,zC,O,T⟩ O)<|qW O<|qY O<|qY O<|G O<|G O<|zA<|Y O<|G O<|qQ O<|G O<|rL0 O (fun g12_2=>zO O O) O<|rL1 78 O (fun g12_2=>yM O O O) O<|yO O (fun h=>h)<|G O<|rL0 O (fun g12_6=>zO O O) O<|rL1 82 O (fun g12_6=>yH O el64 O) O<|rL1 83 O (fun g12_6=>yM O O O) O<|yO O (fun h=>h)<|G O<|rL0 O (fun g12_11=>zO O O) O<|rL1 87 O (fun g12_11=>qH O el64 O O (by omega) (D r1x)) O<|rL1 88 O (fun g12_11=>zH O U O qD O) O<|rL1 89 O (fun g12_11=>yM O O O) O<|yO O (fun h=>h)<|G O<|rL0 O (fun g12_17=>zO O O) O<|rL1 93 O (fun g12_17=>yG [4,4] O ok15 (vm_PC b_1 sv_1 (dN m1 10).1 0 h1) ⟨zC,O,T⟩ O) O<|rL1 94 O (fun g12_17=>yM O O O) O<|yO O (fun h=>h)<|G O<|rL0 O (fun g12_22=>zO O O) O<|rL1 98 O (fun g12_22=>yM O O O) O<|yO O (fun h=>h)<|G O<|rL0 O (fun g12_26=>zO O O) O<|rL1 102 O (fun g12_26=>yM O O O) O<|yO O (fun h=>h)<|G O<|zA<|zG<|zS O ?_
   exact congrArg vB (by simp [Lz,r1n,r1e,r1p,r2e,r3e,h1X])
theorem refNew_ok (u:Un0) (ht:u.tys.length<=1000000) (hv:(vld u.code u.tys u.words).2=0):Pur cfgO 25 [sV u.code,sU u.tys,vI u.words] (.tup [vMc (dJ u.code u.tys u.words),vI 0]):=by
  have h:=ref49_New u.code u.tys u.words ht
  rw [newr1 hv] at h
  exact h
end Go.W
end
