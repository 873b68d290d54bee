/-
  Arithmetic on elements,in plain Lean: fractions in lowest terms,rounded quotients,numbers brought into a width.
  Arithmetic on elements,in plain Lean,as the walks meet it.
  Tensors and the memory of a nest (12,31.1),in plain Lean,and the cells that hold them.
  Tensors,what memory holds before a run,in plain Lean (for a seat without the machine).
  Numbers of 192 bits,as lin.Eval adds them up; the value of a form,in plain Lean.
  What running a nest means (31.2,by the reference): values,conditions,statements,in plain Lean.
  What forms mean: sums and multiples of forms mean sums and multiples,in plain Lean.
  Numbers of six digits,as the reference's Eval (5.5) adds them up,in plain Lean.
  Conditions: none.
-/
import Derived.Test.YthgichbbgocmoaaGreatDoorPlain
import Derived.Test.YthgichbbgocmoaaGreatDoorPlain3
import Derived.Test.YthgichbbgocmoaaGreatDoorPlain2
set_option linter.unusedSimpArgs false
set_option linter.unusedVariables false
section
namespace Go.Br
open Go Go.Eng Go.L41
/-! ## Fractions -/
def gG (v:Vl):Bool:=decide (1<=v.D)&&decide (v.D<=2147483647)&&dV v.N&&decide (Int.gcd v.N v.D=1)
def eR (n d:Int):Bool:=decide (n<0) !=decide (d<0)
def sE (s:Bool) (a b:Nat):Vl×Int:=
 bif decide ((2147483647:Int)<((a/Nat.gcd a b:Nat):Int))||decide ((2147483647:Int)<((b/Nat.gcd a b:Nat):Int)) then (⟨0,0⟩,3) else
 (⟨bif s then-((a/Nat.gcd a b:Nat):Int) else ((a/Nat.gcd a b:Nat):Int),((b/Nat.gcd a b:Nat):Int)⟩,0)
def pE (n d:Int):Vl×Int:=bif decide (d=0) then (⟨0,0⟩,4) else sE (eR n d) n.natAbs d.natAbs
theorem zWi {v:Vl} (h:gG v=true):1<=v.D/\v.D<=2147483647/\ -2147483647<=v.N/\v.N<=2147483647/\Int.gcd v.N v.D=1:=by
 simp only [gG,Bool.and_eq_true,decide_eq_true_eq,dV] at h
 omega
theorem madF_ok {s:Bool} {a b:Nat} (hb:0<b) (h:(sE s a b).2=0):gG (sE s a b).1=true:=by
 have hg:0<Nat.gcd a b:=Nat.gcd_pos_of_pos_right _ hb
 have hpos:0<b/Nat.gcd a b:=Nat.div_pos (Nat.le_of_dvd hb (Nat.gcd_dvd_right a b)) hg
 unfold sE at h⊢
 cases hc:(decide ((2147483647:Int)<((a/Nat.gcd a b:Nat):Int))||decide ((2147483647:Int)<((b/Nat.gcd a b:Nat):Int))) with
 |true=>rw [hc] at h;simp at h
 |false=>
  simp only [Bool.or_eq_false_iff,decide_eq_false_iff_not] at hc
  simp only [cond_false]
  have hgc:Nat.gcd (a/Nat.gcd a b) (b/Nat.gcd a b)=1:=by rw [Nat.gcd_div (Nat.gcd_dvd_left a b) (Nat.gcd_dvd_right a b),Nat.div_self hg]
  generalize a/Nat.gcd a b=x at *
  generalize b/Nat.gcd a b=y at *
  unfold gG dV
  simp only [Bool.and_eq_true,decide_eq_true_eq]
  refine ⟨⟨⟨zA,zA⟩,?_⟩,?_⟩
  ·cases s<;>simp only [cond_true,cond_false]<;>omega
  ·unfold Int.gcd
   cases s<;>simp only [cond_true,cond_false,Int.natAbs_neg,Int.natAbs_natCast]<;>exact hgc
theorem newF_ok {n d:Int} (hd:d≠0) (h:(pE n d).2=0):gG (pE n d).1=true:=by
 unfold pE at h⊢
 rw [qW hd] at h⊢
 exact madF_ok zA h
def rZ (a b:Int):Int:=bif decide (a<b) then-1 else bif decide (b<a) then 1 else 0
def flo (n d:Int):Int:=bif decide (n<n.tdiv d*d) then n.tdiv d-1 else n.tdiv d
theorem flo_eq {n d:Int} (h:0<d):flo n d=n/d:=by
 unfold flo
 have e1:=Int.mul_ediv_add_emod n d
 have e2:=Int.emod_nonneg n (show d≠0 by omega)
 have e3:=Int.emod_lt_of_pos n h
 have e4:=Int.mul_tdiv_add_tmod n d
 rw [Int.tdiv_eq_ediv]
 by_cases c:0<=n∨d ∣ n
 ·rw [if_pos c,Int.add_zero]
  have:¬n<n/d*d:=by rw [Int.mul_comm];omega
  rw [qW this];rfl
 ·rw [if_neg c,Int.sign_eq_one_of_pos h]
  have hr:n%d≠0:=fun h0=>c (.inr (Int.dvd_of_emod_eq_zero h0))
  have:n<(n/d+1)*d:=by rw [Int.add_mul,Int.one_mul,Int.mul_comm];omega
  rw [decide_eq_true this]
  simp only [cond_true]
  omega
def rnd (n d how:Int):Int:=
 bif decide (n-n/d*d=0)||decide (how=1) then n/d else bif decide (how=2) then n/d+1 else
 bif decide (how=3) then (bif decide (n<0) then n/d+1 else n/d) else
 bif decide (d-(n-n/d*d)<n-n/d*d)||(decide (n-n/d*d=d-(n-n/d*d))&& !decide ((n/d).tmod 2=0)) then n/d+1 else n/d
def stays (q r b:Nat) (neg:Bool) (how:Int):Bool:=(decide ((r:Int)=0)||decide (how=3))||((decide (how=1)&& !neg)||(decide (how=2)&&neg))||(decide (how=4)&&(decide (((2*r:Nat):Int)<(b:Int))||(decide (((2*r:Nat):Int)=(b:Int))&&decide (((q%2:Nat):Int)=0))))
def vQ (n d:Int):Int:=bif decide (d<0) then-n else n
def eL (b n:Int):Int:=n-(n+fS b)/(2*fS b)*(2*fS b)
def eW (b o n:Int):Int:=max (-fS b) (min (fS b-1) (bif decide (o=2) then eL b n else n))
def nar (t:Ty) (n:Int):Int:=eW t.Bits t.Over n
def jF (n:Int):Int:=2^n.toNat
theorem pow2_le {n:Int} (h1:0<=n) (h2:n<=30):1<=jF n/\jF n<=1073741824:=by
 have h:=zMw (b:=n+1)
 unfold jF
 have h3:n.toNat<=30:=by omega
 have h4:(2:Int)^n.toNat<=2^30:=by
  have:=Nat.pow_le_pow_right (n:=2) zA h3
  exact_mod_cast this
 have h5:(1:Int)<=2^n.toNat:=by
  have:=Nat.one_le_two_pow (n:=n.toNat)
  exact_mod_cast this
 omega
def sI (op:Int) (t:Ty) (a b:Int):Vl×Int:=
 bif decide (op=4) then (⟨nar t (a+b),1⟩,0) else bif decide (op=5) then (⟨nar t (a-b),1⟩,0) else
 bif decide (op=6) then (⟨nar t (rnd (a*b) (jF t.Frac) t.Round),1⟩,0) else bif decide (op=8) then (⟨nar t (-a),1⟩,0) else
 bif decide (b=0) then (⟨0,0⟩,4) else (⟨nar t (rnd (vQ a b*jF t.Frac) b.natAbs t.Round),1⟩,0)
def jL (op a b:Int):Int:=
 bif decide (op=4) then a+b else bif decide (op=5) then a-b else bif decide (op=6) then a*b else bif decide (op=7) then vQ a b/b.natAbs else-a
def tK (op a b:Int):Vl×Int:=
 bif decide (op=7)&&decide (b=0) then (⟨0,0⟩,4) else bif dV (jL op a b) then (⟨jL op a b,1⟩,0) else (⟨0,0⟩,3)
def vX (op:Int) (a b:Vl):Vl×Int:=
 bif decide (op=4) then pE (a.N*b.D+b.N*a.D) (a.D*b.D) else bif decide (op=5) then pE (a.N*b.D-b.N*a.D) (a.D*b.D) else
 bif decide (op=6) then pE (a.N*b.N) (a.D*b.D) else bif decide (op=7) then pE (a.N*b.D) (a.D*b.N) else (⟨-a.N,a.D⟩,0)
def rO (t:Ty) (a b:Vl):Int:=bif (bV t&&bI t a)&&(bV t&&bI t b) then rZ (a.N*b.D) (b.N*a.D) else 0
def mA (op:Int) (t:Ty) (a b:Vl):Vl×Int:=
 bif decide (op<4)||decide (10<op) then (⟨0,0⟩,1) else bif !bV t then (⟨0,0⟩,10) else
 bif !bI t a||(!decide (op=8)&& !bI t b) then (⟨0,0⟩,1) else
 bif decide (op=9)||decide (op=10) then (bif decide (0<rO t a b)==decide (op=9) then b else a,0) else
 bif decide (t.Kind=2) then sI op t a.N b.N else bif decide (t.Kind=3) then tK op a.N b.N else vX op a b
def gW (t:Ty) (v:Vl):Vl:=bif decide (t.Kind=2) then (pE v.N (jF t.Frac)).1 else v
def nR (f t:Ty) (v:Vl):Vl×Int:=
 bif !bV f|| !bV t then (⟨0,0⟩,10) else bif !bI f v then (⟨0,0⟩,1) else
 bif decide (t.Kind=3) then (⟨(gW f v).N/(gW f v).D,1⟩,0) else
 bif decide (t.Kind=2) then (⟨nar t (rnd ((gW f v).N*jF t.Frac) (gW f v).D t.Round),1⟩,0) else (gW f v,0)
abbrev tFr:Ty:=⟨1,0,0,0,0⟩
theorem zMa {t:Ty} {v:Vl} (ht:bV t=true) (h:bI t v=true):(t.Kind≠2->gG v=true)/\(t.Kind=2->v.D=1/\ -fS t.Bits<=v.N/\v.N<fS t.Bits)/\gG v=true:=by
 have key:(t.Kind=2->v.D=1/\ -fS t.Bits<=v.N/\v.N<fS t.Bits):=by
  intro hk
  rw [bI,decide_eq_true hk] at h
  simp only [cond_true,Bool.and_eq_true,decide_eq_true_eq] at h
  omega
 have all:gG v=true:=by
  by_cases hk:t.Kind=2
  ·obtain ⟨k1,k2,k3⟩:=key hk
   have hb:=fixB (by rw [←zAr hk];exact ht)
   have hh:=zMw hb.1 hb.2
   unfold gG dV
   rw [k1]
   simp only [Bool.and_eq_true,decide_eq_true_eq]
   exact ⟨⟨⟨zA,zA⟩,zA,zA⟩,Int.gcd_one⟩
  ·rw [bI,qW hk] at h
   by_cases h3:t.Kind=3
   ·rw [decide_eq_true h3] at h
    simp only [cond_false,cond_true,Bool.and_eq_true,decide_eq_true_eq,dV] at h
    unfold gG dV
    rw [h.1]
    simp only [Bool.and_eq_true,decide_eq_true_eq]
    exact ⟨⟨⟨zA,zA⟩,zA,zA⟩,Int.gcd_one⟩
   ·rw [qW h3] at h
    exact h
 exact ⟨fun _=>all,key,all⟩
theorem newF_small {n f:Int} (h1: -1073741824<=n) (h2:n<=1073741824) (h3:1<=f) (h4:f<=1073741824):(pE n f).2=0:=by
 unfold pE sE
 rw [qW (show ¬f=0 by omega)]
 have a1:n.natAbs/Nat.gcd n.natAbs f.natAbs<=n.natAbs:=Nat.div_le_self _ _
 have a2:f.natAbs/Nat.gcd n.natAbs f.natAbs<=f.natAbs:=Nat.div_le_self _ _
 rw [qW (show ¬(2147483647:Int)<((n.natAbs/Nat.gcd n.natAbs f.natAbs:Nat):Int) by omega),qW (show ¬(2147483647:Int)<((f.natAbs/Nat.gcd n.natAbs f.natAbs:Nat):Int) by omega)]
 rfl
theorem fracV_ok {t:Ty} {v:Vl} (ht:bV t=true) (h:bI t v=true):gG (gW t v)=true:=by
 obtain ⟨h1,h2,h3⟩:=zMa ht h
 unfold gW
 by_cases hk:t.Kind=2
 ·rw [decide_eq_true hk]
  obtain ⟨k1,k2,k3⟩:=h2 hk
  have hf:fL t=true:=by rw [←zAr hk];exact ht
  have hb:=fixB hf
  have hh:=zMw hb.1 hb.2
  have hfr:0<=t.Frac/\t.Frac<=30:=by
   simp only [fL,Bool.and_eq_true,decide_eq_true_eq] at hf
   omega
  have hp:=pow2_le hfr.1 hfr.2
  exact newF_ok zA (newF_small zA zA zA zA)
 ·rw [qW hk]
  exact h3
/-! ## As the walks meet them -/
theorem m31 {x y:Int} (h1: -2147483647<=x) (h2:x<=2147483647) (h3: -2147483647<=y) (h4:y<=2147483647): -4611686014132420609<=x*y/\x*y<=4611686014132420609:=by
 have e:(x*y).natAbs<=2147483647*2147483647:=by
  rw [Int.natAbs_mul]
  exact Nat.mul_le_mul zA zA
 omega
theorem m60 {x y:Int} {B:Nat} (h1:x.natAbs<=B) (h3:0<=y) (h4:y<=1073741824): -((B*1073741824:Nat):Int)<=x*y/\x*y<=((B*1073741824:Nat):Int):=by
 have e:(x*y).natAbs<=B*1073741824:=by
  rw [Int.natAbs_mul]
  exact Nat.mul_le_mul h1 zA
 omega
theorem w31 {m:Nat} (h:¬(2147483647:Int)<(m:Int)):IntKind.i64.wrap (m:Int)=m:=zCu ⟨zA,zA⟩
theorem w31n {m:Nat} (h:¬(2147483647:Int)<(m:Int)):IntKind.i64.wrap (-(m:Int))= -(m:Int):=zCu ⟨zA,zA⟩
theorem size_neg {n:Int} (h:n<0) (hn:tE n):IntKind.u64.wrap (IntKind.u64.wrap (IntKind.i64.wrap (-(n+1)))+1)=n.natAbs:=by
 have:=hn.1
 have e1:IntKind.u64.wrap (-(n+1))= -(n+1):=zEg zA
 rw [zCu ⟨zA,zA⟩,e1,zEg zA]
 omega
theorem madF_big {s:Bool} {a b:Nat} (h:(decide ((2147483647:Int)<((a/Nat.gcd a b:Nat):Int))||decide ((2147483647:Int)<((b/Nat.gcd a b:Nat):Int)))=true):sE s a b=(⟨0,0⟩,3):=by
 unfold sE;rw [h];rfl
theorem madF_fin {s:Bool} {a b:Nat} (h:(decide ((2147483647:Int)<((a/Nat.gcd a b:Nat):Int))||decide ((2147483647:Int)<((b/Nat.gcd a b:Nat):Int)))=false):
  sE s a b=(⟨bif s then IntKind.i64.wrap (-(IntKind.i64.wrap ((a/Nat.gcd a b:Nat):Int))) else IntKind.i64.wrap ((a/Nat.gcd a b:Nat):Int),IntKind.i64.wrap ((b/Nat.gcd a b:Nat):Int)⟩,0):=by
 have h':=h
 simp only [Bool.or_eq_false_iff,decide_eq_false_iff_not] at h'
 rw [w31 h'.1,w31n h'.1,w31 h'.2]
 unfold sE;rw [h];rfl
theorem newF_nz {n d:Int} (h:¬d=0):pE n d=sE (eR n d) n.natAbs d.natAbs:=by unfold pE;rw [qW h];rfl
theorem newF_zero {n d:Int} (h:d=0):pE n d=(⟨0,0⟩,4):=by unfold pE;rw [decide_eq_true h];rfl
def frX (op:Int) (a b:Vl):Vl×Int:=bif !gG a|| !gG b then (⟨0,0⟩,1) else vX op a b
theorem frX_no {op:Int} {a b:Vl} (h:(!gG a|| !gG b)=true):frX op a b=(⟨0,0⟩,1):=by unfold frX;rw [h];rfl
theorem fr_both {a b:Vl} (h:(!gG a|| !gG b)=false):gG a=true/\gG b=true:=by
 simpa using h
theorem zKp {op:Int} {a b:Vl} (ha:gG a=true) (hb:gG b=true):frX op a b=vX op a b:=by unfold frX;rw [ha,hb];rfl
structure FrB (a b:Vl):Prop where
 d1:1<=a.D
 d2:1<=b.D
 nd: -4611686014132420609<=a.N*b.D/\a.N*b.D<=4611686014132420609
 dn: -4611686014132420609<=b.N*a.D/\b.N*a.D<=4611686014132420609
 nd': -4611686014132420609<=a.D*b.N/\a.D*b.N<=4611686014132420609
 nn: -4611686014132420609<=a.N*b.N/\a.N*b.N<=4611686014132420609
 dd: -4611686014132420609<=a.D*b.D/\a.D*b.D<=4611686014132420609
theorem zKo {a b:Vl} (ha:gG a=true) (hb:gG b=true):FrB a b:=by
 obtain ⟨a1,a2,a3,a4,_⟩:=zWi ha
 obtain ⟨b1,b2,b3,b4,_⟩:=zWi hb
 exact ⟨a1,b1,m31 zA zA zA zA,m31 zA zA zA zA,m31 zA zA zA zA,m31 zA zA zA zA,m31 zA zA zA zA⟩
theorem ordI_lt {a b:Int} (h:a<b):rZ a b= -1:=by unfold rZ;rw [decide_eq_true h];rfl
theorem ordI_gt {a b:Int} (h:¬a<b) (k:b<a):rZ a b=1:=by unfold rZ;rw [qW h,decide_eq_true k];rfl
theorem ordI_eq {a b:Int} (h:¬a<b) (k:¬b<a):rZ a b=0:=by unfold rZ;rw [qW h,qW k];rfl
theorem shl_eq {x b:Int} {B:Nat} (h1:0<=b) (h2:b<=30) (hx:x.natAbs<=B) (hB:B<=2147483648):IntKind.i64.wrap (x*2^(min b.toNat IntKind.i64.bits))=x*jF b:=by
 have hp:=pow2_le h1 h2
 have hm:=m60 (B:=B) (y:=jF b) hx zA hp.2
 have h4:min b.toNat IntKind.i64.bits=b.toNat:=Nat.min_eq_left (by simp [IntKind.bits];omega)
 rw [h4]
 exact zCu ⟨by unfold jF at hm;omega,by unfold jF at hm;omega⟩
theorem one_shl {b:Int} (h1:0<=b) (h2:b<=30):IntKind.i64.wrap (1*2^(min b.toNat IntKind.i64.bits))=jF b:=by
 rw [shl_eq (B:=1) h1 h2 zB zB,Int.one_mul]
end Go.Br
end
section
namespace Go.Br
open Go Go.Eng Go.L41
structure FxT (t:Ty):Prop where
 k:t.Kind=2
 b1:2<=t.Bits
 b2:t.Bits<=31
 f1:0<=t.Frac
 f2:t.Frac<=30
 r1:1<=t.Round
 r4:t.Round<=4
 ov:t.Over=1∨t.Over=2
 h1:1<=fS t.Bits
 h2:fS t.Bits<=1073741824
 p1:1<=jF t.Frac
 p2:jF t.Frac<=1073741824
theorem fxT {t:Ty} (h:fL t=true):FxT t:=by
 have h':=h
 simp only [fL,Bool.and_eq_true,Bool.or_eq_true,decide_eq_true_eq] at h'
 obtain ⟨⟨⟨⟨⟨⟨⟨h1,h2⟩,h3⟩,h4⟩,h5⟩,h6⟩,h7⟩,h8⟩:=h'
 have a:=zMw h2 h3
 have b:=pow2_le h4 h5
 exact ⟨h1,h2,h3,h4,h5,h6,h7,h8,a.1,a.2,b.1,b.2⟩
theorem fxV {t:Ty} {v:Vl} (h:fL t=true) (hv:bI t v=true):v.D=1/\ -fS t.Bits<=v.N/\v.N<fS t.Bits:=by
 have hk:=(fxT h).k
 exact (zMa (by rw [zAr hk];exact h) hv).2.1 hk
theorem fxN {t:Ty} {v:Vl} (h:fL t=true) (hv:bI t v=true):v.N.natAbs<=1073741824:=by
 have:=fxV h hv
 have:=fxT h
 have:=this.h2
 omega
theorem tdiv_le' {n d:Int}:(n.tdiv d).natAbs<=n.natAbs:=by rw [Int.natAbs_tdiv];exact Nat.div_le_self _ _
theorem tdiv_mul_le {n d:Int}:(n.tdiv d*d).natAbs<=n.natAbs:=by
 rw [Int.natAbs_mul,Int.natAbs_tdiv]
 exact Nat.div_mul_le_self _ _
theorem ediv_b {n d:Int} (hd:0<d): -(n.natAbs:Int)<=n/d/\n/d<=n.natAbs/\n/d*d<=n/\n<n/d*d+d:=by
 have e1:=Int.mul_ediv_add_emod n d
 have e2:=Int.emod_nonneg n (show d≠0 by omega)
 have e3:=Int.emod_lt_of_pos n hd
 rw [Int.mul_comm] at e1
 refine ⟨?_,?_,zA,zA⟩
 ·by_cases h:0<=n
  ·have:=Int.ediv_nonneg h (Int.le_of_lt hd);omega
  ·refine Int.le_ediv_of_mul_le hd ?_
   have: -(n.natAbs:Int)=n:=by omega
   rw [this]
   have:n*d<=n*1:=Int.mul_le_mul_of_nonpos_left zA zA
   omega
 ·by_cases h:0<=n
  ·have:=Int.ediv_le_self d h;omega
  ·have:n/d<0:=Int.ediv_neg_of_neg_of_pos zA hd
   omega
theorem rnd_b {n d how:Int} (hd:0<d):(rnd n d how).natAbs<=n.natAbs+1:=by
 obtain ⟨h1,h2,_,_⟩:=ediv_b (n:=n) hd
 have:rnd n d how=n/d∨rnd n d how=n/d+1:=by
  unfold rnd
  generalize (decide (n-n/d*d=0)||decide (how=1))=b1
  generalize (decide (d-(n-n/d*d)<n-n/d*d)||(decide (n-n/d*d=d-(n-n/d*d))&& !decide ((n/d).tmod 2=0)))=b2
  cases b1<;>cases decide (how=2)<;>cases decide (how=3)<;>cases decide (n<0)<;>cases b2<;>simp
 omega
theorem flo_lt {n d:Int} (hd:0<d) (h:n<n.tdiv d*d):n.tdiv d-1=n/d:=by rw [←flo_eq hd,flo,decide_eq_true h];rfl
theorem flo_ge {n d:Int} (hd:0<d) (h:¬n<n.tdiv d*d):n.tdiv d=n/d:=by rw [←flo_eq hd,flo,qW h];rfl
theorem rnd1 {n d how:Int} (h:(decide (n-n/d*d=0)||decide (how=1))=true):n/d=rnd n d how:=by rw [rnd,h];rfl
theorem rnd2 {n d how:Int} (h:(decide (n-n/d*d=0)||decide (how=1))=false) (h2:how=2):n/d+1=rnd n d how:=by rw [rnd,h,decide_eq_true h2];rfl
theorem rnd3 {n d how:Int} (h:(decide (n-n/d*d=0)||decide (how=1))=false) (h2:¬how=2) (h3:how=3) (h4:n<0):n/d+1=rnd n d how:=by rw [rnd,h,qW h2,decide_eq_true h3,decide_eq_true h4];rfl
theorem rnd4 {n d how:Int} (h:(decide (n-n/d*d=0)||decide (how=1))=false) (h2:¬how=2) (h3:how=3) (h4:¬n<0):n/d=rnd n d how:=by rw [rnd,h,qW h2,decide_eq_true h3,qW h4];rfl
theorem rnd5 {n d how:Int} (h:(decide (n-n/d*d=0)||decide (how=1))=false) (h2:¬how=2) (h3:¬how=3) (h5:(decide (d-(n-n/d*d)<n-n/d*d)||(decide (n-n/d*d=d-(n-n/d*d))&& !decide ((n/d).tmod 2=0)))=true):n/d+1=rnd n d how:=by rw [rnd,h,qW h2,qW h3,h5];rfl
theorem rnd6 {n d how:Int} (h:(decide (n-n/d*d=0)||decide (how=1))=false) (h2:¬how=2) (h3:¬how=3) (h5:(decide (d-(n-n/d*d)<n-n/d*d)||(decide (n-n/d*d=d-(n-n/d*d))&& !decide ((n/d).tmod 2=0)))=false):n/d=rnd n d how:=by rw [rnd,h,qW h2,qW h3,h5];rfl
theorem fit_w {t:Ty} {n:Int} (h:t.Over=2):max (-fS t.Bits) (min (fS t.Bits-1) (n-(n+fS t.Bits)/(2*fS t.Bits)*2*fS t.Bits))=nar t n:=by
 unfold nar eW eL
 rw [decide_eq_true h,Int.mul_assoc];rfl
theorem fit_n {t:Ty} {n:Int} (h:¬t.Over=2):max (-fS t.Bits) (min (fS t.Bits-1) n)=nar t n:=by
 unfold nar eW
 rw [qW h];rfl
theorem posN_pos {n d:Int} (h:0<d):vQ n d=n:=by unfold vQ;rw [qW zA];rfl
theorem posN_neg {n d:Int} (h:d<0):vQ n d= -n:=by unfold vQ;rw [decide_eq_true h];rfl
theorem fixA1 {op:Int} {t:Ty} {a b:Int} (h:op=4):sI op t a b=(⟨nar t (a+b),1⟩,0):=by subst h;rfl
theorem fixA2 {op:Int} {t:Ty} {a b:Int} (h:op=5):sI op t a b=(⟨nar t (a-b),1⟩,0):=by subst h;rfl
theorem fixA3 {op:Int} {t:Ty} {a b:Int} (h:op=6):sI op t a b=(⟨nar t (rnd (a*b) (jF t.Frac) t.Round),1⟩,0):=by subst h;rfl
theorem fixA4 {op:Int} {t:Ty} {a b:Int} (h:op=8):sI op t a b=(⟨nar t (-a),1⟩,0):=by subst h;rfl
theorem fixA5 {op:Int} {t:Ty} {a b:Int} (h:op=7) (h0:b=0):sI op t a b=(⟨0,0⟩,4):=by subst h;subst h0;rfl
theorem fixA6 {op:Int} {t:Ty} {a b:Int} (h:op=7) (h0:¬b=0):sI op t a b=(⟨nar t (rnd (vQ a b*jF t.Frac) b.natAbs t.Round),1⟩,0):=by subst h;unfold sI;rw [qW h0];rfl
theorem intN1 {op a b:Int} (h:op=4):jL op a b=a+b:=by subst h;rfl
theorem intN2 {op a b:Int} (h:op=5):jL op a b=a-b:=by subst h;rfl
theorem intN3 {op a b:Int} (h:op=6):jL op a b=a*b:=by subst h;rfl
theorem intN4 {op a b:Int} (h:op=7):jL op a b=vQ a b/b.natAbs:=by subst h;rfl
theorem intN5 {op a b:Int} (h:op=8):jL op a b= -a:=by subst h;rfl
theorem n31 {a:Int} (h:dV a=true): -2147483647<=a/\a<=2147483647:=by
 simp only [dV,Bool.and_eq_true,decide_eq_true_eq] at h;exact h
theorem n31_f {a:Int} (h:(decide (2147483647<a)||decide (a< -2147483647))=true):dV a=false:=by
 simp only [Bool.or_eq_true,decide_eq_true_eq] at h
 simp only [dV,Bool.and_eq_false_iff,decide_eq_false_iff_not];omega
theorem n31_t {a:Int} (h:(decide (2147483647<a)||decide (a< -2147483647))=false):dV a=true:=by
 simp only [Bool.or_eq_false_iff,decide_eq_false_iff_not] at h
 simp only [dV,Bool.and_eq_true,decide_eq_true_eq];omega
theorem zQq {op a b:Int} (h:op=7) (h0:b=0):tK op a b=(⟨0,0⟩,4):=by subst h;subst h0;rfl
theorem zQp {op a b:Int} (h:¬(op=7/\b=0)) (hx:dV (jL op a b)=false):tK op a b=(⟨0,0⟩,3):=by
 unfold tK
 rw [hx,show (decide (op=7)&&decide (b=0))=false by simp;omega];rfl
theorem zQo {op a b:Int} (h:¬(op=7/\b=0)) (hx:dV (jL op a b)=true):tK op a b=(⟨jL op a b,1⟩,0):=by
 unfold tK
 rw [hx,show (decide (op=7)&&decide (b=0))=false by simp;omega];rfl
def xH (op:Int) (t:Ty) (a b:Vl):Vl×Int:=bif decide (t.Kind=2) then sI op t a.N b.N else bif decide (t.Kind=3) then tK op a.N b.N else vX op a b
theorem apl1 {op:Int} {t:Ty} {a b:Vl} (h:(decide (op<4)||decide (10<op))=true):mA op t a b=(⟨0,0⟩,1):=by rw [mA,h];rfl
theorem apl2 {op:Int} {t:Ty} {a b:Vl} (h:(decide (op<4)||decide (10<op))=false) (h2:bV t=false):mA op t a b=(⟨0,0⟩,10):=by rw [mA,h,h2];rfl
theorem apl3 {op:Int} {t:Ty} {a b:Vl} (h:(decide (op<4)||decide (10<op))=false) (h2:bV t=true) (h3:(!bI t a||(!decide (op=8)&& !bI t b))=true):mA op t a b=(⟨0,0⟩,1):=by rw [mA,h,h2,h3];rfl
theorem apl4 {op:Int} {t:Ty} {a b:Vl} (h:(decide (op<4)||decide (10<op))=false) (h2:bV t=true) (h3:(!bI t a||(!decide (op=8)&& !bI t b))=false):mA op t a b=bif decide (op=9)||decide (op=10) then (bif decide (0<rO t a b)==decide (op=9) then b else a,0) else xH op t a b:=by rw [mA,h,h2,h3];rfl
theorem apl5 {op:Int} {t:Ty} {a b:Vl} (h:(decide (op<4)||decide (10<op))=false) (h2:bV t=true) (h3:(!bI t a||(!decide (op=8)&& !bI t b))=false) (hm:(decide (op=9)||decide (op=10))=false):mA op t a b=xH op t a b:=by rw [apl4 h h2 h3,hm];rfl
theorem apl6 {op:Int} {t:Ty} {a b:Vl} (h:(decide (op<4)||decide (10<op))=false) (h2:bV t=true) (h3:(!bI t a||(!decide (op=8)&& !bI t b))=false) (hm:(decide (op=9)||decide (op=10))=true):mA op t a b=(bif decide (0<rO t a b)==decide (op=9) then b else a,0):=by rw [apl4 h h2 h3,hm];rfl
theorem apl_ok {op:Int} {t:Ty} {a b:Vl} (h:(!bI t a||(!decide (op=8)&& !bI t b))=false):bI t a=true/\(¬op=8->bI t b=true):=by
 rw [Bool.or_eq_false_iff,Bool.and_eq_false_iff] at h
 refine ⟨by simpa using h.1,fun h8=>?_⟩
 rcases h.2 with h|h
 ·simp at h;exact absurd h h8
 ·simpa using h
theorem apl_rng {op:Int} (h:(decide (op<4)||decide (10<op))=false):4<=op/\op<=10:=by
 simp only [Bool.or_eq_false_iff,decide_eq_false_iff_not] at h;omega
theorem fr31 {v:Vl} (h:gG v=true):dV v.N=true:=by
 have:=zWi h
 simp only [dV,Bool.and_eq_true,decide_eq_true_eq];omega
theorem ari1 {op:Int} {t:Ty} {a b:Vl} (h2:¬t.Kind=2) (h3:¬t.Kind=3):xH op t a b=vX op a b:=by unfold xH;rw [qW h2,qW h3];rfl
theorem ari2 {op:Int} {t:Ty} {a b:Vl} (h:t.Kind=2):xH op t a b=sI op t a.N b.N:=by unfold xH;rw [decide_eq_true h];rfl
theorem ari3 {op:Int} {t:Ty} {a b:Vl} (h:t.Kind=3):xH op t a b=tK op a.N b.N:=by unfold xH;rw [qW (show ¬t.Kind=2 by omega),decide_eq_true h];rfl
theorem cmp_yes {t:Ty} {a b:Vl} (ha:(bV t&&bI t a)=true) (hb:(bV t&&bI t b)=true):rO t a b=rZ (a.N*b.D) (b.N*a.D):=by rw [rO,ha,hb];rfl
theorem cmp_no {t:Ty} {a b:Vl} (h:(!(bV t&&bI t a)|| !(bV t&&bI t b))=true):rO t a b=0:=by
 rw [rO]
 cases h1:(bV t&&bI t a)<;>cases h2:(bV t&&bI t b)
 ·rfl
 ·rfl
 ·rfl
 ·rw [h1,h2] at h;cases h
theorem both_ok {t:Ty} {a b:Vl} (h:(!(bV t&&bI t a)|| !(bV t&&bI t b))=false):(bV t&&bI t a)=true/\(bV t&&bI t b)=true:=by
 simpa using h
theorem cst1 {f t:Ty} {v:Vl} (h:(!bV f|| !bV t)=true):nR f t v=(⟨0,0⟩,10):=by rw [nR,h];rfl
theorem cst2 {f t:Ty} {v:Vl} (h:(!bV f|| !bV t)=false) (h2:bI f v=false):nR f t v=(⟨0,0⟩,1):=by rw [nR,h,h2];rfl
theorem cst3 {f t:Ty} {v:Vl} (h:(!bV f|| !bV t)=false) (h2:bI f v=true) (h3:t.Kind=3):nR f t v=(⟨(gW f v).N/(gW f v).D,1⟩,0):=by rw [nR,h,h2,decide_eq_true h3];rfl
theorem cst4 {f t:Ty} {v:Vl} (h:(!bV f|| !bV t)=false) (h2:bI f v=true) (h3:¬t.Kind=3) (h4:t.Kind=2):nR f t v=(⟨nar t (rnd ((gW f v).N*jF t.Frac) (gW f v).D t.Round),1⟩,0):=by rw [nR,h,h2,qW h3,decide_eq_true h4];rfl
theorem cst5 {f t:Ty} {v:Vl} (h:(!bV f|| !bV t)=false) (h2:bI f v=true) (h3:¬t.Kind=3) (h4:¬t.Kind=2):nR f t v=(gW f v,0):=by rw [nR,h,h2,qW h3,qW h4];rfl
theorem fracV_2 {t:Ty} {v:Vl} (h:t.Kind=2):gW t v=(pE v.N (jF t.Frac)).1:=by unfold gW;rw [decide_eq_true h];rfl
theorem fracV_n {t:Ty} {v:Vl} (h:¬t.Kind=2):gW t v=v:=by unfold gW;rw [qW h];rfl
end Go.Br
end
section
namespace Go.Br
open Go Go.Eng Go.L41
structure Tn where
 T:Ty
 Dims:List Int
 Vals:List Vl
 deriving DecidableEq
structure Nmd where
 Name:ByteArray
 T:Tn
 deriving DecidableEq
def Tn.cells (t:Tn):List Eng.C:=[cI t.T.Kind,cI t.T.Bits,cI t.T.Frac,cI t.T.Round,cI t.T.Over,.sl 1 (t.Dims.map fun n=>[cI n]),.sl 2 (t.Vals.map Vl.cells)]
def Nmd.cells (x:Nmd):List Eng.C:=cS x.Name::x.T.cells
abbrev vTn (t:Tn):V:=.agg t.cells
abbrev gI (l:List Nmd):V:=.c (.sl 8 (l.map Nmd.cells))
abbrev eO (l:List Vl):V:=.c (.sl 2 (l.map Vl.cells))
def zTn:Tn:=⟨zTy,[],[]⟩
def gS (t:Tn):Int:=if bV t.T=true then (if bR t.Dims=0 then (if (t.Vals.length:Int)=fD t.Dims then (if t.Vals.all (bI t.T)=true then 0 else 1) else 1) else bR t.Dims) else 10
def dM:List Nmd->ByteArray->Option Tn
 |[],_=>none
 |x::r,s=>if x.Name=s then some x.T else dM r s
theorem fndT_at {l:List Nmd} {k:Nat} {x:Nmd} {s:ByteArray} (h:l[k]? =some x) (hx:x.Name=s):dM (l.drop k) s=some x.T:=by rw [qP h,dM,if_pos hx]
theorem fndT_nx {l:List Nmd} {k:Nat} {x:Nmd} {s:ByteArray} (h:l[k]? =some x) (hx:¬x.Name=s):dM (l.drop k) s=dM (l.drop (k+1)) s:=by rw [qP h,dM,if_neg hx]
theorem fndT_end {l:List Nmd} {k:Nat} {s:ByteArray} (h:l.length<=k):dM (l.drop k) s=none:=by rw [List.drop_eq_nil_of_le h];rfl
def gT (mem:List Nmd) (b:Bf):Int:=
 match dM mem b.Name with
 |none=>9
 |some t=>if gS t=0 then (if t.T=b.T then (if t.Dims=b.Dims then 0 else 15) else 10) else 1
theorem must_none {mem:List Nmd} {b:Bf} (h:dM mem b.Name=none):gT mem b=9:=by unfold gT;rw [h]
theorem must_1 {mem:List Nmd} {b:Bf} {t:Tn} (h:dM mem b.Name=some t) (h1:¬gS t=0):gT mem b=1:=by unfold gT;rw [h];exact if_neg h1
theorem must_10 {mem:List Nmd} {b:Bf} {t:Tn} (h:dM mem b.Name=some t) (h1:gS t=0) (h2:¬t.T=b.T):gT mem b=10:=by unfold gT;rw [h];dsimp only;rw [if_pos h1,if_neg h2]
theorem must_15 {mem:List Nmd} {b:Bf} {t:Tn} (h:dM mem b.Name=some t) (h1:gS t=0) (h2:t.T=b.T) (h3:¬t.Dims=b.Dims):gT mem b=15:=by unfold gT;rw [h];dsimp only;rw [if_pos h1,if_pos h2,if_neg h3]
theorem must_0 {mem:List Nmd} {b:Bf} {t:Tn} (h:dM mem b.Name=some t) (h1:gS t=0) (h2:t.T=b.T) (h3:t.Dims=b.Dims):gT mem b=0:=by unfold gT;rw [h];dsimp only;rw [if_pos h1,if_pos h2,if_pos h3]
def vV (ins:List Nmd) (b:Bf):Nmd:=if b.Use=1 then ⟨b.Name,(dM ins b.Name).getD zTn⟩ else ⟨b.Name,⟨b.T,b.Dims,List.replicate (fD b.Dims).toNat ⟨0,1⟩⟩⟩
def vA (ins:List Nmd) (b:Bf):Int:=if b.Use=1 then gT ins b else 0
def mN (ins:List Nmd):List Bf->Int
 |[]=>0
 |b::r=>if vA ins b=0 then mN ins r else vA ins b
def jI (n:Ns) (ins:List Nmd):List Nmd×Int:=
 if (bJ n).2=0 then (if mN ins n.Bufs=0 then (n.Bufs.map (vV ins),0) else ([],mN ins n.Bufs)) else ([],(bJ n).2)
theorem ini_next {ins:List Nmd} {l:List Bf} {k:Nat} {b:Bf} (h:l[k]? =some b) (hp:mN ins l=mN ins (l.drop k)) (he:vA ins b=0):mN ins l=mN ins (l.drop (k+1)):=by rw [hp,qP h,mN,if_pos he]
theorem ini_bad {ins:List Nmd} {l:List Bf} {k:Nat} {b:Bf} (h:l[k]? =some b) (hp:mN ins l=mN ins (l.drop k)) (he:¬vA ins b=0):mN ins l=vA ins b:=by rw [hp,qP h,mN,if_neg he]
theorem ini_end {ins:List Nmd} {l:List Bf} {k:Nat} (h:l.length<=k) (hp:mN ins l=mN ins (l.drop k)):mN ins l=0:=by rw [hp,List.drop_eq_nil_of_le h];rfl
theorem init_v {n:Ns} {ins:List Nmd} (h:¬(bJ n).2=0):jI n ins=([],(bJ n).2):=by unfold jI;rw [if_neg h]
theorem init_e {n:Ns} {ins:List Nmd} (h:(bJ n).2=0) (h2:¬mN ins n.Bufs=0):jI n ins=([],mN ins n.Bufs):=by unfold jI;rw [if_pos h,if_neg h2]
theorem init_ok {n:Ns} {ins:List Nmd} (h:(bJ n).2=0) (h2:mN ins n.Bufs=0):jI n ins=(n.Bufs.map (vV ins),0):=by unfold jI;rw [if_pos h,if_pos h2]
end Go.Br
end
section
namespace Go.Br
open Go Go.Eng Go.L41
theorem zKw (d:List Int):0<=fD d/\fD d<=4096:=by
 by_cases h:bR d=0
 ·obtain ⟨_,_,s,hs,h1,h2⟩:=zEw h
  rw [zEb h hs];omega
 ·rw [dimsSize_no h];omega
theorem bfErr_ty {seen:List Bf} {b:Bf} (h:jX seen b=0):bV b.T=true/\bR b.Dims=0:=by
 unfold jX at h
 split at h
 ·split at h
  ·cases h
  ·split at h
   ·next h3=>
    split at h
    ·next h4=>exact ⟨h3,h4⟩
    ·next h4=>exact absurd h h4
   ·cases h
 ·cases h
theorem bufs_ty:∀{l seen:List Bf},dI seen l=0->∀b,b∈l->bV b.T=true/\bR b.Dims=0
 |x::r,seen,h,b,hb=>by
  rw [dI] at h
  by_cases c:jX seen x=0
  ·rw [if_pos c] at h
   rcases List.mem_cons.1 hb with rfl|hb
   ·exact bfErr_ty c
   ·exact bufs_ty h b hb
  ·rw [if_neg c] at h;exact absurd h c
theorem must_inv {mem:List Nmd} {b:Bf} (h:gT mem b=0):∃t,dM mem b.Name=some t/\gS t=0/\t.T=b.T/\t.Dims=b.Dims:=by
 cases e:dM mem b.Name with
 |none=>rw [must_none e] at h;cases h
 |some t=>
  by_cases h1:gS t=0
  ·by_cases h2:t.T=b.T
   ·by_cases h3:t.Dims=b.Dims
    ·exact ⟨t,rfl,h1,h2,h3⟩
    ·rw [must_15 e h1 h2 h3] at h;cases h
   ·rw [must_10 e h1 h2] at h;cases h
  ·rw [must_1 e h1] at h;cases h
theorem tn_len {t:Tn} (h:gS t=0):(t.Vals.length:Int)=fD t.Dims:=by
 unfold gS at h
 split at h
 ·split at h
  ·split at h
   ·next h3=>exact h3
   ·cases h
  ·next h2=>exact absurd h h2
 ·cases h
theorem zOp:∀{l:List Nmd} {s:ByteArray} {t:Tn},dM l s=some t->∃x,x∈l/\x.T=t
 |[],s,t,h=>by cases h
 |x::r,s,t,h=>by
  rw [dM] at h
  split at h
  ·injection h with h;exact ⟨x,uD,h⟩
  ·obtain ⟨y,hy,e⟩:=zOp h;exact ⟨y,by simp [hy],e⟩
theorem tyv_f {a b:Ty} (h:(!bT (tyC a) (tyC b))=true):¬a=b:=fun e=>by
 rw [show bT (tyC a) (tyC b)=decide (a=b) from zUg a b,decide_eq_true e] at h;cases h
theorem tyv_t {a b:Ty} (h:(!bT (tyC a) (tyC b))=false):a=b:=by
 rw [show bT (tyC a) (tyC b)=decide (a=b) from zUg a b] at h
 exact of_decide_eq_true (by simpa using h)
theorem tn_10 {t:Tn} (h:bV t.T=false):gS t=10:=by unfold gS;rw [if_neg (by rw [h];simp)]
theorem tn_d {t:Tn} (h:bV t.T=true) (h2:¬bR t.Dims=0):gS t=bR t.Dims:=by unfold gS;rw [if_pos h,if_neg h2]
theorem tn_l {t:Tn} (h:bV t.T=true) (h2:bR t.Dims=0) (h3:¬(t.Vals.length:Int)=fD t.Dims):gS t=1:=by unfold gS;rw [if_pos h,if_pos h2,if_neg h3]
theorem tn_v {t:Tn} (h:bV t.T=true) (h2:bR t.Dims=0) (h3:(t.Vals.length:Int)=fD t.Dims) {k:Nat} {v:Vl} (hv:t.Vals[k]? =some v) (h4:bI t.T v=false):gS t=1:=by
 unfold gS;rw [if_pos h,if_pos h2,if_pos h3,if_neg (by rw [zLc hv h4];simp)]
theorem tn_0 {t:Tn} (h:bV t.T=true) (h2:bR t.Dims=0) (h3:(t.Vals.length:Int)=fD t.Dims) (h4:t.Vals.all (bI t.T)=true):gS t=0:=by unfold gS;rw [if_pos h,if_pos h2,if_pos h3,if_pos h4]
theorem fnd_some {l:List Nmd} {s:ByteArray} {t:Tn} (h:(dM l s).isSome=true) (ht:t=(dM l s).getD zTn):dM l s=some t:=by
 cases e:dM l s with
 |none=>rw [e] at h;cases h
 |some x=>rw [e] at ht;rw [ht];rfl
theorem fnd_none {l:List Nmd} {s:ByteArray} (h:(dM l s).isSome=false):dM l s=none:=by
 cases e:dM l s with
 |none=>rfl
 |some x=>rw [e] at h;cases h
theorem iniB_f {ins:List Nmd} {b:Bf} (h:b.Use=1):vV ins b=⟨b.Name,(dM ins b.Name).getD zTn⟩:=if_pos h
theorem iniB_z {ins:List Nmd} {b:Bf} (h:¬b.Use=1):vV ins b=⟨b.Name,⟨b.T,b.Dims,List.replicate (fD b.Dims).toNat ⟨0,1⟩⟩⟩:=if_neg h
theorem iniE_p {ins:List Nmd} {b:Bf} (h:b.Use=1):vA ins b=gT ins b:=if_pos h
theorem iniE_z {ins:List Nmd} {b:Bf} (h:¬b.Use=1):vA ins b=0:=if_neg h
theorem init_is {n:Ns} {ins:List Nmd} (h:(jI n ins).2=0):(jI n ins).1=n.Bufs.map (vV ins)/\mN ins n.Bufs=0/\(bJ n).2=0:=by
 by_cases h1:(bJ n).2=0
 ·by_cases h2:mN ins n.Bufs=0
  ·exact ⟨by rw [init_ok h1 h2],h2,h1⟩
  ·rw [init_e h1 h2] at h;exact absurd h h2
 ·rw [init_v h1] at h;exact absurd h h1
theorem ty_eqv (t:Ty):bT (tyC t) (tyC t)=true:=(zUg t t).trans (decide_eq_true rfl)
theorem vl_lits (a b:Vl):bT a.cells b.cells=decide (a=b):=by
 cases a;cases b
 rw [Bool.eq_iff_iff,decide_eq_true_eq]
 simp [bT,cEq,Vl.cells]
theorem vrep_next {v:Vl} {k:Nat}:(List.replicate k v).map Vl.cells++[[cI v.N,cI v.D]]=(List.replicate (k+1) v).map Vl.cells:=by
 rw [List.replicate_succ',List.map_append];rfl
end Go.Br
end
section
set_option maxRecDepth 100000
namespace Go.Br
open Go Go.Eng Go.L41
structure W3 where
 h:Nat
 m:Nat
 l:Nat
def W3.ok (w:W3):Prop:=w.h<18446744073709551616/\w.m<18446744073709551616/\w.l<18446744073709551616
def W3.v (w:W3):Nat:=w.h*340282366920938463463374607431768211456+w.m*18446744073709551616+w.l
def nD:List Bd->ByteArray->Option Int
 |[],_=>none
 |x::r,s=>if x.Name=s then some x.Val else nD r s
def evM (env:List Bd):List Mono->Option Int
 |[]=>some 0
 |m::r=>match nD env m.Name with
  |none=>none
  |some v=>(evM env r).map fun z=>m.By*v+z
def dE (l:Lf) (env:List Bd):Int×Int:=
 if dZ l=0 then (match evM env l.L with
  |none=>(0,9)
  |some z=>if-(9223372036854775808:Int)<=l.K+z/\l.K+z<=9223372036854775807 then (l.K+z,0) else (0,3)) else (0,1)
theorem evM_app (env:List Bd):∀(a b:List Mono),evM env (a++b)=match evM env a with|none=>none|some x=>(evM env b).map fun y=>x+y
 |[],b=>by rw [List.nil_append,evM];cases evM env b<;>simp
 |m::r,b=>by
  have ih:=evM_app env r b
  rw [List.cons_append,evM,evM,ih]
  cases nD env m.Name with
  |none=>rfl
  |some v=>
   dsimp only
   cases evM env r with
   |none=>rfl
   |some x=>
    dsimp only [Option.map]
    cases evM env b with
    |none=>rfl
    |some y=>simp only [Option.map];rw [Int.add_assoc]
theorem evM_next {env:List Bd} {l:List Mono} {k:Nat} {m:Mono} {x v:Int} (h:l[k]? =some m) (hx:evM env (l.take k)=some x) (hv:nD env m.Name=some v):evM env (l.take (k+1))=some (x+m.By*v):=by
 rw [yQ h,evM_app,hx]
 dsimp only [evM]
 rw [hv]
 simp
theorem evM_none {env:List Bd} {l:List Mono} {k:Nat} {m:Mono} (h:l[k]? =some m) (hv:nD env m.Name=none):evM env l=none:=by
 have hl:=(List.getElem?_eq_some_iff.1 h).1
 have e:l=l.take k++m::l.drop (k+1):=by rw [←qP h,List.take_append_drop]
 rw [e,evM_app]
 cases evM env (l.take k) with
 |none=>rfl
 |some x=>dsimp only [evM];rw [hv];rfl
end Go.Br
end
section
namespace Go.Br
open Go Go.Eng Go.L41
structure Gt where
 V:Vl
 T:Ty
 E:Int
def zVl:Vl:=⟨0,0⟩
def pH (e:Int):Gt:=⟨zVl,zTy,e⟩
def fK (mem:List Nmd) (s:ByteArray):Tn×Int:=
 match dM mem s with
 |none=>(zTn,9)
 |some t=>if gS t=0 then (t,0) else (zTn,1)
def lC (at_:Int):List (Int×Int)->List Int->Int×Int
 |[],_=>(at_,0)
 |(n,e)::r,d=>if ¬e=0 then (0,e) else if n<0∨d.headD 0<=n then (0,12) else lC (at_*d.headD 0+n) r d.tail
def mH (mem:List Nmd) (env:List Bd) (x:Ix) (dim:Int):Int×Int:=
 if x.From=bs [] then dE x.Lin env else
 if ¬(fK mem x.From).2=0 then (0,(fK mem x.From).2) else
 if ¬(fK mem x.From).1.T.Kind=3 then (0,10) else
 if ¬x.At.length=(fK mem x.From).1.Dims.length then (0,11) else
 if ¬(lC 0 (x.At.map fun f=>dE f env) (fK mem x.From).1.Dims).2=0 then (0,(lC 0 (x.At.map fun f=>dE f env) (fK mem x.From).1.Dims).2) else
 (max 0 (min (dim-1) ((fK mem x.From).1.Vals.getD (lC 0 (x.At.map fun f=>dE f env) (fK mem x.From).1.Dims).1.toNat zVl).N),0)
def tY (mem:List Nmd) (env:List Bd):List Ix->List Int->List (Int×Int)
 |[],_=>[]
 |x::r,d=>mH mem env x (d.headD 0)::tY mem env r d.tail
def gY (mem:List Nmd) (env:List Bd) (t:Tn) (l:List Ix):Int×Int:=if l.length=t.Dims.length then lC 0 (tY mem env l t.Dims) t.Dims else (0,11)
def lE (mem:List Nmd) (env:List Bd) (e:Ex):Gt:=
 if e.Op=1 then ⟨e.Val,e.Ty,0⟩ else
 if e.Op=2 then (if ¬(dE e.Lin env).2=0 then pH (dE e.Lin env).2 else if 2147483647<(dE e.Lin env).1∨(dE e.Lin env).1< -2147483647 then pH 3 else ⟨⟨(dE e.Lin env).1,1⟩,iTy,0⟩) else
 if ¬(fK mem e.Name).2=0 then pH (fK mem e.Name).2 else
 if ¬(gY mem env (fK mem e.Name).1 e.Idx).2=0 then pH (gY mem env (fK mem e.Name).1 e.Idx).2 else
 ⟨(fK mem e.Name).1.Vals.getD (gY mem env (fK mem e.Name).1 e.Idx).1.toNat zVl,(fK mem e.Name).1.T,0⟩
structure VH where
 v:Gt
 h:Bool×Int
def zVH:VH:=⟨pH 0,(false,0)⟩
def nY (mem:List Nmd) (env:List Bd) (e:Ex) (R:List VH):Gt:=
 if e.Op<=3 then lE mem env e else
 if e.Op=11 then (if ¬(R.getD 0 zVH).h.2=0 then pH (R.getD 0 zVH).h.2 else if (R.getD 0 zVH).h.1=true then (R.getD 1 zVH).v else (R.getD 2 zVH).v) else
 if ¬(R.getD 0 zVH).v.E=0 then (R.getD 0 zVH).v else
 if e.Op=12 then (if ¬(nR (R.getD 0 zVH).v.T e.Ty (R.getD 0 zVH).v.V).2=0 then pH (nR (R.getD 0 zVH).v.T e.Ty (R.getD 0 zVH).v.V).2 else ⟨(nR (R.getD 0 zVH).v.T e.Ty (R.getD 0 zVH).v.V).1,e.Ty,0⟩) else
 if ¬(R.getD (if e.Op=8 then 0 else 1) zVH).v.E=0 then (R.getD (if e.Op=8 then 0 else 1) zVH).v else
 if ¬(R.getD 0 zVH).v.T=(R.getD (if e.Op=8 then 0 else 1) zVH).v.T then pH 10 else
 if ¬(mA e.Op (R.getD 0 zVH).v.T (R.getD 0 zVH).v.V (R.getD (if e.Op=8 then 0 else 1) zVH).v.V).2=0 then pH (mA e.Op (R.getD 0 zVH).v.T (R.getD 0 zVH).v.V (R.getD (if e.Op=8 then 0 else 1) zVH).v.V).2 else
 ⟨(mA e.Op (R.getD 0 zVH).v.T (R.getD 0 zVH).v.V (R.getD (if e.Op=8 then 0 else 1) zVH).v.V).1,(R.getD 0 zVH).v.T,0⟩
def rL (e:Ex) (R:List VH):Bool×Int:=
  if 16<=e.Op then
    (if ¬(R.getD 0 zVH).h.2=0∨e.Op=18 then (decide ((R.getD 0 zVH).h.2=0)&& !(R.getD 0 zVH).h.1,(R.getD 0 zVH).h.2) else
     if ¬(R.getD 1 zVH).h.2=0 then (false,(R.getD 1 zVH).h.2) else
     ((decide (e.Op=16)&&(R.getD 0 zVH).h.1&&(R.getD 1 zVH).h.1)||(decide (e.Op=17)&&((R.getD 0 zVH).h.1||(R.getD 1 zVH).h.1)),0)) else
  if ¬(R.getD 0 zVH).v.E=0 then (false,(R.getD 0 zVH).v.E) else
  if ¬(R.getD 1 zVH).v.E=0 then (false,(R.getD 1 zVH).v.E) else
  if ¬(R.getD 0 zVH).v.T=(R.getD 1 zVH).v.T then (false,10) else
  ((decide (rO (R.getD 0 zVH).v.T (R.getD 0 zVH).v.V (R.getD 1 zVH).v.V<0)&& !decide (e.Op=15))||(decide (rO (R.getD 0 zVH).v.T (R.getD 0 zVH).v.V (R.getD 1 zVH).v.V=0)&& !decide (e.Op=13)),0)
mutual
def evE (mem:List Nmd) (env:List Bd):Ex->VH
 |.mk o n v t l i av=>⟨nY mem env (.mk o n v t l i av) (eA mem env av),rL (.mk o n v t l i av) (eA mem env av)⟩
def eA (mem:List Nmd) (env:List Bd):List Ex->List VH
 |[]=>[]
 |a::r=>evE mem env a::eA mem env r
end
theorem evEs_eq (mem:List Nmd) (env:List Bd) (l:List Ex):eA mem env l=l.map (evE mem env):=by
 induction l with
 |nil=>rfl
 |cons a r ih=>rw [eA,ih];rfl
theorem evE_eq (mem:List Nmd) (env:List Bd) (e:Ex):evE mem env e=⟨nY mem env e (e.Args.map (evE mem env)),rL e (e.Args.map (evE mem env))⟩:=by
 cases e;rw [evE,evEs_eq];rfl
/-! ## Statements -/
structure Rs where
 Mem:List Nmd
 N:Int
 E:Int
def dU (fuel:Int) (s:Rs):Rs:=if fuel<=s.N then ⟨s.Mem,s.N,14⟩ else ⟨s.Mem,s.N+1,s.E⟩
def sC (f:Int):Int:=if f=1∨f=5 then 4 else if f=2 then 6 else if f=3 then 9 else 10
def rQ (fold:Int) (t:Ty) (a b:Vl):Vl×Int:=
 if fold<1∨5<fold then (zVl,1) else if bV t=false then (zVl,10) else if (bI t a&&bI t b)=false then (zVl,1) else mA (sC fold) t a b
def fV (mem:List Nmd) (s:ByteArray) (k:Nat) (v:Vl):List Nmd:=mem.map fun x=>if x.Name=s then ⟨x.Name,⟨x.T.T,x.T.Dims,x.T.Vals.set k v⟩⟩ else x
theorem uI {p:Prop} (h:p:=by simp only [fV,List.length_map,List.length_take,List.length_cons,List.length_nil];omega):p:=h
def gD (s:Rs) (env:List Bd) (x:St):Rs:=
 if ¬(evE s.Mem env x.E).v.E=0 then ⟨s.Mem,s.N,(evE s.Mem env x.E).v.E⟩ else
 if ¬(gY s.Mem env ((dM s.Mem x.Name).getD zTn) x.Idx).2=0 then ⟨s.Mem,s.N,(gY s.Mem env ((dM s.Mem x.Name).getD zTn) x.Idx).2⟩ else
 if x.Op=3 then
  (if ¬(rQ x.Fold ((dM s.Mem x.Name).getD zTn).T (((dM s.Mem x.Name).getD zTn).Vals.getD (gY s.Mem env ((dM s.Mem x.Name).getD zTn) x.Idx).1.toNat zVl) (evE s.Mem env x.E).v.V).2=0 then
   ⟨s.Mem,s.N,(rQ x.Fold ((dM s.Mem x.Name).getD zTn).T (((dM s.Mem x.Name).getD zTn).Vals.getD (gY s.Mem env ((dM s.Mem x.Name).getD zTn) x.Idx).1.toNat zVl) (evE s.Mem env x.E).v.V).2⟩ else
   ⟨fV s.Mem x.Name (gY s.Mem env ((dM s.Mem x.Name).getD zTn) x.Idx).1.toNat (rQ x.Fold ((dM s.Mem x.Name).getD zTn).T (((dM s.Mem x.Name).getD zTn).Vals.getD (gY s.Mem env ((dM s.Mem x.Name).getD zTn) x.Idx).1.toNat zVl) (evE s.Mem env x.E).v.V).1,s.N,0⟩) else
 ⟨fV s.Mem x.Name (gY s.Mem env ((dM s.Mem x.Name).getD zTn) x.Idx).1.toNat (evE s.Mem env x.E).v.V,s.N,0⟩
def hY (fuel:Int) (nm:ByteArray) (env:List Bd) (b:List Bd->Rs->Rs) (s:Rs) (k:Nat):Rs:=
 if ¬s.E=0 then s else if ¬(dU fuel s).E=0 then dU fuel s else b (⟨nm,k⟩::env) (dU fuel s)
mutual
def gX (fuel:Int):St->List Bd->Rs->Rs
 |.mk o nm mn mk fo i e b,env,s=>
  if o=1 then (List.range mn.toNat).foldl (hY fuel nm env fun env' s'=>gJ fuel b env' s') s else
  if ¬(dU fuel s).E=0 then dU fuel s else
  if o=4 then
   (if ¬(evE s.Mem env e).h.2=0 then ⟨s.Mem,(dU fuel s).N,(evE s.Mem env e).h.2⟩ else if (evE s.Mem env e).h.1=true then gJ fuel b env (dU fuel s) else dU fuel s) else
  gD (dU fuel s) env (.mk o nm mn mk fo i e b)
def gJ (fuel:Int):List St->List Bd->Rs->Rs
 |[],_,s=>s
 |x::r,env,s=>if ¬s.E=0 then s else gJ fuel r env (gX fuel x env s)
end
theorem zQb (fuel:Int) (x:St) (env:List Bd) (s:Rs):gX fuel x env s=
  if x.Op=1 then (List.range x.Many.toNat).foldl (hY fuel x.Name env (gJ fuel x.Body)) s else
  if ¬(dU fuel s).E=0 then dU fuel s else
  if x.Op=4 then
   (if ¬(evE s.Mem env x.E).h.2=0 then ⟨s.Mem,(dU fuel s).N,(evE s.Mem env x.E).h.2⟩ else if (evE s.Mem env x.E).h.1=true then gJ fuel x.Body env (dU fuel s) else dU fuel s) else
  gD (dU fuel s) env x:=by cases x;rw [gX];rfl
end Go.Br
end
section
namespace Go.Br
open Go Go.Eng Go.L41
def vlE (env:List Bd) (s:ByteArray):Int:=(nD env s).getD 0
def smM (env:List Bd):List Mono->Int
 |[]=>0
 |m::r=>m.By*vlE env m.Name+smM env r
def smT (env:List Bd):List Tr->Int
 |[]=>0
 |t::r=>trV t*vlE env t.1+smT env r
def vlL (env:List Bd) (l:Lf):Int:=l.K+smM env l.L
theorem evM_sm {env:List Bd}:∀{l:List Mono} {z:Int},evM env l=some z->z=smM env l
 |[],z,h=>by rw [evM] at h;injection h with h;rw [←h];rfl
 |m::r,z,h=>by
  rw [evM] at h
  cases e:nD env m.Name with
  |none=>rw [e] at h;cases h
  |some v=>
   rw [e] at h
   dsimp only at h
   cases e2:evM env r with
   |none=>rw [e2] at h;cases h
   |some y=>
    rw [e2,Option.map_some] at h
    injection h with h
    rw [smM,←evM_sm e2,vlE,e,←h];rfl
theorem evalT_vl {l:Lf} {env:List Bd} (h:(dE l env).2=0):(dE l env).1=vlL env l:=by
 unfold dE at h⊢
 split
 ·next c=>
  rw [if_pos c] at h
  cases e:evM env l.L with
  |none=>rw [e] at h;cases h
  |some z=>
   rw [e] at h
   dsimp only at h⊢
   split
   ·show l.K+z=_;rw [evM_sm e];rfl
   ·next c2=>rw [if_neg c2] at h;cases h
 ·next c=>rw [if_neg c] at h;cases h
theorem zLi (env:List Bd):∀(n:Nat) (a b:List Mono),a.length+b.length<=n->smT env (dT n a b)=smM env a+smM env b
 |0,a,b,h=>by
  obtain rfl:a=[]:=List.length_eq_zero_iff.1 zA
  obtain rfl:b=[]:=List.length_eq_zero_iff.1 zA
  rfl
 |n+1,[],[],_=>rfl
 |n+1,a::ar,[],h=>by
  rw [dT,smT,zLi env n ar [] (by simp at h⊢;omega),smM]
  show (a.By+0)*vlE env a.Name+(_+0)=a.By*vlE env a.Name+_+0
  rw [Int.add_zero];omega
 |n+1,[],b::bs,h=>by
  rw [dT,smT,zLi env n [] bs (by simp at h⊢;omega),smM,smM]
  show (0+b.By)*vlE env b.Name+(0+_)=0+(b.By*vlE env b.Name+_)
  rw [Int.zero_add];omega
 |n+1,a::ar,b::bs,h=>by
  have h':ar.length+1+(bs.length+1)<=n+1:=by simpa using h
  rw [dT]
  cases h1:fR a.Name b.Name with
  |true=>
   rw [cond_true,smT,zLi env n ar (b::bs) uE,smM,smM]
   show (a.By+0)*vlE env a.Name+_=_
   rw [Int.add_zero];omega
  |false=>
   rw [cond_false]
   cases h2:fR b.Name a.Name with
   |true=>
    rw [cond_true,smT,zLi env n (a::ar) bs uE,smM,smM]
    show (0+b.By)*vlE env b.Name+_=_
    rw [Int.zero_add];omega
   |false=>
    rw [cond_false,smT,zLi env n ar bs zA,smM,smM,←strLt_tri h1 h2]
    show (a.By+b.By)*vlE env a.Name+_=_
    rw [Int.add_mul];omega
theorem sm_sumW (env:List Bd):∀ts:List Tr,ts.all cG=true->smM env (nZ ts)=smT env ts
 |[],_=>rfl
 |t::r,h=>by
  rw [List.all_cons,Bool.and_eq_true] at h
  have ht:w64 (trV t)=trV t:=zIx (of_decide_eq_true h.1)
  have ih:=sm_sumW env r h.2
  unfold nZ at ih⊢
  rw [List.filterMap_cons,ht,smT]
  by_cases c:trV t=0
  ·rw [if_pos c];dsimp only;rw [ih,c,Int.zero_mul,Int.zero_add]
  ·rw [if_neg c];dsimp only;rw [smM,ih]
theorem addT_vl {env:List Bd} {k:Int} {ts:List Tr} {d:Lf} (h:rU k ts=(d,0)):vlL env d=k+smT env ts:=by
 unfold rU at h
 split at h
 ·next c=>
  injection h with h _
  subst h
  unfold vlL;dsimp only;rw [sm_sumW env _ c.2]
 ·injection h with _ h;cases h
theorem add_vl {env:List Bd} {a b d:Lf} (h:fX a b=(d,0)):vlL env d=vlL env a+vlL env b:=by
 unfold fX at h
 split at h
 ·rw [addT_vl h,bX,zLi env _ _ _ (Nat.le_refl _)];unfold vlL;omega
 ·injection h with _ h;cases h
theorem sm_scale (env:List Bd) (k:Int):∀l:List Mono,smM env (jQ k l)=smM env l*k
 |[]=>by rw [show jQ k []=[] from rfl,smM,Int.zero_mul]
 |m::r=>by
  show smM env (⟨m.Name,m.By*k⟩::jQ k r)=_
  rw [smM,smM,sm_scale env k r,Int.add_mul]
  show m.By*k*_+_=_
  rw [Int.mul_right_comm]
theorem scale_vl {env:List Bd} {a d:Lf} {k:Int} (h:bF a k=(d,0)):vlL env d=vlL env a*k:=by
 unfold bF at h
 split at h
 ·split at h
  ·next c=>injection h with h _;subst h c;rw [Int.mul_zero];rfl
  ·split at h
   ·injection h with h _
    subst h
    unfold vlL;dsimp only;rw [sm_scale,Int.add_mul]
   ·injection h with _ h;cases h
 ·injection h with _ h;cases h
end Go.Br
end
section
set_option maxRecDepth 100000
namespace Go.Br
open Go Go.Eng Go.L41
theorem mul_abs {x y:Int}:x*y=if (decide (x<0) !=decide (y<0))=true then-((x.natAbs*y.natAbs:Nat):Int) else ((x.natAbs*y.natAbs:Nat):Int):=by
 have h:=zIw x y
 split
 ·rename_i c
  have:=neg_mul (x:=x) (y:=y) (by cases h1:decide (x<0)<;>cases h2:decide (y<0)<;>rw [h1,h2] at c<;>simp_all)
  omega
 ·rename_i c
  have:=pos_mul (x:=x) (y:=y) (by cases h1:decide (x<0)<;>cases h2:decide (y<0)<;>rw [h1,h2] at c<;>simp_all)
  omega
theorem abs_bd {x y:Int} (hx:r64 x) (hy:r64 y):(x*y).natAbs<=85070591730234615865843651857942052864:=by
 rw [zIw]
 exact Nat.le_trans (Nat.mul_le_mul (zGw hx) (zGw hy)) zB
def dgV:List Nat->Nat
 |[]=>0
 |d::r=>d+4294967296*dgV r
def gP (l:List Nat):Prop:=∀d,d∈l->d<4294967296
theorem dgV_app:∀(a b:List Nat),dgV (a++b)=dgV a+4294967296^a.length*dgV b
 |[],b=>by simp [dgV]
 |d::r,b=>by
  rw [List.cons_append,dgV,dgV,dgV_app r b,List.length_cons,Nat.pow_succ,Nat.mul_add,Nat.add_assoc,Nat.mul_comm (4294967296^r.length) 4294967296,Nat.mul_assoc]
theorem dgV_lt:∀{l:List Nat},gP l->dgV l<4294967296^l.length
 |[],_=>by simp [dgV]
 |d::r,h=>by
  have h1:=h d uD
  have h2:=dgV_lt (l:=r) fun x hx=>h x (by simp [hx])
  rw [dgV,List.length_cons,Nat.pow_succ,Nat.mul_comm (4294967296^r.length)]
  omega
theorem dg_split {l:List Nat} {i d:Nat} (h:l[i]? =some d):dgV l=dgV (l.take i)+4294967296^i*(d+4294967296*dgV (l.drop (i+1))):=by
 have hl:=(List.getElem?_eq_some_iff.1 h).1
 have e:l=l.take i++d::l.drop (i+1):=by rw [←qP h,List.take_append_drop]
 have e2:dgV l=dgV (l.take i++d::l.drop (i+1)):=congrArg dgV e
 rw [e2,dgV_app,List.length_take,Nat.min_eq_left zA,dgV]
theorem dgOk_set {l:List Nat} {i x:Nat} (h:gP l) (hx:x<4294967296):gP (l.set i x):=fun d hd=>by
 rcases List.mem_or_eq_of_mem_set hd with k|k
 ·exact h d k
 ·rw [k];exact hx
/-! ## Adding a number -/
def lH:List Nat->Nat->Nat->List Nat
 |[],_,_=>[]
 |d::r,c,n=>(d+n%4294967296+c)%4294967296::lH r ((d+n%4294967296+c)/4294967296) (n/4294967296)
theorem dgAdd_v:∀(l:List Nat) (c n:Nat),gP l->(∃q,dgV (lH l c n)+q*4294967296^l.length=dgV l+c+n)/\gP (lH l c n)/\(lH l c n).length=l.length
 |[],c,n,_=>⟨⟨c+n,by simp [dgV,lH]⟩,(fun d hd=>by cases hd),rfl⟩
 |d::r,c,n,h=>by
  obtain ⟨⟨q,hq⟩,h2,h3⟩:=dgAdd_v r ((d+n%4294967296+c)/4294967296) (n/4294967296) fun x hx=>h x (by simp [hx])
  refine ⟨⟨q,?_⟩,fun x hx=>?_,by rw [lH,List.length_cons,h3,List.length_cons]⟩
  ·rw [lH,dgV,dgV,List.length_cons,Nat.pow_succ,←Nat.mul_assoc]
   generalize dgV (lH r ((d+n%4294967296+c)/4294967296) (n/4294967296))=X at *
   generalize q*4294967296^r.length=Y at *
   omega
  ·rw [lH] at hx
   rcases List.mem_cons.1 hx with rfl|hx
   ·exact Nat.mod_lt _ zB
   ·exact h2 x hx
def gZ (w:List Nat) (at_ N:Nat):List Nat:=w.take at_++lH (w.drop at_) 0 N
theorem zEc {w:List Nat} {at_ N:Nat} (h:w.length=6) (hw:gP w):(gZ w at_ N).length=6:=by
 unfold gZ
 rw [List.length_append,(dgAdd_v _ 0 N fun d hd=>hw d (List.mem_of_mem_drop hd)).2.2,←List.length_append,List.take_append_drop,h]
theorem zCa {w:List Nat} {at_ N:Nat} (hw:gP w):gP (gZ w at_ N):=fun d hd=>by
 unfold gZ at hd
 rcases List.mem_append.1 hd with k|k
 ·exact hw d (List.mem_of_mem_take k)
 ·exact (dgAdd_v _ 0 N fun d hd=>hw d (List.mem_of_mem_drop hd)).2.1 d k
theorem dgt_v {w:List Nat} {at_ N:Nat} (h:w.length=6) (hw:gP w) (ha:at_<=6) (hb:dgV w+N*4294967296^at_<6277101735386680763835789423207666416102355444464034512896):dgV (gZ w at_ N)=dgV w+N*4294967296^at_:=by
 obtain ⟨⟨q,hq⟩,h2,h3⟩:=dgAdd_v (w.drop at_) 0 N fun d hd=>hw d (List.mem_of_mem_drop hd)
 have e:dgV w=dgV (w.take at_)+4294967296^at_*dgV (w.drop at_):=by
  have:=dgV_app (w.take at_) (w.drop at_)
  rw [List.take_append_drop,List.length_take,Nat.min_eq_left zA] at this
  exact this
 have e2:dgV (gZ w at_ N)=dgV (w.take at_)+4294967296^at_*dgV (lH (w.drop at_) 0 N):=by
  have:=dgV_app (w.take at_) (lH (w.drop at_) 0 N)
  rw [List.length_take,Nat.min_eq_left zA] at this
  exact this
 have e3:=congrArg (fun x=>4294967296^at_*x) hq
 simp only [Nat.mul_add,Nat.mul_zero,Nat.add_zero,List.length_drop,h] at e3
 have e4:4294967296^at_*(q*4294967296^(6-at_))=q*6277101735386680763835789423207666416102355444464034512896:=by
  rw [←Nat.mul_assoc,Nat.mul_comm (4294967296^at_) q,Nat.mul_assoc,←Nat.pow_add,show at_+(6-at_)=6 by omega]
 rw [e4,Nat.mul_comm (4294967296^at_) N] at e3
 rw [e2]
 generalize dgV (gZ w at_ N)=A at *
 generalize 4294967296^at_*dgV (lH (w.drop at_) 0 N)=X at *
 generalize 4294967296^at_*dgV (w.drop at_)=Y at *
 generalize N*4294967296^at_=Z at *
 exact j5
theorem dgt_next {w ds:List Nat} {at_ N i c n d:Nat} (h:gZ w at_ N=ds.take i++lH (ds.drop i) c n) (hd:ds[i]? =some d):
  gZ w at_ N=(ds.set i ((d+n%4294967296+c)%4294967296)).take (i+1)++lH ((ds.set i ((d+n%4294967296+c)%4294967296)).drop (i+1)) ((d+n%4294967296+c)/4294967296) (n/4294967296):=by
 have hl:=(List.getElem?_eq_some_iff.1 hd).1
 rw [h,qP hd,lH,List.drop_set_of_lt zA,yQ (x:=(d+n%4294967296+c)%4294967296) (by rw [List.getElem?_set_self hl]),List.take_set_of_le (Nat.le_refl i),List.append_assoc];rfl
theorem dgt_end {w ds:List Nat} {at_ N i c n:Nat} (h:gZ w at_ N=ds.take i++lH (ds.drop i) c n) (hl:ds.length<=i):gZ w at_ N=ds:=by
 rw [h,List.take_of_length_le hl,List.drop_eq_nil_of_le hl,lH,List.append_nil]
def tI (w:List Nat) (a b:Nat):List Nat:=gZ (gZ (gZ (gZ w 0 (a%4294967296*(b%4294967296))) 1 (a%4294967296*(b/4294967296))) 1 (a/4294967296*(b%4294967296))) 2 (a/4294967296*(b/4294967296))
theorem zFg {w:List Nat} {a b:Nat} (h:w.length=6) (hw:gP w):(tI w a b).length=6/\gP (tI w a b):=
 ⟨zEc (zEc (zEc (zEc h hw) (zCa hw)) (zCa (zCa hw))) (zCa (zCa (zCa hw))),zCa (zCa (zCa (zCa hw)))⟩
theorem plu_v {w:List Nat} {a b:Nat} (h:w.length=6) (hw:gP w) (hb:dgV w+a*b<6277101735386680763835789423207666416102355444464034512896):dgV (tI w a b)=dgV w+a*b:=by
 have hp:=mul_parts a b
 have h0:(4294967296:Nat)^0=1:=by decide
 have h1:(4294967296:Nat)^1=4294967296:=by decide
 have h2:(4294967296:Nat)^2=18446744073709551616:=by decide
 unfold tI
 have e1:=dgt_v (w:=w) (at_:=0) (N:=a%4294967296*(b%4294967296)) h hw zB (by rw [h0];omega)
 have e2:=dgt_v (w:=gZ w 0 (a%4294967296*(b%4294967296))) (at_:=1) (N:=a%4294967296*(b/4294967296)) (zEc h hw) (zCa hw) zB (by rw [e1,h0,h1];omega)
 have e3:=dgt_v (at_:=1) (N:=a/4294967296*(b%4294967296)) (zEc (at_:=1) (N:=a%4294967296*(b/4294967296)) (zEc (at_:=0) (N:=a%4294967296*(b%4294967296)) h hw) (zCa hw)) (zCa (zCa hw)) zB (by rw [e2,e1,h0,h1];omega)
 have e4:=dgt_v (at_:=2) (N:=a/4294967296*(b/4294967296)) (zEc (at_:=1) (N:=a/4294967296*(b%4294967296)) (zEc (at_:=1) (N:=a%4294967296*(b/4294967296)) (zEc (at_:=0) (N:=a%4294967296*(b%4294967296)) h hw) (zCa hw)) (zCa (zCa hw))) (zCa (zCa (zCa hw))) zB (by rw [e3,e2,e1,h0,h1,h2];omega)
 rw [e4,e3,e2,e1,h0,h1,h2]
 omega
/-! ## Comparing -/
theorem dg_less {a b:List Nat} {i x y:Nat} (hl:a.length=b.length) (ha:gP a) (hb:gP b) (hx:a[i]? =some x) (hy:b[i]? =some y) (hne:¬x=y) (hd:a.drop (i+1)=b.drop (i+1)):decide (x<y)=decide (dgV a<dgV b):=by
 have h1:=dg_split hx
 have h2:=dg_split hy
 have hla:=(List.getElem?_eq_some_iff.1 hx).1
 have t1:=dgV_lt (l:=a.take i) fun d hd=>ha d (List.mem_of_mem_take hd)
 have t2:=dgV_lt (l:=b.take i) fun d hd=>hb d (List.mem_of_mem_take hd)
 rw [List.length_take,Nat.min_eq_left zA] at t1 t2
 rw [hd] at h1
 generalize dgV (b.drop (i+1))=D at *
 generalize dgV (a.take i)=p at *
 generalize dgV (b.take i)=q at *
 generalize (4294967296:Nat)^i=B at *
 by_cases c:x<y
 ·have h3:B*(x+4294967296*D)+B<=B*(y+4294967296*D):=by
   rw [show B*(x+4294967296*D)+B=B*(x+4294967296*D+1) from (Nat.mul_succ B _).symm]
   exact Nat.mul_le_mul_left _ zA
  rw [decide_eq_true c,decide_eq_true zA]
 ·have h3:B*(y+4294967296*D)+B<=B*(x+4294967296*D):=by
   rw [show B*(y+4294967296*D)+B=B*(y+4294967296*D+1) from (Nat.mul_succ B _).symm]
   exact Nat.mul_le_mul_left _ zA
  rw [decide_eq_false c,decide_eq_false zA]
theorem dg_step {a b:List Nat} {i x:Nat} (hx:a[i]? =some x) (hy:b[i]? =some x) (hd:a.drop (i+1)=b.drop (i+1)):a.drop i=b.drop i:=by rw [qP hx,qP hy,hd]
theorem dg_same {a b:List Nat} (hd:a.drop 0=b.drop 0):decide (dgV a<dgV b)=false:=by
 rw [show a=b from hd];exact decide_eq_false (Nat.lt_irrefl _)
/-! ## Subtracting -/
def lO:List Nat->List Nat->Nat->List Nat
 |x::r,y::s,c=>(if x<y+c then x+4294967296-(y+c) else x-(y+c))::lO r s (if x<y+c then 1 else 0)
 |_,_,_=>[]
theorem dgSub_v:∀(a b:List Nat) (c:Nat),a.length=b.length->gP a->gP b->c<=1->(∃q,dgV (lO a b c)+dgV b+c=dgV a+q*4294967296^a.length)/\gP (lO a b c)/\(lO a b c).length=a.length
 |[],[],c,_,_,_,_=>⟨⟨c,by simp [dgV,lO]⟩,(fun d hd=>by simp [lO] at hd),rfl⟩
 |x::r,y::s,c,hl,ha,hb,hc=>by
  have hx:=ha x uD
  have hy:=hb y uD
  obtain ⟨⟨q,hq⟩,h2,h3⟩:=dgSub_v r s (if x<y+c then 1 else 0) (by simpa using hl) (fun d hd=>ha d (by simp [hd])) (fun d hd=>hb d (by simp [hd])) (by split<;>omega)
  refine ⟨⟨q,?_⟩,fun d hd=>?_,by rw [lO,List.length_cons,h3,List.length_cons]⟩
  ·rw [lO,dgV,dgV,dgV,List.length_cons,Nat.pow_succ,←Nat.mul_assoc]
   generalize dgV (lO r s (if x<y+c then 1 else 0))=X at *
   generalize q*4294967296^r.length=Y at *
   split at hq
   ·rename_i k;rw [if_pos k];omega
   ·rename_i k;rw [if_neg k];omega
  ·rw [lO] at hd
   rcases List.mem_cons.1 hd with rfl|hd
   ·split<;>omega
   ·exact h2 d hd
def tX (a b:List Nat):List Nat:=lO a b 0
theorem mns_v {a b:List Nat} (h1:a.length=6) (h2:b.length=6) (ha:gP a) (hb:gP b) (hle:dgV b<=dgV a):dgV (tX a b)=dgV a-dgV b/\gP (tX a b)/\(tX a b).length=6:=by
 obtain ⟨⟨q,hq⟩,h3,h4⟩:=dgSub_v a b 0 (h1.trans h2.symm) ha hb zB
 have hlt:=dgV_lt h3
 rw [h4,h1] at hlt
 rw [h1,show (4294967296:Nat)^6=6277101735386680763835789423207666416102355444464034512896 by decide] at hq
 rw [show (4294967296:Nat)^6=6277101735386680763835789423207666416102355444464034512896 by decide] at hlt
 refine ⟨?_,h3,h4.trans h1⟩
 show dgV (lO a b 0)=_
 exact j5
theorem mns_next {a b ds:List Nat} {i c x y x' c':Nat} (h:tX a b=ds.take i++lO (ds.drop i) (b.drop i) c) (hx:ds[i]? =some x) (hy:b[i]? =some y) (hx':x'=if x<y+c then x+4294967296-(y+c) else x-(y+c)) (hc':c'=if x<y+c then 1 else 0):
  tX a b=(ds.set i x').take (i+1)++lO ((ds.set i x').drop (i+1)) (b.drop (i+1)) c':=by
 have hl:=(List.getElem?_eq_some_iff.1 hx).1
 rw [h,qP hx,qP hy,lO,←hx',←hc',List.drop_set_of_lt zA,yQ (x:=x') (by rw [List.getElem?_set_self hl]),List.take_set_of_le (Nat.le_refl i),List.append_assoc];rfl
theorem mns_end {a b ds:List Nat} {i c:Nat} (h:tX a b=ds.take i++lO (ds.drop i) (b.drop i) c) (hl:ds.length<=i):tX a b=ds:=by
 rw [h,List.take_of_length_le hl,List.drop_eq_nil_of_le hl];simp [lO]
/-! ## Cells -/
abbrev cU (n:Nat):C:=.lit (.int .u64 (n:Int))
abbrev vW (l:List Nat):V:=.agg (l.map cU)
theorem zGz {l:List Nat} {k d:Nat} (h:l[k]? =some d):(l.map cU).drop (0+(k:Int).toNat*1)=cU d::(l.drop (k+1)).map cU:=by
 rw [Nat.zero_add,Nat.mul_one,Int.toNat_natCast,←List.map_drop,qP h];rfl
theorem spl_set {new:C}:∀(l:List C) (k:Nat),k<l.length->spl l k [new]=l.set k new
 |[],k,h=>by simp at h
 |c::r,0,_=>rfl
 |c::r,k+1,h=>by rw [spl,List.set_cons_succ,spl_set r k (by simpa using h)]
theorem dg_spl {l:List Nat} {k x:Nat} (h:k<l.length):spl (l.map cU) (0+(k:Int).toNat*1) [cU x]=(l.set k x).map cU:=by
 rw [Nat.zero_add,Nat.mul_one,Int.toNat_natCast,spl_set _ _ (by rw [List.length_map];exact h),List.map_set]
theorem dg_le {l:List Nat} {k:Nat} (h:k<l.length) (x:C):0+(k:Int).toNat*1+[x].length<=(l.map cU).length:=by
 rw [Nat.zero_add,Nat.mul_one,Int.toNat_natCast,List.length_map];exact h
theorem zJd (l:List Nat):(l.map cU).drop 0=l.map cU++[]:=by rw [List.append_nil];rfl
theorem zCi {l:List Nat} (h:l.length=6):(l.map cU).length=6:=by rw [List.length_map];exact h
theorem zWt {cs:List C} {l:List Nat} (hc:cs.length=6) (h:l.length=6):spl cs 0 (l.map cU)=l.map cU:=by
 rw [show spl cs 0 (l.map cU)=l.map cU++cs.drop (l.map cU).length by cases cs<;>rfl]
 rw [List.drop_eq_nil_of_le (by rw [List.length_map];omega),List.append_nil]
theorem zWv {l:List Nat} (h:l.length=6):Nat.beq (l.map cU).length 6=true:=by rw [List.length_map,h];rfl
theorem zWu {cs:List C} {l:List Nat} (hc:cs.length=6) (h:l.length=6):0+(l.map cU).length<=cs.length:=by rw [List.length_map];omega
/-! ## The value of a form -/
theorem dg_six {l:List Nat} (h:l.length=6):∃a b c d e f,l=[a,b,c,d,e,f]:=by
 match l,h with
 |[a,b,c,d,e,f],_=>exact ⟨a,b,c,d,e,f,rfl⟩
structure ErJ (l:Lf) (env:List Bd) (k:Nat) (p q:List Nat) (z:Int):Prop where
 pl:p.length=6
 ql:q.length=6
 po:gP p
 qo:gP q
 ev:evM env (l.L.take k)=some z
 v:(dgV p:Int)-(dgV q:Int)=l.K+z
 pb:dgV p<=9223372036854775808+k*85070591730234615865843651857942052864
 qb:dgV q<=9223372036854775808+k*85070591730234615865843651857942052864
theorem bd_next {a k c b:Nat} (h:a<=c+k*b):a<=c+(k+1)*b:=Nat.le_trans h (Nat.add_le_add_left (Nat.mul_le_mul_right _ (Nat.le_succ k)) _)
theorem bd_add {a a' k c b n:Nat} (h:a<=c+k*b) (e:a'=a+n) (hn:n<=b):a'<=c+(k+1)*b:=by
 rw [e,Nat.add_mul,Nat.one_mul,←Nat.add_assoc]
 exact Nat.add_le_add h hn
theorem er_sub {a b b' n:Nat} {K z P:Int} (h:(a:Int)-(b:Int)=K+z) (h3:b'=b+n) (he:P= -((n:Nat):Int)):(a:Int)-(b':Int)=K+(z+P):=by omega
theorem er_add {a b a' n:Nat} {K z P:Int} (h:(a:Int)-(b:Int)=K+z) (h3:a'=a+n) (he:P=((n:Nat):Int)):(a':Int)-(b:Int)=K+(z+P):=by omega
theorem er_neg {l:Lf} {env:List Bd} {k:Nat} {p q q':List Nat} {z v:Int} {m:Mono} (hl:l.rng) (h:ErJ l env k p q z) (hm:l.L[k]? =some m) (hv:nD env m.Name=some v) (hr:r64 v) (hs:¬(decide (v<0)=decide (m.By<0)))
  (h1:q'.length=6) (h2:gP q') (h3:dgV q'=dgV q+v.natAbs*m.By.natAbs):ErJ l env (k+1) p q' (z+m.By*v):=by
 have hb:=abs_bd (hl.2 m (qA hm)) hr
 have he:=mul_abs (x:=m.By) (y:=v)
 rw [if_pos (by cases c1:decide (v<0)<;>cases c2:decide (m.By<0)<;>simp_all)] at he
 rw [zIw] at hb
 rw [Nat.mul_comm] at h3
 exact ⟨h.pl,h1,h.po,h2,evM_next hm h.ev hv,er_sub h.v h3 he,bd_next h.pb,bd_add h.qb h3 hb⟩
theorem er_pos {l:Lf} {env:List Bd} {k:Nat} {p q p':List Nat} {z v:Int} {m:Mono} (hl:l.rng) (h:ErJ l env k p q z) (hm:l.L[k]? =some m) (hv:nD env m.Name=some v) (hr:r64 v) (hs:decide (v<0)=decide (m.By<0))
  (h1:p'.length=6) (h2:gP p') (h3:dgV p'=dgV p+v.natAbs*m.By.natAbs):ErJ l env (k+1) p' q (z+m.By*v):=by
 have hb:=abs_bd (hl.2 m (qA hm)) hr
 have he:=mul_abs (x:=m.By) (y:=v)
 rw [if_neg (by cases c1:decide (v<0)<;>cases c2:decide (m.By<0)<;>simp_all)] at he
 rw [zIw] at hb
 rw [Nat.mul_comm] at h3
 exact ⟨h1,h.ql,h2,h.qo,evM_next hm h.ev hv,er_add h.v h3 he,bd_add h.pb h3 hb,bd_next h.qb⟩
theorem er_first {l:Lf} {env:List Bd} (hk:r64 l.K) {p q:List Nat} (h1:p.length=6) (h2:gP p) (h3:q.length=6) (h4:gP q) (h5:(dgV p:Int)-(dgV q:Int)=l.K) (h6:dgV p<=l.K.natAbs) (h7:dgV q<=l.K.natAbs):ErJ l env 0 p q 0:=by
 have:=zGw hk
 exact ⟨h1,h3,h2,h4,rfl,zA,zA,zA⟩
theorem er_val {l:Lf} {env:List Bd} {k:Nat} {p q:List Nat} {z:Int} (h:ErJ l env k p q z) (hk:l.L.length<=k) (hl:dZ l=0):dE l env=if r64 ((dgV p:Int)-(dgV q:Int)) then ((dgV p:Int)-(dgV q:Int),0) else (0,3):=by
 have hz:=h.ev
 rw [yV zA] at hz
 unfold dE
 rw [if_pos hl,hz,h.v]
 rfl
theorem dg_big {a b c d e f:Nat} (ho:gP [a,b,c,d,e,f]):(c=0/\d=0/\e=0/\f=0->dgV [a,b,c,d,e,f]=a+b*4294967296)/\(¬(c=0/\d=0/\e=0/\f=0)->18446744073709551616<=dgV [a,b,c,d,e,f])/\a+b*4294967296<18446744073709551616:=by
 have h1:=ho a uD
 have h2:=ho b uD
 simp only [dgV]
 refine ⟨fun ⟨h3,h4,h5,h6⟩=>?_,fun h=>?_,zA⟩
 ·subst h3 h4 h5 h6;omega
 ·omega
def dg0:List Nat:=[0,0,0,0,0,0]
theorem zSf:gP dg0:=fun d hd=>by
 simp only [dg0,List.mem_cons,List.not_mem_nil,or_false] at hd
 omega
theorem d0_v:dgV dg0=0:=by decide
theorem bne_t {a b:Bool} (h:(!(a==b))=true):¬(a=b):=by intro e;subst e;simp at h
theorem bne_f {a b:Bool} (h:(!(a==b))=false):a=b:=by simpa using h
theorem env_r:∀{env:List Bd} {s:ByteArray} {v:Int},(∀x,x∈env->r64 x.Val)->nD env s=some v->r64 v
 |[],_,_,_,h=>by cases h
 |y::r,s,v,hr,h=>by
  rw [nD] at h
  split at h
  ·rw [Option.some.injEq] at h;rw [←h];exact hr y uD
  ·exact env_r (fun x hx=>hr x (by simp [hx])) h
def erP (k:Int):List Nat:=if k<0 then dg0 else tI dg0 k.natAbs 1
def erQ (k:Int):List Nat:=if k<0 then tI dg0 k.natAbs 1 else dg0
theorem er_start {l:Lf} {env:List Bd} (hk:r64 l.K):ErJ l env 0 (erP l.K) (erQ l.K) 0:=by
 have hm:=zGw hk
 have hp:=zFg (w:=dg0) (a:=l.K.natAbs) (b:=1) rfl zSf
 have hv:=plu_v (w:=dg0) (a:=l.K.natAbs) (b:=1) rfl zSf (by rw [d0_v];omega)
 rw [d0_v,Nat.zero_add,Nat.mul_one] at hv
 unfold erP erQ
 by_cases c:l.K<0
 ·rw [if_pos c,if_pos c]
  exact er_first hk rfl zSf hp.1 hp.2 (by rw [hv,d0_v];omega) (by rw [d0_v];omega) (by rw [hv];omega)
 ·rw [if_neg c,if_neg c]
  exact er_first hk hp.1 hp.2 rfl zSf (by rw [hv,d0_v];omega) (by rw [hv];omega) (by rw [d0_v];omega)
theorem er_bd {P:List Nat} {l:Lf} {k:Nat} {v b:Int} (hv:r64 v) (hb:r64 b) (hk:k<=5864062014805) (h:dgV P<=9223372036854775808+k*85070591730234615865843651857942052864):dgV P+v.natAbs*b.natAbs<6277101735386680763835789423207666416102355444464034512896:=by
 have:=abs_bd hv hb
 rw [zIw] at this
 omega
theorem er_big {a b c d e f m:Nat} (ho:gP [a,b,c,d,e,f]) (hv:dgV [a,b,c,d,e,f]=m) (h:¬(c=0/\d=0/\e=0/\f=0)∨9223372036854775808<a+b*4294967296):9223372036854775808<m:=by
 obtain ⟨h1,h2,h3⟩:=dg_big ho
 by_cases k:c=0/\d=0/\e=0/\f=0
 ·have:=h1 k;rcases h with h|h
  ·exact absurd k h
  ·omega
 ·have:=h2 k;omega
theorem er_big2 {a b c d e f m:Nat} (ho:gP [a,b,c,d,e,f]) (hv:dgV [a,b,c,d,e,f]=m) (h:¬(c=0/\d=0/\e=0/\f=0)∨9223372036854775807<a+b*4294967296):9223372036854775807<m:=by
 obtain ⟨h1,h2,h3⟩:=dg_big ho
 by_cases k:c=0/\d=0/\e=0/\f=0
 ·have:=h1 k;rcases h with h|h
  ·exact absurd k h
  ·omega
 ·have:=h2 k;omega
theorem er_small {a b c d e f m:Nat} (ho:gP [a,b,c,d,e,f]) (hv:dgV [a,b,c,d,e,f]=m) (h:c=0/\d=0/\e=0/\f=0):m=a+b*4294967296:=by
 rw [←hv];exact (dg_big ho).1 h
theorem er_out {l:Lf} {env:List Bd} {k:Nat} {p q:List Nat} {z:Int} (h:ErJ l env k p q z) (hk:l.L.length<=k) (hl:dZ l=0) (hr:¬r64 ((dgV p:Int)-(dgV q:Int))):dE l env=(0,3):=by
 rw [er_val h hk hl,if_neg hr]
theorem er_in {l:Lf} {env:List Bd} {k:Nat} {p q:List Nat} {z n:Int} (h:ErJ l env k p q z) (hk:l.L.length<=k) (hl:dZ l=0) (hn:(dgV p:Int)-(dgV q:Int)=n) (hr:r64 n):dE l env=(n,0):=by
 rw [er_val h hk hl,hn,if_pos hr]
theorem ev_bad {l:Lf} {env:List Bd} (hl:¬dZ l=0):dE l env=(0,1):=if_neg hl
theorem ev_none {l:Lf} {env:List Bd} {k:Nat} {m:Mono} (hl:dZ l=0) (h:l.L[k]? =some m) (hv:nD env m.Name=none):dE l env=(0,9):=by
 unfold dE
 rw [if_pos hl,evM_none h hv]
theorem env_at:∀{env:List Bd} {s:ByteArray} {i:Nat} {x:Bd},env[i]? =some x->x.Name=s->(env.take i).any (fun y=>decide (y.Name=s))=false->nD env s=some x.Val
 |[],_,_,_,h,_,_=>by cases h
 |y::r,s,0,x,h,hs,_=>by
  rw [List.getElem?_cons_zero,Option.some.injEq] at h
  subst h
  rw [nD,if_pos hs]
 |y::r,s,i+1,x,h,hs,hn=>by
  rw [List.take_succ_cons,List.any_cons,Bool.or_eq_false_iff] at hn
  rw [nD,if_neg (of_decide_eq_false hn.1)]
  exact env_at (by simpa using h) hs hn.2
theorem env_no:∀{env:List Bd} {s:ByteArray},env.any (fun y=>decide (y.Name=s))=false->nD env s=none
 |[],_,_=>rfl
 |y::r,s,hn=>by
  rw [List.any_cons,Bool.or_eq_false_iff] at hn
  rw [nD,if_neg (of_decide_eq_false hn.1)]
  exact env_no hn.2
end Go.Br
end
