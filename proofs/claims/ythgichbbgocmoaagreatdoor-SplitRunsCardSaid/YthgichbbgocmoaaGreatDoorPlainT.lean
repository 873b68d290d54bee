/-
  Arithmetic on elements,in plain Lean: fractions in lowest terms,rounded quotients,numbers brought into a width.
  And what the laws need besides.
  Conditions: none.
-/
import Derived.Test.YthgichbbgocmoaaGreatDoorPlain
import Derived.Test.YthgichbbgocmoaaGreatDoorPlain3
import Derived.Test.YthgichbbgocmoaaGreatDoorPlain2
set_option linter.unusedSimpArgs false
set_option linter.unusedVariables false
set_option linter.defProp false
section
namespace Go.Br
open Go Go.Eng Go.L41
/-! ## Fractions -/
def gT (v:Vl):Bool:=decide (1<=v.D)&&decide (v.D<=2147483647)&&dX v.N&&decide (Int.gcd v.N v.D=1)
def eU (n d:Int):Bool:=decide (n<0) !=decide (d<0)
def sS (s:Bool) (a b:Nat):Vl×Int:=
 bif decide ((2147483647:Int)<((a/Nat.gcd a b:Nat):Int))||decide ((2147483647:Int)<((b/Nat.gcd a b:Nat):Int)) then (⟨0,0⟩,3) else
 (⟨bif s then-((a/Nat.gcd a b:Nat):Int) else ((a/Nat.gcd a b:Nat):Int),((b/Nat.gcd a b:Nat):Int)⟩,0)
def pQ (n d:Int):Vl×Int:=bif decide (d=0) then (⟨0,0⟩,4) else sS (eU n d) n.natAbs d.natAbs
def zYn {v:Vl} (h:gT v=true):1<=v.D/\v.D<=2147483647/\ -2147483647<=v.N/\v.N<=2147483647/\Int.gcd v.N v.D=1:=by
 simp only [gT,ae,ah,dX] at h
 omega
def madF_ok {s:Bool} {a b:Nat} (hb:0<b) (h:(sS s a b).2=0):gT (sS s a b).1=true:=by
 have hg:0<Nat.gcd a b:=Nat.gcd_pos_of_pos_right _ hb
 have hpos:0<b/Nat.gcd a b:=Nat.div_pos (Nat.le_of_dvd hb (Nat.gcd_dvd_right a b)) hg
 unfold sS at h⊢
 cases hc:(decide ((2147483647:Int)<((a/Nat.gcd a b:Nat):Int))||decide ((2147483647:Int)<((b/Nat.gcd a b:Nat):Int))) with
 |true=>rw [hc] at h;simp at h
 |false=>
  simp only [al,aj] at hc
  simp only [az]
  have hgc:Nat.gcd (a/Nat.gcd a b) (b/Nat.gcd a b)=1:=by rw [Nat.gcd_div (Nat.gcd_dvd_left a b) (Nat.gcd_dvd_right a b),Nat.div_self hg]
  generalize a/Nat.gcd a b=x at *
  generalize b/Nat.gcd a b=y at *
  unfold gT dX
  simp only [ae,ah]
  refine ⟨⟨⟨zA,zA⟩,?_⟩,?_⟩
  ·cases s<;>simp only [ay,az]<;>omega
  ·unfold Int.gcd
   cases s<;>simp only [ay,az,Int.natAbs_neg,Int.natAbs_natCast]<;>exact hgc
variable {n d:Int}
def newF_ok (hd:d≠0) (h:(pQ n d).2=0):gT (pQ n d).1=true:=by
 unfold pQ at h⊢
 rw [qX hd] at h⊢
 exact madF_ok zA h
def sP (a b:Int):Int:=bif decide (a<b) then-1 else bif decide (b<a) then 1 else 0
def flo (n d:Int):Int:=bif decide (n<n.tdiv d*d) then n.tdiv d-1 else n.tdiv d
def flo_eq (h:0<d):flo n d=n/d:=by
 unfold flo
 have e1:=Int.mul_ediv_add_emod n d
 have e2:=Int.emod_nonneg n (show d≠0 by omega)
 have e3:=Int.emod_lt_of_pos n h
 have e4:=Int.mul_tdiv_add_tmod n d
 rw [Int.tdiv_eq_ediv]
 by_cases c:0<=n∨d ∣ n
 ·rw [ab c,eh]
  have:¬n<n/d*d:=by rw [Int.mul_comm];omega
  rw [qX this];rfl
 ·rw [aa c,Int.sign_eq_one_of_pos h]
  have hr:n%d≠0:=fun h0=>c (.inr (Int.dvd_of_emod_eq_zero h0))
  have:n<(n/d+1)*d:=by rw [Int.add_mul,gu,Int.mul_comm];omega
  rw [aw this]
  simp only [ay]
  omega
def rnd (n d how:Int):Int:=
 bif decide (n-n/d*d=0)||decide (how=1) then n/d else bif decide (how=2) then n/d+1 else
 bif decide (how=3) then (bif decide (n<0) then n/d+1 else n/d) else
 bif decide (d-(n-n/d*d)<n-n/d*d)||(decide (n-n/d*d=d-(n-n/d*d))&& !decide ((n/d).tmod 2=0)) then n/d+1 else n/d
def stays (q r b:Nat) (neg:Bool) (how:Int):Bool:=(decide ((r:Int)=0)||decide (how=3))||((decide (how=1)&& !neg)||(decide (how=2)&&neg))||(decide (how=4)&&(decide (((2*r:Nat):Int)<(b:Int))||(decide (((2*r:Nat):Int)=(b:Int))&&decide (((q%2:Nat):Int)=0))))
def xF (n d:Int):Int:=bif decide (d<0) then-n else n
def eL (b n:Int):Int:=n-(n+gC b)/(2*gC b)*(2*gC b)
def eY (b o n:Int):Int:=max (-gC b) (min (gC b-1) (bif decide (o=2) then eL b n else n))
def nar (t:Ty) (n:Int):Int:=eY t.Bits t.Over n
def jY (n:Int):Int:=2^n.toNat
def pow2_le (h1:0<=n) (h2:n<=30):1<=jY n/\jY n<=1073741824:=by
 have h:=zOs (b:=n+1)
 unfold jY
 have h3:n.toNat<=30:=by omega
 have h4:(2:Int)^n.toNat<=2^30:=by
  have:=ki (n:=2) zA h3
  exact_mod_cast this
 have h5:(1:Int)<=2^n.toNat:=by
  have:=Nat.one_le_two_pow (n:=n.toNat)
  exact_mod_cast this
 omega
def sU (op:Int) (t:Ty) (a b:Int):Vl×Int:=
 bif decide (op=4) then (⟨nar t (a+b),1⟩,0) else bif decide (op=5) then (⟨nar t (a-b),1⟩,0) else
 bif decide (op=6) then (⟨nar t (rnd (a*b) (jY t.Frac) t.Round),1⟩,0) else bif decide (op=8) then (⟨nar t (-a),1⟩,0) else
 bif decide (b=0) then (⟨0,0⟩,4) else (⟨nar t (rnd (xF a b*jY t.Frac) b.natAbs t.Round),1⟩,0)
def lB (op a b:Int):Int:=
 bif decide (op=4) then a+b else bif decide (op=5) then a-b else bif decide (op=6) then a*b else bif decide (op=7) then xF a b/b.natAbs else-a
def tV (op a b:Int):Vl×Int:=
 bif decide (op=7)&&decide (b=0) then (⟨0,0⟩,4) else bif dX (lB op a b) then (⟨lB op a b,1⟩,0) else (⟨0,0⟩,3)
def xH (op:Int) (a b:Vl):Vl×Int:=
 bif decide (op=4) then pQ (a.N*b.D+b.N*a.D) (a.D*b.D) else bif decide (op=5) then pQ (a.N*b.D-b.N*a.D) (a.D*b.D) else
 bif decide (op=6) then pQ (a.N*b.N) (a.D*b.D) else bif decide (op=7) then pQ (a.N*b.D) (a.D*b.N) else (⟨-a.N,a.D⟩,0)
def sC (t:Ty) (a b:Vl):Int:=bif (dD t&&bQ t a)&&(dD t&&bQ t b) then sP (a.N*b.D) (b.N*a.D) else 0
def mO (op:Int) (t:Ty) (a b:Vl):Vl×Int:=
 bif decide (op<4)||decide (10<op) then (⟨0,0⟩,1) else bif !dD t then (⟨0,0⟩,10) else
 bif !bQ t a||(!decide (op=8)&& !bQ t b) then (⟨0,0⟩,1) else
 bif decide (op=9)||decide (op=10) then (bif decide (0<sC t a b)==decide (op=9) then b else a,0) else
 bif decide (t.Kind=2) then sU op t a.N b.N else bif decide (t.Kind=3) then tV op a.N b.N else xH op a b
def jJ (t:Ty) (v:Vl):Vl:=bif decide (t.Kind=2) then (pQ v.N (jY t.Frac)).1 else v
def pF (f t:Ty) (v:Vl):Vl×Int:=
 bif !dD f|| !dD t then (⟨0,0⟩,10) else bif !bQ f v then (⟨0,0⟩,1) else
 bif decide (t.Kind=3) then (⟨(jJ f v).N/(jJ f v).D,1⟩,0) else
 bif decide (t.Kind=2) then (⟨nar t (rnd ((jJ f v).N*jY t.Frac) (jJ f v).D t.Round),1⟩,0) else (jJ f v,0)
abbrev tFr:Ty:=⟨1,0,0,0,0⟩
def zNr {t:Ty} {v:Vl} (ht:dD t=true) (h:bQ t v=true):(t.Kind≠2->gT v=true)/\(t.Kind=2->v.D=1/\ -gC t.Bits<=v.N/\v.N<gC t.Bits)/\gT v=true:=by
 have key:(t.Kind=2->v.D=1/\ -gC t.Bits<=v.N/\v.N<gC t.Bits):=by
  intro hk
  rw [bQ,aw hk] at h
  simp only [ay,ae,ah] at h
  omega
 have all:gT v=true:=by
  by_cases hk:t.Kind=2
  ·obtain ⟨k1,k2,k3⟩:=key hk
   have hb:=fixB (by rw [←zAw hk];exact ht)
   have hh:=zOs hb.1 hb.2
   unfold gT dX
   rw [k1]
   simp only [ae,ah]
   exact ⟨⟨⟨zA,zA⟩,zA,zA⟩,Int.gcd_one⟩
  ·rw [bQ,qX hk] at h
   by_cases h3:t.Kind=3
   ·rw [aw h3] at h
    simp only [az,ay,ae,ah,dX] at h
    unfold gT dX
    rw [h.1]
    simp only [ae,ah]
    exact ⟨⟨⟨zA,zA⟩,zA,zA⟩,Int.gcd_one⟩
   ·rw [qX h3] at h
    exact h
 exact ⟨fun _=>all,key,all⟩
def newF_small {f:Int} (h1: -1073741824<=n) (h2:n<=1073741824) (h3:1<=f) (h4:f<=1073741824):(pQ n f).2=0:=by
 unfold pQ sS
 rw [qX (show ¬f=0 by omega)]
 have a1:n.natAbs/Nat.gcd n.natAbs f.natAbs<=n.natAbs:=Nat.div_le_self _ _
 have a2:f.natAbs/Nat.gcd n.natAbs f.natAbs<=f.natAbs:=Nat.div_le_self _ _
 rw [qX (show ¬(2147483647:Int)<((n.natAbs/Nat.gcd n.natAbs f.natAbs:Nat):Int) by omega),qX (show ¬(2147483647:Int)<((f.natAbs/Nat.gcd n.natAbs f.natAbs:Nat):Int) by omega)]
 rfl
def fracV_ok {t:Ty} {v:Vl} (ht:dD t=true) (h:bQ t v=true):gT (jJ t v)=true:=by
 obtain ⟨h1,h2,h3⟩:=zNr ht h
 unfold jJ
 by_cases hk:t.Kind=2
 ·rw [aw hk]
  obtain ⟨k1,k2,k3⟩:=h2 hk
  have hf:fP t=true:=by rw [←zAw hk];exact ht
  have hb:=fixB hf
  have hh:=zOs hb.1 hb.2
  have hfr:0<=t.Frac/\t.Frac<=30:=by
   simp only [fP,ae,ah] at hf
   omega
  have hp:=pow2_le hfr.1 hfr.2
  exact newF_ok zA (newF_small zA zA zA zA)
 ·rw [qX hk]
  exact h3
variable {x:Int}
/-! ## As the walks meet them -/
def m31 {y:Int} (h1: -2147483647<=x) (h2:x<=2147483647) (h3: -2147483647<=y) (h4:y<=2147483647): -4611686014132420609<=x*y/\x*y<=4611686014132420609:=by
 have e:(x*y).natAbs<=2147483647*2147483647:=by
  rw [Int.natAbs_mul]
  exact ig zA zA
 omega
def m60 {y:Int} {B:Nat} (h1:x.natAbs<=B) (h3:0<=y) (h4:y<=1073741824): -((B*1073741824:Nat):Int)<=x*y/\x*y<=((B*1073741824:Nat):Int):=by
 have e:(x*y).natAbs<=B*1073741824:=by
  rw [Int.natAbs_mul]
  exact ig h1 zA
 omega
def w31 {m:Nat} (h:¬(2147483647:Int)<(m:Int)):IntKind.i64.wrap (m:Int)=m:=zDf ⟨zA,zA⟩
def w31n {m:Nat} (h:¬(2147483647:Int)<(m:Int)):IntKind.i64.wrap (-(m:Int))= -(m:Int):=zDf ⟨zA,zA⟩
def size_neg (h:n<0) (hn:tQ n):IntKind.u64.wrap (IntKind.u64.wrap (IntKind.i64.wrap (-(n+1)))+1)=n.natAbs:=by
 have:=hn.1
 have e1:IntKind.u64.wrap (-(n+1))= -(n+1):=zEt zA
 rw [zDf ⟨zA,zA⟩,e1,zEt zA]
 omega
def madF_big {s:Bool} {a b:Nat} (h:(decide ((2147483647:Int)<((a/Nat.gcd a b:Nat):Int))||decide ((2147483647:Int)<((b/Nat.gcd a b:Nat):Int)))=true):sS s a b=(⟨0,0⟩,3):=by
 unfold sS;rw [h];rfl
def madF_fin {s:Bool} {a b:Nat} (h:(decide ((2147483647:Int)<((a/Nat.gcd a b:Nat):Int))||decide ((2147483647:Int)<((b/Nat.gcd a b:Nat):Int)))=false):
  sS s a b=(⟨bif s then IntKind.i64.wrap (-(IntKind.i64.wrap ((a/Nat.gcd a b:Nat):Int))) else IntKind.i64.wrap ((a/Nat.gcd a b:Nat):Int),IntKind.i64.wrap ((b/Nat.gcd a b:Nat):Int)⟩,0):=by
 have h':=h
 simp only [al,aj] at h'
 rw [w31 h'.1,w31n h'.1,w31 h'.2]
 unfold sS;rw [h];rfl
def newF_nz (h:¬d=0):pQ n d=sS (eU n d) n.natAbs d.natAbs:=by unfold pQ;rw [qX h];rfl
def newF_zero (h:d=0):pQ n d=(⟨0,0⟩,4):=by unfold pQ;rw [aw h];rfl
def frX (op:Int) (a b:Vl):Vl×Int:=bif !gT a|| !gT b then (⟨0,0⟩,1) else xH op a b
variable {op:Int}
def frX_no {a b:Vl} (h:(!gT a|| !gT b)=true):frX op a b=(⟨0,0⟩,1):=by unfold frX;rw [h];rfl
def fr_both {a b:Vl} (h:(!gT a|| !gT b)=false):gT a=true/\gT b=true:=by
 simpa using h
def zLy {a b:Vl} (ha:gT a=true) (hb:gT b=true):frX op a b=xH op a b:=by unfold frX;rw [ha,hb];rfl
structure FrB (a b:Vl):Prop where
 d1:1<=a.D
 d2:1<=b.D
 nd: -4611686014132420609<=a.N*b.D/\a.N*b.D<=4611686014132420609
 dn: -4611686014132420609<=b.N*a.D/\b.N*a.D<=4611686014132420609
 nd': -4611686014132420609<=a.D*b.N/\a.D*b.N<=4611686014132420609
 nn: -4611686014132420609<=a.N*b.N/\a.N*b.N<=4611686014132420609
 dd: -4611686014132420609<=a.D*b.D/\a.D*b.D<=4611686014132420609
def zLx {a b:Vl} (ha:gT a=true) (hb:gT b=true):FrB a b:=by
 obtain ⟨a1,a2,a3,a4,_⟩:=zYn ha
 obtain ⟨b1,b2,b3,b4,_⟩:=zYn hb
 exact ⟨a1,b1,m31 zA zA zA zA,m31 zA zA zA zA,m31 zA zA zA zA,m31 zA zA zA zA,m31 zA zA zA zA⟩
variable {a b:Int}
def ordI_lt (h:a<b):sP a b= -1:=by unfold sP;rw [aw h];rfl
def ordI_gt (h:¬a<b) (k:b<a):sP a b=1:=by unfold sP;rw [qX h,aw k];rfl
def ordI_eq (h:¬a<b) (k:¬b<a):sP a b=0:=by unfold sP;rw [qX h,qX k];rfl
def shl_eq {B:Nat} (h1:0<=b) (h2:b<=30) (hx:x.natAbs<=B) (hB:B<=2147483648):IntKind.i64.wrap (x*2^(min b.toNat IntKind.i64.bits))=x*jY b:=by
 have hp:=pow2_le h1 h2
 have hm:=m60 (B:=B) (y:=jY b) hx zA hp.2
 have h4:min b.toNat IntKind.i64.bits=b.toNat:=bw (by simp [IntKind.bits];omega)
 rw [h4]
 exact zDf ⟨by unfold jY at hm;omega,by unfold jY at hm;omega⟩
def one_shl (h1:0<=b) (h2:b<=30):IntKind.i64.wrap (1*2^(min b.toNat IntKind.i64.bits))=jY b:=by
 rw [shl_eq (B:=1) h1 h2 zB zB,gu]
structure FxT (t:Ty):Prop where
 k:t.Kind=2
 b1:2<=t.Bits
 b2:t.Bits<=31
 f1:0<=t.Frac
 f2:t.Frac<=30
 r1:1<=t.Round
 r4:t.Round<=4
 ov:t.Over=1∨t.Over=2
 h1:1<=gC t.Bits
 h2:gC t.Bits<=1073741824
 p1:1<=jY t.Frac
 p2:jY t.Frac<=1073741824
def fxT {t:Ty} (h:fP t=true):FxT t:=by
 have h':=h
 simp only [fP,ae,aI,ah] at h'
 obtain ⟨⟨⟨⟨⟨⟨⟨h1,h2⟩,h3⟩,h4⟩,h5⟩,h6⟩,h7⟩,h8⟩:=h'
 have a:=zOs h2 h3
 have b:=pow2_le h4 h5
 exact ⟨h1,h2,h3,h4,h5,h6,h7,h8,a.1,a.2,b.1,b.2⟩
def fxV {t:Ty} {v:Vl} (h:fP t=true) (hv:bQ t v=true):v.D=1/\ -gC t.Bits<=v.N/\v.N<gC t.Bits:=by
 have hk:=(fxT h).k
 exact (zNr (by rw [zAw hk];exact h) hv).2.1 hk
def fxN {t:Ty} {v:Vl} (h:fP t=true) (hv:bQ t v=true):v.N.natAbs<=1073741824:=by
 have:=fxV h hv
 have:=fxT h
 have:=this.h2
 omega
def tdiv_le':(n.tdiv d).natAbs<=n.natAbs:=by rw [Int.natAbs_tdiv];exact Nat.div_le_self _ _
def tdiv_mul_le:(n.tdiv d*d).natAbs<=n.natAbs:=by
 rw [Int.natAbs_mul,Int.natAbs_tdiv]
 exact Nat.div_mul_le_self _ _
def ediv_b (hd:0<d): -(n.natAbs:Int)<=n/d/\n/d<=n.natAbs/\n/d*d<=n/\n<n/d*d+d:=by
 have e1:=Int.mul_ediv_add_emod n d
 have e2:=Int.emod_nonneg n (show d≠0 by omega)
 have e3:=Int.emod_lt_of_pos n hd
 rw [Int.mul_comm] at e1
 refine ⟨?_,?_,zA,zA⟩
 ·by_cases h:0<=n
  ·have:=Int.ediv_nonneg h (Int.le_of_lt hd);omega
  ·refine Int.le_ediv_of_mul_le hd ?_
   have: -(n.natAbs:Int)=n:=by omega
   rw [this]
   have:n*d<=n*1:=Int.mul_le_mul_of_nonpos_left zA zA
   omega
 ·by_cases h:0<=n
  ·have:=Int.ediv_le_self d h;omega
  ·have:n/d<0:=Int.ediv_neg_of_neg_of_pos zA hd
   omega
variable {how:Int}
def rnd_b (hd:0<d):(rnd n d how).natAbs<=n.natAbs+1:=by
 obtain ⟨h1,h2,_,_⟩:=ediv_b (n:=n) hd
 have:rnd n d how=n/d∨rnd n d how=n/d+1:=by
  unfold rnd
  generalize (decide (n-n/d*d=0)||decide (how=1))=b1
  generalize (decide (d-(n-n/d*d)<n-n/d*d)||(decide (n-n/d*d=d-(n-n/d*d))&& !decide ((n/d).tmod 2=0)))=b2
  cases b1<;>cases decide (how=2)<;>cases decide (how=3)<;>cases decide (n<0)<;>cases b2<;>simp
 omega
def flo_lt (hd:0<d) (h:n<n.tdiv d*d):n.tdiv d-1=n/d:=by rw [←flo_eq hd,flo,aw h];rfl
def flo_ge (hd:0<d) (h:¬n<n.tdiv d*d):n.tdiv d=n/d:=by rw [←flo_eq hd,flo,qX h];rfl
def rnd1 (h:(decide (n-n/d*d=0)||decide (how=1))=true):n/d=rnd n d how:=by rw [rnd,h];rfl
def rnd2 (h:(decide (n-n/d*d=0)||decide (how=1))=false) (h2:how=2):n/d+1=rnd n d how:=by rw [rnd,h,aw h2];rfl
def rnd3 (h:(decide (n-n/d*d=0)||decide (how=1))=false) (h2:¬how=2) (h3:how=3) (h4:n<0):n/d+1=rnd n d how:=by rw [rnd,h,qX h2,aw h3,aw h4];rfl
def rnd4 (h:(decide (n-n/d*d=0)||decide (how=1))=false) (h2:¬how=2) (h3:how=3) (h4:¬n<0):n/d=rnd n d how:=by rw [rnd,h,qX h2,aw h3,qX h4];rfl
def rnd5 (h:(decide (n-n/d*d=0)||decide (how=1))=false) (h2:¬how=2) (h3:¬how=3) (h5:(decide (d-(n-n/d*d)<n-n/d*d)||(decide (n-n/d*d=d-(n-n/d*d))&& !decide ((n/d).tmod 2=0)))=true):n/d+1=rnd n d how:=by rw [rnd,h,qX h2,qX h3,h5];rfl
def rnd6 (h:(decide (n-n/d*d=0)||decide (how=1))=false) (h2:¬how=2) (h3:¬how=3) (h5:(decide (d-(n-n/d*d)<n-n/d*d)||(decide (n-n/d*d=d-(n-n/d*d))&& !decide ((n/d).tmod 2=0)))=false):n/d=rnd n d how:=by rw [rnd,h,qX h2,qX h3,h5];rfl
def fit_w {t:Ty} (h:t.Over=2):max (-gC t.Bits) (min (gC t.Bits-1) (n-(n+gC t.Bits)/(2*gC t.Bits)*2*gC t.Bits))=nar t n:=by
 unfold nar eY eL
 rw [aw h,Int.mul_assoc];rfl
def fit_n {t:Ty} (h:¬t.Over=2):max (-gC t.Bits) (min (gC t.Bits-1) n)=nar t n:=by
 unfold nar eY
 rw [qX h];rfl
def posN_pos (h:0<d):xF n d=n:=by unfold xF;rw [qX zA];rfl
def posN_neg (h:d<0):xF n d= -n:=by unfold xF;rw [aw h];rfl
def fixA1 {t:Ty} (h:op=4):sU op t a b=(⟨nar t (a+b),1⟩,0):=by subst h;rfl
def fixA2 {t:Ty} (h:op=5):sU op t a b=(⟨nar t (a-b),1⟩,0):=by subst h;rfl
def fixA3 {t:Ty} (h:op=6):sU op t a b=(⟨nar t (rnd (a*b) (jY t.Frac) t.Round),1⟩,0):=by subst h;rfl
def fixA4 {t:Ty} (h:op=8):sU op t a b=(⟨nar t (-a),1⟩,0):=by subst h;rfl
def fixA5 {t:Ty} (h:op=7) (h0:b=0):sU op t a b=(⟨0,0⟩,4):=by subst h;subst h0;rfl
def fixA6 {t:Ty} (h:op=7) (h0:¬b=0):sU op t a b=(⟨nar t (rnd (xF a b*jY t.Frac) b.natAbs t.Round),1⟩,0):=by subst h;unfold sU;rw [qX h0];rfl
def intN1 (h:op=4):lB op a b=a+b:=by subst h;rfl
def intN2 (h:op=5):lB op a b=a-b:=by subst h;rfl
def intN3 (h:op=6):lB op a b=a*b:=by subst h;rfl
def intN4 (h:op=7):lB op a b=xF a b/b.natAbs:=by subst h;rfl
def intN5 (h:op=8):lB op a b= -a:=by subst h;rfl
def n31 (h:dX a=true): -2147483647<=a/\a<=2147483647:=by
 simp only [dX,ae,ah] at h;exact h
def n31_f (h:(decide (2147483647<a)||decide (a< -2147483647))=true):dX a=false:=by
 simp only [aI,ah] at h
 simp only [dX,bm,aj];omega
def n31_t (h:(decide (2147483647<a)||decide (a< -2147483647))=false):dX a=true:=by
 simp only [al,aj] at h
 simp only [dX,ae,ah];omega
def zSv (h:op=7) (h0:b=0):tV op a b=(⟨0,0⟩,4):=by subst h;subst h0;rfl
def zSu (h:¬(op=7/\b=0)) (hx:dX (lB op a b)=false):tV op a b=(⟨0,0⟩,3):=by
 unfold tV
 rw [hx,show (decide (op=7)&&decide (b=0))=false by simp;omega];rfl
def zSs (h:¬(op=7/\b=0)) (hx:dX (lB op a b)=true):tV op a b=(⟨lB op a b,1⟩,0):=by
 unfold tV
 rw [hx,show (decide (op=7)&&decide (b=0))=false by simp;omega];rfl
def xO (op:Int) (t:Ty) (a b:Vl):Vl×Int:=bif decide (t.Kind=2) then sU op t a.N b.N else bif decide (t.Kind=3) then tV op a.N b.N else xH op a b
def apl1 {t:Ty} {a b:Vl} (h:(decide (op<4)||decide (10<op))=true):mO op t a b=(⟨0,0⟩,1):=by rw [mO,h];rfl
def apl2 {t:Ty} {a b:Vl} (h:(decide (op<4)||decide (10<op))=false) (h2:dD t=false):mO op t a b=(⟨0,0⟩,10):=by rw [mO,h,h2];rfl
def apl3 {t:Ty} {a b:Vl} (h:(decide (op<4)||decide (10<op))=false) (h2:dD t=true) (h3:(!bQ t a||(!decide (op=8)&& !bQ t b))=true):mO op t a b=(⟨0,0⟩,1):=by rw [mO,h,h2,h3];rfl
def apl4 {t:Ty} {a b:Vl} (h:(decide (op<4)||decide (10<op))=false) (h2:dD t=true) (h3:(!bQ t a||(!decide (op=8)&& !bQ t b))=false):mO op t a b=bif decide (op=9)||decide (op=10) then (bif decide (0<sC t a b)==decide (op=9) then b else a,0) else xO op t a b:=by rw [mO,h,h2,h3];rfl
def apl5 {t:Ty} {a b:Vl} (h:(decide (op<4)||decide (10<op))=false) (h2:dD t=true) (h3:(!bQ t a||(!decide (op=8)&& !bQ t b))=false) (hm:(decide (op=9)||decide (op=10))=false):mO op t a b=xO op t a b:=by rw [apl4 h h2 h3,hm];rfl
def apl6 {t:Ty} {a b:Vl} (h:(decide (op<4)||decide (10<op))=false) (h2:dD t=true) (h3:(!bQ t a||(!decide (op=8)&& !bQ t b))=false) (hm:(decide (op=9)||decide (op=10))=true):mO op t a b=(bif decide (0<sC t a b)==decide (op=9) then b else a,0):=by rw [apl4 h h2 h3,hm];rfl
def apl_ok {t:Ty} {a b:Vl} (h:(!bQ t a||(!decide (op=8)&& !bQ t b))=false):bQ t a=true/\(¬op=8->bQ t b=true):=by
 rw [al,bm] at h
 refine ⟨by simpa using h.1,fun h8=>?_⟩
 rcases h.2 with h|h
 ·simp at h;exact absurd h h8
 ·simpa using h
def apl_rng (h:(decide (op<4)||decide (10<op))=false):4<=op/\op<=10:=by
 simp only [al,aj] at h;omega
def fr31 {v:Vl} (h:gT v=true):dX v.N=true:=by
 have:=zYn h
 simp only [dX,ae,ah];omega
def ari1 {t:Ty} {a b:Vl} (h2:¬t.Kind=2) (h3:¬t.Kind=3):xO op t a b=xH op a b:=by unfold xO;rw [qX h2,qX h3];rfl
def ari2 {t:Ty} {a b:Vl} (h:t.Kind=2):xO op t a b=sU op t a.N b.N:=by unfold xO;rw [aw h];rfl
def ari3 {t:Ty} {a b:Vl} (h:t.Kind=3):xO op t a b=tV op a.N b.N:=by unfold xO;rw [qX (show ¬t.Kind=2 by omega),aw h];rfl
def cmp_yes {t:Ty} {a b:Vl} (ha:(dD t&&bQ t a)=true) (hb:(dD t&&bQ t b)=true):sC t a b=sP (a.N*b.D) (b.N*a.D):=by rw [sC,ha,hb];rfl
def cmp_no {t:Ty} {a b:Vl} (h:(!(dD t&&bQ t a)|| !(dD t&&bQ t b))=true):sC t a b=0:=by
 rw [sC]
 cases h1:(dD t&&bQ t a)<;>cases h2:(dD t&&bQ t b)
 ·rfl
 ·rfl
 ·rfl
 ·rw [h1,h2] at h;cases h
def both_ok {t:Ty} {a b:Vl} (h:(!(dD t&&bQ t a)|| !(dD t&&bQ t b))=false):(dD t&&bQ t a)=true/\(dD t&&bQ t b)=true:=by
 simpa using h
def cst1 {f t:Ty} {v:Vl} (h:(!dD f|| !dD t)=true):pF f t v=(⟨0,0⟩,10):=by rw [pF,h];rfl
def cst2 {f t:Ty} {v:Vl} (h:(!dD f|| !dD t)=false) (h2:bQ f v=false):pF f t v=(⟨0,0⟩,1):=by rw [pF,h,h2];rfl
def cst3 {f t:Ty} {v:Vl} (h:(!dD f|| !dD t)=false) (h2:bQ f v=true) (h3:t.Kind=3):pF f t v=(⟨(jJ f v).N/(jJ f v).D,1⟩,0):=by rw [pF,h,h2,aw h3];rfl
def cst4 {f t:Ty} {v:Vl} (h:(!dD f|| !dD t)=false) (h2:bQ f v=true) (h3:¬t.Kind=3) (h4:t.Kind=2):pF f t v=(⟨nar t (rnd ((jJ f v).N*jY t.Frac) (jJ f v).D t.Round),1⟩,0):=by rw [pF,h,h2,qX h3,aw h4];rfl
def cst5 {f t:Ty} {v:Vl} (h:(!dD f|| !dD t)=false) (h2:bQ f v=true) (h3:¬t.Kind=3) (h4:¬t.Kind=2):pF f t v=(jJ f v,0):=by rw [pF,h,h2,qX h3,qX h4];rfl
def fracV_2 {t:Ty} {v:Vl} (h:t.Kind=2):jJ t v=(pQ v.N (jY t.Frac)).1:=by unfold jJ;rw [aw h];rfl
def fracV_n {t:Ty} {v:Vl} (h:¬t.Kind=2):jJ t v=v:=by unfold jJ;rw [qX h];rfl
structure Tn where
 T:Ty
 Dims:List Int
 Vals:List Vl
 deriving DecidableEq
structure Nmd where
 Name:lr
 T:Tn
 deriving DecidableEq
def Tn.cells (t:Tn):List Eng.C:=[cI t.T.Kind,cI t.T.Bits,cI t.T.Frac,cI t.T.Round,cI t.T.Over,.sl 1 (t.Dims.map fun n=>[cI n]),.sl 2 (t.Vals.map Vl.cells)]
def Nmd.cells (x:Nmd):List Eng.C:=cS x.Name::x.T.cells
abbrev vTn (t:Tn):V:=.agg t.cells
abbrev gV (l:List Nmd):V:=.c (.sl 8 (l.map Nmd.cells))
abbrev eR (l:List Vl):V:=.c (.sl 2 (l.map Vl.cells))
def zTn:Tn:=⟨zTy,[],[]⟩
def jG (t:Tn):Int:=if dD t.T=true then (if bX t.Dims=0 then (if (t.Vals.length:Int)=fJ t.Dims then (if t.Vals.all (bQ t.T)=true then 0 else 1) else 1) else bX t.Dims) else 10
def dP:List Nmd->lr->Option Tn
 |[],_=>none
 |x::r,s=>if x.Name=s then some x.T else dP r s
variable {l:List Nmd} {k:Nat} {s:lr}
def fndT_at {x:Nmd} (h:l[k]? =some x) (hx:x.Name=s):dP (l.drop k) s=some x.T:=by rw [qQ h,dP,ab hx]
def fndT_nx {x:Nmd} (h:l[k]? =some x) (hx:¬x.Name=s):dP (l.drop k) s=dP (l.drop (k+1)) s:=by rw [qQ h,dP,aa hx]
def fndT_end (h:l.length<=k):dP (l.drop k) s=none:=by rw [ci h];rfl
def jH (mem:List Nmd) (b:Bf):Int:=
 match dP mem b.Name with
 |none=>9
 |some t=>if jG t=0 then (if t.T=b.T then (if t.Dims=b.Dims then 0 else 15) else 10) else 1
def must_none {mem:List Nmd} {b:Bf} (h:dP mem b.Name=none):jH mem b=9:=by unfold jH;rw [h]
variable {t:Tn}
def must_1 {mem:List Nmd} {b:Bf} (h:dP mem b.Name=some t) (h1:¬jG t=0):jH mem b=1:=by unfold jH;rw [h];exact aa h1
def must_10 {mem:List Nmd} {b:Bf} (h:dP mem b.Name=some t) (h1:jG t=0) (h2:¬t.T=b.T):jH mem b=10:=by unfold jH;rw [h];dsimp only;rw [ab h1,aa h2]
def must_15 {mem:List Nmd} {b:Bf} (h:dP mem b.Name=some t) (h1:jG t=0) (h2:t.T=b.T) (h3:¬t.Dims=b.Dims):jH mem b=15:=by unfold jH;rw [h];dsimp only;rw [ab h1,ab h2,aa h3]
def must_0 {mem:List Nmd} {b:Bf} (h:dP mem b.Name=some t) (h1:jG t=0) (h2:t.T=b.T) (h3:t.Dims=b.Dims):jH mem b=0:=by unfold jH;rw [h];dsimp only;rw [ab h1,ab h2,ab h3]
def xG (ins:List Nmd) (b:Bf):Nmd:=if b.Use=1 then ⟨b.Name,(dP ins b.Name).getD zTn⟩ else ⟨b.Name,⟨b.T,b.Dims,List.replicate (fJ b.Dims).toNat ⟨0,1⟩⟩⟩
def vQ (ins:List Nmd) (b:Bf):Int:=if b.Use=1 then jH ins b else 0
def nD (ins:List Nmd):List Bf->Int
 |[]=>0
 |b::r=>if vQ ins b=0 then nD ins r else vQ ins b
def lA (n:Ns) (ins:List Nmd):List Nmd×Int:=
 if (bL n).2=0 then (if nD ins n.Bufs=0 then (n.Bufs.map (xG ins),0) else ([],nD ins n.Bufs)) else ([],(bL n).2)
variable {ins:List Nmd}
def ini_next {l:List Bf} {b:Bf} (h:l[k]? =some b) (hp:nD ins l=nD ins (l.drop k)) (he:vQ ins b=0):nD ins l=nD ins (l.drop (k+1)):=by rw [hp,qQ h,nD,ab he]
def ini_bad {l:List Bf} {b:Bf} (h:l[k]? =some b) (hp:nD ins l=nD ins (l.drop k)) (he:¬vQ ins b=0):nD ins l=vQ ins b:=by rw [hp,qQ h,nD,aa he]
def ini_end {l:List Bf} (h:l.length<=k) (hp:nD ins l=nD ins (l.drop k)):nD ins l=0:=by rw [hp,ci h];rfl
def init_v {n:Ns} (h:¬(bL n).2=0):lA n ins=([],(bL n).2):=by unfold lA;rw [aa h]
def init_e {n:Ns} (h:(bL n).2=0) (h2:¬nD ins n.Bufs=0):lA n ins=([],nD ins n.Bufs):=by unfold lA;rw [ab h,aa h2]
def init_ok {n:Ns} (h:(bL n).2=0) (h2:nD ins n.Bufs=0):lA n ins=(n.Bufs.map (xG ins),0):=by unfold lA;rw [ab h,ab h2]
def zMf (d:List Int):0<=fJ d/\fJ d<=4096:=by
 by_cases h:bX d=0
 ·obtain ⟨_,_,s,hs,h1,h2⟩:=zFm h
  rw [zEp h hs];omega
 ·rw [dimsSize_no h];omega
def bfErr_ty {seen:List Bf} {b:Bf} (h:lS seen b=0):dD b.T=true/\bX b.Dims=0:=by
 unfold lS at h
 split at h
 ·split at h
  ·cases h
  ·split at h
   ·next h3=>
    split at h
    ·next h4=>exact ⟨h3,h4⟩
    ·next h4=>exact absurd h h4
   ·cases h
 ·cases h
def bufs_ty:∀{l seen:List Bf},dM seen l=0->∀b,b∈l->dD b.T=true/\bX b.Dims=0
 |x::r,seen,h,b,hb=>by
  rw [dM] at h
  by_cases c:lS seen x=0
  ·rw [ab c] at h
   rcases af.1 hb with rfl|hb
   ·exact bfErr_ty c
   ·exact bufs_ty h b hb
  ·rw [aa c] at h;exact absurd h c
def must_inv {mem:List Nmd} {b:Bf} (h:jH mem b=0):∃t,dP mem b.Name=some t/\jG t=0/\t.T=b.T/\t.Dims=b.Dims:=by
 cases e:dP mem b.Name with
 |none=>rw [must_none e] at h;cases h
 |some t=>
  by_cases h1:jG t=0
  ·by_cases h2:t.T=b.T
   ·by_cases h3:t.Dims=b.Dims
    ·exact ⟨t,rfl,h1,h2,h3⟩
    ·rw [must_15 e h1 h2 h3] at h;cases h
   ·rw [must_10 e h1 h2] at h;cases h
  ·rw [must_1 e h1] at h;cases h
def tn_len (h:jG t=0):(t.Vals.length:Int)=fJ t.Dims:=by
 unfold jG at h
 split at h
 ·split at h
  ·split at h
   ·next h3=>exact h3
   ·cases h
  ·next h2=>exact absurd h h2
 ·cases h
def zQq:∀{l:List Nmd} {s:lr} {t:Tn},dP l s=some t->∃x,x∈l/\x.T=t
 |[],s,t,h=>by cases h
 |x::r,s,t,h=>by
  rw [dP] at h
  split at h
  ·injection h with h;exact ⟨x,uD,h⟩
  ·obtain ⟨y,hy,e⟩:=zQq h;exact ⟨y,by simp [hy],e⟩
def tyv_f {a b:Ty} (h:(!bZ (tyC a) (tyC b))=true):¬a=b:=fun e=>by
 rw [show bZ (tyC a) (tyC b)=decide (a=b) from zWe a b,aw e] at h;cases h
def tyv_t {a b:Ty} (h:(!bZ (tyC a) (tyC b))=false):a=b:=by
 rw [show bZ (tyC a) (tyC b)=decide (a=b) from zWe a b] at h
 exact fv (by simpa using h)
def tn_10 (h:dD t.T=false):jG t=10:=by unfold jG;rw [aa (by rw [h];simp)]
def tn_d (h:dD t.T=true) (h2:¬bX t.Dims=0):jG t=bX t.Dims:=by unfold jG;rw [ab h,aa h2]
def tn_l (h:dD t.T=true) (h2:bX t.Dims=0) (h3:¬(t.Vals.length:Int)=fJ t.Dims):jG t=1:=by unfold jG;rw [ab h,ab h2,aa h3]
def tn_v (h:dD t.T=true) (h2:bX t.Dims=0) (h3:(t.Vals.length:Int)=fJ t.Dims) {v:Vl} (hv:t.Vals[k]? =some v) (h4:bQ t.T v=false):jG t=1:=by
 unfold jG;rw [ab h,ab h2,ab h3,aa (by rw [zMk hv h4];simp)]
def tn_0 (h:dD t.T=true) (h2:bX t.Dims=0) (h3:(t.Vals.length:Int)=fJ t.Dims) (h4:t.Vals.all (bQ t.T)=true):jG t=0:=by unfold jG;rw [ab h,ab h2,ab h3,ab h4]
def fnd_some (h:(dP l s).isSome=true) (ht:t=(dP l s).getD zTn):dP l s=some t:=by
 cases e:dP l s with
 |none=>rw [e] at h;cases h
 |some x=>rw [e] at ht;rw [ht];rfl
def fnd_none (h:(dP l s).isSome=false):dP l s=none:=by
 cases e:dP l s with
 |none=>rfl
 |some x=>rw [e] at h;cases h
def iniB_f {b:Bf} (h:b.Use=1):xG ins b=⟨b.Name,(dP ins b.Name).getD zTn⟩:=ab h
def iniB_z {b:Bf} (h:¬b.Use=1):xG ins b=⟨b.Name,⟨b.T,b.Dims,List.replicate (fJ b.Dims).toNat ⟨0,1⟩⟩⟩:=aa h
def iniE_p {b:Bf} (h:b.Use=1):vQ ins b=jH ins b:=ab h
def iniE_z {b:Bf} (h:¬b.Use=1):vQ ins b=0:=aa h
def init_is {n:Ns} (h:(lA n ins).2=0):(lA n ins).1=n.Bufs.map (xG ins)/\nD ins n.Bufs=0/\(bL n).2=0:=by
 by_cases h1:(bL n).2=0
 ·by_cases h2:nD ins n.Bufs=0
  ·exact ⟨by rw [init_ok h1 h2],h2,h1⟩
  ·rw [init_e h1 h2] at h;exact absurd h h2
 ·rw [init_v h1] at h;exact absurd h h1
def ty_eqv (t:Ty):bZ (tyC t) (tyC t)=true:=(zWe t t).trans (aw rfl)
def vl_lits (a b:Vl):bZ a.cells b.cells=decide (a=b):=by
 cases a;cases b
 rw [bz,ah]
 simp [bZ,cEq,Vl.cells]
def vrep_next {v:Vl}:(List.replicate k v).map Vl.cells++[[cI v.N,cI v.D]]=(List.replicate (k+1) v).map Vl.cells:=by
 rw [List.replicate_succ',aC];rfl
end Go.Br
end
section
set_option maxRecDepth 100000
namespace Go.Br
open Go Go.Eng Go.L41
structure W3 where
 h:Nat
 m:Nat
 l:Nat
def W3.ok (w:W3):Prop:=w.h<18446744073709551616/\w.m<18446744073709551616/\w.l<18446744073709551616
def W3.v (w:W3):Nat:=w.h*340282366920938463463374607431768211456+w.m*18446744073709551616+w.l
def jW:List Bd->lr->Option Int
 |[],_=>none
 |x::r,s=>if x.Name=s then some x.Val else jW r s
def evM (env:List Bd):List Mono->Option Int
 |[]=>some 0
 |m::r=>match jW env m.Name with
  |none=>none
  |some v=>(evM env r).map fun z=>m.By*v+z
def bY (l:Lf) (env:List Bd):Int×Int:=
 if dY l=0 then (match evM env l.L with
  |none=>(0,9)
  |some z=>if-(9223372036854775808:Int)<=l.K+z/\l.K+z<=9223372036854775807 then (l.K+z,0) else (0,3)) else (0,1)
def evM_app (env:List Bd):∀(a b:List Mono),evM env (a++b)=match evM env a with|none=>none|some x=>(evM env b).map fun y=>x+y
 |[],b=>by rw [lNa,evM];cases evM env b<;>simp
 |m::r,b=>by
  have ih:=evM_app env r b
  rw [lCa,evM,evM,ih]
  cases jW env m.Name with
  |none=>rfl
  |some v=>
   dsimp only
   cases evM env r with
   |none=>rfl
   |some x=>
    dsimp only [Option.map]
    cases evM env b with
    |none=>rfl
    |some y=>simp only [Option.map];rw [Int.add_assoc]
def evM_next {env:List Bd} {l:List Mono} {k:Nat} {m:Mono} {x v:Int} (h:l[k]? =some m) (hx:evM env (l.take k)=some x) (hv:jW env m.Name=some v):evM env (l.take (k+1))=some (x+m.By*v):=by
 rw [yR h,evM_app,hx]
 dsimp only [evM]
 rw [hv]
 simp
def evM_none {env:List Bd} {l:List Mono} {k:Nat} {m:Mono} (h:l[k]? =some m) (hv:jW env m.Name=none):evM env l=none:=by
 have hl:=(ai.1 h).1
 have e:l=l.take k++m::l.drop (k+1):=by rw [←qQ h,aM]
 rw [e,evM_app]
 cases evM env (l.take k) with
 |none=>rfl
 |some x=>dsimp only [evM];rw [hv];rfl
end Go.Br
end
section
namespace Go.Br
open Go Go.Eng Go.L41
structure Gt where
 V:Vl
 T:Ty
 E:Int
def zVl:Vl:=⟨0,0⟩
def pT (e:Int):Gt:=⟨zVl,zTy,e⟩
def fO (mem:List Nmd) (s:lr):Tn×Int:=
 match dP mem s with
 |none=>(zTn,9)
 |some t=>if jG t=0 then (t,0) else (zTn,1)
def lU (at_:Int):List (Int×Int)->List Int->Int×Int
 |[],_=>(at_,0)
 |(n,e)::r,d=>if ¬e=0 then (0,e) else if n<0∨d.headD 0<=n then (0,12) else lU (at_*d.headD 0+n) r d.tail
def mJ (mem:List Nmd) (env:List Bd) (x:Ix) (dim:Int):Int×Int:=
 if x.From=bs [] then bY x.Lin env else
 if ¬(fO mem x.From).2=0 then (0,(fO mem x.From).2) else
 if ¬(fO mem x.From).1.T.Kind=3 then (0,10) else
 if ¬x.At.length=(fO mem x.From).1.Dims.length then (0,11) else
 if ¬(lU 0 (x.At.map fun f=>bY f env) (fO mem x.From).1.Dims).2=0 then (0,(lU 0 (x.At.map fun f=>bY f env) (fO mem x.From).1.Dims).2) else
 (max 0 (min (dim-1) ((fO mem x.From).1.Vals.getD (lU 0 (x.At.map fun f=>bY f env) (fO mem x.From).1.Dims).1.toNat zVl).N),0)
def sH (mem:List Nmd) (env:List Bd):List Ix->List Int->List (Int×Int)
 |[],_=>[]
 |x::r,d=>mJ mem env x (d.headD 0)::sH mem env r d.tail
def gR (mem:List Nmd) (env:List Bd) (t:Tn) (l:List Ix):Int×Int:=if l.length=t.Dims.length then lU 0 (sH mem env l t.Dims) t.Dims else (0,11)
def lR (mem:List Nmd) (env:List Bd) (e:Ex):Gt:=
 if e.Op=1 then ⟨e.Val,e.Ty,0⟩ else
 if e.Op=2 then (if ¬(bY e.Lin env).2=0 then pT (bY e.Lin env).2 else if 2147483647<(bY e.Lin env).1∨(bY e.Lin env).1< -2147483647 then pT 3 else ⟨⟨(bY e.Lin env).1,1⟩,iTy,0⟩) else
 if ¬(fO mem e.Name).2=0 then pT (fO mem e.Name).2 else
 if ¬(gR mem env (fO mem e.Name).1 e.Idx).2=0 then pT (gR mem env (fO mem e.Name).1 e.Idx).2 else
 ⟨(fO mem e.Name).1.Vals.getD (gR mem env (fO mem e.Name).1 e.Idx).1.toNat zVl,(fO mem e.Name).1.T,0⟩
structure VH where
 v:Gt
 h:Bool×Int
def zVH:VH:=⟨pT 0,(false,0)⟩
def rB (mem:List Nmd) (env:List Bd) (e:Ex) (R:List VH):Gt:=
 if e.Op<=3 then lR mem env e else
 if e.Op=11 then (if ¬(R.getD 0 zVH).h.2=0 then pT (R.getD 0 zVH).h.2 else if (R.getD 0 zVH).h.1=true then (R.getD 1 zVH).v else (R.getD 2 zVH).v) else
 if ¬(R.getD 0 zVH).v.E=0 then (R.getD 0 zVH).v else
 if e.Op=12 then (if ¬(pF (R.getD 0 zVH).v.T e.Ty (R.getD 0 zVH).v.V).2=0 then pT (pF (R.getD 0 zVH).v.T e.Ty (R.getD 0 zVH).v.V).2 else ⟨(pF (R.getD 0 zVH).v.T e.Ty (R.getD 0 zVH).v.V).1,e.Ty,0⟩) else
 if ¬(R.getD (if e.Op=8 then 0 else 1) zVH).v.E=0 then (R.getD (if e.Op=8 then 0 else 1) zVH).v else
 if ¬(R.getD 0 zVH).v.T=(R.getD (if e.Op=8 then 0 else 1) zVH).v.T then pT 10 else
 if ¬(mO e.Op (R.getD 0 zVH).v.T (R.getD 0 zVH).v.V (R.getD (if e.Op=8 then 0 else 1) zVH).v.V).2=0 then pT (mO e.Op (R.getD 0 zVH).v.T (R.getD 0 zVH).v.V (R.getD (if e.Op=8 then 0 else 1) zVH).v.V).2 else
 ⟨(mO e.Op (R.getD 0 zVH).v.T (R.getD 0 zVH).v.V (R.getD (if e.Op=8 then 0 else 1) zVH).v.V).1,(R.getD 0 zVH).v.T,0⟩
def sI (e:Ex) (R:List VH):Bool×Int:=
  if 16<=e.Op then
    (if ¬(R.getD 0 zVH).h.2=0∨e.Op=18 then (decide ((R.getD 0 zVH).h.2=0)&& !(R.getD 0 zVH).h.1,(R.getD 0 zVH).h.2) else
     if ¬(R.getD 1 zVH).h.2=0 then (false,(R.getD 1 zVH).h.2) else
     ((decide (e.Op=16)&&(R.getD 0 zVH).h.1&&(R.getD 1 zVH).h.1)||(decide (e.Op=17)&&((R.getD 0 zVH).h.1||(R.getD 1 zVH).h.1)),0)) else
  if ¬(R.getD 0 zVH).v.E=0 then (false,(R.getD 0 zVH).v.E) else
  if ¬(R.getD 1 zVH).v.E=0 then (false,(R.getD 1 zVH).v.E) else
  if ¬(R.getD 0 zVH).v.T=(R.getD 1 zVH).v.T then (false,10) else
  ((decide (sC (R.getD 0 zVH).v.T (R.getD 0 zVH).v.V (R.getD 1 zVH).v.V<0)&& !decide (e.Op=15))||(decide (sC (R.getD 0 zVH).v.T (R.getD 0 zVH).v.V (R.getD 1 zVH).v.V=0)&& !decide (e.Op=13)),0)
mutual
def evE (mem:List Nmd) (env:List Bd):Ex->VH
 |.mk o n v t l i av=>⟨rB mem env (.mk o n v t l i av) (eC mem env av),sI (.mk o n v t l i av) (eC mem env av)⟩
def eC (mem:List Nmd) (env:List Bd):List Ex->List VH
 |[]=>[]
 |a::r=>evE mem env a::eC mem env r
end
def evEs_eq (mem:List Nmd) (env:List Bd) (l:List Ex):eC mem env l=l.map (evE mem env):=by
 induction l with
 |nil=>rfl
 |cons a r ih=>rw [eC,ih];rfl
def evE_eq (mem:List Nmd) (env:List Bd) (e:Ex):evE mem env e=⟨rB mem env e (e.Args.map (evE mem env)),sI e (e.Args.map (evE mem env))⟩:=by
 cases e;rw [evE,evEs_eq];rfl
/-! ## Statements -/
structure Rs where
 Mem:List Nmd
 N:Int
 E:Int
def fA (fuel:Int) (s:Rs):Rs:=if fuel<=s.N then ⟨s.Mem,s.N,14⟩ else ⟨s.Mem,s.N+1,s.E⟩
def sQ (f:Int):Int:=if f=1∨f=5 then 4 else if f=2 then 6 else if f=3 then 9 else 10
def sE (fold:Int) (t:Ty) (a b:Vl):Vl×Int:=
 if fold<1∨5<fold then (zVl,1) else if dD t=false then (zVl,10) else if (bQ t a&&bQ t b)=false then (zVl,1) else mO (sQ fold) t a b
def gF (mem:List Nmd) (s:lr) (k:Nat) (v:Vl):List Nmd:=mem.map fun x=>if x.Name=s then ⟨x.Name,⟨x.T.T,x.T.Dims,x.T.Vals.set k v⟩⟩ else x
def fR (s:Rs) (env:List Bd) (x:St):Rs:=
 if ¬(evE s.Mem env x.E).v.E=0 then ⟨s.Mem,s.N,(evE s.Mem env x.E).v.E⟩ else
 if ¬(gR s.Mem env ((dP s.Mem x.Name).getD zTn) x.Idx).2=0 then ⟨s.Mem,s.N,(gR s.Mem env ((dP s.Mem x.Name).getD zTn) x.Idx).2⟩ else
 if x.Op=3 then
  (if ¬(sE x.Fold ((dP s.Mem x.Name).getD zTn).T (((dP s.Mem x.Name).getD zTn).Vals.getD (gR s.Mem env ((dP s.Mem x.Name).getD zTn) x.Idx).1.toNat zVl) (evE s.Mem env x.E).v.V).2=0 then
   ⟨s.Mem,s.N,(sE x.Fold ((dP s.Mem x.Name).getD zTn).T (((dP s.Mem x.Name).getD zTn).Vals.getD (gR s.Mem env ((dP s.Mem x.Name).getD zTn) x.Idx).1.toNat zVl) (evE s.Mem env x.E).v.V).2⟩ else
   ⟨gF s.Mem x.Name (gR s.Mem env ((dP s.Mem x.Name).getD zTn) x.Idx).1.toNat (sE x.Fold ((dP s.Mem x.Name).getD zTn).T (((dP s.Mem x.Name).getD zTn).Vals.getD (gR s.Mem env ((dP s.Mem x.Name).getD zTn) x.Idx).1.toNat zVl) (evE s.Mem env x.E).v.V).1,s.N,0⟩) else
 ⟨gF s.Mem x.Name (gR s.Mem env ((dP s.Mem x.Name).getD zTn) x.Idx).1.toNat (evE s.Mem env x.E).v.V,s.N,0⟩
def jN (fuel:Int) (nm:lr) (env:List Bd) (b:List Bd->Rs->Rs) (s:Rs) (k:Nat):Rs:=
 if ¬s.E=0 then s else if ¬(fA fuel s).E=0 then fA fuel s else b (⟨nm,k⟩::env) (fA fuel s)
mutual
def jT (fuel:Int):St->List Bd->Rs->Rs
 |.mk o nm mn mk fo i e b,env,s=>
  if o=1 then (List.range mn.toNat).foldl (jN fuel nm env fun env' s'=>lI fuel b env' s') s else
  if ¬(fA fuel s).E=0 then fA fuel s else
  if o=4 then
   (if ¬(evE s.Mem env e).h.2=0 then ⟨s.Mem,(fA fuel s).N,(evE s.Mem env e).h.2⟩ else if (evE s.Mem env e).h.1=true then lI fuel b env (fA fuel s) else fA fuel s) else
  fR (fA fuel s) env (.mk o nm mn mk fo i e b)
def lI (fuel:Int):List St->List Bd->Rs->Rs
 |[],_,s=>s
 |x::r,env,s=>if ¬s.E=0 then s else lI fuel r env (jT fuel x env s)
end
def zSd (fuel:Int) (x:St) (env:List Bd) (s:Rs):jT fuel x env s=
  if x.Op=1 then (List.range x.Many.toNat).foldl (jN fuel x.Name env (lI fuel x.Body)) s else
  if ¬(fA fuel s).E=0 then fA fuel s else
  if x.Op=4 then
   (if ¬(evE s.Mem env x.E).h.2=0 then ⟨s.Mem,(fA fuel s).N,(evE s.Mem env x.E).h.2⟩ else if (evE s.Mem env x.E).h.1=true then lI fuel x.Body env (fA fuel s) else fA fuel s) else
  fR (fA fuel s) env x:=by cases x;rw [jT];rfl
def vlE (env:List Bd) (s:lr):Int:=(jW env s).getD 0
def smM (env:List Bd):List Mono->Int
 |[]=>0
 |m::r=>m.By*vlE env m.Name+smM env r
def smT (env:List Bd):List Tr->Int
 |[]=>0
 |t::r=>trV t*vlE env t.1+smT env r
def vlL (env:List Bd) (l:Lf):Int:=l.K+smM env l.L
def evM_all {env:List Bd}:∀{l:List Mono},(∀m,m∈l->(jW env m.Name).isSome=true)->evM env l=some (smM env l)
 |[],_=>rfl
 |m::r,h=>by
  have h1:=h m uD
  have ih:=evM_all fun x hx=>h x (au _ hx)
  rw [evM,ih,smM,vlE]
  cases e:jW env m.Name with
  |none=>rw [e] at h1;cases h1
  |some v=>rfl
def zJf (env:List Bd):∀(n:Nat) (a b:List Mono),a.length+b.length<=n->smT env (dV n a b)=smM env a+smM env b
 |0,a,b,h=>by
  obtain rfl:a=[]:=fc.1 zA
  obtain rfl:b=[]:=fc.1 zA
  rfl
 |n+1,[],[],_=>rfl
 |n+1,a::ar,[],h=>by
  rw [dV,smT,zJf env n ar [] (by simp at h⊢;omega),smM]
  show (a.By+0)*vlE env a.Name+(_+0)=a.By*vlE env a.Name+_+0
  rw [eh];omega
 |n+1,[],b::bs,h=>by
  rw [dV,smT,zJf env n [] bs (by simp at h⊢;omega),smM,smM]
  show (0+b.By)*vlE env b.Name+(0+_)=0+(b.By*vlE env b.Name+_)
  rw [fi];omega
 |n+1,a::ar,b::bs,h=>by
  have h':ar.length+1+(bs.length+1)<=n+1:=by simpa using h
  rw [dV]
  cases h1:dQ a.Name b.Name with
  |true=>
   rw [ay,smT,zJf env n ar (b::bs) uE,smM,smM]
   show (a.By+0)*vlE env a.Name+_=_
   rw [eh];omega
  |false=>
   rw [az]
   cases h2:dQ b.Name a.Name with
   |true=>
    rw [ay,smT,zJf env n (a::ar) bs uE,smM,smM]
    show (0+b.By)*vlE env b.Name+_=_
    rw [fi];omega
   |false=>
    rw [az,smT,zJf env n ar bs zA,smM,smM,←zPi h1 h2]
    show (a.By+b.By)*vlE env a.Name+_=_
    rw [Int.add_mul];omega
def sm_sumW (env:List Bd):∀ts:List Tr,ts.all tD=true->smM env (mG ts)=smT env ts
 |[],_=>rfl
 |t::r,h=>by
  rw [aW,ae] at h
  have ht:w64 (trV t)=trV t:=zIb (fv h.1)
  have ih:=sm_sumW env r h.2
  unfold mG at ih⊢
  rw [cu,ht,smT]
  by_cases c:trV t=0
  ·rw [ab c];dsimp only;rw [ih,c,dy,fi]
  ·rw [aa c];dsimp only;rw [smM,ih]
def addT_vl {env:List Bd} {k:Int} {ts:List Tr} {d:Lf} (h:nA k ts=(d,0)):vlL env d=k+smT env ts:=by
 unfold nA at h
 split at h
 ·next c=>
  injection h with h _
  subst h
  unfold vlL;dsimp only;rw [sm_sumW env _ c.2]
 ·injection h with _ h;cases h
def add_vl {env:List Bd} {a b d:Lf} (h:jM a b=(d,0)):vlL env d=vlL env a+vlL env b:=by
 unfold jM at h
 split at h
 ·rw [addT_vl h,bM,zJf env _ _ _ (aH _)];unfold vlL;omega
 ·injection h with _ h;cases h
def sm_scale (env:List Bd) (k:Int):∀l:List Mono,smM env (lH k l)=smM env l*k
 |[]=>by rw [show lH k []=[] from rfl,smM,dy]
 |m::r=>by
  show smM env (⟨m.Name,m.By*k⟩::lH k r)=_
  rw [smM,smM,sm_scale env k r,Int.add_mul]
  show m.By*k*_+_=_
  rw [Int.mul_right_comm]
end Go.Br
end
section
set_option maxRecDepth 100000
namespace Go.Br
open Go Go.Eng Go.L41
def mul_abs {x y:Int}:x*y=if (decide (x<0) !=decide (y<0))=true then-((x.natAbs*y.natAbs:Nat):Int) else ((x.natAbs*y.natAbs:Nat):Int):=by
 have h:=zKf x y
 split
 ·rename_i c
  have:=neg_mul (x:=x) (y:=y) (by cases h1:decide (x<0)<;>cases h2:decide (y<0)<;>rw [h1,h2] at c<;>simp_all)
  omega
 ·rename_i c
  have:=pos_mul (x:=x) (y:=y) (by cases h1:decide (x<0)<;>cases h2:decide (y<0)<;>rw [h1,h2] at c<;>simp_all)
  omega
def abs_bd {x y:Int} (hx:r64 x) (hy:r64 y):(x*y).natAbs<=85070591730234615865843651857942052864:=by
 rw [zKf]
 exact cc (ig (zHw hx) (zHw hy)) zB
def dgV:List Nat->Nat
 |[]=>0
 |d::r=>d+4294967296*dgV r
def jD (l:List Nat):Prop:=∀d,d∈l->d<4294967296
def dgV_app:∀(a b:List Nat),dgV (a++b)=dgV a+4294967296^a.length*dgV b
 |[],b=>by simp [dgV]
 |d::r,b=>by
  rw [lCa,dgV,dgV,dgV_app r b,lLc,iX,ei,gg,ia (4294967296^r.length) 4294967296,gr]
def dgV_lt:∀{l:List Nat},jD l->dgV l<4294967296^l.length
 |[],_=>by simp [dgV]
 |d::r,h=>by
  have h1:=h d uD
  have h2:=dgV_lt (l:=r) fun x hx=>h x (by simp [hx])
  rw [dgV,lLc,iX,ia (4294967296^r.length)]
  omega
variable {l:List Nat} {i d:Nat}
def dg_split (h:l[i]? =some d):dgV l=dgV (l.take i)+4294967296^i*(d+4294967296*dgV (l.drop (i+1))):=by
 have hl:=(ai.1 h).1
 have e:l=l.take i++d::l.drop (i+1):=by rw [←qQ h,aM]
 have e2:dgV l=dgV (l.take i++d::l.drop (i+1)):=ag dgV e
 rw [e2,dgV_app,aG,bw zA,dgV]
variable {x:Nat}
def dgOk_set (h:jD l) (hx:x<4294967296):jD (l.set i x):=fun d hd=>by
 rcases ge hd with k|k
 ·exact h d k
 ·rw [k];exact hx
/-! ## Adding a number -/
def lX:List Nat->Nat->Nat->List Nat
 |[],_,_=>[]
 |d::r,c,n=>(d+n%4294967296+c)%4294967296::lX r ((d+n%4294967296+c)/4294967296) (n/4294967296)
def dgAdd_v:∀(l:List Nat) (c n:Nat),jD l->(∃q,dgV (lX l c n)+q*4294967296^l.length=dgV l+c+n)/\jD (lX l c n)/\(lX l c n).length=l.length
 |[],c,n,_=>⟨⟨c+n,by simp [dgV,lX]⟩,(fun d hd=>by cases hd),rfl⟩
 |d::r,c,n,h=>by
  obtain ⟨⟨q,hq⟩,h2,h3⟩:=dgAdd_v r ((d+n%4294967296+c)/4294967296) (n/4294967296) fun x hx=>h x (by simp [hx])
  refine ⟨⟨q,?_⟩,fun x hx=>?_,by rw [lX,lLc,h3,lLc]⟩
  ·rw [lX,dgV,dgV,lLc,iX,←gr]
   generalize dgV (lX r ((d+n%4294967296+c)/4294967296) (n/4294967296))=X at *
   generalize q*4294967296^r.length=Y at *
   omega
  ·rw [lX] at hx
   rcases af.1 hx with rfl|hx
   ·exact iO _ zB
   ·exact h2 x hx
def jL (w:List Nat) (at_ N:Nat):List Nat:=w.take at_++lX (w.drop at_) 0 N
variable {w:List Nat}
def zEq {at_ N:Nat} (h:w.length=6) (hw:jD w):(jL w at_ N).length=6:=by
 unfold jL
 rw [lLa,(dgAdd_v _ 0 N fun d hd=>hw d (lMd hd)).2.2,←lLa,aM,h]
def zCj {at_ N:Nat} (hw:jD w):jD (jL w at_ N):=fun d hd=>by
 unfold jL at hd
 rcases aq.1 hd with k|k
 ·exact hw d (ec k)
 ·exact (dgAdd_v _ 0 N fun d hd=>hw d (lMd hd)).2.1 d k
def dgt_v {at_ N:Nat} (h:w.length=6) (hw:jD w) (ha:at_<=6) (hb:dgV w+N*4294967296^at_<6277101735386680763835789423207666416102355444464034512896):dgV (jL w at_ N)=dgV w+N*4294967296^at_:=by
 obtain ⟨⟨q,hq⟩,h2,h3⟩:=dgAdd_v (w.drop at_) 0 N fun d hd=>hw d (lMd hd)
 have e:dgV w=dgV (w.take at_)+4294967296^at_*dgV (w.drop at_):=by
  have:=dgV_app (w.take at_) (w.drop at_)
  rw [aM,aG,bw zA] at this
  exact this
 have e2:dgV (jL w at_ N)=dgV (w.take at_)+4294967296^at_*dgV (lX (w.drop at_) 0 N):=by
  have:=dgV_app (w.take at_) (lX (w.drop at_) 0 N)
  rw [aG,bw zA] at this
  exact this
 have e3:=ag (fun x=>4294967296^at_*x) hq
 simp only [ei,Nat.mul_zero,jy,ct,h] at e3
 have e4:4294967296^at_*(q*4294967296^(6-at_))=q*6277101735386680763835789423207666416102355444464034512896:=by
  rw [←gr,ia (4294967296^at_) q,gr,←Nat.pow_add,show at_+(6-at_)=6 by omega]
 rw [e4,ia (4294967296^at_) N] at e3
 rw [e2]
 generalize dgV (jL w at_ N)=A at *
 generalize 4294967296^at_*dgV (lX (w.drop at_) 0 N)=X at *
 generalize 4294967296^at_*dgV (w.drop at_)=Y at *
 generalize N*4294967296^at_=Z at *
 exact v17
variable {c:Nat} {ds:List Nat} {n:Nat}
def dgt_next {at_ N:Nat} (h:jL w at_ N=ds.take i++lX (ds.drop i) c n) (hd:ds[i]? =some d):
  jL w at_ N=(ds.set i ((d+n%4294967296+c)%4294967296)).take (i+1)++lX ((ds.set i ((d+n%4294967296+c)%4294967296)).drop (i+1)) ((d+n%4294967296+c)/4294967296) (n/4294967296):=by
 have hl:=(ai.1 hd).1
 rw [h,qQ hd,lX,km zA,yR (x:=(d+n%4294967296+c)%4294967296) (by rw [dk hl]),gw (aH i),lAa];rfl
def dgt_end {at_ N:Nat} (h:jL w at_ N=ds.take i++lX (ds.drop i) c n) (hl:ds.length<=i):jL w at_ N=ds:=by
 rw [h,aS hl,ci hl,lX,lAn]
def tT (w:List Nat) (a b:Nat):List Nat:=jL (jL (jL (jL w 0 (a%4294967296*(b%4294967296))) 1 (a%4294967296*(b/4294967296))) 1 (a/4294967296*(b%4294967296))) 2 (a/4294967296*(b/4294967296))
def zFv {a b:Nat} (h:w.length=6) (hw:jD w):(tT w a b).length=6/\jD (tT w a b):=
 ⟨zEq (zEq (zEq (zEq h hw) (zCj hw)) (zCj (zCj hw))) (zCj (zCj (zCj hw))),zCj (zCj (zCj (zCj hw)))⟩
def plu_v {a b:Nat} (h:w.length=6) (hw:jD w) (hb:dgV w+a*b<6277101735386680763835789423207666416102355444464034512896):dgV (tT w a b)=dgV w+a*b:=by
 have hp:=mul_parts a b
 have h0:(4294967296:Nat)^0=1:=by decide
 have h1:(4294967296:Nat)^1=4294967296:=by decide
 have h2:(4294967296:Nat)^2=18446744073709551616:=by decide
 unfold tT
 have e1:=dgt_v (w:=w) (at_:=0) (N:=a%4294967296*(b%4294967296)) h hw zB (by rw [h0];omega)
 have e2:=dgt_v (w:=jL w 0 (a%4294967296*(b%4294967296))) (at_:=1) (N:=a%4294967296*(b/4294967296)) (zEq h hw) (zCj hw) zB (by rw [e1,h0,h1];omega)
 have e3:=dgt_v (at_:=1) (N:=a/4294967296*(b%4294967296)) (zEq (at_:=1) (N:=a%4294967296*(b/4294967296)) (zEq (at_:=0) (N:=a%4294967296*(b%4294967296)) h hw) (zCj hw)) (zCj (zCj hw)) zB (by rw [e2,e1,h0,h1];omega)
 have e4:=dgt_v (at_:=2) (N:=a/4294967296*(b/4294967296)) (zEq (at_:=1) (N:=a/4294967296*(b%4294967296)) (zEq (at_:=1) (N:=a%4294967296*(b/4294967296)) (zEq (at_:=0) (N:=a%4294967296*(b%4294967296)) h hw) (zCj hw)) (zCj (zCj hw))) (zCj (zCj (zCj hw))) zB (by rw [e3,e2,e1,h0,h1,h2];omega)
 rw [e4,e3,e2,e1,h0,h1,h2]
 omega
variable {a b:List Nat}
/-! ## Comparing -/
def dg_less {y:Nat} (hl:a.length=b.length) (ha:jD a) (hb:jD b) (hx:a[i]? =some x) (hy:b[i]? =some y) (hne:¬x=y) (hd:a.drop (i+1)=b.drop (i+1)):decide (x<y)=decide (dgV a<dgV b):=by
 have h1:=dg_split hx
 have h2:=dg_split hy
 have hla:=(ai.1 hx).1
 have t1:=dgV_lt (l:=a.take i) fun d hd=>ha d (ec hd)
 have t2:=dgV_lt (l:=b.take i) fun d hd=>hb d (ec hd)
 rw [aG,bw zA] at t1 t2
 rw [hd] at h1
 generalize dgV (b.drop (i+1))=D at *
 generalize dgV (a.take i)=p at *
 generalize dgV (b.take i)=q at *
 generalize (4294967296:Nat)^i=B at *
 by_cases c:x<y
 ·have h3:B*(x+4294967296*D)+B<=B*(y+4294967296*D):=by
   rw [show B*(x+4294967296*D)+B=B*(x+4294967296*D+1) from (Nat.mul_succ B _).symm]
   exact iN _ zA
  rw [aw c,aw zA]
 ·have h3:B*(y+4294967296*D)+B<=B*(x+4294967296*D):=by
   rw [show B*(y+4294967296*D)+B=B*(y+4294967296*D+1) from (Nat.mul_succ B _).symm]
   exact iN _ zA
  rw [aB c,aB zA]
def dg_step (hx:a[i]? =some x) (hy:b[i]? =some x) (hd:a.drop (i+1)=b.drop (i+1)):a.drop i=b.drop i:=by rw [qQ hx,qQ hy,hd]
def dg_same (hd:a.drop 0=b.drop 0):decide (dgV a<dgV b)=false:=by
 rw [show a=b from hd];exact aB (Nat.lt_irrefl _)
/-! ## Subtracting -/
def mB:List Nat->List Nat->Nat->List Nat
 |x::r,y::s,c=>(if x<y+c then x+4294967296-(y+c) else x-(y+c))::mB r s (if x<y+c then 1 else 0)
 |_,_,_=>[]
def dgSub_v:∀(a b:List Nat) (c:Nat),a.length=b.length->jD a->jD b->c<=1->(∃q,dgV (mB a b c)+dgV b+c=dgV a+q*4294967296^a.length)/\jD (mB a b c)/\(mB a b c).length=a.length
 |[],[],c,_,_,_,_=>⟨⟨c,by simp [dgV,mB]⟩,(fun d hd=>by simp [mB] at hd),rfl⟩
 |x::r,y::s,c,hl,ha,hb,hc=>by
  have hx:=ha x uD
  have hy:=hb y uD
  obtain ⟨⟨q,hq⟩,h2,h3⟩:=dgSub_v r s (if x<y+c then 1 else 0) (by simpa using hl) (fun d hd=>ha d (by simp [hd])) (fun d hd=>hb d (by simp [hd])) (by split<;>omega)
  refine ⟨⟨q,?_⟩,fun d hd=>?_,by rw [mB,lLc,h3,lLc]⟩
  ·rw [mB,dgV,dgV,dgV,lLc,iX,←gr]
   generalize dgV (mB r s (if x<y+c then 1 else 0))=X at *
   generalize q*4294967296^r.length=Y at *
   split at hq
   ·rename_i k;rw [ab k];omega
   ·rename_i k;rw [aa k];omega
  ·rw [mB] at hd
   rcases af.1 hd with rfl|hd
   ·split<;>omega
   ·exact h2 d hd
def vO (a b:List Nat):List Nat:=mB a b 0
def mns_v (h1:a.length=6) (h2:b.length=6) (ha:jD a) (hb:jD b) (hle:dgV b<=dgV a):dgV (vO a b)=dgV a-dgV b/\jD (vO a b)/\(vO a b).length=6:=by
 obtain ⟨⟨q,hq⟩,h3,h4⟩:=dgSub_v a b 0 (h1.trans h2.symm) ha hb zB
 have hlt:=dgV_lt h3
 rw [h4,h1] at hlt
 rw [h1,show (4294967296:Nat)^6=6277101735386680763835789423207666416102355444464034512896 by decide] at hq
 rw [show (4294967296:Nat)^6=6277101735386680763835789423207666416102355444464034512896 by decide] at hlt
 refine ⟨?_,h3,h4.trans h1⟩
 show dgV (mB a b 0)=_
 exact v17
def mns_next {y x' c':Nat} (h:vO a b=ds.take i++mB (ds.drop i) (b.drop i) c) (hx:ds[i]? =some x) (hy:b[i]? =some y) (hx':x'=if x<y+c then x+4294967296-(y+c) else x-(y+c)) (hc':c'=if x<y+c then 1 else 0):
  vO a b=(ds.set i x').take (i+1)++mB ((ds.set i x').drop (i+1)) (b.drop (i+1)) c':=by
 have hl:=(ai.1 hx).1
 rw [h,qQ hx,qQ hy,mB,←hx',←hc',km zA,yR (x:=x') (by rw [dk hl]),gw (aH i),lAa];rfl
def mns_end (h:vO a b=ds.take i++mB (ds.drop i) (b.drop i) c) (hl:ds.length<=i):vO a b=ds:=by
 rw [h,aS hl,ci hl];simp [mB]
/-! ## Cells -/
abbrev cU (n:Nat):C:=.lit (.int .u64 (n:Int))
abbrev vW (l:List Nat):V:=.agg (l.map cU)
variable {k:Nat}
def zHy (h:l[k]? =some d):(l.map cU).drop (0+(k:Int).toNat*1)=cU d::(l.drop (k+1)).map cU:=by
 rw [bt,jh,dq,←List.map_drop,qQ h];rfl
def spl_set {new:C}:∀(l:List C) (k:Nat),k<l.length->spl l k [new]=l.set k new
 |[],k,h=>by simp at h
 |c::r,0,_=>rfl
 |c::r,k+1,h=>by rw [spl,iP,spl_set r k (by simpa using h)]
def dg_spl (h:k<l.length):spl (l.map cU) (0+(k:Int).toNat*1) [cU x]=(l.set k x).map cU:=by
 rw [bt,jh,dq,spl_set _ _ (by rw [lLm];exact h),List.map_set]
def dg_le (h:k<l.length) (x:C):0+(k:Int).toNat*1+[x].length<=(l.map cU).length:=by
 rw [bt,jh,dq,lLm];exact h
def zKk (l:List Nat):(l.map cU).drop 0=l.map cU++[]:=by rw [lAn];rfl
def zCt (h:l.length=6):(l.map cU).length=6:=by rw [lLm];exact h
def zYz {cs:List C} (hc:cs.length=6) (h:l.length=6):spl cs 0 (l.map cU)=l.map cU:=by
 rw [show spl cs 0 (l.map cU)=l.map cU++cs.drop (l.map cU).length by cases cs<;>rfl]
 rw [ci (by rw [lLm];omega),lAn]
def zZb (h:l.length=6):Nat.beq (l.map cU).length 6=true:=by rw [lLm,h];rfl
def zZa {cs:List C} (hc:cs.length=6) (h:l.length=6):0+(l.map cU).length<=cs.length:=by rw [lLm];omega
/-! ## The value of a form -/
def dg_six (h:l.length=6):∃a b c d e f,l=[a,b,c,d,e,f]:=by
 match l,h with
 |[a,b,c,d,e,f],_=>exact ⟨a,b,c,d,e,f,rfl⟩
structure ErJ (l:Lf) (env:List Bd) (k:Nat) (p q:List Nat) (z:Int):Prop where
 pl:p.length=6
 ql:q.length=6
 po:jD p
 qo:jD q
 ev:evM env (l.L.take k)=some z
 v:(dgV p:Int)-(dgV q:Int)=l.K+z
 pb:dgV p<=9223372036854775808+k*85070591730234615865843651857942052864
 qb:dgV q<=9223372036854775808+k*85070591730234615865843651857942052864
def bd_next {a b:Nat} (h:a<=c+k*b):a<=c+(k+1)*b:=cc h (Nat.add_le_add_left (dc _ (Nat.le_succ k)) _)
def bd_add {a a' b:Nat} (h:a<=c+k*b) (e:a'=a+n) (hn:n<=b):a'<=c+(k+1)*b:=by
 rw [e,ej,Nat.one_mul,←gg]
 exact Nat.add_le_add h hn
variable {z:Int}
def er_sub {a b b':Nat} {K P:Int} (h:(a:Int)-(b:Int)=K+z) (h3:b'=b+n) (he:P= -((n:Nat):Int)):(a:Int)-(b':Int)=K+(z+P):=by omega
def er_add {a b a':Nat} {K P:Int} (h:(a:Int)-(b:Int)=K+z) (h3:a'=a+n) (he:P=((n:Nat):Int)):(a':Int)-(b:Int)=K+(z+P):=by omega
variable {env:List Bd} {p q:List Nat}
def er_neg {l:Lf} {q':List Nat} {v:Int} {m:Mono} (hl:l.rng) (h:ErJ l env k p q z) (hm:l.L[k]? =some m) (hv:jW env m.Name=some v) (hr:r64 v) (hs:¬(decide (v<0)=decide (m.By<0))) (h1:q'.length=6) (h2:jD q') (h3:dgV q'=dgV q+v.natAbs*m.By.natAbs):ErJ l env (k+1) p q' (z+m.By*v):=by
 have hb:=abs_bd (hl.2 m (qA hm)) hr
 have he:=mul_abs (x:=m.By) (y:=v)
 rw [ab (by cases c1:decide (v<0)<;>cases c2:decide (m.By<0)<;>simp_all)] at he
 rw [zKf] at hb
 rw [ia] at h3
 exact ⟨h.pl,h1,h.po,h2,evM_next hm h.ev hv,er_sub h.v h3 he,bd_next h.pb,bd_add h.qb h3 hb⟩
def er_pos {l:Lf} {p':List Nat} {v:Int} {m:Mono} (hl:l.rng) (h:ErJ l env k p q z) (hm:l.L[k]? =some m) (hv:jW env m.Name=some v) (hr:r64 v) (hs:decide (v<0)=decide (m.By<0)) (h1:p'.length=6) (h2:jD p') (h3:dgV p'=dgV p+v.natAbs*m.By.natAbs):ErJ l env (k+1) p' q (z+m.By*v):=by
 have hb:=abs_bd (hl.2 m (qA hm)) hr
 have he:=mul_abs (x:=m.By) (y:=v)
 rw [aa (by cases c1:decide (v<0)<;>cases c2:decide (m.By<0)<;>simp_all)] at he
 rw [zKf] at hb
 rw [ia] at h3
 exact ⟨h1,h.ql,h2,h.qo,evM_next hm h.ev hv,er_add h.v h3 he,bd_add h.pb h3 hb,bd_next h.qb⟩
def er_first {l:Lf} (hk:r64 l.K) (h1:p.length=6) (h2:jD p) (h3:q.length=6) (h4:jD q) (h5:(dgV p:Int)-(dgV q:Int)=l.K) (h6:dgV p<=l.K.natAbs) (h7:dgV q<=l.K.natAbs):ErJ l env 0 p q 0:=by
 have:=zHw hk
 exact ⟨h1,h3,h2,h4,rfl,zA,zA,zA⟩
def er_val {l:Lf} (h:ErJ l env k p q z) (hk:l.L.length<=k) (hl:dY l=0):bY l env=if r64 ((dgV p:Int)-(dgV q:Int)) then ((dgV p:Int)-(dgV q:Int),0) else (0,3):=by
 have hz:=h.ev
 rw [yW zA] at hz
 unfold bY
 rw [ab hl,hz,h.v]
 rfl
variable {e f:Nat}
def dg_big {a b:Nat} (ho:jD [a,b,c,d,e,f]):(c=0/\d=0/\e=0/\f=0->dgV [a,b,c,d,e,f]=a+b*4294967296)/\(¬(c=0/\d=0/\e=0/\f=0)->18446744073709551616<=dgV [a,b,c,d,e,f])/\a+b*4294967296<18446744073709551616:=by
 have h1:=ho a uD
 have h2:=ho b uD
 simp only [dgV]
 refine ⟨fun ⟨h3,h4,h5,h6⟩=>?_,fun h=>?_,zA⟩
 ·subst h3 h4 h5 h6;omega
 ·omega
def dg0:List Nat:=[0,0,0,0,0,0]
def zUl:jD dg0:=fun d hd=>by
 simp only [dg0,lMc,aN,cp] at hd
 omega
def d0_v:dgV dg0=0:=by decide
def bne_t {a b:Bool} (h:(!(a==b))=true):¬(a=b):=by intro e;subst e;simp at h
def bne_f {a b:Bool} (h:(!(a==b))=false):a=b:=by simpa using h
def env_r:∀{env:List Bd} {s:lr} {v:Int},(∀x,x∈env->r64 x.Val)->jW env s=some v->r64 v
 |[],_,_,_,h=>by cases h
 |y::r,s,v,hr,h=>by
  rw [jW] at h
  split at h
  ·rw [ap] at h;rw [←h];exact hr y uD
  ·exact env_r (fun x hx=>hr x (by simp [hx])) h
def erP (k:Int):List Nat:=if k<0 then dg0 else tT dg0 k.natAbs 1
def erQ (k:Int):List Nat:=if k<0 then tT dg0 k.natAbs 1 else dg0
def er_start {l:Lf} (hk:r64 l.K):ErJ l env 0 (erP l.K) (erQ l.K) 0:=by
 have hm:=zHw hk
 have hp:=zFv (w:=dg0) (a:=l.K.natAbs) (b:=1) rfl zUl
 have hv:=plu_v (w:=dg0) (a:=l.K.natAbs) (b:=1) rfl zUl (by rw [d0_v];omega)
 rw [d0_v,bt,jh] at hv
 unfold erP erQ
 by_cases c:l.K<0
 ·rw [ab c,ab c]
  exact er_first hk rfl zUl hp.1 hp.2 (by rw [hv,d0_v];omega) (by rw [d0_v];omega) (by rw [hv];omega)
 ·rw [aa c,aa c]
  exact er_first hk hp.1 hp.2 rfl zUl (by rw [hv,d0_v];omega) (by rw [hv];omega) (by rw [d0_v];omega)
def er_bd {P:List Nat} {l:Lf} {v b:Int} (hv:r64 v) (hb:r64 b) (hk:k<=5864062014805) (h:dgV P<=9223372036854775808+k*85070591730234615865843651857942052864):dgV P+v.natAbs*b.natAbs<6277101735386680763835789423207666416102355444464034512896:=by
 have:=abs_bd hv hb
 rw [zKf] at this
 omega
variable {m:Nat}
def er_big {a b:Nat} (ho:jD [a,b,c,d,e,f]) (hv:dgV [a,b,c,d,e,f]=m) (h:¬(c=0/\d=0/\e=0/\f=0)∨9223372036854775808<a+b*4294967296):9223372036854775808<m:=by
 obtain ⟨h1,h2,h3⟩:=dg_big ho
 by_cases k:c=0/\d=0/\e=0/\f=0
 ·have:=h1 k;rcases h with h|h
  ·exact absurd k h
  ·omega
 ·have:=h2 k;omega
def er_big2 {a b:Nat} (ho:jD [a,b,c,d,e,f]) (hv:dgV [a,b,c,d,e,f]=m) (h:¬(c=0/\d=0/\e=0/\f=0)∨9223372036854775807<a+b*4294967296):9223372036854775807<m:=by
 obtain ⟨h1,h2,h3⟩:=dg_big ho
 by_cases k:c=0/\d=0/\e=0/\f=0
 ·have:=h1 k;rcases h with h|h
  ·exact absurd k h
  ·omega
 ·have:=h2 k;omega
def er_small {a b:Nat} (ho:jD [a,b,c,d,e,f]) (hv:dgV [a,b,c,d,e,f]=m) (h:c=0/\d=0/\e=0/\f=0):m=a+b*4294967296:=by
 rw [←hv];exact (dg_big ho).1 h
def er_out {l:Lf} (h:ErJ l env k p q z) (hk:l.L.length<=k) (hl:dY l=0) (hr:¬r64 ((dgV p:Int)-(dgV q:Int))):bY l env=(0,3):=by
 rw [er_val h hk hl,aa hr]
def er_in {l:Lf} {n:Int} (h:ErJ l env k p q z) (hk:l.L.length<=k) (hl:dY l=0) (hn:(dgV p:Int)-(dgV q:Int)=n) (hr:r64 n):bY l env=(n,0):=by
 rw [er_val h hk hl,hn,ab hr]
def ev_bad {l:Lf} (hl:¬dY l=0):bY l env=(0,1):=aa hl
def ev_none {l:Lf} {m:Mono} (hl:dY l=0) (h:l.L[k]? =some m) (hv:jW env m.Name=none):bY l env=(0,9):=by
 unfold bY
 rw [ab hl,evM_none h hv]
def env_at:∀{env:List Bd} {s:lr} {i:Nat} {x:Bd},env[i]? =some x->x.Name=s->(env.take i).any (fun y=>decide (y.Name=s))=false->jW env s=some x.Val
 |[],_,_,_,h,_,_=>by cases h
 |y::r,s,0,x,h,hs,_=>by
  rw [ir,ap] at h
  subst h
  rw [jW,ab hs]
 |y::r,s,i+1,x,h,hs,hn=>by
  rw [aF,ep,al] at hn
  rw [jW,aa (ie hn.1)]
  exact env_at (by simpa using h) hs hn.2
def env_no:∀{env:List Bd} {s:lr},env.any (fun y=>decide (y.Name=s))=false->jW env s=none
 |[],_,_=>rfl
 |y::r,s,hn=>by
  rw [ep,al] at hn
  rw [jW,aa (ie hn.1)]
  exact env_no hn.2
end Go.Br
end
