/-
  Lists of strings,sorted and thinned (for a seat without slices.Sort at strings).
  And what the laws need besides.
  Conditions: none.
-/
import Derived.Test.YthgichbbgocmoaaGreatDoorCfg
import Derived.Test.YthgichbbgocmoaaGreatDoorEngZ
import Derived.Sort.OwnSorted
import Derived.Lib.OwnBridge
import Derived.Test.YthgichbbgocmoaaGreatDoorPlain
import Derived.Lib.ItoaNum
set_option linter.unusedSimpArgs false
set_option linter.unusedVariables false
set_option linter.defProp false
section
namespace Go.Br
open Go Go.Eng Go.RowKit Go.Proofs Go.L41
/-! ## The order of names -/
def bl_cons (a b:UInt8) (x y:List UInt8):Op.bytesLess (a::x) (b::y)=true↔a<b∨(a=b/\Op.bytesLess x y=true):=by
 rw [Op.bytesLess]
 by_cases h1:a<b<;>by_cases h2:a=b<;>simp [h1,h2]
def bl_trans:∀(x y z:List UInt8),Op.bytesLess x y=true->Op.bytesLess y z=true->Op.bytesLess x z=true
 |[],[],_,h,_=>by simp [Op.bytesLess] at h
 |[],_::_,[],_,h=>by simp [Op.bytesLess] at h
 |[],_::_,_::_,_,_=>by simp [Op.bytesLess]
 |_::_,[],_,h,_=>by simp [Op.bytesLess] at h
 |_::_,_::_,[],_,h=>by simp [Op.bytesLess] at h
 |a::x,b::y,c::z,h,k=>by
  rw [bl_cons] at h k⊢
  rcases h with h|⟨rfl,h⟩
  ·rcases k with k|⟨rfl,k⟩
   ·exact .inl (UInt8.lt_trans h k)
   ·exact .inl h
  ·rcases k with k|⟨rfl,k⟩
   ·exact .inl k
   ·exact .inr ⟨rfl,bl_trans x y z h k⟩
def bl_tri:∀(x y:List UInt8),Op.bytesLess x y=false->Op.bytesLess y x=false->x=y
 |[],[],_,_=>rfl
 |[],_::_,h,_=>by simp [Op.bytesLess] at h
 |_::_,[],_,h=>by simp [Op.bytesLess] at h
 |a::x,b::y,h,k=>by
  have h1:¬Op.bytesLess (a::x) (b::y)=true:=by rw [h];simp
  have k1:¬Op.bytesLess (b::y) (a::x)=true:=by rw [k];simp
  rw [bl_cons] at h1 k1
  have e:a=b:=lb (iV.1 fun c=>k1 (.inl c)) (iV.1 fun c=>h1 (.inl c))
  subst e
  have h2:Op.bytesLess x y=false:=by
   cases c:Op.bytesLess x y with
   |false=>rfl
   |true=>exact absurd (.inr ⟨rfl,c⟩) h1
  have k2:Op.bytesLess y x=false:=by
   cases c:Op.bytesLess y x with
   |false=>rfl
   |true=>exact absurd (.inr ⟨rfl,c⟩) k1
  rw [bl_tri x y h2 k2]
def bl_irr:∀(x:List UInt8),Op.bytesLess x x=false
 |[]=>by simp [Op.bytesLess]
 |a::x=>by
  cases c:Op.bytesLess (a::x) (a::x) with
  |false=>rfl
  |true=>
   rw [bl_cons] at c
   rcases c with c|⟨_,c⟩
   ·exact absurd c (jj a)
   ·rw [bl_irr x] at c;cases c
def zPi {a b:lr} (h:dQ a b=false) (k:dQ b a=false):a=b:=by
 have h1:=bl_tri _ _ h k
 rw [gz,gz] at h1
 exact jt (iy.1 h1)
def zWg (a:lr):dQ a a=false:=bl_irr _
def zJc {a b c:lr} (h:dQ a b=true) (k:dQ b c=true):dQ a c=true:=bl_trans _ _ _ h k
/-! ## Numbers -/
def r64 (n:Int):Prop:= -9223372036854775808<=n/\n<=9223372036854775807
def uH {p:Prop} (h:p:=by unfold r64;omega):p:=h
instance (n:Int):Decidable (r64 n):=by unfold r64;infer_instance
def w64 (n:Int):Int:=IntKind.i64.wrap n
def zIb {n:Int} (h:r64 n):w64 n=n:=jr n h
def w64_eq (n:Int):w64 n=(n+9223372036854775808)%18446744073709551616-9223372036854775808:=by unfold w64;rw [IntKind.wrap_i64]
def w64_r (n:Int):r64 (w64 n):=by rw [w64_eq];unfold r64;omega
def u64_eq (n:Int):IntKind.u64.wrap n=n%18446744073709551616:=by rw [lm]
def plus_ok {a b:Int} (ha:r64 a) (hb:r64 b):decide (decide (a<w64 (a+b))=decide (0<b))=decide (r64 (a+b)):=by
 refine da.2 ?_
 rw [w64_eq,da]
 unfold r64 at *
 omega
variable {a b:Nat}
def sq_le (ha:a<=4294967295) (hb:b<=4294967295):a*b<=18446744065119617025:=ig ha hb
def hiN (a b:Nat):Nat:=
 (a/4294967296)*(b/4294967296)+((a/4294967296)*(b%4294967296)+((a%4294967296)*(b%4294967296))/4294967296)/4294967296+
  ((a%4294967296)*(b/4294967296)+((a/4294967296)*(b%4294967296)+((a%4294967296)*(b%4294967296))/4294967296)%4294967296)/4294967296
def mul_parts (a b:Nat):a*b=(a/4294967296)*(b/4294967296)*18446744073709551616+((a/4294967296)*(b%4294967296)+(a%4294967296)*(b/4294967296))*4294967296+(a%4294967296)*(b%4294967296):=by
 have ea:a=(a/4294967296)*4294967296+a%4294967296:=by omega
 have eb:b=(b/4294967296)*4294967296+b%4294967296:=by omega
 generalize a/4294967296=a1 at *
 generalize a%4294967296=a0 at *
 generalize b/4294967296=b1 at *
 generalize b%4294967296=b0 at *
 subst ea eb
 rw [ej,ei,ei,ej]
 have e1:a1*4294967296*(b1*4294967296)=a1*b1*18446744073709551616:=by
  rw [Nat.mul_mul_mul_comm]
 have e2:a1*4294967296*b0=a1*b0*4294967296:=by rw [Nat.mul_right_comm]
 have e3:a0*(b1*4294967296)=a0*b1*4294967296:=by rw [gr]
 rw [e1,e2,e3]
 omega
def hi_lo (a b:Nat):hiN a b*18446744073709551616+(a*b)%18446744073709551616=a*b:=by
 have h:=mul_parts a b
 unfold hiN
 generalize a*b=n at *
 generalize (a/4294967296)*(b/4294967296)=p11 at *
 generalize (a/4294967296)*(b%4294967296)=p10 at *
 generalize (a%4294967296)*(b/4294967296)=p01 at *
 generalize (a%4294967296)*(b%4294967296)=p00 at *
 omega
def part_le (ha:a<18446744073709551616) (hb:b<18446744073709551616):
  (a/4294967296)*(b/4294967296)<=18446744065119617025/\(a/4294967296)*(b%4294967296)<=18446744065119617025/\(a%4294967296)*(b/4294967296)<=18446744065119617025/\(a%4294967296)*(b%4294967296)<=18446744065119617025:=
 ⟨sq_le zA zA,sq_le zA zA,sq_le zA zA,sq_le zA zA⟩
def hi_zero:hiN a b=0↔a*b<18446744073709551616:=by
 have h:=hi_lo a b
 constructor
 ·intro e;rw [e] at h;omega
 ·intro e
  by_cases c:hiN a b=0
  ·exact c
  ·exfalso;generalize a*b=n at *;generalize hiN a b=m at *;omega
def hi_bounds (ha:a<18446744073709551616) (hb:b<18446744073709551616):
  (a/4294967296)*(b%4294967296)+((a%4294967296)*(b%4294967296))/4294967296<18446744073709551616/\
  (a%4294967296)*(b/4294967296)+((a/4294967296)*(b%4294967296)+((a%4294967296)*(b%4294967296))/4294967296)%4294967296<18446744073709551616/\
  (a/4294967296)*(b/4294967296)+((a/4294967296)*(b%4294967296)+((a%4294967296)*(b%4294967296))/4294967296)/4294967296<18446744073709551616/\hiN a b<18446744073709551616:=by
 obtain ⟨h1,h2,h3,h4⟩:=part_le ha hb
 have h5:=hi_lo a b
 have h6:a*b<=18446744073709551615*18446744073709551615:=ig zA zA
 refine ⟨?_,?_,?_,?_⟩
 ·generalize (a/4294967296)*(b%4294967296)=p10 at *
  generalize (a%4294967296)*(b%4294967296)=p00 at *
  omega
 ·generalize (a/4294967296)*(b%4294967296)=p10 at *
  generalize (a%4294967296)*(b/4294967296)=p01 at *
  generalize (a%4294967296)*(b%4294967296)=p00 at *
  omega
 ·generalize (a/4294967296)*(b/4294967296)=p11 at *
  generalize (a/4294967296)*(b%4294967296)=p10 at *
  generalize (a%4294967296)*(b%4294967296)=p00 at *
  omega
 ·generalize a*b=n at *
  generalize hiN a b=m at *
  omega
def fG (x y:Int):Int×Bool:=if r64 (x*y) then (x*y,true) else (0,false)
variable {x:Int}
def magn_neg (h:r64 x) (hn:x<0):IntKind.u64.wrap (-(IntKind.u64.wrap x))=(x.natAbs:Int):=by
 unfold r64 at h;rw [u64_eq,u64_eq];omega
def magn_pos (h:r64 x) (hn:¬x<0):IntKind.u64.wrap x=(x.natAbs:Int):=by
 unfold r64 at h;rw [u64_eq];omega
def zHw (h:r64 x):x.natAbs<=9223372036854775808:=by unfold r64 at h;omega
def zKf (x y:Int):(x*y).natAbs=x.natAbs*y.natAbs:=Int.natAbs_mul x y
variable {y:Int}
def sign_mul (hx:x<0) (hy:¬y<0):x*y<=0:=Int.mul_nonpos_of_nonpos_of_nonneg zA zA
def sign_mul2 (hx:¬x<0) (hy:y<0):x*y<=0:=Int.mul_nonpos_of_nonneg_of_nonpos zA zA
def sign_mul3 (hx:x<0) (hy:y<0):0<=x*y:=Int.mul_nonneg_of_nonpos_of_nonpos zA zA
def sign_mul4 (hx:¬x<0) (hy:¬y<0):0<=x*y:=Int.mul_nonneg zA zA
def neg_mul (h:(decide (x<0)==decide (y<0))=false):x*y<=0:=by
 by_cases hx:x<0<;>by_cases hy:y<0
 ·simp [hx,hy] at h
 ·exact sign_mul hx hy
 ·exact sign_mul2 hx hy
 ·simp [hx,hy] at h
def pos_mul (h:(decide (x<0)==decide (y<0))=true):0<=x*y:=by
 by_cases hx:x<0<;>by_cases hy:y<0
 ·exact sign_mul3 hx hy
 ·simp [hx,hy] at h
 ·simp [hx,hy] at h
 ·exact sign_mul4 hx hy
def times_big (hx:r64 x) (hy:r64 y) (h:hiN x.natAbs y.natAbs≠0∨9223372036854775808<x.natAbs*y.natAbs%18446744073709551616):fG x y=(0,false):=by
 unfold fG
 refine aa fun k=>?_
 have h1:=zKf x y
 unfold r64 at k
 have h2:x.natAbs*y.natAbs<18446744073709551616:=by rw [←h1];omega
 rcases h with h|h
 ·exact h (hi_zero.2 h2)
 ·rw [jb h2,←h1] at h;omega
def times_edge (h:(decide (x<0)==decide (y<0))=true) (h2:x.natAbs*y.natAbs%18446744073709551616=9223372036854775808):fG x y=(0,false):=by
 unfold fG
 refine aa fun k=>?_
 have h1:=zKf x y
 have h3:=pos_mul h
 unfold r64 at k
 rw [←h1] at h2
 omega
def times_neg (h:(decide (x<0)==decide (y<0))=false) (h0:hiN x.natAbs y.natAbs=0) (hl:x.natAbs*y.natAbs%18446744073709551616<=9223372036854775808):fG x y=(IntKind.i64.wrap (IntKind.u64.wrap (-((x.natAbs*y.natAbs%18446744073709551616:Nat):Int))),true):=by
 have h1:=zKf x y
 have h3:=neg_mul h
 have h4:=hi_zero.1 h0
 rw [jb h4] at hl⊢
 rw [←h1] at hl⊢
 unfold fG
 rw [ab uH,u64_eq]
 congr 1
 show _=w64 _
 rw [w64_eq];omega
def times_pos (h:(decide (x<0)==decide (y<0))=true) (h0:hiN x.natAbs y.natAbs=0) (hl:x.natAbs*y.natAbs%18446744073709551616<9223372036854775808):fG x y=(IntKind.i64.wrap ((x.natAbs*y.natAbs%18446744073709551616:Nat):Int),true):=by
 have h1:=zKf x y
 have h3:=pos_mul h
 have h4:=hi_zero.1 h0
 rw [jb h4] at hl⊢
 rw [←h1] at hl⊢
 unfold fG
 rw [ab uH]
 congr 1
 show _=w64 _
 rw [w64_eq];omega
def times_f (hx:r64 x) (hy:r64 y) (c:(¬((hiN x.natAbs y.natAbs:Nat):Int)=0∨9223372036854775808<((x.natAbs*y.natAbs%18446744073709551616:Nat):Int))∨((x.natAbs*y.natAbs%18446744073709551616:Nat):Int)=9223372036854775808/\(decide (x<0)==decide (y<0))=true):fG x y=(0,false):=by
 rcases c with (c|c)|⟨c,d⟩
 ·exact times_big hx hy (.inl zA)
 ·exact times_big hx hy (.inr zA)
 ·exact times_edge d zA
abbrev Tr:=lr×Int×Int
def dV:Nat->List Mono->List Mono->List Tr
 |0,_,_=>[]
 |_+1,[],[]=>[]
 |n+1,a::ar,[]=>(a.Name,a.By,0)::dV n ar []
 |n+1,[],b::bs=>(b.Name,0,b.By)::dV n [] bs
 |n+1,a::ar,b::bs=>
  bif dQ a.Name b.Name then (a.Name,a.By,0)::dV n ar (b::bs)
  else bif dQ b.Name a.Name then (b.Name,0,b.By)::dV n (a::ar) bs
  else (a.Name,a.By,b.By)::dV n ar bs
def zAi:∀(n:Nat) (a b:List Mono),a.length+b.length<=n->dV n a b=dV (a.length+b.length) a b
 |0,a,b,h=>by rw [show a.length+b.length=0 by omega]
 |n+1,[],[],_=>rfl
 |n+1,a::ar,[],h=>by
  have ih:=zAi n ar [] (by simp at h⊢;omega)
  show (a.Name,a.By,0)::dV n ar []=(a.Name,a.By,0)::dV (ar.length) ar []
  rw [ih];rfl
 |n+1,[],b::bs,h=>by
  have ih:=zAi n [] bs (by simp at h⊢;omega)
  have e:([]:List Mono).length+(b::bs).length=bs.length+1:=by simp
  rw [e,dV,dV,ih];simp
 |n+1,a::ar,b::bs,h=>by
  have h':ar.length+1+(bs.length+1)<=n+1:=by simpa using h
  have i1:=zAi n ar (b::bs) uE
  have i2:=zAi n (a::ar) bs uE
  have i3:=zAi n ar bs zA
  have j1:=zAi (ar.length+bs.length+1) ar (b::bs) uE
  have j2:=zAi (ar.length+bs.length+1) (a::ar) bs uE
  have j3:=zAi (ar.length+bs.length+1) ar bs zA
  have e:(a::ar).length+(b::bs).length=(ar.length+bs.length+1)+1:=by simp;omega
  rw [e,dV,dV,i1,i2,i3,j1,j2,j3]
def bM (a b:List Mono):List Tr:=dV (a.length+b.length) a b
def zSj:bM [] []=[]:=rfl
def zJs (a:Mono) (ar:List Mono):bM (a::ar) []=(a.Name,a.By,0)::bM ar []:=rfl
def zJr (b:Mono) (bs:List Mono):bM [] (b::bs)=(b.Name,0,b.By)::bM [] bs:=by
 unfold bM;rw [show ([]:List Mono).length+(b::bs).length=bs.length+1 by simp,dV];simp
def zFz (a b:Mono) (ar bs:List Mono):bM (a::ar) (b::bs)=bif dQ a.Name b.Name then (a.Name,a.By,0)::bM ar (b::bs) else bif dQ b.Name a.Name then (b.Name,0,b.By)::bM (a::ar) bs else (a.Name,a.By,b.By)::bM ar bs:=by
 unfold bM
 rw [show (a::ar).length+(b::bs).length=(ar.length+bs.length+1)+1 by simp;omega,dV]
 rw [zAi _ ar (b::bs) uE,zAi _ (a::ar) bs uE,zAi _ ar bs zA]
def zSk (a b:List Mono):(bM a b).length<=a.length+b.length:=by
 have:∀(n:Nat) (a b:List Mono),(dV n a b).length<=n:=by
  intro n
  induction n with
  |zero=>intro a b;simp [dV]
  |succ n ih=>
   intro a b
   cases a with
   |nil=>
    cases b with
    |nil=>simp [dV]
    |cons b bs=>simp only [dV,lLc];have:=ih [] bs;omega
   |cons a ar=>
    cases b with
    |nil=>simp only [dV,lLc];have:=ih ar [];omega
    |cons b bs=>
     have h1:=ih ar (b::bs)
     have h2:=ih (a::ar) bs
     have h3:=ih ar bs
     simp only [dV]
     cases dQ a.Name b.Name<;>cases dQ b.Name a.Name<;>simp only [ay,az,lLc]<;>omega
 exact this _ a b
def hdM (l:List Mono):Mono:=l.headD ⟨bs [],0⟩
def zLv {l:List Mono} (h:0<l.length):l[0]? =some (hdM l):=by
 cases l with
 |nil=>simp at h
 |cons x r=>rfl
def mC2 (a b:List Mono):Bool:=decide ((b.length:Int)=0)||(decide ((0:Int)<a.length)&&dQ (hdM a).Name (hdM b).Name)
def mC3 (a b:List Mono):Bool:=decide ((a.length:Int)=0)||dQ (hdM b).Name (hdM a).Name
def mC2_b {a b:List Mono} (c:mC2 a b=false):0<b.length:=by
 unfold mC2 at c
 cases b with
 |nil=>simp at c
 |cons y s=>simp
def merge_left {a b:List Mono} (h:0<a.length∨0<b.length) (c:mC2 a b=true):0<a.length/\bM a b=((hdM a).Name,(hdM a).By,0)::bM (a.drop 1) b:=by
 unfold mC2 at c
 cases a with
 |nil=>
  cases b with
  |nil=>simp at h
  |cons y s=>simp at c;omega
 |cons x r=>
  refine ⟨uD,?_⟩
  cases b with
  |nil=>rw [zJs];rfl
  |cons y s=>
   have c2:dQ x.Name y.Name=true:=by
    rw [aI,ae,ah] at c
    rcases c with c|c
    ·simp at c;omega
    ·exact c.2
   rw [zFz,c2];rfl
def merge_right {a b:List Mono} (h:0<a.length∨0<b.length) (c:mC2 a b=false) (c3:mC3 a b=true):0<b.length/\bM a b=((hdM b).Name,0,(hdM b).By)::bM a (b.drop 1):=by
 unfold mC2 at c
 unfold mC3 at c3
 cases b with
 |nil=>simp at c
 |cons y s=>
  refine ⟨uD,?_⟩
  cases a with
  |nil=>rw [zJr];rfl
  |cons x r=>
   have c2:dQ x.Name y.Name=false:=by
    rw [al,bm] at c
    rcases c.2 with c|c
    ·simp at c
    ·exact c
   have c4:dQ y.Name x.Name=true:=by
    rw [aI,ah] at c3
    rcases c3 with c|c
    ·simp at c;omega
    ·exact c
   rw [zFz,c2,c4];rfl
def merge_both {a b:List Mono} (c:mC2 a b=false) (c3:mC3 a b=false):0<a.length/\0<b.length/\bM a b=((hdM a).Name,(hdM a).By,(hdM b).By)::bM (a.drop 1) (b.drop 1):=by
 unfold mC2 at c
 unfold mC3 at c3
 cases b with
 |nil=>simp at c
 |cons y s=>
  cases a with
  |nil=>simp at c3
  |cons x r=>
   refine ⟨uD,uD,?_⟩
   have c2:dQ x.Name y.Name=false:=by
    rw [al,bm] at c
    rcases c.2 with c|c
    ·simp at c
    ·exact c
   have c4:dQ y.Name x.Name=false:=by
    rw [al] at c3
    exact c3.2
   rw [zFz,c2,c4];rfl
/-! ## Sums -/
def trV (t:Tr):Int:=t.2.1+t.2.2
def tD (t:Tr):Bool:=decide (r64 (trV t))
def mG (ts:List Tr):List Mono:=ts.filterMap fun t=>if w64 (trV t)=0 then none else some ⟨t.1,w64 (trV t)⟩
def sumW_next (d:List Tr) (t:Tr):mG (d++[t])=mG d++(if w64 (trV t)=0 then [] else [⟨t.1,w64 (trV t)⟩]):=by
 unfold mG;rw [ke];congr 1
 by_cases h:w64 (trV t)=0<;>simp [h]
def zUt (d:List Tr):(mG d).length<=d.length:=List.length_filterMap_le _ _
def okF (ok:Bool) (d:List Tr):Bool:=d.foldl (fun b t=>b&&decide (r64 (t.2.1+t.2.2))) ok
def okF_next (ok:Bool) (d:List Tr) (t:Tr):okF ok (d++[t])=(okF ok d&&decide (r64 (t.2.1+t.2.2))):=by unfold okF;rw [dm];rfl
def okF_all (ok:Bool) (d:List Tr):okF ok d=(ok&&d.all tD):=by
 induction d generalizing ok with
 |nil=>simp [okF]
 |cons t r ih=>
  show okF (ok&&tD t) r=_
  rw [ih,aW,ij]
def zGe:∀(n:Nat) (a b:List Mono),(∀m,m∈a->r64 m.By)->(∀m,m∈b->r64 m.By)->∀t,t∈dV n a b->r64 t.2.1/\r64 t.2.2
 |0,_,_,_,_,t,ht=>by simp [dV] at ht
 |_+1,[],[],_,_,t,ht=>by simp [dV] at ht
 |n+1,x::r,[],h1,h2,t,ht=>by
  simp only [dV] at ht
  rcases af.1 ht with rfl|ht
  ·exact ⟨h1 x uD,by show r64 0;unfold r64;omega⟩
  ·exact zGe n r [] (fun m hm=>h1 m (by simp [hm])) h2 t ht
 |n+1,[],y::s,h1,h2,t,ht=>by
  simp only [dV] at ht
  rcases af.1 ht with rfl|ht
  ·exact ⟨by show r64 0;unfold r64;omega,h2 y uD⟩
  ·exact zGe n [] s h1 (fun m hm=>h2 m (by simp [hm])) t ht
 |n+1,x::r,y::s,h1,h2,t,ht=>by
  have g1:=zGe n r (y::s) (fun m hm=>h1 m (by simp [hm])) h2 t
  have g2:=zGe n (x::r) s h1 (fun m hm=>h2 m (by simp [hm])) t
  have g3:=zGe n r s (fun m hm=>h1 m (by simp [hm])) (fun m hm=>h2 m (by simp [hm])) t
  have z0:r64 0:=by unfold r64;omega
  simp only [dV] at ht
  cases c1:dQ x.Name y.Name with
  |true=>
   rw [c1,ay] at ht
   rcases af.1 ht with rfl|ht
   ·exact ⟨h1 x uD,z0⟩
   ·exact g1 ht
  |false=>
   rw [c1,az] at ht
   cases c2:dQ y.Name x.Name with
   |true=>
    rw [c2,ay] at ht
    rcases af.1 ht with rfl|ht
    ·exact ⟨z0,h2 y uD⟩
    ·exact g2 ht
   |false=>
    rw [c2,az] at ht
    rcases af.1 ht with rfl|ht
    ·exact ⟨h1 x uD,h2 y uD⟩
    ·exact g3 ht
def merge_rng {a b:List Mono} (h1:∀m,m∈a->r64 m.By) (h2:∀m,m∈b->r64 m.By) {d s:List Tr} {t:Tr} (h:bM a b=d++t::s):r64 t.2.1/\r64 t.2.2/\d.length<=a.length+b.length:=by
 have h3:=zSk a b
 rw [h] at h3
 simp only [lLa,lLc] at h3
 obtain ⟨k1,k2⟩:=zGe _ a b h1 h2 t (by rw [show dV (a.length+b.length) a b=bM a b from rfl,h];simp)
 exact ⟨k1,k2,zA⟩
def nA (k:Int) (ts:List Tr):Lf×Int:=if r64 k/\ts.all tD=true then (⟨k,mG ts⟩,0) else (zL,3)
def jM (a b:Lf):Lf×Int:=if bI a=true/\bI b=true then nA (a.K+b.K) (bM a.L b.L) else (zL,1)
def add_bad {a b:Lf} (h:¬(bI a=true/\bI b=true)):jM a b=(zL,1):=by unfold jM;rw [aa h]
def add_c1 {a b:Lf} (c:¬dY a=0∨¬dY b=0):jM a b=(zL,1):=add_bad fun h=>by
 rcases c with c|c
 ·have:=zLt c;rw [h.1] at this;cases this
 ·have:=zLt c;rw [h.2] at this;cases this
def add_no {a b:Lf} (h1:bI a=true) (h2:bI b=true) (h:okF (decide (r64 (a.K+b.K))) (bM a.L b.L)=false):jM a b=(zL,3):=by
 unfold jM nA
 rw [ab ⟨h1,h2⟩,aa fun k=>?_]
 rw [okF_all,aw k.1,k.2] at h
 cases h
def add_ok {a b:Lf} (h1:bI a=true) (h2:bI b=true) (h:okF (decide (r64 (a.K+b.K))) (bM a.L b.L)=true):jM a b=(⟨w64 (a.K+b.K),mG (bM a.L b.L)⟩,0):=by
 rw [okF_all,ae,ah] at h
 unfold jM nA
 rw [ab ⟨h1,h2⟩,ab h,zIb h.1]
def lH (by_:Int) (l:List Mono):List Mono:=l.map fun m=>⟨m.Name,m.By*by_⟩
def gJ (by_:Int) (l:List Mono):Bool:=l.all fun m=>decide (r64 (m.By*by_))
def dG (a:Lf) (by_:Int):Lf×Int:=if bI a=true then (if by_=0 then (zL,0) else if r64 (a.K*by_)/\gJ by_ a.L=true then (⟨a.K*by_,lH by_ a.L⟩,0) else (zL,3)) else (zL,1)
def mH (l:Lf) (s:lr):Lf:=⟨l.K,l.L.filter fun m=> !decide (m.Name=s)⟩
def bH (l:List Mono) (s:lr):Int:=l.foldl (fun by_ m=>if m.Name=s then m.By else by_) 0
def nL (l:Lf) (s:lr) (to_:Lf):Lf×Int:=
 if bI l=true/\bB s=true/\bI to_=true then (if (dG to_ (bH l.L s)).2=0 then jM (mH l s) (dG to_ (bH l.L s)).1 else (zL,(dG to_ (bH l.L s)).2)) else (zL,1)
def nP (by_:Int) (ts:List Tr):List Tr:=ts.map fun t=>(t.1,t.2.1,t.2.2*by_)
def bS (l:Lf) (s:lr) (to_:Lf):Lf×Int:=
 if bI l=true/\bI to_=true/\bB s=true then
  (if bH l.L s=0 then (l,0) else if r64 (to_.K*bH l.L s)/\gJ (bH l.L s) to_.L=true then nA (l.K+to_.K*bH l.L s) (nP (bH l.L s) (bM (mH l s).L to_.L)) else (zL,3))
 else (zL,1)
def mT (by_:Int) (l:List Mono):List Mono:=l.map fun m=>⟨m.Name,(fG m.By by_).1⟩
def nM (by_:Int) (l:List Mono):Bool:=l.all fun m=>(fG m.By by_).2
def scaleW_len (by_:Int) (l:List Mono):(mT by_ l).length=l.length:=by simp [mT]
variable {by_:Int} {k:Nat}
def scaleW_next {l:List Mono} {x:Mono} (h:l[k]? =some x):mT by_ (l.take (k+1))=mT by_ (l.take k)++[⟨x.Name,(fG x.By by_).1⟩]:=by unfold mT;rw [yR h,aC];rfl
def scaleB_next {l:List Mono} {x:Mono} (h:l[k]? =some x):nM by_ (l.take (k+1))=(nM by_ (l.take k)&&(fG x.By by_).2):=by unfold nM;rw [yR h,bx];simp
def timesT_2 (x y:Int):(fG x y).2=decide (r64 (x*y)):=by unfold fG;by_cases h:r64 (x*y)<;>simp [h]
def timesT_1 (h:r64 (x*y)):(fG x y).1=x*y:=by unfold fG;rw [ab h]
def scaleB_ok (by_:Int) (l:List Mono):nM by_ l=gJ by_ l:=by unfold nM gJ;congr 1;funext m;exact timesT_2 _ _
def scaleW_ok {l:List Mono} (h:gJ by_ l=true):mT by_ l=lH by_ l:=by
 unfold gJ at h
 rw [lAe] at h
 unfold mT lH
 refine gx fun m hm=>?_
 rw [timesT_1 (by simpa using h m hm)]
variable {l:Lf}
def scale_ok (h1:bI l=true) (h2:¬by_=0) (h3:(fG l.K by_).2=true/\nM by_ l.L=true):dG l by_=(⟨(fG l.K by_).1,mT by_ l.L⟩,0):=by
 rw [timesT_2,ah,scaleB_ok] at h3
 unfold dG
 rw [ab h1,aa h2,ab h3,timesT_1 h3.1,scaleW_ok h3.2]
def scale_no (h1:bI l=true) (h2:¬by_=0) (h3:(fG l.K by_).2=false∨nM by_ l.L=false):dG l by_=(zL,3):=by
 unfold dG
 rw [ab h1,aa h2,aa fun h=>?_]
 rw [timesT_2,scaleB_ok,aw h.1,h.2] at h3
 rcases h3 with h3|h3<;>cases h3
def scale_zero (h1:bI l=true) (h2:by_=0):dG l by_=(zL,0):=by unfold dG;rw [ab h1,ab h2]
def scale_bad (h1:bI l=false):dG l by_=(zL,1):=by unfold dG;rw [aa (by rw [h1];simp)]
def zCh (by_:Int):∀(n:Nat) (a b:List Mono),a.length+b.length<=n->bM a (lH by_ b)=nP by_ (bM a b)
 |_,[],[],_=>rfl
 |0,_::_,_,h=>by simp at h
 |0,[],_::_,h=>by simp at h
 |n+1,a::ar,[],h=>by
  have ih:=zCh by_ n ar [] (by simp at h⊢;omega)
  show bM (a::ar) []=_
  rw [zJs]
  show _=(a.Name,a.By,0*by_)::nP by_ (bM ar [])
  rw [←ih,dy];rfl
 |n+1,[],b::bs,h=>by
  have ih:=zCh by_ n [] bs (by simp at h⊢;omega)
  show bM [] (⟨b.Name,b.By*by_⟩::lH by_ bs)=_
  rw [zJr,zJr,ih];rfl
 |n+1,a::ar,b::bs,h=>by
  have h':ar.length+1+(bs.length+1)<=n+1:=by simpa using h
  have i1:=zCh by_ n ar (b::bs) uE
  have i2:=zCh by_ n (a::ar) bs uE
  have i3:=zCh by_ n ar bs zA
  have e:lH by_ (b::bs)=⟨b.Name,b.By*by_⟩::lH by_ bs:=rfl
  rw [e] at i1⊢
  rw [zFz,zFz,i1,i2,i3]
  cases dQ a.Name b.Name<;>cases dQ b.Name a.Name<;>simp [nP]
variable {s:lr}
def zYg {l:List Mono} {x:Mono} (h:l[k]? =some x):bH (l.take (k+1)) s=if x.Name=s then x.By else bH (l.take k) s:=by
 unfold bH;rw [yR h,dm];rfl
def rest_next {l:List Mono} {x:Mono} (h:l[k]? =some x):(l.take (k+1)).filter (fun m=> !decide (m.Name=s))=(l.take k).filter (fun m=> !decide (m.Name=s))++(if x.Name=s then [] else [x]):=by
 rw [yR h,List.filter_append];by_cases e:x.Name=s<;>simp [e]
def zMz:∀{p:Option lr} {l:List Mono},bK p l=true->∀m,m∈l->m.By≠0/\bB m.Name=true
 |_,[],_,m,hm=>by cases hm
 |p,x::r,h,m,hm=>by
  simp only [bK,ae,ao,aj] at h
  rcases af.1 hm with rfl|hm
  ·exact ⟨h.1.1.2,h.1.1.1⟩
  ·exact zMz h.2 m hm
def last_none {l:List Mono} (h:∀m,m∈l->m.Name≠s):bH l s=0/\l.filter (fun m=> !decide (m.Name=s))=l:=by
 constructor
 ·have:∀(l:List Mono) (b:Int),(∀m,m∈l->m.Name≠s)->l.foldl (fun by_ m=>if m.Name=s then m.By else by_) b=b:=by
   intro l
   induction l with
   |nil=>intro b _;rfl
   |cons x r ih=>intro b hl;rw [bi,aa (hl x uD),ih b fun m hm=>hl m (by simp [hm])]
  exact this l 0 h
 ·rw [List.filter_eq_self];intro m hm;simp [h m hm]
variable {p:Option lr}
def zQj {l:List Mono} (h:bK p l=true) (hz:bH l s=0):∀m,m∈l->m.Name≠s:=by
 have key:∀(l:List Mono) (b:Int),(∀m,m∈l->m.By≠0)->l.foldl (fun by_ m=>if m.Name=s then m.By else by_) b=0->∀m,m∈l->m.Name≠s:=by
  intro l
  induction l with
  |nil=>intro b _ _ m hm;cases hm
  |cons x r ih=>
   intro b hl h m hm
   rw [bi] at h
   rcases af.1 hm with rfl|hm
   ·intro e
    rw [ab e] at h
    by_cases c:∀y,y∈r->y.Name≠s
    ·have:r.foldl (fun by_ m=>if m.Name=s then m.By else by_) m.By=m.By:=by
      clear ih h hl hm
      generalize m.By=z
      induction r generalizing z with
      |nil=>rfl
      |cons y r ih2=>rw [bi,aa (c y uD),ih2 (fun q hq=>c q (by simp [hq]))]
     rw [this] at h
     exact hl m uD h
    ·exact c (ih _ (fun y hy=>hl y (by simp [hy])) h)
   ·exact ih _ (fun y hy=>hl y (by simp [hy])) h m hm
 exact key l 0 (fun m hm=>(zMz h m hm).1) hz
def Lf.rng (l:Lf):Prop:=r64 l.K/\∀m,m∈l.L->r64 m.By
def zQd:∀{l:List Mono},(∀m,m∈l->r64 m.By/\m.By≠0)->(bM l []).all tD=true/\mG (bM l [])=l
 |[],_=>⟨rfl,rfl⟩
 |a::ar,h=>by
  obtain ⟨h1,h2⟩:=zQd (l:=ar) fun m hm=>h m (by simp [hm])
  obtain ⟨h3,h4⟩:=h a uD
  rw [zJs]
  have e:trV (a.Name,a.By,0)=a.By:=by simp [trV]
  constructor
  ·rw [aW,h1,tD,e,aw h3];rfl
  ·show List.filterMap _ _=_
   rw [cu]
   simp only [e,zIb h3,aa h4]
   exact ag (a:: ·) h2
def last_rng (h:l.rng) (s:lr):r64 (bH l.L s):=by
 have key:∀(l:List Mono) (b:Int),(∀m,m∈l->r64 m.By)->r64 b->r64 (l.foldl (fun by_ m=>if m.Name=s then m.By else by_) b):=by
  intro l
  induction l with
  |nil=>intro b _ h;exact h
  |cons x r ih=>
   intro b hl hb
   rw [bi]
   refine ih _ (fun m hm=>hl m (by simp [hm])) ?_
   split
   ·exact hl x uD
   ·exact hb
 exact key l.L 0 h.2 uH
def zKs:zL.rng:=⟨by show r64 0;unfold r64;omega,fun m hm=>by cases hm⟩
def zPo (l:Lf) (b:Int):(dG l b).1.rng/\(dG l b).1.L.length<=l.L.length:=by
 unfold dG
 split
 ·split
  ·exact ⟨zKs,by simp [zL]⟩
  ·split
   ·rename_i h
    refine ⟨⟨h.1,fun m hm=>?_⟩,by simp [lH]⟩
    obtain ⟨x,hx,rfl⟩:=bq.1 hm
    have:=h.2
    unfold gJ at this
    rw [lAe] at this
    simpa using this x hx
   ·exact ⟨zKs,by simp [zL]⟩
 ·exact ⟨zKs,by simp [zL]⟩
def rest_rng (h:l.rng) (s:lr):(mH l s).rng/\(mH l s).L.length<=l.L.length:=
 ⟨⟨h.1,fun m hm=>h.2 m (jl.1 hm).1⟩,fu _ _⟩
variable {to_:Lf}
def subst_c1 (c:(¬dY l=0∨bB s=false)∨¬dY to_=0):nL l s to_=(zL,1):=by
 unfold nL
 refine aa fun h=>?_
 rcases c with (c|c)|c
 ·have:=zLt c;rw [h.1] at this;cases this
 ·rw [h.2.1] at c;cases c
 ·have:=zLt c;rw [h.2.2] at this;cases this
def subst_c4 (c:(dY l=0/\bB s=true)/\dY to_=0) (c4:¬(dG to_ (bH l.L s)).2=0):nL l s to_=(zL,(dG to_ (bH l.L s)).2):=by
 unfold nL
 rw [ab ⟨zLu c.1.1,c.1.2,zLu c.2⟩,aa c4]
def subst_ok (c:(dY l=0/\bB s=true)/\dY to_=0) (c4:(dG to_ (bH l.L s)).2=0):nL l s to_=jM (mH l s) (dG to_ (bH l.L s)).1:=by
 unfold nL
 rw [ab ⟨zLu c.1.1,c.1.2,zLu c.2⟩,ab c4]
def strLt_trans' {a b c:lr} (h:dQ a b=true) (k:dQ b c=true):dQ a c=true:=zJc h k
def monos_weak {q:Option lr} {l:List Mono} (h:bK p l=true) (hpq:∀n,ltO p n=true->ltO q n=true):bK q l=true:=by
 cases l with
 |nil=>rfl
 |cons x r=>
  simp only [bK,ae] at h⊢
  exact ⟨⟨h.1.1,hpq _ h.1.2⟩,h.2⟩
def zDs (f:Mono->Bool):∀{p:Option lr} {l:List Mono},bK p l=true->bK p (l.filter f)=true
 |_,[],_=>rfl
 |p,x::r,h=>by
  simp only [bK,ae] at h
  have ih:=zDs f h.2
  rw [iu]
  by_cases c:f x=true
  ·rw [ab c];simp only [bK,ae];exact ⟨h.1,ih⟩
  ·rw [aa c]
   refine monos_weak ih fun n hn=>?_
   cases p with
   |none=>rfl
   |some q=>exact strLt_trans' h.1.2 hn
def zXp {b:Int} (hb:b≠0):∀{p:Option lr} {l:List Mono},bK p l=true->bK p (lH b l)=true
 |_,[],_=>rfl
 |p,x::r,h=>by
  simp only [bK,ae,ao,aj] at h
  have ih:=zXp hb h.2
  show bK p (⟨x.Name,x.By*b⟩::lH b r)=true
  simp only [bK,ae,ao,aj]
  exact ⟨⟨⟨h.1.1.1,Int.mul_ne_zero h.1.1.2 hb⟩,h.1.2⟩,ih⟩
def subst_eq (hl:l.rng):nL l s to_=bS l s to_:=by
 unfold nL bS
 by_cases h:bI l=true/\bB s=true/\bI to_=true
 ·obtain ⟨h1,h2,h3⟩:=h
  rw [ab (⟨h1,h2,h3⟩:bI l=true/\bB s=true/\bI to_=true),ab (⟨h1,h3,h2⟩:bI l=true/\bI to_=true/\bB s=true)]
  by_cases c:bH l.L s=0
  ·rw [ab c]
   have hn:=zQj h1 c
   have e:dG to_ (bH l.L s)=(zL,0):=by unfold dG;rw [ab h3,ab c]
   rw [e,ab rfl]
   have er:mH l s=l:=by unfold mH;rw [(last_none hn).2]
   rw [er]
   unfold jM
   rw [ab ⟨h1,rfl⟩]
   obtain ⟨g1,g2⟩:=zQd (l:=l.L) fun m hm=>⟨hl.2 m hm,(zMz h1 m hm).1⟩
   show nA (l.K+0) (bM l.L [])=_
   unfold nA
   rw [eh,ab ⟨hl.1,g1⟩,g2]
  ·rw [aa c]
   by_cases d:r64 (to_.K*bH l.L s)/\gJ (bH l.L s) to_.L=true
   ·rw [ab d]
    have e:dG to_ (bH l.L s)=(⟨to_.K*bH l.L s,lH (bH l.L s) to_.L⟩,0):=by unfold dG;rw [ab h3,aa c,ab d]
    rw [e,ab rfl]
    unfold jM
    rw [ab ⟨zDs _ h1,zXp c h3⟩]
    show nA (l.K+to_.K*bH l.L s) (bM (mH l s).L (lH (bH l.L s) to_.L))=_
    rw [zCh _ _ _ _ (aH _)]
   ·rw [aa d]
    have e:dG to_ (bH l.L s)=(zL,3):=by unfold dG;rw [ab h3,aa c,aa d]
    rw [e,aa zB]
 ·rw [aa h,aa fun k=>h ⟨k.1,k.2.2,k.2.1⟩]
def atM (l:List Mono) (k:Nat):Mono:=l.getD k ⟨bs [],0⟩
def sC2 (a b:List Mono) (i n:Nat):Bool:=decide ((n:Int)=b.length)||(decide ((i:Int)<a.length)&&(dQ (atM a i).Name (atM b n).Name||decide ((atM a i).Name=(atM b n).Name)))
def sumM_len (by_:Int) (d:List Tr):(mG (nP by_ d)).length<=d.length:=by
 have:=zUt (nP by_ d);simpa [nP] using this
def zWf (c:bI l=true/\bI to_=true/\bB s=true) (c4:bH l.L s=0):bS l s to_=(l,0):=by
 unfold bS;rw [ab c,ab c4]
def substR_no (c:bI l=true/\bI to_=true/\bB s=true) (c4:¬bH l.L s=0) (c5:¬r64 (to_.K*bH l.L s)∨gJ (bH l.L s) to_.L=false):bS l s to_=(zL,3):=by
 unfold bS;rw [ab c,aa c4,aa fun h=>by rcases c5 with c5|c5;exact c5 h.1;rw [h.2] at c5;cases c5]
def substR_yes (c:bI l=true/\bI to_=true/\bB s=true) (c4:¬bH l.L s=0) (c5:r64 (to_.K*bH l.L s)/\gJ (bH l.L s) to_.L=true):bS l s to_=nA (l.K+to_.K*bH l.L s) (nP (bH l.L s) (bM (mH l s).L to_.L)):=by
 unfold bS;rw [ab c,aa c4,ab c5]
variable {f g:Lf->Lf×Int}
def fE_congr (h:f l=g l):fE f l=fE g l:=by unfold fE;rw [h]
def zXr {f g:Lf->Lf×Int}:∀{l:List Lf},(∀x,x∈l->f x=g x)->fD f l=fD g l
 |[],_=>rfl
 |x::r,h=>by rw [fD,fD,fE_congr (h x uD),zXr fun y hy=>h y (by simp [hy])]
def mIx_congr {x:Ix} (h1:f x.Lin=g x.Lin) (h2:∀l,l∈x.At->f l=g l):mIx f x=mIx g x:=by
 rw [mIx,mIx,fE_congr h1,zXr h2]
def zSm {f g:Lf->Lf×Int}:∀{l:List Ix},(∀x,x∈l->f x.Lin=g x.Lin/\∀y,y∈x.At->f y=g y)->fF f l=fF g l
 |[],_=>rfl
 |x::r,h=>by rw [fF,fF,mIx_congr (h x uD).1 (h x uD).2,zSm fun y hy=>h y (by simp [hy])]
def mExs_congr {f g:Lf->Lf×Int}:∀{l:List Ex},(∀a,a∈l->mEx f a=mEx g a)->gW f l=gW g l
 |[],_=>by rw [gW,gW]
 |x::r,h=>by rw [gW,gW,h x uD,mExs_congr fun y hy=>h y (by simp [hy])]
variable {P:Lf->Prop}
def mEx_congr (hfg:∀l,P l->f l=g l) (e:Ex) (h:e.allF P):mEx f e=mEx g e:=by
 induction e using Ex.ind with
 |_ e ih=>
  rw [zXt,zXt,fE_congr (hfg _ (Ex.allF_lin h)),zSm fun x hx=>⟨hfg _ (Ex.allF_ix h hx),fun y hy=>hfg _ (Ex.allF_at h hx hy)⟩,mExs_congr fun a ha=>ih a ha (Ex.allF_arg h ha)]
/-! ## Ascending triples -/
def lZ:Option lr->List Tr->Bool
 |_,[]=>true
 |p,t::r=>bB t.1&&ltO p t.1&&lZ (some t.1) r
def ltO_trans {a b:lr} (h:ltO p a=true) (k:dQ a b=true):ltO p b=true:=by
 cases p with
 |none=>rfl
 |some q=>exact zJc h k
def zAz:∀(n:Nat) (p:Option lr) (a b:List Mono),a.length+b.length<=n->bK p a=true->bK p b=true->lZ p (bM a b)=true
 |_,p,[],[],_,_,_=>rfl
 |0,_,_::_,_,h,_,_=>by simp at h
 |0,_,[],_::_,h,_,_=>by simp at h
 |n+1,p,x::r,[],h,ha,hb=>by
  simp only [bK,ae] at ha
  rw [zJs,lZ,ae,ae]
  exact ⟨⟨ha.1.1.1,ha.1.2⟩,zAz n _ r [] (by simp at h⊢;omega) ha.2 rfl⟩
 |n+1,p,[],y::s,h,ha,hb=>by
  simp only [bK,ae] at hb
  rw [zJr,lZ,ae,ae]
  exact ⟨⟨hb.1.1.1,hb.1.2⟩,zAz n _ [] s (by simp at h⊢;omega) rfl hb.2⟩
 |n+1,p,x::r,y::s,h,ha,hb=>by
  have ha0:=ha
  have hb0:=hb
  simp only [bK,ae] at ha hb
  rw [zFz]
  cases h1:dQ x.Name y.Name with
  |true=>
   rw [ay,lZ,ae,ae]
   refine ⟨⟨ha.1.1.1,ha.1.2⟩,zAz n _ r (y::s) (by simp at h⊢;omega) ha.2 ?_⟩
   simp only [bK,ae]
   exact ⟨⟨hb.1.1,h1⟩,hb.2⟩
  |false=>
   rw [az]
   cases h2:dQ y.Name x.Name with
   |true=>
    rw [ay,lZ,ae,ae]
    refine ⟨⟨hb.1.1.1,hb.1.2⟩,zAz n _ (x::r) s (by simp at h⊢;omega) ?_ hb.2⟩
    simp only [bK,ae]
    exact ⟨⟨ha.1.1,h2⟩,ha.2⟩
   |false=>
    rw [az,lZ,ae,ae]
    have e:x.Name=y.Name:=zPi h1 h2
    refine ⟨⟨ha.1.1.1,ha.1.2⟩,zAz n _ r s (by simp at h⊢;omega) ha.2 ?_⟩
    show bK (some x.Name) s=true
    rw [e];exact hb.2
def mul_asc (b:Int):∀{p:Option lr} {l:List Tr},lZ p l=true->lZ p (nP b l)=true
 |_,[],_=>rfl
 |p,t::r,h=>by
  simp only [lZ,ae] at h
  show lZ p ((t.1,t.2.1,t.2.2*b)::nP b r)=true
  simp only [lZ,ae]
  exact ⟨h.1,mul_asc b h.2⟩
def sum_asc:∀{p:Option lr} {l:List Tr},lZ p l=true->bK p (mG l)=true
 |_,[],_=>rfl
 |p,t::r,h=>by
  simp only [lZ,ae] at h
  have ih:=sum_asc h.2
  unfold mG at ih⊢
  rw [cu]
  by_cases c:w64 (trV t)=0
  ·rw [ab c]
   exact monos_weak ih fun n hn=>ltO_trans h.1.2 hn
  ·rw [aa c]
   simp only [bK,ae,ao,aj]
   exact ⟨⟨⟨h.1.1,c⟩,h.1.2⟩,ih⟩
def zDi:∀(n:Nat) (a b:List Mono),a.length+b.length<=n->∀t,t∈bM a b->(∃m,m∈a/\m.Name=t.1)∨∃m,m∈b/\m.Name=t.1
 |_,[],[],_,t,ht=>by rw [zSj] at ht;cases ht
 |0,_::_,_,h,_,_=>by simp at h
 |0,[],_::_,h,_,_=>by simp at h
 |n+1,x::r,[],h,t,ht=>by
  rw [zJs] at ht
  rcases af.1 ht with rfl|ht
  ·exact .inl ⟨x,uD,rfl⟩
  ·rcases zDi n r [] (by simp at h⊢;omega) t ht with ⟨m,hm,e⟩|k
   ·exact .inl ⟨m,by simp [hm],e⟩
   ·exact .inr k
 |n+1,[],y::s,h,t,ht=>by
  rw [zJr] at ht
  rcases af.1 ht with rfl|ht
  ·exact .inr ⟨y,uD,rfl⟩
  ·rcases zDi n [] s (by simp at h⊢;omega) t ht with k|⟨m,hm,e⟩
   ·exact .inl k
   ·exact .inr ⟨m,by simp [hm],e⟩
 |n+1,x::r,y::s,h,t,ht=>by
  rw [zFz] at ht
  have up:∀(a b:List Mono),(∀m,m∈a->m∈x::r)->(∀m,m∈b->m∈y::s)->((∃m,m∈a/\m.Name=t.1)∨∃m,m∈b/\m.Name=t.1)->(∃m,m∈x::r/\m.Name=t.1)∨∃m,m∈y::s/\m.Name=t.1:=by
   intro a b h1 h2 k
   rcases k with ⟨m,hm,e⟩|⟨m,hm,e⟩
   ·exact .inl ⟨m,h1 m hm,e⟩
   ·exact .inr ⟨m,h2 m hm,e⟩
  have self1:∀m,m∈x::r->m∈x::r:=fun _ h=>h
  have self2:∀m,m∈y::s->m∈y::s:=fun _ h=>h
  have tl1:∀m,m∈r->m∈x::r:=fun m hm=>by simp [hm]
  have tl2:∀m,m∈s->m∈y::s:=fun m hm=>by simp [hm]
  cases h1:dQ x.Name y.Name with
  |true=>
   rw [h1,ay] at ht
   rcases af.1 ht with rfl|ht
   ·exact .inl ⟨x,uD,rfl⟩
   ·exact up r (y::s) tl1 self2 (zDi n r (y::s) (by simp at h⊢;omega) t ht)
  |false=>
   rw [h1,az] at ht
   cases h2:dQ y.Name x.Name with
   |true=>
    rw [h2,ay] at ht
    rcases af.1 ht with rfl|ht
    ·exact .inr ⟨y,uD,rfl⟩
    ·exact up (x::r) s self1 tl2 (zDi n (x::r) s (by simp at h⊢;omega) t ht)
   |false=>
    rw [h2,az] at ht
    rcases af.1 ht with rfl|ht
    ·exact .inl ⟨x,uD,rfl⟩
    ·exact up r s tl1 tl2 (zDi n r s (by simp at h⊢;omega) t ht)
def sum_names {l:List Tr} {m:Mono} (h:m∈mG l):∃t,t∈l/\t.1=m.Name:=by
 unfold mG at h
 obtain ⟨t,ht,e⟩:=iQ.1 h
 by_cases c:w64 (trV t)=0
 ·rw [ab c] at e;cases e
 ·rw [aa c] at e;injection e with e;subst e;exact ⟨t,ht,rfl⟩
def sum_rng {l:List Tr} {m:Mono} (h:m∈mG l):r64 m.By:=by
 unfold mG at h
 obtain ⟨t,ht,e⟩:=iQ.1 h
 by_cases c:w64 (trV t)=0
 ·rw [ab c] at e;cases e
 ·rw [aa c] at e;injection e with e;subst e;exact w64_r _
/-! ## One form -/
def substR_len (l to_:Lf) (s:lr):(bS l s to_).1.L.length<=l.L.length+to_.L.length:=by
 unfold bS
 split
 ·split
  ·exact jc _ _
  ·split
   ·unfold nA
    split
    ·show (mG (nP _ _)).length<=_
     have h1:=sumM_len (bH l.L s) (bM (mH l s).L to_.L)
     have h2:=zSk (mH l s).L to_.L
     have h3:(mH l s).L.length<=l.L.length:=fu _ _
     omega
    ·exact bn _
   ·exact bn _
 ·exact bn _
def zId (s:lr) (hl:l.rng):(bS l s to_).1.rng:=by
 unfold bS
 split
 ·split
  ·exact hl
  ·split
   ·unfold nA
    split
    ·rename_i h;exact ⟨h.1,fun m hm=>sum_rng hm⟩
    ·exact zKs
   ·exact zKs
 ·exact zKs
def zPg (h1:bI l=true) (h2:bI to_=true) (h3:bB s=true) (h:(bS l s to_).2=0):bI (bS l s to_).1=true:=by
 unfold bS at h⊢
 rw [ab ⟨h1,h2,h3⟩] at h⊢
 by_cases c:bH l.L s=0
 ·rw [ab c] at h⊢;exact h1
 ·rw [aa c] at h⊢
  by_cases d:r64 (to_.K*bH l.L s)/\gJ (bH l.L s) to_.L=true
  ·rw [ab d] at h⊢
   unfold nA at h⊢
   split
   ·exact sum_asc (mul_asc _ (zAz _ none _ _ (aH _) (zDs _ h1) h2))
   ·rfl
  ·rw [aa d] at h⊢;rfl
def zGs:∀{q:lr} {l:List Mono},bK (some q) l=true->∀m,m∈l->dQ q m.Name=true
 |_,[],_,m,hm=>by cases hm
 |q,x::r,h,m,hm=>by
  simp only [bK,ae] at h
  rcases af.1 hm with rfl|hm
  ·exact h.1.2
  ·exact zJc h.1.2 (zGs h.2 m hm)
def lastBy_mem {l:List Mono} (h:bH l s≠0):∃m,m∈l/\m.Name=s/\m.By=bH l s:=by
 have key:∀(l:List Mono) (b:Int),l.foldl (fun by_ m=>if m.Name=s then m.By else by_) b=b∨∃m,m∈l/\m.Name=s/\m.By=l.foldl (fun by_ m=>if m.Name=s then m.By else by_) b:=by
  intro l
  induction l with
  |nil=>intro b;exact .inl rfl
  |cons x r ih=>
   intro b
   rw [bi]
   by_cases c:x.Name=s
   ·rw [ab c]
    rcases ih x.By with e|⟨m,hm,e1,e2⟩
    ·exact .inr ⟨x,uD,c,e.symm⟩
    ·exact .inr ⟨m,by simp [hm],e1,e2⟩
   ·rw [aa c]
    rcases ih b with e|⟨m,hm,e1,e2⟩
    ·exact .inl e
    ·exact .inr ⟨m,by simp [hm],e1,e2⟩
 rcases key l 0 with e|h2
 ·exact absurd e h
 ·exact h2
def gIx (g:Lf->Lf) (x:Ix):Ix:=⟨g x.Lin,x.From,x.At.map g⟩
mutual
def gEx (g:Lf->Lf):Ex->Ex
 |.mk o n v t l i arg_=>.mk o n v t (g l) (i.map (gIx g)) (rD g arg_)
def rD (g:Lf->Lf):List Ex->List Ex
 |[]=>[]
 |a::r=>gEx g a::rD g r
end
def gExs_map (g:Lf->Lf) (l:List Ex):rD g l=l.map (gEx g):=by
 induction l with
 |nil=>rfl
 |cons a r ih=>rw [rD,ih];rfl
def gEx_eq (g:Lf->Lf) (e:Ex):gEx g e=.mk e.Op e.Name e.Val e.Ty (g e.Lin) (e.Idx.map (gIx g)) (e.Args.map (gEx g)):=by
 cases e;rw [gEx,gExs_map];rfl
def mLins_g {f:Lf->Lf×Int}:∀{l r:List Lf},fD f l=.ok r->r=l.map (fun x=>(f x).1)/\∀x,x∈l->(f x).2=0
 |[],r,h=>by rw [fD] at h;injection h with h;subst h;exact ⟨rfl,fun x hx=>by cases hx⟩
 |a::t,r,h=>by
  rw [fD] at h
  by_cases c:(f a).2=0
  ·rw [zOt c] at h
   cases hm:fD f t with
   |error y=>rw [hm] at h;cases h
   |ok u=>
    rw [hm] at h
    injection h with h
    subst h
    obtain ⟨h1,h2⟩:=mLins_g hm
    exact ⟨by rw [h1];rfl,fun x hx=>by rcases af.1 hx with rfl|hx;exact c;exact h2 x hx⟩
  ·rw [zQt c] at h;cases h
def mIx_g {x y:Ix} (h:mIx f x=.ok y):y=gIx (fun l=>(f l).1) x/\(f x.Lin).2=0/\∀l,l∈x.At->(f l).2=0:=by
 rw [mIx] at h
 by_cases c:(f x.Lin).2=0
 ·rw [zOt c] at h
  cases hm:fD f x.At with
  |error y=>rw [hm] at h;cases h
  |ok u=>
   rw [hm] at h
   injection h with h
   subst h
   obtain ⟨h1,h2⟩:=mLins_g hm
   exact ⟨by rw [h1];rfl,c,h2⟩
 ·rw [zQt c] at h;cases h
def mIxs_g {f:Lf->Lf×Int}:∀{l r:List Ix},fF f l=.ok r->r=l.map (gIx fun x=>(f x).1)/\∀x,x∈l->(f x.Lin).2=0/\∀y,y∈x.At->(f y).2=0
 |[],r,h=>by rw [fF] at h;injection h with h;subst h;exact ⟨rfl,fun x hx=>by cases hx⟩
 |a::t,r,h=>by
  rw [fF] at h
  cases h1:mIx f a with
  |error y=>rw [h1] at h;cases h
  |ok a'=>
   rw [h1] at h
   cases hm:fF f t with
   |error y=>rw [hm] at h;cases h
   |ok u=>
    rw [hm] at h
    injection h with h
    subst h
    obtain ⟨k1,k2⟩:=mIx_g h1
    obtain ⟨k3,k4⟩:=mIxs_g hm
    exact ⟨by rw [k1,k3];rfl,fun x hx=>by rcases af.1 hx with rfl|hx;exact k2;exact k4 x hx⟩
variable {e:Ex}
def zMw (h1:∀l,l∈dC e->P l) (h2:∀a,a∈e.Args->a.allF P):e.allF P:=by
 exact n9
mutual
def mEx_g {f:Lf->Lf×Int}:∀{e e':Ex},mEx f e=.ok e'->e'=gEx (fun l=>(f l).1) e/\e.allF fun l=>(f l).2=0
 |.mk o n v t l i arg_,e',h=>by
  rw [mEx] at h
  by_cases c:(f l).2=0
  ·rw [zOt c] at h
   cases h1:fF f i with
   |error y=>rw [h1] at h;cases h
   |ok i'=>
    rw [h1] at h
    cases h2:gW f arg_ with
    |error y=>rw [h2] at h;cases h
    |ok as'=>
     rw [h2] at h
     injection h with h
     subst h
     obtain ⟨k1,k2⟩:=mIxs_g h1
     obtain ⟨k3,k4⟩:=mExs_g h2
     refine ⟨by rw [gEx,k1,k3,gExs_map],zMw ?_ k4⟩
     intro y hy
     unfold dC at hy
     rcases af.1 hy with rfl|hy
     ·exact c
     ·obtain ⟨x,hx,hy⟩:=cf.1 hy
      rcases af.1 hy with rfl|hy
      ·exact (k2 x hx).1
      ·exact (k2 x hx).2 y hy
  ·rw [zQt c] at h;cases h
def mExs_g {f:Lf->Lf×Int}:∀{l r:List Ex},gW f l=.ok r->r=l.map (gEx fun l=>(f l).1)/\∀a,a∈l->a.allF fun l=>(f l).2=0
 |[],r,h=>by rw [gW] at h;injection h with h;subst h;exact ⟨rfl,fun x hx=>by cases hx⟩
 |a::t,r,h=>by
  rw [gW] at h
  cases h1:mEx f a with
  |error y=>rw [h1] at h;cases h
  |ok a'=>
   rw [h1] at h
   cases hm:gW f t with
   |error y=>rw [hm] at h;cases h
   |ok u=>
    rw [hm] at h
    injection h with h
    subst h
    obtain ⟨k1,k2⟩:=mEx_g h1
    obtain ⟨k3,k4⟩:=mExs_g hm
    exact ⟨by rw [k1,k3];rfl,fun x hx=>by rcases af.1 hx with rfl|hx;exact k2;exact k4 x hx⟩
end
def mLins_er {f:Lf->Lf×Int} {c:Int}:∀{l:List Lf},fD f l=.error c->∃x,x∈l/\(f x).2=c
 |[],h=>by rw [fD] at h;cases h
 |a::t,h=>by
  rw [fD] at h
  by_cases k:(f a).2=0
  ·rw [zOt k] at h
   cases hm:fD f t with
   |error y=>rw [hm] at h;injection h with h;subst h;obtain ⟨x,hx,e⟩:=mLins_er hm;exact ⟨x,by simp [hx],e⟩
   |ok u=>rw [hm] at h;cases h
  ·rw [zQt k] at h;injection h with h;exact ⟨a,uD,h⟩
def mIx_er {c:Int} {x:Ix} (h:mIx f x=.error c):∃l,l∈ixF x/\(f l).2=c:=by
 rw [mIx] at h
 by_cases k:(f x.Lin).2=0
 ·rw [zOt k] at h
  cases hm:fD f x.At with
  |error y=>rw [hm] at h;injection h with h;subst h;obtain ⟨l,hl,e⟩:=mLins_er hm;exact ⟨l,by simp [ixF,hl],e⟩
  |ok u=>rw [hm] at h;cases h
 ·rw [zQt k] at h;injection h with h;exact ⟨x.Lin,by simp [ixF],h⟩
def mIxs_er {f:Lf->Lf×Int} {c:Int}:∀{l:List Ix},fF f l=.error c->∃x,x∈l.flatMap ixF/\(f x).2=c
 |[],h=>by rw [fF] at h;cases h
 |a::t,h=>by
  rw [fF] at h
  cases k:mIx f a with
  |error y=>rw [k] at h;injection h with h;subst h;obtain ⟨l,hl,e⟩:=mIx_er k;exact ⟨l,by rw [cg];exact List.mem_append_left _ hl,e⟩
  |ok a'=>
   rw [k] at h
   cases hm:fF f t with
   |error y=>rw [hm] at h;injection h with h;subst h;obtain ⟨x,hx,e⟩:=mIxs_er hm;exact ⟨x,by rw [cg];exact kc _ hx,e⟩
   |ok u=>rw [hm] at h;cases h
def mEx_er {P:Int->Prop} (e:Ex) (hP:e.allF fun l=>P (f l).2):∀c,mEx f e=.error c->P c:=by
 induction e using Ex.ind with
 |_ e ih=>
  intro c h
  rw [zXt] at h
  by_cases k:(f e.Lin).2=0
  ·rw [zOt k] at h
   cases h1:fF f e.Idx with
   |error y=>
    rw [h1] at h;injection h with h;subst h
    obtain ⟨x,hx,e2⟩:=mIxs_er h1
    have:=hP e (by rw [wC];simp) x (by unfold dC;exact au _ hx)
    have this:P (f x).2:=this
    rw [e2] at this;exact this
   |ok i'=>
    rw [h1] at h
    cases h2:gW f e.Args with
    |error y=>
     rw [h2] at h;injection h with h;subst h
     have key:∀l:List Ex,(∀a,a∈l->a∈e.Args)->gW f l=.error y->P y:=by
      intro l
      induction l with
      |nil=>intro _ h;rw [gW] at h;cases h
      |cons a t iht=>
       intro hl h
       rw [gW] at h
       cases k2:mEx f a with
       |error z=>rw [k2] at h;injection h with h;subst h;exact ih a (hl a uD) (Ex.allF_arg hP (hl a uD)) _ k2
       |ok a'=>
        rw [k2] at h
        cases hm:gW f t with
        |error z=>rw [hm] at h;injection h with h;subst h;exact iht (fun b hb=>hl b (by simp [hb])) hm
        |ok u=>rw [hm] at h;cases h
     exact key e.Args (fun a h=>h) h2
    |ok as'=>rw [h2] at h;cases h
  ·rw [zQt k] at h;injection h with h;subst h
   exact hP e (by rw [wC];simp) _ (by unfold dC;simp)
/-! ## What stays -/
def forms_g (g:Lf->Lf) (e:Ex):dC (gEx g e)=(dC e).map g:=by
 rw [gEx_eq]
 show g e.Lin::(e.Idx.map (gIx g)).flatMap (fun x=>x.Lin::x.At)=(e.Lin::e.Idx.flatMap fun x=>x.Lin::x.At).map g
 rw [aK]
 congr 1
 induction e.Idx with
 |nil=>rfl
 |cons x r ih=>rw [aK,cg,cg,aC,ih];rfl
mutual
def nodes_g (g:Lf->Lf):∀e:Ex,dI (gEx g e)=(dI e).map (gEx g)
 |.mk o n v t l i arg_=>by rw [gEx,dI,dI,nodesL_g g arg_,aK,gEx]
def nodesL_g (g:Lf->Lf):∀l:List Ex,bU (rD g l)=(bU l).map (gEx g)
 |[]=>by rw [rD,bU];rfl
 |a::r=>by rw [rD,bU,bU,nodes_g g a,nodesL_g g r,aC]
end
def allF_g {g:Lf->Lf} (h:e.allF fun l=>P (g l)):(gEx g e).allF P:=by
 intro x hx l hl
 rw [nodes_g] at hx
 obtain ⟨y,hy,rfl⟩:=bq.1 hx
 rw [forms_g] at hl
 obtain ⟨k,hk,rfl⟩:=bq.1 hl
 exact h y hy k hk
def zWa (h:gI e=0):e.allF fun l=>bI l=true:=by
 intro x hx l hl
 have:=(zHn (errsL_mem (zDn h) x hx)).2.2.2.2
 unfold lW at this
 rw [ae] at this
 exact ax.1 this.2 l hl
/-! ## Weights -/
def linsWt_g {g:Lf->Lf} {c:Nat} (hg:∀l,(g l).L.length<=l.L.length+c):∀l:List Lf,fI (l.map g)<=fI l+c*l.length
 |[]=>by simp [fI]
 |x::r=>by
  rw [aK,fI,fI,lLc,Nat.mul_succ]
  have:=linsWt_g hg r;have:=hg x;omega
def idxWt_g {g:Lf->Lf} {c:Nat} (hg:∀l,(g l).L.length<=l.L.length+c):∀l:List Ix,dO (l.map (gIx g))<=(c+1)*dO l+c*l.length
 |[]=>by simp [dO]
 |x::r=>by
  rw [aK,dO,dO,lLc,Nat.mul_succ,ei]
  have h1:=idxWt_g hg r
  have h2:=linsWt_g hg x.At
  have h3:=hg x.Lin
  have h4:(gIx g x).wt<=(c+1)*x.wt+c:=by
   show (g x.Lin).L.length+(x.At.map g).length+fI (x.At.map g)<=(c+1)*(x.Lin.L.length+x.At.length+fI x.At)+c
   rw [lLm]
   have e:(c+1)*(x.Lin.L.length+x.At.length+fI x.At)=(c*x.Lin.L.length+c*x.At.length+c*fI x.At)+(x.Lin.L.length+x.At.length+fI x.At):=by
    rw [ej,Nat.one_mul,ei,ei]
   omega
  omega
def wt_g {g:Lf->Lf} {c:Nat} (hg:∀l,(g l).L.length<=l.L.length+c) (e:Ex):(gEx g e).wt<=(c+1)*e.wt:=by
 induction e using Ex.ind with
 |_ e ih=>
  have key:∀l:List Ex,(∀a,a∈l->(gEx g a).wt<=(c+1)*a.wt)->fC (l.map (gEx g))<=(c+1)*fC l:=by
   intro l
   induction l with
   |nil=>intro _;simp [fC]
   |cons a r ihr=>
    intro h
    rw [aK,fC,fC,ei]
    have:=h a uD
    have:=ihr fun b hb=>h b (by simp [hb])
    omega
  have h1:=key e.Args ih
  have h2:=idxWt_g hg e.Idx
  have h3:=hg e.Lin
  rw [Ex.wt_eq,Ex.wt_eq,gEx_eq]
  show 1+(g e.Lin).L.length+(e.Idx.map (gIx g)).length+dO (e.Idx.map (gIx g))+fC (e.Args.map (gEx g))<=(c+1)*(1+e.Lin.L.length+e.Idx.length+dO e.Idx+fC e.Args)
  rw [lLm]
  have e1:(c+1)*(1+e.Lin.L.length+e.Idx.length+dO e.Idx+fC e.Args)=(c+1)*1+(c+1)*e.Lin.L.length+(c+1)*e.Idx.length+(c+1)*dO e.Idx+(c+1)*fC e.Args:=by
   rw [ei,ei,ei,ei]
  have e2:(c+1)*e.Lin.L.length=c*e.Lin.L.length+e.Lin.L.length:=by rw [ej,Nat.one_mul]
  have e3:(c+1)*e.Idx.length=c*e.Idx.length+e.Idx.length:=by rw [ej,Nat.one_mul]
  omega
structure PO {α:Type} (f:α->α->Int) (a:α):Prop where
 anti:∀b,f b a= -f a b
 rng:∀b,-1<=f a b/\f a b<=1
 cong:∀b,f a b=0->∀c,f a c=f b c
 cong':∀b c,f b c=0->f a b=f a c
 trans:∀b c,f a b<0->f b c<0->f a c<0
def PO.zero {α:Type} (a:α):PO (fun _ _=>0) a:=
 ⟨fun _=>rfl,fun _=>⟨by show (-1:Int)<=0;omega,by show (0:Int)<=1;omega⟩,fun _ _ _=>rfl,fun _ _ _=>rfl,fun _ _ h _=>h⟩
/-! ## Short names -/
def nodes_take {x:Ex} (h:e.Args[k]? =some x):(bU (e.Args.take k)).length+(dI x).length+1<=(dI e).length:=by
 have:=ag List.length (nodes_at h (x:=x) (pre:=[]) (suf:=bU x.Args) (by rw [wC];rfl))
 rw [wC x]
 simp only [lLa,lLc,lLn] at this⊢
 omega
/-! ## Replacing -/
def below (s:lr) (x:lr):Bool:=dQ x s
def zIp (x:lr) (r:List lr) (s:lr):bP (x::r) s=(decide (x=s)||bP r s):=rfl
def hasB_mem {l:List lr}:bP l s=true↔s∈l:=by
 unfold bP;rw [fe]
 constructor
 ·rintro ⟨x,hx,h⟩;rw [ah] at h;rw [←h];exact hx
 ·intro h;exact ⟨s,h,uD⟩
/-! ## Numerals -/
def decB (n:Nat):lr:=⟨(Lib.decDigits n).toArray⟩
def nmK (base:lr) (k:Nat):lr:=if k=0 then base else base++decB k
end Go.Br
end
