/-
  Lists of strings,sorted and thinned (for a seat without slices.Sort at strings).
  The names that an expression reads,in plain Lean.
  Sums of linear forms,exactly,in plain Lean: numbers of 64 and of 128 bits,merges of ascending lists,substitution.
  The reference's substitution of forms,in plain Lean: the sum,and the mapping of all forms of an expression.
  What the substitution of a form keeps,in plain Lean: valid forms stay valid,the name is gone,the shape of an expression stays.
  The comparison of expressions is a total order,in plain Lean.
  Layer 14 in plain Lean: short names,replacing,the names in forms,the example that every statement checks.
  Ascending lists of names,one name added at a time,in plain Lean.
  Names of index variables: both ways to list them give the same names.
  Numerals,and the first number that is free.
  Conditions: none.
-/
import Derived.Test.YthgichbbgocmoaaGreatDoorCfg
import Derived.Test.YthgichbbgocmoaaGreatDoorEngZ
import Derived.Sort.OwnSorted
import Derived.Lib.OwnBridge
import Derived.Test.YthgichbbgocmoaaGreatDoorPlain
import Derived.Lib.ItoaNum
set_option linter.unusedSimpArgs false
set_option linter.unusedVariables false
section
namespace Go.Br
open Go Go.Eng Go.RowKit Go.Proofs Go.L41
end Go.Br
end
section
namespace Go.Br
open Go Go.Eng Go.L41
end Go.Br
end
section
namespace Go.Br
open Go Go.Eng Go.L41
/-! ## The order of names -/
theorem bl_cons (a b:UInt8) (x y:List UInt8):Op.bytesLess (a::x) (b::y)=true↔a<b∨(a=b/\Op.bytesLess x y=true):=by
 rw [Op.bytesLess]
 by_cases h1:a<b<;>by_cases h2:a=b<;>simp [h1,h2]
theorem bl_trans:∀(x y z:List UInt8),Op.bytesLess x y=true->Op.bytesLess y z=true->Op.bytesLess x z=true
 |[],[],_,h,_=>by simp [Op.bytesLess] at h
 |[],_::_,[],_,h=>by simp [Op.bytesLess] at h
 |[],_::_,_::_,_,_=>by simp [Op.bytesLess]
 |_::_,[],_,h,_=>by simp [Op.bytesLess] at h
 |_::_,_::_,[],_,h=>by simp [Op.bytesLess] at h
 |a::x,b::y,c::z,h,k=>by
  rw [bl_cons] at h k⊢
  rcases h with h|⟨rfl,h⟩
  ·rcases k with k|⟨rfl,k⟩
   ·exact .inl (UInt8.lt_trans h k)
   ·exact .inl h
  ·rcases k with k|⟨rfl,k⟩
   ·exact .inl k
   ·exact .inr ⟨rfl,bl_trans x y z h k⟩
theorem bl_tri:∀(x y:List UInt8),Op.bytesLess x y=false->Op.bytesLess y x=false->x=y
 |[],[],_,_=>rfl
 |[],_::_,h,_=>by simp [Op.bytesLess] at h
 |_::_,[],_,h=>by simp [Op.bytesLess] at h
 |a::x,b::y,h,k=>by
  have h1:¬Op.bytesLess (a::x) (b::y)=true:=by rw [h];simp
  have k1:¬Op.bytesLess (b::y) (a::x)=true:=by rw [k];simp
  rw [bl_cons] at h1 k1
  have e:a=b:=UInt8.le_antisymm (UInt8.not_lt.1 fun c=>k1 (.inl c)) (UInt8.not_lt.1 fun c=>h1 (.inl c))
  subst e
  have h2:Op.bytesLess x y=false:=by
   cases c:Op.bytesLess x y with
   |false=>rfl
   |true=>exact absurd (.inr ⟨rfl,c⟩) h1
  have k2:Op.bytesLess y x=false:=by
   cases c:Op.bytesLess y x with
   |false=>rfl
   |true=>exact absurd (.inr ⟨rfl,c⟩) k1
  rw [bl_tri x y h2 k2]
theorem strLt_tri {a b:ByteArray} (h:fR a b=false) (k:fR b a=false):a=b:=by
 have h1:=bl_tri _ _ h k
 rw [ByteArray.toList_eq,ByteArray.toList_eq] at h1
 exact ByteArray.ext (Array.toList_inj.1 h1)
theorem strLt_trans {a b c:ByteArray} (h:fR a b=true) (k:fR b c=true):fR a c=true:=bl_trans _ _ _ h k
/-! ## Numbers -/
def r64 (n:Int):Prop:= -9223372036854775808<=n/\n<=9223372036854775807
theorem uH {p:Prop} (h:p:=by unfold r64;omega):p:=h
instance (n:Int):Decidable (r64 n):=by unfold r64;infer_instance
def w64 (n:Int):Int:=IntKind.i64.wrap n
theorem zIx {n:Int} (h:r64 n):w64 n=n:=IntWalk.i64_in n h
theorem zUb (n:Int):w64 n=(n+9223372036854775808)%18446744073709551616-9223372036854775808:=by unfold w64;rw [IntKind.wrap_i64]
theorem w64_r (n:Int):r64 (w64 n):=by rw [zUb];unfold r64;omega
theorem u64_eq (n:Int):IntKind.u64.wrap n=n%18446744073709551616:=by rw [IntKind.wrap_u64]
theorem plus_ok {a b:Int} (ha:r64 a) (hb:r64 b):decide (decide (a<w64 (a+b))=decide (0<b))=decide (r64 (a+b)):=by
 refine decide_eq_decide.2 ?_
 rw [zUb,decide_eq_decide]
 unfold r64 at *
 omega
theorem sq_le {a b:Nat} (ha:a<=4294967295) (hb:b<=4294967295):a*b<=18446744065119617025:=Nat.mul_le_mul ha hb
def hiN (a b:Nat):Nat:=
 (a/4294967296)*(b/4294967296)+((a/4294967296)*(b%4294967296)+((a%4294967296)*(b%4294967296))/4294967296)/4294967296+
  ((a%4294967296)*(b/4294967296)+((a/4294967296)*(b%4294967296)+((a%4294967296)*(b%4294967296))/4294967296)%4294967296)/4294967296
theorem mul_parts (a b:Nat):a*b=(a/4294967296)*(b/4294967296)*18446744073709551616+((a/4294967296)*(b%4294967296)+(a%4294967296)*(b/4294967296))*4294967296+(a%4294967296)*(b%4294967296):=by
 have ea:a=(a/4294967296)*4294967296+a%4294967296:=by omega
 have eb:b=(b/4294967296)*4294967296+b%4294967296:=by omega
 generalize a/4294967296=a1 at *
 generalize a%4294967296=a0 at *
 generalize b/4294967296=b1 at *
 generalize b%4294967296=b0 at *
 subst ea eb
 rw [Nat.add_mul,Nat.mul_add,Nat.mul_add,Nat.add_mul]
 have e1:a1*4294967296*(b1*4294967296)=a1*b1*18446744073709551616:=by
  rw [Nat.mul_mul_mul_comm]
 have e2:a1*4294967296*b0=a1*b0*4294967296:=by rw [Nat.mul_right_comm]
 have e3:a0*(b1*4294967296)=a0*b1*4294967296:=by rw [Nat.mul_assoc]
 rw [e1,e2,e3]
 omega
theorem hi_lo (a b:Nat):hiN a b*18446744073709551616+(a*b)%18446744073709551616=a*b:=by
 have h:=mul_parts a b
 unfold hiN
 generalize a*b=n at *
 generalize (a/4294967296)*(b/4294967296)=p11 at *
 generalize (a/4294967296)*(b%4294967296)=p10 at *
 generalize (a%4294967296)*(b/4294967296)=p01 at *
 generalize (a%4294967296)*(b%4294967296)=p00 at *
 omega
theorem part_le {a b:Nat} (ha:a<18446744073709551616) (hb:b<18446744073709551616):
  (a/4294967296)*(b/4294967296)<=18446744065119617025/\(a/4294967296)*(b%4294967296)<=18446744065119617025/\(a%4294967296)*(b/4294967296)<=18446744065119617025/\(a%4294967296)*(b%4294967296)<=18446744065119617025:=
 ⟨sq_le zA zA,sq_le zA zA,sq_le zA zA,sq_le zA zA⟩
theorem hi_zero {a b:Nat}:hiN a b=0↔a*b<18446744073709551616:=by
 have h:=hi_lo a b
 constructor
 ·intro e;rw [e] at h;omega
 ·intro e
  by_cases c:hiN a b=0
  ·exact c
  ·exfalso;generalize a*b=n at *;generalize hiN a b=m at *;omega
theorem hi_bounds {a b:Nat} (ha:a<18446744073709551616) (hb:b<18446744073709551616):
  (a/4294967296)*(b%4294967296)+((a%4294967296)*(b%4294967296))/4294967296<18446744073709551616/\
  (a%4294967296)*(b/4294967296)+((a/4294967296)*(b%4294967296)+((a%4294967296)*(b%4294967296))/4294967296)%4294967296<18446744073709551616/\
  (a/4294967296)*(b/4294967296)+((a/4294967296)*(b%4294967296)+((a%4294967296)*(b%4294967296))/4294967296)/4294967296<18446744073709551616/\hiN a b<18446744073709551616:=by
 obtain ⟨h1,h2,h3,h4⟩:=part_le ha hb
 have h5:=hi_lo a b
 have h6:a*b<=18446744073709551615*18446744073709551615:=Nat.mul_le_mul zA zA
 refine ⟨?_,?_,?_,?_⟩
 ·generalize (a/4294967296)*(b%4294967296)=p10 at *
  generalize (a%4294967296)*(b%4294967296)=p00 at *
  omega
 ·generalize (a/4294967296)*(b%4294967296)=p10 at *
  generalize (a%4294967296)*(b/4294967296)=p01 at *
  generalize (a%4294967296)*(b%4294967296)=p00 at *
  omega
 ·generalize (a/4294967296)*(b/4294967296)=p11 at *
  generalize (a/4294967296)*(b%4294967296)=p10 at *
  generalize (a%4294967296)*(b%4294967296)=p00 at *
  omega
 ·generalize a*b=n at *
  generalize hiN a b=m at *
  omega
def bM (x y:Int):Int×Bool:=if r64 (x*y) then (x*y,true) else (0,false)
theorem magn_neg {x:Int} (h:r64 x) (hn:x<0):IntKind.u64.wrap (-(IntKind.u64.wrap x))=(x.natAbs:Int):=by
 unfold r64 at h;rw [u64_eq,u64_eq];omega
theorem magn_pos {x:Int} (h:r64 x) (hn:¬x<0):IntKind.u64.wrap x=(x.natAbs:Int):=by
 unfold r64 at h;rw [u64_eq];omega
theorem zGw {x:Int} (h:r64 x):x.natAbs<=9223372036854775808:=by unfold r64 at h;omega
theorem zIw (x y:Int):(x*y).natAbs=x.natAbs*y.natAbs:=Int.natAbs_mul x y
theorem sign_mul {x y:Int} (hx:x<0) (hy:¬y<0):x*y<=0:=Int.mul_nonpos_of_nonpos_of_nonneg zA zA
theorem sign_mul2 {x y:Int} (hx:¬x<0) (hy:y<0):x*y<=0:=Int.mul_nonpos_of_nonneg_of_nonpos zA zA
theorem sign_mul3 {x y:Int} (hx:x<0) (hy:y<0):0<=x*y:=Int.mul_nonneg_of_nonpos_of_nonpos zA zA
theorem sign_mul4 {x y:Int} (hx:¬x<0) (hy:¬y<0):0<=x*y:=Int.mul_nonneg zA zA
theorem neg_mul {x y:Int} (h:(decide (x<0)==decide (y<0))=false):x*y<=0:=by
 by_cases hx:x<0<;>by_cases hy:y<0
 ·simp [hx,hy] at h
 ·exact sign_mul hx hy
 ·exact sign_mul2 hx hy
 ·simp [hx,hy] at h
theorem pos_mul {x y:Int} (h:(decide (x<0)==decide (y<0))=true):0<=x*y:=by
 by_cases hx:x<0<;>by_cases hy:y<0
 ·exact sign_mul3 hx hy
 ·simp [hx,hy] at h
 ·simp [hx,hy] at h
 ·exact sign_mul4 hx hy
theorem times_big {x y:Int} (hx:r64 x) (hy:r64 y) (h:hiN x.natAbs y.natAbs≠0∨9223372036854775808<x.natAbs*y.natAbs%18446744073709551616):bM x y=(0,false):=by
 unfold bM
 refine if_neg fun k=>?_
 have h1:=zIw x y
 unfold r64 at k
 have h2:x.natAbs*y.natAbs<18446744073709551616:=by rw [←h1];omega
 rcases h with h|h
 ·exact h (hi_zero.2 h2)
 ·rw [Nat.mod_eq_of_lt h2,←h1] at h;omega
theorem times_edge {x y:Int} (h:(decide (x<0)==decide (y<0))=true) (h2:x.natAbs*y.natAbs%18446744073709551616=9223372036854775808):bM x y=(0,false):=by
 unfold bM
 refine if_neg fun k=>?_
 have h1:=zIw x y
 have h3:=pos_mul h
 unfold r64 at k
 rw [←h1] at h2
 omega
theorem times_neg {x y:Int} (h:(decide (x<0)==decide (y<0))=false) (h0:hiN x.natAbs y.natAbs=0) (hl:x.natAbs*y.natAbs%18446744073709551616<=9223372036854775808):bM x y=(IntKind.i64.wrap (IntKind.u64.wrap (-((x.natAbs*y.natAbs%18446744073709551616:Nat):Int))),true):=by
 have h1:=zIw x y
 have h3:=neg_mul h
 have h4:=hi_zero.1 h0
 rw [Nat.mod_eq_of_lt h4] at hl⊢
 rw [←h1] at hl⊢
 unfold bM
 rw [if_pos uH,u64_eq]
 congr 1
 show _=w64 _
 rw [zUb];omega
theorem times_pos {x y:Int} (h:(decide (x<0)==decide (y<0))=true) (h0:hiN x.natAbs y.natAbs=0) (hl:x.natAbs*y.natAbs%18446744073709551616<9223372036854775808):bM x y=(IntKind.i64.wrap ((x.natAbs*y.natAbs%18446744073709551616:Nat):Int),true):=by
 have h1:=zIw x y
 have h3:=pos_mul h
 have h4:=hi_zero.1 h0
 rw [Nat.mod_eq_of_lt h4] at hl⊢
 rw [←h1] at hl⊢
 unfold bM
 rw [if_pos uH]
 congr 1
 show _=w64 _
 rw [zUb];omega
theorem times_f {x y:Int} (hx:r64 x) (hy:r64 y) (c:(¬((hiN x.natAbs y.natAbs:Nat):Int)=0∨9223372036854775808<((x.natAbs*y.natAbs%18446744073709551616:Nat):Int))∨((x.natAbs*y.natAbs%18446744073709551616:Nat):Int)=9223372036854775808/\(decide (x<0)==decide (y<0))=true):bM x y=(0,false):=by
 rcases c with (c|c)|⟨c,d⟩
 ·exact times_big hx hy (.inl zA)
 ·exact times_big hx hy (.inr zA)
 ·exact times_edge d zA
abbrev Tr:=ByteArray×Int×Int
def dT:Nat->List Mono->List Mono->List Tr
 |0,_,_=>[]
 |_+1,[],[]=>[]
 |n+1,a::ar,[]=>(a.Name,a.By,0)::dT n ar []
 |n+1,[],b::bs=>(b.Name,0,b.By)::dT n [] bs
 |n+1,a::ar,b::bs=>
  bif fR a.Name b.Name then (a.Name,a.By,0)::dT n ar (b::bs)
  else bif fR b.Name a.Name then (b.Name,0,b.By)::dT n (a::ar) bs
  else (a.Name,a.By,b.By)::dT n ar bs
theorem zAf:∀(n:Nat) (a b:List Mono),a.length+b.length<=n->dT n a b=dT (a.length+b.length) a b
 |0,a,b,h=>by rw [show a.length+b.length=0 by omega]
 |n+1,[],[],_=>rfl
 |n+1,a::ar,[],h=>by
  have ih:=zAf n ar [] (by simp at h⊢;omega)
  show (a.Name,a.By,0)::dT n ar []=(a.Name,a.By,0)::dT (ar.length) ar []
  rw [ih];rfl
 |n+1,[],b::bs,h=>by
  have ih:=zAf n [] bs (by simp at h⊢;omega)
  have e:([]:List Mono).length+(b::bs).length=bs.length+1:=by simp
  rw [e,dT,dT,ih];simp
 |n+1,a::ar,b::bs,h=>by
  have h':ar.length+1+(bs.length+1)<=n+1:=by simpa using h
  have i1:=zAf n ar (b::bs) uE
  have i2:=zAf n (a::ar) bs uE
  have i3:=zAf n ar bs zA
  have j1:=zAf (ar.length+bs.length+1) ar (b::bs) uE
  have j2:=zAf (ar.length+bs.length+1) (a::ar) bs uE
  have j3:=zAf (ar.length+bs.length+1) ar bs zA
  have e:(a::ar).length+(b::bs).length=(ar.length+bs.length+1)+1:=by simp;omega
  rw [e,dT,dT,i1,i2,i3,j1,j2,j3]
def bX (a b:List Mono):List Tr:=dT (a.length+b.length) a b
theorem mergeL_nil:bX [] []=[]:=rfl
theorem zTa (a:Mono) (ar:List Mono):bX (a::ar) []=(a.Name,a.By,0)::bX ar []:=rfl
theorem zSz (b:Mono) (bs:List Mono):bX [] (b::bs)=(b.Name,0,b.By)::bX [] bs:=by
 unfold bX;rw [show ([]:List Mono).length+(b::bs).length=bs.length+1 by simp,dT];simp
theorem zLm (a b:Mono) (ar bs:List Mono):bX (a::ar) (b::bs)=bif fR a.Name b.Name then (a.Name,a.By,0)::bX ar (b::bs) else bif fR b.Name a.Name then (b.Name,0,b.By)::bX (a::ar) bs else (a.Name,a.By,b.By)::bX ar bs:=by
 unfold bX
 rw [show (a::ar).length+(b::bs).length=(ar.length+bs.length+1)+1 by simp;omega,dT]
 rw [zAf _ ar (b::bs) uE,zAf _ (a::ar) bs uE,zAf _ ar bs zA]
theorem zQj (a b:List Mono):(bX a b).length<=a.length+b.length:=by
 have:∀(n:Nat) (a b:List Mono),(dT n a b).length<=n:=by
  intro n
  induction n with
  |zero=>intro a b;simp [dT]
  |succ n ih=>
   intro a b
   cases a with
   |nil=>
    cases b with
    |nil=>simp [dT]
    |cons b bs=>simp only [dT,List.length_cons];have:=ih [] bs;omega
   |cons a ar=>
    cases b with
    |nil=>simp only [dT,List.length_cons];have:=ih ar [];omega
    |cons b bs=>
     have h1:=ih ar (b::bs)
     have h2:=ih (a::ar) bs
     have h3:=ih ar bs
     simp only [dT]
     cases fR a.Name b.Name<;>cases fR b.Name a.Name<;>simp only [cond_true,cond_false,List.length_cons]<;>omega
 exact this _ a b
def hdM (l:List Mono):Mono:=l.headD ⟨bs [],0⟩
theorem zKn {l:List Mono} (h:0<l.length):l[0]? =some (hdM l):=by
 cases l with
 |nil=>simp at h
 |cons x r=>rfl
def mC2 (a b:List Mono):Bool:=decide ((b.length:Int)=0)||(decide ((0:Int)<a.length)&&fR (hdM a).Name (hdM b).Name)
def mC3 (a b:List Mono):Bool:=decide ((a.length:Int)=0)||fR (hdM b).Name (hdM a).Name
theorem mC2_b {a b:List Mono} (c:mC2 a b=false):0<b.length:=by
 unfold mC2 at c
 cases b with
 |nil=>simp at c
 |cons y s=>simp
theorem merge_left {a b:List Mono} (h:0<a.length∨0<b.length) (c:mC2 a b=true):0<a.length/\bX a b=((hdM a).Name,(hdM a).By,0)::bX (a.drop 1) b:=by
 unfold mC2 at c
 cases a with
 |nil=>
  cases b with
  |nil=>simp at h
  |cons y s=>simp at c;omega
 |cons x r=>
  refine ⟨uD,?_⟩
  cases b with
  |nil=>rw [zTa];rfl
  |cons y s=>
   have c2:fR x.Name y.Name=true:=by
    rw [Bool.or_eq_true,Bool.and_eq_true,decide_eq_true_eq] at c
    rcases c with c|c
    ·simp at c;omega
    ·exact c.2
   rw [zLm,c2];rfl
theorem merge_right {a b:List Mono} (h:0<a.length∨0<b.length) (c:mC2 a b=false) (c3:mC3 a b=true):0<b.length/\bX a b=((hdM b).Name,0,(hdM b).By)::bX a (b.drop 1):=by
 unfold mC2 at c
 unfold mC3 at c3
 cases b with
 |nil=>simp at c
 |cons y s=>
  refine ⟨uD,?_⟩
  cases a with
  |nil=>rw [zSz];rfl
  |cons x r=>
   have c2:fR x.Name y.Name=false:=by
    rw [Bool.or_eq_false_iff,Bool.and_eq_false_iff] at c
    rcases c.2 with c|c
    ·simp at c
    ·exact c
   have c4:fR y.Name x.Name=true:=by
    rw [Bool.or_eq_true,decide_eq_true_eq] at c3
    rcases c3 with c|c
    ·simp at c;omega
    ·exact c
   rw [zLm,c2,c4];rfl
theorem merge_both {a b:List Mono} (c:mC2 a b=false) (c3:mC3 a b=false):0<a.length/\0<b.length/\bX a b=((hdM a).Name,(hdM a).By,(hdM b).By)::bX (a.drop 1) (b.drop 1):=by
 unfold mC2 at c
 unfold mC3 at c3
 cases b with
 |nil=>simp at c
 |cons y s=>
  cases a with
  |nil=>simp at c3
  |cons x r=>
   refine ⟨uD,uD,?_⟩
   have c2:fR x.Name y.Name=false:=by
    rw [Bool.or_eq_false_iff,Bool.and_eq_false_iff] at c
    rcases c.2 with c|c
    ·simp at c
    ·exact c
   have c4:fR y.Name x.Name=false:=by
    rw [Bool.or_eq_false_iff] at c3
    exact c3.2
   rw [zLm,c2,c4];rfl
/-! ## Sums -/
def trV (t:Tr):Int:=t.2.1+t.2.2
def cG (t:Tr):Bool:=decide (r64 (trV t))
def nZ (ts:List Tr):List Mono:=ts.filterMap fun t=>if w64 (trV t)=0 then none else some ⟨t.1,w64 (trV t)⟩
theorem sumW_next (d:List Tr) (t:Tr):nZ (d++[t])=nZ d++(if w64 (trV t)=0 then [] else [⟨t.1,w64 (trV t)⟩]):=by
 unfold nZ;rw [List.filterMap_append];congr 1
 by_cases h:w64 (trV t)=0<;>simp [h]
theorem zSo (d:List Tr):(nZ d).length<=d.length:=List.length_filterMap_le _ _
def okF (ok:Bool) (d:List Tr):Bool:=d.foldl (fun b t=>b&&decide (r64 (t.2.1+t.2.2))) ok
theorem okF_next (ok:Bool) (d:List Tr) (t:Tr):okF ok (d++[t])=(okF ok d&&decide (r64 (t.2.1+t.2.2))):=by unfold okF;rw [List.foldl_append];rfl
theorem okF_all (ok:Bool) (d:List Tr):okF ok d=(ok&&d.all cG):=by
 induction d generalizing ok with
 |nil=>simp [okF]
 |cons t r ih=>
  show okF (ok&&cG t) r=_
  rw [ih,List.all_cons,Bool.and_assoc]
theorem zFn:∀(n:Nat) (a b:List Mono),(∀m,m∈a->r64 m.By)->(∀m,m∈b->r64 m.By)->∀t,t∈dT n a b->r64 t.2.1/\r64 t.2.2
 |0,_,_,_,_,t,ht=>by simp [dT] at ht
 |_+1,[],[],_,_,t,ht=>by simp [dT] at ht
 |n+1,x::r,[],h1,h2,t,ht=>by
  simp only [dT] at ht
  rcases List.mem_cons.1 ht with rfl|ht
  ·exact ⟨h1 x uD,by show r64 0;unfold r64;omega⟩
  ·exact zFn n r [] (fun m hm=>h1 m (by simp [hm])) h2 t ht
 |n+1,[],y::s,h1,h2,t,ht=>by
  simp only [dT] at ht
  rcases List.mem_cons.1 ht with rfl|ht
  ·exact ⟨by show r64 0;unfold r64;omega,h2 y uD⟩
  ·exact zFn n [] s h1 (fun m hm=>h2 m (by simp [hm])) t ht
 |n+1,x::r,y::s,h1,h2,t,ht=>by
  have g1:=zFn n r (y::s) (fun m hm=>h1 m (by simp [hm])) h2 t
  have g2:=zFn n (x::r) s h1 (fun m hm=>h2 m (by simp [hm])) t
  have g3:=zFn n r s (fun m hm=>h1 m (by simp [hm])) (fun m hm=>h2 m (by simp [hm])) t
  have z0:r64 0:=by unfold r64;omega
  simp only [dT] at ht
  cases c1:fR x.Name y.Name with
  |true=>
   rw [c1,cond_true] at ht
   rcases List.mem_cons.1 ht with rfl|ht
   ·exact ⟨h1 x uD,z0⟩
   ·exact g1 ht
  |false=>
   rw [c1,cond_false] at ht
   cases c2:fR y.Name x.Name with
   |true=>
    rw [c2,cond_true] at ht
    rcases List.mem_cons.1 ht with rfl|ht
    ·exact ⟨z0,h2 y uD⟩
    ·exact g2 ht
   |false=>
    rw [c2,cond_false] at ht
    rcases List.mem_cons.1 ht with rfl|ht
    ·exact ⟨h1 x uD,h2 y uD⟩
    ·exact g3 ht
theorem merge_rng {a b:List Mono} (h1:∀m,m∈a->r64 m.By) (h2:∀m,m∈b->r64 m.By) {d s:List Tr} {t:Tr} (h:bX a b=d++t::s):r64 t.2.1/\r64 t.2.2/\d.length<=a.length+b.length:=by
 have h3:=zQj a b
 rw [h] at h3
 simp only [List.length_append,List.length_cons] at h3
 obtain ⟨k1,k2⟩:=zFn _ a b h1 h2 t (by rw [show dT (a.length+b.length) a b=bX a b from rfl,h];simp)
 exact ⟨k1,k2,zA⟩
def rU (k:Int) (ts:List Tr):Lf×Int:=if r64 k/\ts.all cG=true then (⟨k,nZ ts⟩,0) else (zL,3)
def fX (a b:Lf):Lf×Int:=if dC a=true/\dC b=true then rU (a.K+b.K) (bX a.L b.L) else (zL,1)
theorem add_bad {a b:Lf} (h:¬(dC a=true/\dC b=true)):fX a b=(zL,1):=by unfold fX;rw [if_neg h]
theorem add_c1 {a b:Lf} (c:¬dZ a=0∨¬dZ b=0):fX a b=(zL,1):=add_bad fun h=>by
 rcases c with c|c
 ·have:=zKl c;rw [h.1] at this;cases this
 ·have:=zKl c;rw [h.2] at this;cases this
theorem add_no {a b:Lf} (h1:dC a=true) (h2:dC b=true) (h:okF (decide (r64 (a.K+b.K))) (bX a.L b.L)=false):fX a b=(zL,3):=by
 unfold fX rU
 rw [if_pos ⟨h1,h2⟩,if_neg fun k=>?_]
 rw [okF_all,decide_eq_true k.1,k.2] at h
 cases h
theorem add_ok {a b:Lf} (h1:dC a=true) (h2:dC b=true) (h:okF (decide (r64 (a.K+b.K))) (bX a.L b.L)=true):fX a b=(⟨w64 (a.K+b.K),nZ (bX a.L b.L)⟩,0):=by
 rw [okF_all,Bool.and_eq_true,decide_eq_true_eq] at h
 unfold fX rU
 rw [if_pos ⟨h1,h2⟩,if_pos h,zIx h.1]
def jQ (by_:Int) (l:List Mono):List Mono:=l.map fun m=>⟨m.Name,m.By*by_⟩
def mQ (by_:Int) (l:List Mono):Bool:=l.all fun m=>decide (r64 (m.By*by_))
def bF (a:Lf) (by_:Int):Lf×Int:=if dC a=true then (if by_=0 then (zL,0) else if r64 (a.K*by_)/\mQ by_ a.L=true then (⟨a.K*by_,jQ by_ a.L⟩,0) else (zL,3)) else (zL,1)
def nU (l:Lf) (s:ByteArray):Lf:=⟨l.K,l.L.filter fun m=> !decide (m.Name=s)⟩
def dR (l:List Mono) (s:ByteArray):Int:=l.foldl (fun by_ m=>if m.Name=s then m.By else by_) 0
def mX (l:Lf) (s:ByteArray) (to_:Lf):Lf×Int:=
 if dC l=true/\bD s=true/\dC to_=true then (if (bF to_ (dR l.L s)).2=0 then fX (nU l s) (bF to_ (dR l.L s)).1 else (zL,(bF to_ (dR l.L s)).2)) else (zL,1)
def vT (by_:Int) (ts:List Tr):List Tr:=ts.map fun t=>(t.1,t.2.1,t.2.2*by_)
def lV (l:Lf) (s:ByteArray) (to_:Lf):Lf×Int:=
 if dC l=true/\dC to_=true/\bD s=true then
  (if dR l.L s=0 then (l,0) else if r64 (to_.K*dR l.L s)/\mQ (dR l.L s) to_.L=true then rU (l.K+to_.K*dR l.L s) (vT (dR l.L s) (bX (nU l s).L to_.L)) else (zL,3))
 else (zL,1)
def mE (by_:Int) (l:List Mono):List Mono:=l.map fun m=>⟨m.Name,(bM m.By by_).1⟩
def mY (by_:Int) (l:List Mono):Bool:=l.all fun m=>(bM m.By by_).2
theorem scaleW_len (by_:Int) (l:List Mono):(mE by_ l).length=l.length:=by simp [mE]
theorem scaleW_next {by_:Int} {l:List Mono} {k:Nat} {x:Mono} (h:l[k]? =some x):mE by_ (l.take (k+1))=mE by_ (l.take k)++[⟨x.Name,(bM x.By by_).1⟩]:=by unfold mE;rw [yQ h,List.map_append];rfl
theorem scaleB_next {by_:Int} {l:List Mono} {k:Nat} {x:Mono} (h:l[k]? =some x):mY by_ (l.take (k+1))=(mY by_ (l.take k)&&(bM x.By by_).2):=by unfold mY;rw [yQ h,List.all_append];simp
theorem timesT_2 (x y:Int):(bM x y).2=decide (r64 (x*y)):=by unfold bM;by_cases h:r64 (x*y)<;>simp [h]
theorem zSn {x y:Int} (h:r64 (x*y)):(bM x y).1=x*y:=by unfold bM;rw [if_pos h]
theorem scaleB_ok (by_:Int) (l:List Mono):mY by_ l=mQ by_ l:=by unfold mY mQ;congr 1;funext m;exact timesT_2 _ _
theorem scaleW_ok {by_:Int} {l:List Mono} (h:mQ by_ l=true):mE by_ l=jQ by_ l:=by
 unfold mQ at h
 rw [List.all_eq_true] at h
 unfold mE jQ
 refine List.map_congr_left fun m hm=>?_
 rw [zSn (by simpa using h m hm)]
theorem scale_ok {l:Lf} {by_:Int} (h1:dC l=true) (h2:¬by_=0) (h3:(bM l.K by_).2=true/\mY by_ l.L=true):bF l by_=(⟨(bM l.K by_).1,mE by_ l.L⟩,0):=by
 rw [timesT_2,decide_eq_true_eq,scaleB_ok] at h3
 unfold bF
 rw [if_pos h1,if_neg h2,if_pos h3,zSn h3.1,scaleW_ok h3.2]
theorem scale_no {l:Lf} {by_:Int} (h1:dC l=true) (h2:¬by_=0) (h3:(bM l.K by_).2=false∨mY by_ l.L=false):bF l by_=(zL,3):=by
 unfold bF
 rw [if_pos h1,if_neg h2,if_neg fun h=>?_]
 rw [timesT_2,scaleB_ok,decide_eq_true h.1,h.2] at h3
 rcases h3 with h3|h3<;>cases h3
theorem scale_zero {l:Lf} {by_:Int} (h1:dC l=true) (h2:by_=0):bF l by_=(zL,0):=by unfold bF;rw [if_pos h1,if_pos h2]
theorem scale_bad {l:Lf} {by_:Int} (h1:dC l=false):bF l by_=(zL,1):=by unfold bF;rw [if_neg (by rw [h1];simp)]
theorem zDe (by_:Int):∀(n:Nat) (a b:List Mono),a.length+b.length<=n->bX a (jQ by_ b)=vT by_ (bX a b)
 |_,[],[],_=>rfl
 |0,_::_,_,h=>by simp at h
 |0,[],_::_,h=>by simp at h
 |n+1,a::ar,[],h=>by
  have ih:=zDe by_ n ar [] (by simp at h⊢;omega)
  show bX (a::ar) []=_
  rw [zTa]
  show _=(a.Name,a.By,0*by_)::vT by_ (bX ar [])
  rw [←ih,Int.zero_mul];rfl
 |n+1,[],b::bs,h=>by
  have ih:=zDe by_ n [] bs (by simp at h⊢;omega)
  show bX [] (⟨b.Name,b.By*by_⟩::jQ by_ bs)=_
  rw [zSz,zSz,ih];rfl
 |n+1,a::ar,b::bs,h=>by
  have h':ar.length+1+(bs.length+1)<=n+1:=by simpa using h
  have i1:=zDe by_ n ar (b::bs) uE
  have i2:=zDe by_ n (a::ar) bs uE
  have i3:=zDe by_ n ar bs zA
  have e:jQ by_ (b::bs)=⟨b.Name,b.By*by_⟩::jQ by_ bs:=rfl
  rw [e] at i1⊢
  rw [zLm,zLm,i1,i2,i3]
  cases fR a.Name b.Name<;>cases fR b.Name a.Name<;>simp [vT]
theorem zWe {l:List Mono} {k:Nat} {x:Mono} {s:ByteArray} (h:l[k]? =some x):dR (l.take (k+1)) s=if x.Name=s then x.By else dR (l.take k) s:=by
 unfold dR;rw [yQ h,List.foldl_append];rfl
theorem rest_next {l:List Mono} {k:Nat} {x:Mono} {s:ByteArray} (h:l[k]? =some x):(l.take (k+1)).filter (fun m=> !decide (m.Name=s))=(l.take k).filter (fun m=> !decide (m.Name=s))++(if x.Name=s then [] else [x]):=by
 rw [yQ h,List.filter_append];by_cases e:x.Name=s<;>simp [e]
theorem zQh:∀{p:Option ByteArray} {l:List Mono},fB p l=true->∀m,m∈l->m.By≠0/\bD m.Name=true
 |_,[],_,m,hm=>by cases hm
 |p,x::r,h,m,hm=>by
  simp only [fB,Bool.and_eq_true,Bool.not_eq_true',decide_eq_false_iff_not] at h
  rcases List.mem_cons.1 hm with rfl|hm
  ·exact ⟨h.1.1.2,h.1.1.1⟩
  ·exact zQh h.2 m hm
theorem last_none {l:List Mono} {s:ByteArray} (h:∀m,m∈l->m.Name≠s):dR l s=0/\l.filter (fun m=> !decide (m.Name=s))=l:=by
 constructor
 ·have:∀(l:List Mono) (b:Int),(∀m,m∈l->m.Name≠s)->l.foldl (fun by_ m=>if m.Name=s then m.By else by_) b=b:=by
   intro l
   induction l with
   |nil=>intro b _;rfl
   |cons x r ih=>intro b hl;rw [List.foldl_cons,if_neg (hl x uD),ih b fun m hm=>hl m (by simp [hm])]
  exact this l 0 h
 ·rw [List.filter_eq_self];intro m hm;simp [h m hm]
theorem last_zero {p:Option ByteArray} {l:List Mono} {s:ByteArray} (h:fB p l=true) (hz:dR l s=0):∀m,m∈l->m.Name≠s:=by
 have key:∀(l:List Mono) (b:Int),(∀m,m∈l->m.By≠0)->l.foldl (fun by_ m=>if m.Name=s then m.By else by_) b=0->∀m,m∈l->m.Name≠s:=by
  intro l
  induction l with
  |nil=>intro b _ _ m hm;cases hm
  |cons x r ih=>
   intro b hl h m hm
   rw [List.foldl_cons] at h
   rcases List.mem_cons.1 hm with rfl|hm
   ·intro e
    rw [if_pos e] at h
    by_cases c:∀y,y∈r->y.Name≠s
    ·have:r.foldl (fun by_ m=>if m.Name=s then m.By else by_) m.By=m.By:=by
      clear ih h hl hm
      generalize m.By=z
      induction r generalizing z with
      |nil=>rfl
      |cons y r ih2=>rw [List.foldl_cons,if_neg (c y uD),ih2 (fun q hq=>c q (by simp [hq]))]
     rw [this] at h
     exact hl m uD h
    ·exact c (ih _ (fun y hy=>hl y (by simp [hy])) h)
   ·exact ih _ (fun y hy=>hl y (by simp [hy])) h m hm
 exact key l 0 (fun m hm=>(zQh h m hm).1) hz
def Lf.rng (l:Lf):Prop:=r64 l.K/\∀m,m∈l.L->r64 m.By
theorem zOd:∀{l:List Mono},(∀m,m∈l->r64 m.By/\m.By≠0)->(bX l []).all cG=true/\nZ (bX l [])=l
 |[],_=>⟨rfl,rfl⟩
 |a::ar,h=>by
  obtain ⟨h1,h2⟩:=zOd (l:=ar) fun m hm=>h m (by simp [hm])
  obtain ⟨h3,h4⟩:=h a uD
  rw [zTa]
  have e:trV (a.Name,a.By,0)=a.By:=by simp [trV]
  constructor
  ·rw [List.all_cons,h1,cG,e,decide_eq_true h3];rfl
  ·show List.filterMap _ _=_
   rw [List.filterMap_cons]
   simp only [e,zIx h3,if_neg h4]
   exact congrArg (a:: ·) h2
theorem last_rng {l:Lf} (h:l.rng) (s:ByteArray):r64 (dR l.L s):=by
 have key:∀(l:List Mono) (b:Int),(∀m,m∈l->r64 m.By)->r64 b->r64 (l.foldl (fun by_ m=>if m.Name=s then m.By else by_) b):=by
  intro l
  induction l with
  |nil=>intro b _ h;exact h
  |cons x r ih=>
   intro b hl hb
   rw [List.foldl_cons]
   refine ih _ (fun m hm=>hl m (by simp [hm])) ?_
   split
   ·exact hl x uD
   ·exact hb
 exact key l.L 0 h.2 uH
theorem zJl:zL.rng:=⟨by show r64 0;unfold r64;omega,fun m hm=>by cases hm⟩
theorem zNp (l:Lf) (b:Int):(bF l b).1.rng/\(bF l b).1.L.length<=l.L.length:=by
 unfold bF
 split
 ·split
  ·exact ⟨zJl,by simp [zL]⟩
  ·split
   ·rename_i h
    refine ⟨⟨h.1,fun m hm=>?_⟩,by simp [jQ]⟩
    obtain ⟨x,hx,rfl⟩:=List.mem_map.1 hm
    have:=h.2
    unfold mQ at this
    rw [List.all_eq_true] at this
    simpa using this x hx
   ·exact ⟨zJl,by simp [zL]⟩
 ·exact ⟨zJl,by simp [zL]⟩
theorem rest_rng {l:Lf} (h:l.rng) (s:ByteArray):(nU l s).rng/\(nU l s).L.length<=l.L.length:=
 ⟨⟨h.1,fun m hm=>h.2 m (List.mem_filter.1 hm).1⟩,List.length_filter_le _ _⟩
theorem subst_c1 {l to_:Lf} {s:ByteArray} (c:(¬dZ l=0∨bD s=false)∨¬dZ to_=0):mX l s to_=(zL,1):=by
 unfold mX
 refine if_neg fun h=>?_
 rcases c with (c|c)|c
 ·have:=zKl c;rw [h.1] at this;cases this
 ·rw [h.2.1] at c;cases c
 ·have:=zKl c;rw [h.2.2] at this;cases this
theorem subst_c4 {l to_:Lf} {s:ByteArray} (c:(dZ l=0/\bD s=true)/\dZ to_=0) (c4:¬(bF to_ (dR l.L s)).2=0):mX l s to_=(zL,(bF to_ (dR l.L s)).2):=by
 unfold mX
 rw [if_pos ⟨zKm c.1.1,c.1.2,zKm c.2⟩,if_neg c4]
theorem subst_ok {l to_:Lf} {s:ByteArray} (c:(dZ l=0/\bD s=true)/\dZ to_=0) (c4:(bF to_ (dR l.L s)).2=0):mX l s to_=fX (nU l s) (bF to_ (dR l.L s)).1:=by
 unfold mX
 rw [if_pos ⟨zKm c.1.1,c.1.2,zKm c.2⟩,if_pos c4]
theorem strLt_trans' {a b c:ByteArray} (h:fR a b=true) (k:fR b c=true):fR a c=true:=strLt_trans h k
theorem monos_weak {p q:Option ByteArray} {l:List Mono} (h:fB p l=true) (hpq:∀n,ltO p n=true->ltO q n=true):fB q l=true:=by
 cases l with
 |nil=>rfl
 |cons x r=>
  simp only [fB,Bool.and_eq_true] at h⊢
  exact ⟨⟨h.1.1,hpq _ h.1.2⟩,h.2⟩
theorem zRh (f:Mono->Bool):∀{p:Option ByteArray} {l:List Mono},fB p l=true->fB p (l.filter f)=true
 |_,[],_=>rfl
 |p,x::r,h=>by
  simp only [fB,Bool.and_eq_true] at h
  have ih:=zRh f h.2
  rw [List.filter_cons]
  by_cases c:f x=true
  ·rw [if_pos c];simp only [fB,Bool.and_eq_true];exact ⟨h.1,ih⟩
  ·rw [if_neg c]
   refine monos_weak ih fun n hn=>?_
   cases p with
   |none=>rfl
   |some q=>exact strLt_trans' h.1.2 hn
theorem zVq {b:Int} (hb:b≠0):∀{p:Option ByteArray} {l:List Mono},fB p l=true->fB p (jQ b l)=true
 |_,[],_=>rfl
 |p,x::r,h=>by
  simp only [fB,Bool.and_eq_true,Bool.not_eq_true',decide_eq_false_iff_not] at h
  have ih:=zVq hb h.2
  show fB p (⟨x.Name,x.By*b⟩::jQ b r)=true
  simp only [fB,Bool.and_eq_true,Bool.not_eq_true',decide_eq_false_iff_not]
  exact ⟨⟨⟨h.1.1.1,Int.mul_ne_zero h.1.1.2 hb⟩,h.1.2⟩,ih⟩
theorem subst_eq {l to_:Lf} {s:ByteArray} (hl:l.rng):mX l s to_=lV l s to_:=by
 unfold mX lV
 by_cases h:dC l=true/\bD s=true/\dC to_=true
 ·obtain ⟨h1,h2,h3⟩:=h
  rw [if_pos (⟨h1,h2,h3⟩:dC l=true/\bD s=true/\dC to_=true),if_pos (⟨h1,h3,h2⟩:dC l=true/\dC to_=true/\bD s=true)]
  by_cases c:dR l.L s=0
  ·rw [if_pos c]
   have hn:=last_zero h1 c
   have e:bF to_ (dR l.L s)=(zL,0):=by unfold bF;rw [if_pos h3,if_pos c]
   rw [e,if_pos rfl]
   have er:nU l s=l:=by unfold nU;rw [(last_none hn).2]
   rw [er]
   unfold fX
   rw [if_pos ⟨h1,rfl⟩]
   obtain ⟨g1,g2⟩:=zOd (l:=l.L) fun m hm=>⟨hl.2 m hm,(zQh h1 m hm).1⟩
   show rU (l.K+0) (bX l.L [])=_
   unfold rU
   rw [Int.add_zero,if_pos ⟨hl.1,g1⟩,g2]
  ·rw [if_neg c]
   by_cases d:r64 (to_.K*dR l.L s)/\mQ (dR l.L s) to_.L=true
   ·rw [if_pos d]
    have e:bF to_ (dR l.L s)=(⟨to_.K*dR l.L s,jQ (dR l.L s) to_.L⟩,0):=by unfold bF;rw [if_pos h3,if_neg c,if_pos d]
    rw [e,if_pos rfl]
    unfold fX
    rw [if_pos ⟨zRh _ h1,zVq c h3⟩]
    show rU (l.K+to_.K*dR l.L s) (bX (nU l s).L (jQ (dR l.L s) to_.L))=_
    rw [zDe _ _ _ _ (Nat.le_refl _)]
   ·rw [if_neg d]
    have e:bF to_ (dR l.L s)=(zL,3):=by unfold bF;rw [if_pos h3,if_neg c,if_neg d]
    rw [e,if_neg zB]
 ·rw [if_neg h,if_neg fun k=>h ⟨k.1,k.2.2,k.2.1⟩]
end Go.Br
end
section
namespace Go.Br
open Go Go.Eng Go.L41
def atM (l:List Mono) (k:Nat):Mono:=l.getD k ⟨bs [],0⟩
def sC2 (a b:List Mono) (i n:Nat):Bool:=decide ((n:Int)=b.length)||(decide ((i:Int)<a.length)&&(fR (atM a i).Name (atM b n).Name||decide ((atM a i).Name=(atM b n).Name)))
theorem sumM_len (by_:Int) (d:List Tr):(nZ (vT by_ d)).length<=d.length:=by
 have:=zSo (vT by_ d);simpa [vT] using this
end Go.Br
end
section
namespace Go.Br
open Go Go.Eng Go.L41
/-! ## Ascending triples -/
theorem zDw:∀(n:Nat) (a b:List Mono),a.length+b.length<=n->∀t,t∈bX a b->(∃m,m∈a/\m.Name=t.1)∨∃m,m∈b/\m.Name=t.1
 |_,[],[],_,t,ht=>by rw [mergeL_nil] at ht;cases ht
 |0,_::_,_,h,_,_=>by simp at h
 |0,[],_::_,h,_,_=>by simp at h
 |n+1,x::r,[],h,t,ht=>by
  rw [zTa] at ht
  rcases List.mem_cons.1 ht with rfl|ht
  ·exact .inl ⟨x,uD,rfl⟩
  ·rcases zDw n r [] (by simp at h⊢;omega) t ht with ⟨m,hm,e⟩|k
   ·exact .inl ⟨m,by simp [hm],e⟩
   ·exact .inr k
 |n+1,[],y::s,h,t,ht=>by
  rw [zSz] at ht
  rcases List.mem_cons.1 ht with rfl|ht
  ·exact .inr ⟨y,uD,rfl⟩
  ·rcases zDw n [] s (by simp at h⊢;omega) t ht with k|⟨m,hm,e⟩
   ·exact .inl k
   ·exact .inr ⟨m,by simp [hm],e⟩
 |n+1,x::r,y::s,h,t,ht=>by
  rw [zLm] at ht
  have up:∀(a b:List Mono),(∀m,m∈a->m∈x::r)->(∀m,m∈b->m∈y::s)->((∃m,m∈a/\m.Name=t.1)∨∃m,m∈b/\m.Name=t.1)->(∃m,m∈x::r/\m.Name=t.1)∨∃m,m∈y::s/\m.Name=t.1:=by
   intro a b h1 h2 k
   rcases k with ⟨m,hm,e⟩|⟨m,hm,e⟩
   ·exact .inl ⟨m,h1 m hm,e⟩
   ·exact .inr ⟨m,h2 m hm,e⟩
  have self1:∀m,m∈x::r->m∈x::r:=fun _ h=>h
  have self2:∀m,m∈y::s->m∈y::s:=fun _ h=>h
  have tl1:∀m,m∈r->m∈x::r:=fun m hm=>by simp [hm]
  have tl2:∀m,m∈s->m∈y::s:=fun m hm=>by simp [hm]
  cases h1:fR x.Name y.Name with
  |true=>
   rw [h1,cond_true] at ht
   rcases List.mem_cons.1 ht with rfl|ht
   ·exact .inl ⟨x,uD,rfl⟩
   ·exact up r (y::s) tl1 self2 (zDw n r (y::s) (by simp at h⊢;omega) t ht)
  |false=>
   rw [h1,cond_false] at ht
   cases h2:fR y.Name x.Name with
   |true=>
    rw [h2,cond_true] at ht
    rcases List.mem_cons.1 ht with rfl|ht
    ·exact .inr ⟨y,uD,rfl⟩
    ·exact up (x::r) s self1 tl2 (zDw n (x::r) s (by simp at h⊢;omega) t ht)
   |false=>
    rw [h2,cond_false] at ht
    rcases List.mem_cons.1 ht with rfl|ht
    ·exact .inl ⟨x,uD,rfl⟩
    ·exact up r s tl1 tl2 (zDw n r s (by simp at h⊢;omega) t ht)
theorem sum_rng {l:List Tr} {m:Mono} (h:m∈nZ l):r64 m.By:=by
 unfold nZ at h
 obtain ⟨t,ht,e⟩:=List.mem_filterMap.1 h
 by_cases c:w64 (trV t)=0
 ·rw [if_pos c] at e;cases e
 ·rw [if_neg c] at e;injection e with e;subst e;exact w64_r _
/-! ## One form -/
theorem substR_len (l to_:Lf) (s:ByteArray):(lV l s to_).1.L.length<=l.L.length+to_.L.length:=by
 unfold lV
 split
 ·split
  ·exact Nat.le_add_right _ _
  ·split
   ·unfold rU
    split
    ·show (nZ (vT _ _)).length<=_
     have h1:=sumM_len (dR l.L s) (bX (nU l s).L to_.L)
     have h2:=zQj (nU l s).L to_.L
     have h3:(nU l s).L.length<=l.L.length:=List.length_filter_le _ _
     omega
    ·exact Nat.zero_le _
   ·exact Nat.zero_le _
 ·exact Nat.zero_le _
theorem substR_rng {l to_:Lf} (s:ByteArray) (hl:l.rng):(lV l s to_).1.rng:=by
 unfold lV
 split
 ·split
  ·exact hl
  ·split
   ·unfold rU
    split
    ·rename_i h;exact ⟨h.1,fun m hm=>sum_rng hm⟩
    ·exact zJl
   ·exact zJl
 ·exact zJl
def gIx (g:Lf->Lf) (x:Ix):Ix:=⟨g x.Lin,x.From,x.At.map g⟩
mutual
def gEx (g:Lf->Lf):Ex->Ex
 |.mk o n v t l i arg_=>.mk o n v t (g l) (i.map (gIx g)) (xP g arg_)
def xP (g:Lf->Lf):List Ex->List Ex
 |[]=>[]
 |a::r=>gEx g a::xP g r
end
theorem gExs_map (g:Lf->Lf) (l:List Ex):xP g l=l.map (gEx g):=by
 induction l with
 |nil=>rfl
 |cons a r ih=>rw [xP,ih];rfl
theorem gEx_eq (g:Lf->Lf) (e:Ex):gEx g e=.mk e.Op e.Name e.Val e.Ty (g e.Lin) (e.Idx.map (gIx g)) (e.Args.map (gEx g)):=by
 cases e;rw [gEx,gExs_map];rfl
theorem mLins_g {f:Lf->Lf×Int}:∀{l r:List Lf},gB f l=.ok r->r=l.map (fun x=>(f x).1)/\∀x,x∈l->(f x).2=0
 |[],r,h=>by rw [gB] at h;injection h with h;subst h;exact ⟨rfl,fun x hx=>by cases hx⟩
 |a::t,r,h=>by
  rw [gB] at h
  by_cases c:(f a).2=0
  ·rw [zSd c] at h
   cases hm:gB f t with
   |error y=>rw [hm] at h;cases h
   |ok u=>
    rw [hm] at h
    injection h with h
    subst h
    obtain ⟨h1,h2⟩:=mLins_g hm
    exact ⟨by rw [h1];rfl,fun x hx=>by rcases List.mem_cons.1 hx with rfl|hx;exact c;exact h2 x hx⟩
  ·rw [fE_err c] at h;cases h
theorem mIx_g {f:Lf->Lf×Int} {x y:Ix} (h:mIx f x=.ok y):y=gIx (fun l=>(f l).1) x/\(f x.Lin).2=0/\∀l,l∈x.At->(f l).2=0:=by
 rw [mIx] at h
 by_cases c:(f x.Lin).2=0
 ·rw [zSd c] at h
  cases hm:gB f x.At with
  |error y=>rw [hm] at h;cases h
  |ok u=>
   rw [hm] at h
   injection h with h
   subst h
   obtain ⟨h1,h2⟩:=mLins_g hm
   exact ⟨by rw [h1];rfl,c,h2⟩
 ·rw [fE_err c] at h;cases h
theorem mIxs_g {f:Lf->Lf×Int}:∀{l r:List Ix},fZ f l=.ok r->r=l.map (gIx fun x=>(f x).1)/\∀x,x∈l->(f x.Lin).2=0/\∀y,y∈x.At->(f y).2=0
 |[],r,h=>by rw [fZ] at h;injection h with h;subst h;exact ⟨rfl,fun x hx=>by cases hx⟩
 |a::t,r,h=>by
  rw [fZ] at h
  cases h1:mIx f a with
  |error y=>rw [h1] at h;cases h
  |ok a'=>
   rw [h1] at h
   cases hm:fZ f t with
   |error y=>rw [hm] at h;cases h
   |ok u=>
    rw [hm] at h
    injection h with h
    subst h
    obtain ⟨k1,k2⟩:=mIx_g h1
    obtain ⟨k3,k4⟩:=mIxs_g hm
    exact ⟨by rw [k1,k3];rfl,fun x hx=>by rcases List.mem_cons.1 hx with rfl|hx;exact k2;exact k4 x hx⟩
theorem nodes_allF {P:Lf->Prop} {e:Ex} (h1:∀l,l∈dP e->P l) (h2:∀a,a∈e.Args->a.allF P):e.allF P:=by
 exact o8
mutual
theorem mEx_g {f:Lf->Lf×Int}:∀{e e':Ex},mEx f e=.ok e'->e'=gEx (fun l=>(f l).1) e/\e.allF fun l=>(f l).2=0
 |.mk o n v t l i arg_,e',h=>by
  rw [mEx] at h
  by_cases c:(f l).2=0
  ·rw [zSd c] at h
   cases h1:fZ f i with
   |error y=>rw [h1] at h;cases h
   |ok i'=>
    rw [h1] at h
    cases h2:jK f arg_ with
    |error y=>rw [h2] at h;cases h
    |ok as'=>
     rw [h2] at h
     injection h with h
     subst h
     obtain ⟨k1,k2⟩:=mIxs_g h1
     obtain ⟨k3,k4⟩:=mExs_g h2
     refine ⟨by rw [gEx,k1,k3,gExs_map],nodes_allF ?_ k4⟩
     intro y hy
     unfold dP at hy
     rcases List.mem_cons.1 hy with rfl|hy
     ·exact c
     ·obtain ⟨x,hx,hy⟩:=List.mem_flatMap.1 hy
      rcases List.mem_cons.1 hy with rfl|hy
      ·exact (k2 x hx).1
      ·exact (k2 x hx).2 y hy
  ·rw [fE_err c] at h;cases h
theorem mExs_g {f:Lf->Lf×Int}:∀{l r:List Ex},jK f l=.ok r->r=l.map (gEx fun l=>(f l).1)/\∀a,a∈l->a.allF fun l=>(f l).2=0
 |[],r,h=>by rw [jK] at h;injection h with h;subst h;exact ⟨rfl,fun x hx=>by cases hx⟩
 |a::t,r,h=>by
  rw [jK] at h
  cases h1:mEx f a with
  |error y=>rw [h1] at h;cases h
  |ok a'=>
   rw [h1] at h
   cases hm:jK f t with
   |error y=>rw [hm] at h;cases h
   |ok u=>
    rw [hm] at h
    injection h with h
    subst h
    obtain ⟨k1,k2⟩:=mEx_g h1
    obtain ⟨k3,k4⟩:=mExs_g hm
    exact ⟨by rw [k1,k3];rfl,fun x hx=>by rcases List.mem_cons.1 hx with rfl|hx;exact k2;exact k4 x hx⟩
end
theorem forms_g (g:Lf->Lf) (e:Ex):dP (gEx g e)=(dP e).map g:=by
 rw [gEx_eq]
 show g e.Lin::(e.Idx.map (gIx g)).flatMap (fun x=>x.Lin::x.At)=(e.Lin::e.Idx.flatMap fun x=>x.Lin::x.At).map g
 rw [List.map_cons]
 congr 1
 induction e.Idx with
 |nil=>rfl
 |cons x r ih=>rw [List.map_cons,List.flatMap_cons,List.flatMap_cons,List.map_append,ih];rfl
mutual
theorem nodes_g (g:Lf->Lf):∀e:Ex,bW (gEx g e)=(bW e).map (gEx g)
 |.mk o n v t l i arg_=>by rw [gEx,bW,bW,nodesL_g g arg_,List.map_cons,gEx]
theorem nodesL_g (g:Lf->Lf):∀l:List Ex,bO (xP g l)=(bO l).map (gEx g)
 |[]=>by rw [xP,bO];rfl
 |a::r=>by rw [xP,bO,bO,nodes_g g a,nodesL_g g r,List.map_append]
end
theorem allF_g {g:Lf->Lf} {P:Lf->Prop} {e:Ex} (h:e.allF fun l=>P (g l)):(gEx g e).allF P:=by
 intro x hx l hl
 rw [nodes_g] at hx
 obtain ⟨y,hy,rfl⟩:=List.mem_map.1 hx
 rw [forms_g] at hl
 obtain ⟨k,hk,rfl⟩:=List.mem_map.1 hl
 exact h y hy k hk
theorem linsWt_g {g:Lf->Lf} {c:Nat} (hg:∀l,(g l).L.length<=l.L.length+c):∀l:List Lf,fC (l.map g)<=fC l+c*l.length
 |[]=>by simp [fC]
 |x::r=>by
  rw [List.map_cons,fC,fC,List.length_cons,Nat.mul_succ]
  have:=linsWt_g hg r;have:=hg x;omega
theorem idxWt_g {g:Lf->Lf} {c:Nat} (hg:∀l,(g l).L.length<=l.L.length+c):∀l:List Ix,dL (l.map (gIx g))<=(c+1)*dL l+c*l.length
 |[]=>by simp [dL]
 |x::r=>by
  rw [List.map_cons,dL,dL,List.length_cons,Nat.mul_succ,Nat.mul_add]
  have h1:=idxWt_g hg r
  have h2:=linsWt_g hg x.At
  have h3:=hg x.Lin
  have h4:(gIx g x).wt<=(c+1)*x.wt+c:=by
   show (g x.Lin).L.length+(x.At.map g).length+fC (x.At.map g)<=(c+1)*(x.Lin.L.length+x.At.length+fC x.At)+c
   rw [List.length_map]
   have e:(c+1)*(x.Lin.L.length+x.At.length+fC x.At)=(c*x.Lin.L.length+c*x.At.length+c*fC x.At)+(x.Lin.L.length+x.At.length+fC x.At):=by
    rw [Nat.add_mul,Nat.one_mul,Nat.mul_add,Nat.mul_add]
   omega
  omega
theorem wt_g {g:Lf->Lf} {c:Nat} (hg:∀l,(g l).L.length<=l.L.length+c) (e:Ex):(gEx g e).wt<=(c+1)*e.wt:=by
 induction e using Ex.ind with
 |_ e ih=>
  have key:∀l:List Ex,(∀a,a∈l->(gEx g a).wt<=(c+1)*a.wt)->dY (l.map (gEx g))<=(c+1)*dY l:=by
   intro l
   induction l with
   |nil=>intro _;simp [dY]
   |cons a r ihr=>
    intro h
    rw [List.map_cons,dY,dY,Nat.mul_add]
    have:=h a uD
    have:=ihr fun b hb=>h b (by simp [hb])
    omega
  have h1:=key e.Args ih
  have h2:=idxWt_g hg e.Idx
  have h3:=hg e.Lin
  rw [Ex.wt_eq,Ex.wt_eq,gEx_eq]
  show 1+(g e.Lin).L.length+(e.Idx.map (gIx g)).length+dL (e.Idx.map (gIx g))+dY (e.Args.map (gEx g))<=(c+1)*(1+e.Lin.L.length+e.Idx.length+dL e.Idx+dY e.Args)
  rw [List.length_map]
  have e1:(c+1)*(1+e.Lin.L.length+e.Idx.length+dL e.Idx+dY e.Args)=(c+1)*1+(c+1)*e.Lin.L.length+(c+1)*e.Idx.length+(c+1)*dL e.Idx+(c+1)*dY e.Args:=by
   rw [Nat.mul_add,Nat.mul_add,Nat.mul_add,Nat.mul_add]
  have e2:(c+1)*e.Lin.L.length=c*e.Lin.L.length+e.Lin.L.length:=by rw [Nat.add_mul,Nat.one_mul]
  have e3:(c+1)*e.Idx.length=c*e.Idx.length+e.Idx.length:=by rw [Nat.add_mul,Nat.one_mul]
  omega
end Go.Br
end
section
namespace Go.Br
open Go Go.Eng Go.Proofs Go.L41
structure PO {α:Type} (f:α->α->Int) (a:α):Prop where
 anti:∀b,f b a= -f a b
 rng:∀b,-1<=f a b/\f a b<=1
 cong:∀b,f a b=0->∀c,f a c=f b c
 cong':∀b c,f b c=0->f a b=f a c
 trans:∀b c,f a b<0->f b c<0->f a c<0
theorem PO.zero {α:Type} (a:α):PO (fun _ _=>0) a:=
 ⟨fun _=>rfl,fun _=>⟨by show (-1:Int)<=0;omega,by show (0:Int)<=1;omega⟩,fun _ _ _=>rfl,fun _ _ _=>rfl,fun _ _ h _=>h⟩
end Go.Br
end
section
namespace Go.Br
open Go Go.Eng Go.L41
/-! ## Short names -/
theorem nodes_take {e x:Ex} {k:Nat} (h:e.Args[k]? =some x):(bO (e.Args.take k)).length+(bW x).length+1<=(bW e).length:=by
 have:=congrArg List.length (nodes_at h (x:=x) (pre:=[]) (suf:=bO x.Args) (by rw [kT];rfl))
 rw [kT x]
 simp only [List.length_append,List.length_cons,List.length_nil] at this⊢
 omega
/-! ## Replacing -/
end Go.Br
end
section
namespace Go.Br
open Go Go.Eng Go.L41
def below (s:ByteArray) (x:ByteArray):Bool:=fR x s
theorem hasB_cons (x:ByteArray) (r:List ByteArray) (s:ByteArray):dD (x::r) s=(decide (x=s)||dD r s):=rfl
end Go.Br
end
section
namespace Go.Br
open Go Go.Eng Go.L41
end Go.Br
end
section
namespace Go.Br
open Go Go.Eng Go.L41
/-! ## Numerals -/
def decB (n:Nat):ByteArray:=⟨(Lib.decDigits n).toArray⟩
def nmK (base:ByteArray) (k:Nat):ByteArray:=if k=0 then base else base++decB k
end Go.Br
end
