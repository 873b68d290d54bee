/-
  Sorting and thinning of lists of strings that are the call's own: slices.Sort and slices.Compact,by the shelf's contracts.
  The names that an expression reads,in plain Lean.
  Sums of linear forms,exactly,in plain Lean: numbers of 64 and of 128 bits,merges of ascending lists,substitution.
  The reference's substitution of forms,in plain Lean: the sum,and the mapping of all forms of an expression.
  What the substitution of a form keeps,in plain Lean: valid forms stay valid,the name is gone,the shape of an expression stays.
  The comparison of expressions is a total order,in plain Lean.
  Layer 14 in plain Lean: short names,replacing,the names in forms,the example that every statement checks.
  Loop nests,in plain Lean: buffers,statements,and the cells that hold them.
  What the check of a nest says (30.1),in plain Lean.
  Weights of nests,in plain Lean.
  For the reference's check of nests,in plain Lean.
  Ascending lists of names,one name added at a time,in plain Lean.
  Lifetimes as plain data,and what the functions of the layer compute.
  Layer 41 in plain Lean: what statements touch; the spans of buffers.
  Nests walked and mapped,in plain Lean (30.2,30.3).
  Paths in nests,in plain Lean (30.2).
  Names that are not in use,in plain Lean (30.2): numerals,and the first number that is free.
  A loop renamed to a name that is not in use,in plain Lean (30.3,30.5).
  The example of the laws of layer 30; lengths of paths. In plain Lean.
  A form put for a name in all forms of statements (30.3): what Substitute returns; what Rename of the reference returns.
  A statement on a path replaced by others (30.2).
  Split,peeled and collapsed loops,in plain Lean (36.1 to 36.4).
  What the reference of layer 5 computes,in plain Lean: products,sums of forms.
  What is known of the statements of a valid nest,and of the loop that Find finds.
  Conditions: none.
-/
import Derived.Test.YtlfjpejkoccibaaGreatDoorCfg
import Derived.Test.YtlfjpejkoccibaaGreatDoorEngZ
import Derived.Test.YtlfjpejkoccibaaGreatDoorShelfB
import Derived.Sort.OwnSorted
import Derived.Lib.OwnBridge
import Derived.Test.YtlfjpejkoccibaaGreatDoorPlain
import Derived.Test.YtlfjpejkoccibaaGreatDoorNames
import Derived.Lib.ItoaNum
set_option linter.unusedSimpArgs false
set_option linter.unusedVariables false
section
namespace Go.Br
open Go Go.Eng Go.RowKit Go.Proofs Go.L41
abbrev jZ (l:List ByteArray):List (List C):=l.map fun s=>[cS s]
end Go.Br
end
section
namespace Go.Br
open Go Go.Eng Go.L41
end Go.Br
end
section
namespace Go.Br
open Go Go.Eng Go.L41
/-! ## The order of names -/
theorem bl_cons (a b:UInt8) (x y:List UInt8):Op.bytesLess (a::x) (b::y)=true↔a<b∨(a=b/\Op.bytesLess x y=true):=by
 rw [Op.bytesLess]
 by_cases h1:a<b<;>by_cases h2:a=b<;>simp [h1,h2]
theorem bl_trans:∀(x y z:List UInt8),Op.bytesLess x y=true->Op.bytesLess y z=true->Op.bytesLess x z=true
 |[],[],_,h,_=>by simp [Op.bytesLess] at h
 |[],_::_,[],_,h=>by simp [Op.bytesLess] at h
 |[],_::_,_::_,_,_=>by simp [Op.bytesLess]
 |_::_,[],_,h,_=>by simp [Op.bytesLess] at h
 |_::_,_::_,[],_,h=>by simp [Op.bytesLess] at h
 |a::x,b::y,c::z,h,k=>by
  rw [bl_cons] at h k⊢
  rcases h with h|⟨rfl,h⟩
  ·rcases k with k|⟨rfl,k⟩
   ·exact .inl (UInt8.lt_trans h k)
   ·exact .inl h
  ·rcases k with k|⟨rfl,k⟩
   ·exact .inl k
   ·exact .inr ⟨rfl,bl_trans x y z h k⟩
theorem bl_tri:∀(x y:List UInt8),Op.bytesLess x y=false->Op.bytesLess y x=false->x=y
 |[],[],_,_=>rfl
 |[],_::_,h,_=>by simp [Op.bytesLess] at h
 |_::_,[],_,h=>by simp [Op.bytesLess] at h
 |a::x,b::y,h,k=>by
  have h1:¬Op.bytesLess (a::x) (b::y)=true:=by rw [h];simp
  have k1:¬Op.bytesLess (b::y) (a::x)=true:=by rw [k];simp
  rw [bl_cons] at h1 k1
  have e:a=b:=UInt8.le_antisymm (UInt8.not_lt.1 fun c=>k1 (.inl c)) (UInt8.not_lt.1 fun c=>h1 (.inl c))
  subst e
  have h2:Op.bytesLess x y=false:=by
   cases c:Op.bytesLess x y with
   |false=>rfl
   |true=>exact absurd (.inr ⟨rfl,c⟩) h1
  have k2:Op.bytesLess y x=false:=by
   cases c:Op.bytesLess y x with
   |false=>rfl
   |true=>exact absurd (.inr ⟨rfl,c⟩) k1
  rw [bl_tri x y h2 k2]
theorem bl_irr:∀(x:List UInt8),Op.bytesLess x x=false
 |[]=>by simp [Op.bytesLess]
 |a::x=>by
  cases c:Op.bytesLess (a::x) (a::x) with
  |false=>rfl
  |true=>
   rw [bl_cons] at c
   rcases c with c|⟨_,c⟩
   ·exact absurd c (UInt8.lt_irrefl a)
   ·rw [bl_irr x] at c;cases c
theorem zJj {a b:ByteArray} (h:dD a b=false) (k:dD b a=false):a=b:=by
 have h1:=bl_tri _ _ h k
 rw [ByteArray.toList_eq,ByteArray.toList_eq] at h1
 exact ByteArray.ext (Array.toList_inj.1 h1)
theorem zGs (a:ByteArray):dD a a=false:=bl_irr _
theorem zDv {a b c:ByteArray} (h:dD a b=true) (k:dD b c=true):dD a c=true:=bl_trans _ _ _ h k
/-! ## Numbers -/
def r64 (n:Int):Prop:= -9223372036854775808<=n/\n<=9223372036854775807
instance (n:Int):Decidable (r64 n):=by unfold r64;infer_instance
def w64 (n:Int):Int:=IntKind.i64.wrap n
theorem zJe {n:Int} (h:r64 n):w64 n=n:=IntWalk.i64_in n h
theorem zJf (n:Int):w64 n=(n+9223372036854775808)%18446744073709551616-9223372036854775808:=by unfold w64;rw [IntKind.wrap_i64]
theorem w64_r (n:Int):r64 (w64 n):=by rw [zJf];unfold r64;omega
theorem u64_eq (n:Int):IntKind.u64.wrap n=n%18446744073709551616:=by rw [IntKind.wrap_u64]
theorem plus_ok {a b:Int} (ha:r64 a) (hb:r64 b):decide (decide (a<w64 (a+b))=decide (0<b))=decide (r64 (a+b)):=by
 refine decide_eq_decide.2 ?_
 rw [zJf,decide_eq_decide]
 unfold r64 at *
 omega
theorem sq_le {a b:Nat} (ha:a<=4294967295) (hb:b<=4294967295):a*b<=18446744065119617025:=Nat.mul_le_mul ha hb
def hiN (a b:Nat):Nat:=
 (a/4294967296)*(b/4294967296)+((a/4294967296)*(b%4294967296)+((a%4294967296)*(b%4294967296))/4294967296)/4294967296+
  ((a%4294967296)*(b/4294967296)+((a/4294967296)*(b%4294967296)+((a%4294967296)*(b%4294967296))/4294967296)%4294967296)/4294967296
theorem mul_parts (a b:Nat):a*b=(a/4294967296)*(b/4294967296)*18446744073709551616+((a/4294967296)*(b%4294967296)+(a%4294967296)*(b/4294967296))*4294967296+(a%4294967296)*(b%4294967296):=by
 have ea:a=(a/4294967296)*4294967296+a%4294967296:=by omega
 have eb:b=(b/4294967296)*4294967296+b%4294967296:=by omega
 generalize a/4294967296=a1 at *
 generalize a%4294967296=a0 at *
 generalize b/4294967296=b1 at *
 generalize b%4294967296=b0 at *
 subst ea eb
 rw [Nat.add_mul,Nat.mul_add,Nat.mul_add,Nat.add_mul]
 have e1:a1*4294967296*(b1*4294967296)=a1*b1*18446744073709551616:=by
  rw [Nat.mul_mul_mul_comm]
 have e2:a1*4294967296*b0=a1*b0*4294967296:=by rw [Nat.mul_right_comm]
 have e3:a0*(b1*4294967296)=a0*b1*4294967296:=by rw [Nat.mul_assoc]
 rw [e1,e2,e3]
 omega
theorem hi_lo (a b:Nat):hiN a b*18446744073709551616+(a*b)%18446744073709551616=a*b:=by
 have h:=mul_parts a b
 unfold hiN
 generalize a*b=n at *
 generalize (a/4294967296)*(b/4294967296)=p11 at *
 generalize (a/4294967296)*(b%4294967296)=p10 at *
 generalize (a%4294967296)*(b/4294967296)=p01 at *
 generalize (a%4294967296)*(b%4294967296)=p00 at *
 omega
theorem part_le {a b:Nat} (ha:a<18446744073709551616) (hb:b<18446744073709551616):
  (a/4294967296)*(b/4294967296)<=18446744065119617025/\(a/4294967296)*(b%4294967296)<=18446744065119617025/\(a%4294967296)*(b/4294967296)<=18446744065119617025/\(a%4294967296)*(b%4294967296)<=18446744065119617025:=
 ⟨sq_le (by omega) (by omega),sq_le (by omega) (by omega),sq_le (by omega) (by omega),sq_le (by omega) (by omega)⟩
theorem hi_zero {a b:Nat}:hiN a b=0↔a*b<18446744073709551616:=by
 have h:=hi_lo a b
 constructor
 ·intro e;rw [e] at h;omega
 ·intro e
  by_cases c:hiN a b=0
  ·exact c
  ·exfalso;generalize a*b=n at *;generalize hiN a b=m at *;omega
theorem hi_bounds {a b:Nat} (ha:a<18446744073709551616) (hb:b<18446744073709551616):
  (a/4294967296)*(b%4294967296)+((a%4294967296)*(b%4294967296))/4294967296<18446744073709551616/\
  (a%4294967296)*(b/4294967296)+((a/4294967296)*(b%4294967296)+((a%4294967296)*(b%4294967296))/4294967296)%4294967296<18446744073709551616/\
  (a/4294967296)*(b/4294967296)+((a/4294967296)*(b%4294967296)+((a%4294967296)*(b%4294967296))/4294967296)/4294967296<18446744073709551616/\hiN a b<18446744073709551616:=by
 obtain ⟨h1,h2,h3,h4⟩:=part_le ha hb
 have h5:=hi_lo a b
 have h6:a*b<=18446744073709551615*18446744073709551615:=Nat.mul_le_mul (by omega) (by omega)
 refine ⟨?_,?_,?_,?_⟩
 ·generalize (a/4294967296)*(b%4294967296)=p10 at *
  generalize (a%4294967296)*(b%4294967296)=p00 at *
  omega
 ·generalize (a/4294967296)*(b%4294967296)=p10 at *
  generalize (a%4294967296)*(b/4294967296)=p01 at *
  generalize (a%4294967296)*(b%4294967296)=p00 at *
  omega
 ·generalize (a/4294967296)*(b/4294967296)=p11 at *
  generalize (a/4294967296)*(b%4294967296)=p10 at *
  generalize (a%4294967296)*(b%4294967296)=p00 at *
  omega
 ·generalize a*b=n at *
  generalize hiN a b=m at *
  omega
def dI (x y:Int):Int×Bool:=if r64 (x*y) then (x*y,true) else (0,false)
theorem zSi {x:Int} (h:r64 x) (hn:x<0):IntKind.u64.wrap (-(IntKind.u64.wrap x))=(x.natAbs:Int):=by
 unfold r64 at h;rw [u64_eq,u64_eq];omega
theorem zSh {x:Int} (h:r64 x) (hn:¬x<0):IntKind.u64.wrap x=(x.natAbs:Int):=by
 unfold r64 at h;rw [u64_eq];omega
theorem zQd {x:Int} (h:r64 x):x.natAbs<=9223372036854775808:=by unfold r64 at h;omega
theorem zLb (x y:Int):(x*y).natAbs=x.natAbs*y.natAbs:=Int.natAbs_mul x y
theorem sign_mul {x y:Int} (hx:x<0) (hy:¬y<0):x*y<=0:=Int.mul_nonpos_of_nonpos_of_nonneg (by omega) (by omega)
theorem sign_mul2 {x y:Int} (hx:¬x<0) (hy:y<0):x*y<=0:=Int.mul_nonpos_of_nonneg_of_nonpos (by omega) (by omega)
theorem sign_mul3 {x y:Int} (hx:x<0) (hy:y<0):0<=x*y:=Int.mul_nonneg_of_nonpos_of_nonpos (by omega) (by omega)
theorem sign_mul4 {x y:Int} (hx:¬x<0) (hy:¬y<0):0<=x*y:=Int.mul_nonneg (by omega) (by omega)
theorem neg_mul {x y:Int} (h:(decide (x<0)==decide (y<0))=false):x*y<=0:=by
 by_cases hx:x<0<;>by_cases hy:y<0
 ·simp [hx,hy] at h
 ·exact sign_mul hx hy
 ·exact sign_mul2 hx hy
 ·simp [hx,hy] at h
theorem pos_mul {x y:Int} (h:(decide (x<0)==decide (y<0))=true):0<=x*y:=by
 by_cases hx:x<0<;>by_cases hy:y<0
 ·exact sign_mul3 hx hy
 ·simp [hx,hy] at h
 ·simp [hx,hy] at h
 ·exact sign_mul4 hx hy
theorem times_big {x y:Int} (hx:r64 x) (hy:r64 y) (h:hiN x.natAbs y.natAbs≠0∨9223372036854775808<x.natAbs*y.natAbs%18446744073709551616):dI x y=(0,false):=by
 unfold dI
 refine if_neg fun k=>?_
 have h1:=zLb x y
 unfold r64 at k
 have h2:x.natAbs*y.natAbs<18446744073709551616:=by rw [←h1];omega
 rcases h with h|h
 ·exact h (hi_zero.2 h2)
 ·rw [Nat.mod_eq_of_lt h2,←h1] at h;omega
theorem times_edge {x y:Int} (h:(decide (x<0)==decide (y<0))=true) (h2:x.natAbs*y.natAbs%18446744073709551616=9223372036854775808):dI x y=(0,false):=by
 unfold dI
 refine if_neg fun k=>?_
 have h1:=zLb x y
 have h3:=pos_mul h
 unfold r64 at k
 rw [←h1] at h2
 omega
theorem times_neg {x y:Int} (h:(decide (x<0)==decide (y<0))=false) (h0:hiN x.natAbs y.natAbs=0) (hl:x.natAbs*y.natAbs%18446744073709551616<=9223372036854775808):dI x y=(IntKind.i64.wrap (IntKind.u64.wrap (-((x.natAbs*y.natAbs%18446744073709551616:Nat):Int))),true):=by
 have h1:=zLb x y
 have h3:=neg_mul h
 have h4:=hi_zero.1 h0
 rw [Nat.mod_eq_of_lt h4] at hl⊢
 rw [←h1] at hl⊢
 unfold dI
 rw [if_pos (by unfold r64;omega),u64_eq]
 congr 1
 show _=w64 _
 rw [zJf];omega
theorem times_pos {x y:Int} (h:(decide (x<0)==decide (y<0))=true) (h0:hiN x.natAbs y.natAbs=0) (hl:x.natAbs*y.natAbs%18446744073709551616<9223372036854775808):dI x y=(IntKind.i64.wrap ((x.natAbs*y.natAbs%18446744073709551616:Nat):Int),true):=by
 have h1:=zLb x y
 have h3:=pos_mul h
 have h4:=hi_zero.1 h0
 rw [Nat.mod_eq_of_lt h4] at hl⊢
 rw [←h1] at hl⊢
 unfold dI
 rw [if_pos (by unfold r64;omega)]
 congr 1
 show _=w64 _
 rw [zJf];omega
theorem times_f {x y:Int} (hx:r64 x) (hy:r64 y) (c:(¬((hiN x.natAbs y.natAbs:Nat):Int)=0∨9223372036854775808<((x.natAbs*y.natAbs%18446744073709551616:Nat):Int))∨((x.natAbs*y.natAbs%18446744073709551616:Nat):Int)=9223372036854775808/\(decide (x<0)==decide (y<0))=true):dI x y=(0,false):=by
 rcases c with (c|c)|⟨c,d⟩
 ·exact times_big hx hy (.inl (by omega))
 ·exact times_big hx hy (.inr (by omega))
 ·exact times_edge d (by omega)
def sK (a b:Nat):Nat:=(a%4294967296)*(b%4294967296)/4294967296+(a/4294967296)*(b%4294967296)%4294967296+(a%4294967296)*(b/4294967296)%4294967296
def wHi (a b:Nat):Nat:=(a/4294967296)*(b/4294967296)+(a/4294967296)*(b%4294967296)/4294967296+(a%4294967296)*(b/4294967296)/4294967296+sK a b/4294967296
def wLo (a b:Nat):Nat:=sK a b%4294967296*4294967296+(a%4294967296)*(b%4294967296)%4294967296
theorem wide_eq (a b:Nat):wHi a b=a*b/18446744073709551616/\wLo a b=a*b%18446744073709551616:=by
 have h:=mul_parts a b
 unfold wHi wLo sK
 generalize a*b=n at *
 generalize (a/4294967296)*(b/4294967296)=p11 at *
 generalize (a/4294967296)*(b%4294967296)=p10 at *
 generalize (a%4294967296)*(b/4294967296)=p01 at *
 generalize (a%4294967296)*(b%4294967296)=p00 at *
 omega
theorem zTk {x y:Int} (hx:r64 x) (hy:r64 y):x.natAbs*y.natAbs<=85070591730234615865843651857942052864:=Nat.mul_le_mul (zQd hx) (zQd hy)
theorem wide_lt {x y:Int} (hx:r64 x) (hy:r64 y):wHi x.natAbs y.natAbs<18446744073709551616/\wLo x.natAbs y.natAbs<18446744073709551616:=by
 obtain ⟨h1,h2⟩:=wide_eq x.natAbs y.natAbs
 have:=zTk hx hy
 rw [h1,h2];omega
theorem zRt {x y:Int} (hx:r64 x) (hy:r64 y) (h:(decide (x<0)==decide (y<0))=true):IntKind.i64.wrap ((wHi x.natAbs y.natAbs:Nat):Int)=(x*y)/18446744073709551616/\wLo x.natAbs y.natAbs=((x*y)%18446744073709551616).toNat:=by
 obtain ⟨h1,h2⟩:=wide_eq x.natAbs y.natAbs
 have h3:=pos_mul h
 have h4:=zLb x y
 have h5:=zTk hx hy
 show w64 _=_/\_
 rw [h1,h2,zJf,←h4] at *
 generalize x*y=z at *
 omega
theorem zNc {x y:Int} (hx:r64 x) (hy:r64 y) (h:(decide (x<0)==decide (y<0))=false) (h0:(18446744073709551616-wLo x.natAbs y.natAbs)%18446744073709551616=0):IntKind.i64.wrap (((18446744073709551615-wHi x.natAbs y.natAbs+1)%18446744073709551616:Nat):Int)=(x*y)/18446744073709551616/\(18446744073709551616-wLo x.natAbs y.natAbs)%18446744073709551616=((x*y)%18446744073709551616).toNat:=by
 obtain ⟨h1,h2⟩:=wide_eq x.natAbs y.natAbs
 have h3:=neg_mul h
 have h4:=zLb x y
 have h5:=zTk hx hy
 show w64 _=_/\_
 rw [h2,←h4] at h0
 rw [←h4] at h5
 rw [h1,h2,zJf,←h4]
 clear h1 h2 h4 h
 generalize x*y=z at *
 omega
theorem zNb {x y:Int} (hx:r64 x) (hy:r64 y) (h:(decide (x<0)==decide (y<0))=false) (h0:¬(18446744073709551616-wLo x.natAbs y.natAbs)%18446744073709551616=0):IntKind.i64.wrap ((18446744073709551615-wHi x.natAbs y.natAbs:Nat):Int)=(x*y)/18446744073709551616/\(18446744073709551616-wLo x.natAbs y.natAbs)%18446744073709551616=((x*y)%18446744073709551616).toNat:=by
 obtain ⟨h1,h2⟩:=wide_eq x.natAbs y.natAbs
 have h3:=neg_mul h
 have h4:=zLb x y
 have h5:=zTk hx hy
 show w64 _=_/\_
 rw [h2,←h4] at h0
 rw [←h4] at h5
 rw [h1,h2,zJf,←h4]
 clear h1 h2 h4 h
 generalize x*y=z at *
 omega
theorem prod_bd {x y:Int} (hx:r64 x) (hy:r64 y): -4611686018427387904<=x*y/18446744073709551616/\x*y/18446744073709551616<=4611686018427387904:=by
 have h5:=zTk hx hy
 have h4:=zLb x y
 rw [←h4] at h5
 generalize x*y=z at *
 omega
theorem zTd {a z k S:Int} (h0:0<=S) (h1:S<18446744073709551616) (h:k*18446744073709551616+S=a+z):
  V.tup [vI (IntKind.i64.wrap S),vB (decide (k=0)&&decide (0<=IntKind.i64.wrap S)||decide (k= -1)&&decide (IntKind.i64.wrap S<0))]=V.tup [vI (w64 (a+z)),vB (decide (r64 (a+z)))]:=by
 have e:IntKind.i64.wrap S=(S+9223372036854775808)%18446744073709551616-9223372036854775808:=zJf S
 have e1:w64 (a+z)=IntKind.i64.wrap S:=by rw [zJf,e];omega
 have e2:(decide (k=0)&&decide (0<=IntKind.i64.wrap S)||decide (k= -1)&&decide (IntKind.i64.wrap S<0))=decide (r64 (a+z)):=by
  rw [e]
  by_cases c:r64 (a+z)
  ·rw [decide_eq_true c]
   unfold r64 at c
   by_cases d:k=0
   ·rw [decide_eq_true d,decide_eq_true (by omega)];rfl
   ·rw [decide_eq_false d,decide_eq_true (show k= -1 by omega),decide_eq_true (show (S+9223372036854775808)%18446744073709551616-9223372036854775808<0 by omega)];rfl
  ·rw [decide_eq_false c]
   unfold r64 at c
   by_cases d:k=0
   ·rw [decide_eq_true d,decide_eq_false (show ¬k= -1 by omega),decide_eq_false (by omega)];rfl
   ·rw [decide_eq_false d]
    by_cases f:k= -1
    ·rw [decide_eq_true f,decide_eq_false (show ¬(S+9223372036854775808)%18446744073709551616-9223372036854775808<0 by omega)];rfl
    ·rw [decide_eq_false f];rfl
 rw [e1,e2]
theorem zTc {a z:Int} (ha:r64 a):∃S,S=IntKind.u64.wrap (((z%18446744073709551616).toNat:Int)+IntKind.u64.wrap a)/\0<=S/\S<18446744073709551616/\S=((z%18446744073709551616)+a%18446744073709551616)%18446744073709551616/\((z%18446744073709551616).toNat:Int)=z%18446744073709551616:=by
 refine ⟨_,rfl,?_⟩
 rw [u64_eq,u64_eq]
 omega
/-! ## Merges -/
abbrev Tr:=ByteArray×Int×Int
def fA:Nat->List Mono->List Mono->List Tr
 |0,_,_=>[]
 |_+1,[],[]=>[]
 |n+1,a::ar,[]=>(a.Name,a.By,0)::fA n ar []
 |n+1,[],b::bs=>(b.Name,0,b.By)::fA n [] bs
 |n+1,a::ar,b::bs=>
  bif dD a.Name b.Name then (a.Name,a.By,0)::fA n ar (b::bs)
  else bif dD b.Name a.Name then (b.Name,0,b.By)::fA n (a::ar) bs
  else (a.Name,a.By,b.By)::fA n ar bs
theorem zAl:∀(n:Nat) (a b:List Mono),a.length+b.length<=n->fA n a b=fA (a.length+b.length) a b
 |0,a,b,h=>by rw [show a.length+b.length=0 by omega]
 |n+1,[],[],_=>rfl
 |n+1,a::ar,[],h=>by
  have ih:=zAl n ar [] (by simp at h⊢;omega)
  show (a.Name,a.By,0)::fA n ar []=(a.Name,a.By,0)::fA (ar.length) ar []
  rw [ih];rfl
 |n+1,[],b::bs,h=>by
  have ih:=zAl n [] bs (by simp at h⊢;omega)
  have e:([]:List Mono).length+(b::bs).length=bs.length+1:=by simp
  rw [e,fA,fA,ih];simp
 |n+1,a::ar,b::bs,h=>by
  have h':ar.length+1+(bs.length+1)<=n+1:=by simpa using h
  have i1:=zAl n ar (b::bs) (by simp;omega)
  have i2:=zAl n (a::ar) bs (by simp;omega)
  have i3:=zAl n ar bs (by omega)
  have j1:=zAl (ar.length+bs.length+1) ar (b::bs) (by simp;omega)
  have j2:=zAl (ar.length+bs.length+1) (a::ar) bs (by simp;omega)
  have j3:=zAl (ar.length+bs.length+1) ar bs (by omega)
  have e:(a::ar).length+(b::bs).length=(ar.length+bs.length+1)+1:=by simp;omega
  rw [e,fA,fA,i1,i2,i3,j1,j2,j3]
def bG (a b:List Mono):List Tr:=fA (a.length+b.length) a b
theorem zQc:bG [] []=[]:=rfl
theorem zId (a:Mono) (ar:List Mono):bG (a::ar) []=(a.Name,a.By,0)::bG ar []:=rfl
theorem zIc (b:Mono) (bs:List Mono):bG [] (b::bs)=(b.Name,0,b.By)::bG [] bs:=by
 unfold bG;rw [show ([]:List Mono).length+(b::bs).length=bs.length+1 by simp,fA];simp
theorem zDj (a b:Mono) (ar bs:List Mono):bG (a::ar) (b::bs)=bif dD a.Name b.Name then (a.Name,a.By,0)::bG ar (b::bs) else bif dD b.Name a.Name then (b.Name,0,b.By)::bG (a::ar) bs else (a.Name,a.By,b.By)::bG ar bs:=by
 unfold bG
 rw [show (a::ar).length+(b::bs).length=(ar.length+bs.length+1)+1 by simp;omega,fA]
 rw [zAl _ ar (b::bs) (by simp;omega),zAl _ (a::ar) bs (by simp;omega),zAl _ ar bs (by omega)]
theorem zCf (a b:List Mono):(bG a b).length<=a.length+b.length:=by
 have:∀(n:Nat) (a b:List Mono),(fA n a b).length<=n:=by
  intro n
  induction n with
  |zero=>intro a b;simp [fA]
  |succ n ih=>
   intro a b
   cases a with
   |nil=>
    cases b with
    |nil=>simp [fA]
    |cons b bs=>simp only [fA,List.length_cons];have:=ih [] bs;omega
   |cons a ar=>
    cases b with
    |nil=>simp only [fA,List.length_cons];have:=ih ar [];omega
    |cons b bs=>
     have h1:=ih ar (b::bs)
     have h2:=ih (a::ar) bs
     have h3:=ih ar bs
     simp only [fA]
     cases dD a.Name b.Name<;>cases dD b.Name a.Name<;>simp only [cond_true,cond_false,List.length_cons]<;>omega
 exact this _ a b
def hdM (l:List Mono):Mono:=l.headD ⟨bs [],0⟩
theorem zKk {l:List Mono} (h:0<l.length):l[0]? =some (hdM l):=by
 cases l with
 |nil=>simp at h
 |cons x r=>rfl
def mC2 (a b:List Mono):Bool:=decide ((b.length:Int)=0)||(decide ((0:Int)<a.length)&&dD (hdM a).Name (hdM b).Name)
def mC3 (a b:List Mono):Bool:=decide ((a.length:Int)=0)||dD (hdM b).Name (hdM a).Name
theorem mC2_b {a b:List Mono} (c:mC2 a b=false):0<b.length:=by
 unfold mC2 at c
 cases b with
 |nil=>simp at c
 |cons y s=>simp
theorem merge_left {a b:List Mono} (h:0<a.length∨0<b.length) (c:mC2 a b=true):0<a.length/\bG a b=((hdM a).Name,(hdM a).By,0)::bG (a.drop 1) b:=by
 unfold mC2 at c
 cases a with
 |nil=>
  cases b with
  |nil=>simp at h
  |cons y s=>simp at c;omega
 |cons x r=>
  refine ⟨by simp,?_⟩
  cases b with
  |nil=>rw [zId];rfl
  |cons y s=>
   have c2:dD x.Name y.Name=true:=by
    rw [Bool.or_eq_true,Bool.and_eq_true,decide_eq_true_eq] at c
    rcases c with c|c
    ·simp at c;omega
    ·exact c.2
   rw [zDj,c2];rfl
theorem merge_right {a b:List Mono} (h:0<a.length∨0<b.length) (c:mC2 a b=false) (c3:mC3 a b=true):0<b.length/\bG a b=((hdM b).Name,0,(hdM b).By)::bG a (b.drop 1):=by
 unfold mC2 at c
 unfold mC3 at c3
 cases b with
 |nil=>simp at c
 |cons y s=>
  refine ⟨by simp,?_⟩
  cases a with
  |nil=>rw [zIc];rfl
  |cons x r=>
   have c2:dD x.Name y.Name=false:=by
    rw [Bool.or_eq_false_iff,Bool.and_eq_false_iff] at c
    rcases c.2 with c|c
    ·simp at c
    ·exact c
   have c4:dD y.Name x.Name=true:=by
    rw [Bool.or_eq_true,decide_eq_true_eq] at c3
    rcases c3 with c|c
    ·simp at c;omega
    ·exact c
   rw [zDj,c2,c4];rfl
theorem merge_both {a b:List Mono} (c:mC2 a b=false) (c3:mC3 a b=false):0<a.length/\0<b.length/\bG a b=((hdM a).Name,(hdM a).By,(hdM b).By)::bG (a.drop 1) (b.drop 1):=by
 unfold mC2 at c
 unfold mC3 at c3
 cases b with
 |nil=>simp at c
 |cons y s=>
  cases a with
  |nil=>simp at c3
  |cons x r=>
   refine ⟨by simp,by simp,?_⟩
   have c2:dD x.Name y.Name=false:=by
    rw [Bool.or_eq_false_iff,Bool.and_eq_false_iff] at c
    rcases c.2 with c|c
    ·simp at c
    ·exact c
   have c4:dD y.Name x.Name=false:=by
    rw [Bool.or_eq_false_iff] at c3
    exact c3.2
   rw [zDj,c2,c4];rfl
/-! ## Sums -/
def trV (t:Tr):Int:=t.2.1+t.2.2
def sU (t:Tr):Bool:=decide (r64 (trV t))
def lM (ts:List Tr):List Mono:=ts.filterMap fun t=>if w64 (trV t)=0 then none else some ⟨t.1,w64 (trV t)⟩
theorem zEg (d:List Tr) (t:Tr):lM (d++[t])=lM d++(if w64 (trV t)=0 then [] else [⟨t.1,w64 (trV t)⟩]):=by
 unfold lM;rw [List.filterMap_append];congr 1
 by_cases h:w64 (trV t)=0<;>simp [h]
theorem zRy (d:List Tr):(lM d).length<=d.length:=List.length_filterMap_le _ _
def okF (ok:Bool) (d:List Tr):Bool:=d.foldl (fun b t=>b&&decide (r64 (t.2.1+t.2.2))) ok
theorem zGe (ok:Bool) (d:List Tr) (t:Tr):okF ok (d++[t])=(okF ok d&&decide (r64 (t.2.1+t.2.2))):=by unfold okF;rw [List.foldl_append];rfl
theorem okF_all (ok:Bool) (d:List Tr):okF ok d=(ok&&d.all sU):=by
 induction d generalizing ok with
 |nil=>simp [okF]
 |cons t r ih=>
  show okF (ok&&sU t) r=_
  rw [ih,List.all_cons,Bool.and_assoc]
theorem zFg:∀(n:Nat) (a b:List Mono),(∀m,m∈a->r64 m.By)->(∀m,m∈b->r64 m.By)->∀t,t∈fA n a b->r64 t.2.1/\r64 t.2.2
 |0,_,_,_,_,t,ht=>by simp [fA] at ht
 |_+1,[],[],_,_,t,ht=>by simp [fA] at ht
 |n+1,x::r,[],h1,h2,t,ht=>by
  simp only [fA] at ht
  rcases List.mem_cons.1 ht with rfl|ht
  ·exact ⟨h1 x (by simp),by show r64 0;unfold r64;omega⟩
  ·exact zFg n r [] (fun m hm=>h1 m (by simp [hm])) h2 t ht
 |n+1,[],y::s,h1,h2,t,ht=>by
  simp only [fA] at ht
  rcases List.mem_cons.1 ht with rfl|ht
  ·exact ⟨by show r64 0;unfold r64;omega,h2 y (by simp)⟩
  ·exact zFg n [] s h1 (fun m hm=>h2 m (by simp [hm])) t ht
 |n+1,x::r,y::s,h1,h2,t,ht=>by
  have g1:=zFg n r (y::s) (fun m hm=>h1 m (by simp [hm])) h2 t
  have g2:=zFg n (x::r) s h1 (fun m hm=>h2 m (by simp [hm])) t
  have g3:=zFg n r s (fun m hm=>h1 m (by simp [hm])) (fun m hm=>h2 m (by simp [hm])) t
  have z0:r64 0:=by unfold r64;omega
  simp only [fA] at ht
  cases c1:dD x.Name y.Name with
  |true=>
   rw [c1,cond_true] at ht
   rcases List.mem_cons.1 ht with rfl|ht
   ·exact ⟨h1 x (by simp),z0⟩
   ·exact g1 ht
  |false=>
   rw [c1,cond_false] at ht
   cases c2:dD y.Name x.Name with
   |true=>
    rw [c2,cond_true] at ht
    rcases List.mem_cons.1 ht with rfl|ht
    ·exact ⟨z0,h2 y (by simp)⟩
    ·exact g2 ht
   |false=>
    rw [c2,cond_false] at ht
    rcases List.mem_cons.1 ht with rfl|ht
    ·exact ⟨h1 x (by simp),h2 y (by simp)⟩
    ·exact g3 ht
theorem merge_rng {a b:List Mono} (h1:∀m,m∈a->r64 m.By) (h2:∀m,m∈b->r64 m.By) {d s:List Tr} {t:Tr} (h:bG a b=d++t::s):r64 t.2.1/\r64 t.2.2/\d.length<=a.length+b.length:=by
 have h3:=zCf a b
 rw [h] at h3
 simp only [List.length_append,List.length_cons] at h3
 obtain ⟨k1,k2⟩:=zFg _ a b h1 h2 t (by rw [show fA (a.length+b.length) a b=bG a b from rfl,h];simp)
 exact ⟨k1,k2,by omega⟩
def lT (k:Int) (ts:List Tr):Lf×Int:=if r64 k/\ts.all sU=true then (⟨k,lM ts⟩,0) else (zL,3)
def jI (a b:Lf):Lf×Int:=if bJ a=true/\bJ b=true then lT (a.K+b.K) (bG a.L b.L) else (zL,1)
theorem add_bad {a b:Lf} (h:¬(bJ a=true/\bJ b=true)):jI a b=(zL,1):=by unfold jI;rw [if_neg h]
theorem add_c1 {a b:Lf} (c:¬gR a=0∨¬gR b=0):jI a b=(zL,1):=add_bad fun h=>by
 rcases c with c|c
 ·have:=zKi c;rw [h.1] at this;cases this
 ·have:=zKi c;rw [h.2] at this;cases this
theorem add_no {a b:Lf} (h1:bJ a=true) (h2:bJ b=true) (h:okF (decide (r64 (a.K+b.K))) (bG a.L b.L)=false):jI a b=(zL,3):=by
 unfold jI lT
 rw [if_pos ⟨h1,h2⟩,if_neg fun k=>?_]
 rw [okF_all,decide_eq_true k.1,k.2] at h
 cases h
theorem add_ok {a b:Lf} (h1:bJ a=true) (h2:bJ b=true) (h:okF (decide (r64 (a.K+b.K))) (bG a.L b.L)=true):jI a b=(⟨w64 (a.K+b.K),lM (bG a.L b.L)⟩,0):=by
 rw [okF_all,Bool.and_eq_true,decide_eq_true_eq] at h
 unfold jI lT
 rw [if_pos ⟨h1,h2⟩,if_pos h,zJe h.1]
def lH (by_:Int) (l:List Mono):List Mono:=l.map fun m=>⟨m.Name,m.By*by_⟩
def fT (by_:Int) (l:List Mono):Bool:=l.all fun m=>decide (r64 (m.By*by_))
def dF (a:Lf) (by_:Int):Lf×Int:=if bJ a=true then (if by_=0 then (zL,0) else if r64 (a.K*by_)/\fT by_ a.L=true then (⟨a.K*by_,lH by_ a.L⟩,0) else (zL,3)) else (zL,1)
def lQ (l:Lf) (s:ByteArray):Lf:=⟨l.K,l.L.filter fun m=> !decide (m.Name=s)⟩
def bS (l:List Mono) (s:ByteArray):Int:=l.foldl (fun by_ m=>if m.Name=s then m.By else by_) 0
def mD (l:Lf) (s:ByteArray) (to_:Lf):Lf×Int:=
 if bJ l=true/\bD s=true/\bJ to_=true then (if (dF to_ (bS l.L s)).2=0 then jI (lQ l s) (dF to_ (bS l.L s)).1 else (zL,(dF to_ (bS l.L s)).2)) else (zL,1)
def jW (by_:Int) (ts:List Tr):List Tr:=ts.map fun t=>(t.1,t.2.1,t.2.2*by_)
def bI (l:Lf) (s:ByteArray) (to_:Lf):Lf×Int:=
 if bJ l=true/\bJ to_=true/\bD s=true then
  (if bS l.L s=0 then (l,0) else if r64 (to_.K*bS l.L s)/\fT (bS l.L s) to_.L=true then lT (l.K+to_.K*bS l.L s) (jW (bS l.L s) (bG (lQ l s).L to_.L)) else (zL,3))
 else (zL,1)
def lP (by_:Int) (l:List Mono):List Mono:=l.map fun m=>⟨m.Name,(dI m.By by_).1⟩
def mE (by_:Int) (l:List Mono):Bool:=l.all fun m=>(dI m.By by_).2
theorem scaleW_len (by_:Int) (l:List Mono):(lP by_ l).length=l.length:=by simp [lP]
theorem scaleW_next {by_:Int} {l:List Mono} {k:Nat} {x:Mono} (h:l[k]? =some x):lP by_ (l.take (k+1))=lP by_ (l.take k)++[⟨x.Name,(dI x.By by_).1⟩]:=by unfold lP;rw [yL h,List.map_append];rfl
theorem scaleB_next {by_:Int} {l:List Mono} {k:Nat} {x:Mono} (h:l[k]? =some x):mE by_ (l.take (k+1))=(mE by_ (l.take k)&&(dI x.By by_).2):=by unfold mE;rw [yL h,List.all_append];simp
theorem timesT_2 (x y:Int):(dI x y).2=decide (r64 (x*y)):=by unfold dI;by_cases h:r64 (x*y)<;>simp [h]
theorem timesT_1 {x y:Int} (h:r64 (x*y)):(dI x y).1=x*y:=by unfold dI;rw [if_pos h]
theorem scaleOk_next {by_:Int} {l:List Mono} {k:Nat} {x:Mono} (h:l[k]? =some x) (hp:fT by_ (l.take k)=true) (hx:r64 (x.By*by_)):fT by_ (l.take (k+1))=true:=by
 unfold fT at *;rw [yL h,List.all_append,hp];simp [hx]
theorem scaleOk_no {by_:Int} {l:List Mono} {k:Nat} {x:Mono} (h:l[k]? =some x) (hx:¬r64 (x.By*by_)):fT by_ l=false:=by
 unfold fT;rw [List.all_eq_false];exact ⟨x,zZ h,by simp [hx]⟩
theorem scaleB_ok (by_:Int) (l:List Mono):mE by_ l=fT by_ l:=by unfold mE fT;congr 1;funext m;exact timesT_2 _ _
theorem scaleW_ok {by_:Int} {l:List Mono} (h:fT by_ l=true):lP by_ l=lH by_ l:=by
 unfold fT at h
 rw [List.all_eq_true] at h
 unfold lP lH
 refine List.map_congr_left fun m hm=>?_
 rw [timesT_1 (by simpa using h m hm)]
theorem scale_ok {l:Lf} {by_:Int} (h1:bJ l=true) (h2:¬by_=0) (h3:(dI l.K by_).2=true/\mE by_ l.L=true):dF l by_=(⟨(dI l.K by_).1,lP by_ l.L⟩,0):=by
 rw [timesT_2,decide_eq_true_eq,scaleB_ok] at h3
 unfold dF
 rw [if_pos h1,if_neg h2,if_pos h3,timesT_1 h3.1,scaleW_ok h3.2]
theorem scale_no {l:Lf} {by_:Int} (h1:bJ l=true) (h2:¬by_=0) (h3:(dI l.K by_).2=false∨mE by_ l.L=false):dF l by_=(zL,3):=by
 unfold dF
 rw [if_pos h1,if_neg h2,if_neg fun h=>?_]
 rw [timesT_2,scaleB_ok,decide_eq_true h.1,h.2] at h3
 rcases h3 with h3|h3<;>cases h3
theorem scale_zero {l:Lf} {by_:Int} (h1:bJ l=true) (h2:by_=0):dF l by_=(zL,0):=by unfold dF;rw [if_pos h1,if_pos h2]
theorem scale_bad {l:Lf} {by_:Int} (h1:bJ l=false):dF l by_=(zL,1):=by unfold dF;rw [if_neg (by rw [h1];simp)]
theorem zDa (by_:Int):∀(n:Nat) (a b:List Mono),a.length+b.length<=n->bG a (lH by_ b)=jW by_ (bG a b)
 |_,[],[],_=>rfl
 |0,_::_,_,h=>by simp at h
 |0,[],_::_,h=>by simp at h
 |n+1,a::ar,[],h=>by
  have ih:=zDa by_ n ar [] (by simp at h⊢;omega)
  show bG (a::ar) []=_
  rw [zId]
  show _=(a.Name,a.By,0*by_)::jW by_ (bG ar [])
  rw [←ih,Int.zero_mul];rfl
 |n+1,[],b::bs,h=>by
  have ih:=zDa by_ n [] bs (by simp at h⊢;omega)
  show bG [] (⟨b.Name,b.By*by_⟩::lH by_ bs)=_
  rw [zIc,zIc,ih];rfl
 |n+1,a::ar,b::bs,h=>by
  have h':ar.length+1+(bs.length+1)<=n+1:=by simpa using h
  have i1:=zDa by_ n ar (b::bs) (by simp;omega)
  have i2:=zDa by_ n (a::ar) bs (by simp;omega)
  have i3:=zDa by_ n ar bs (by omega)
  have e:lH by_ (b::bs)=⟨b.Name,b.By*by_⟩::lH by_ bs:=rfl
  rw [e] at i1⊢
  rw [zDj,zDj,i1,i2,i3]
  cases dD a.Name b.Name<;>cases dD b.Name a.Name<;>simp [jW]
theorem zIi {l:List Mono} {k:Nat} {x:Mono} {s:ByteArray} (h:l[k]? =some x):bS (l.take (k+1)) s=if x.Name=s then x.By else bS (l.take k) s:=by
 unfold bS;rw [yL h,List.foldl_append];rfl
theorem zNu {l:List Mono} {k:Nat} {x:Mono} {s:ByteArray} (h:l[k]? =some x):(l.take (k+1)).filter (fun m=> !decide (m.Name=s))=(l.take k).filter (fun m=> !decide (m.Name=s))++(if x.Name=s then [] else [x]):=by
 rw [yL h,List.filter_append];by_cases e:x.Name=s<;>simp [e]
theorem zHa:∀{p:Option ByteArray} {l:List Mono},bL p l=true->∀m,m∈l->m.By≠0/\bD m.Name=true
 |_,[],_,m,hm=>by cases hm
 |p,x::r,h,m,hm=>by
  simp only [bL,Bool.and_eq_true,Bool.not_eq_true',decide_eq_false_iff_not] at h
  rcases List.mem_cons.1 hm with rfl|hm
  ·exact ⟨h.1.1.2,h.1.1.1⟩
  ·exact zHa h.2 m hm
theorem last_none {l:List Mono} {s:ByteArray} (h:∀m,m∈l->m.Name≠s):bS l s=0/\l.filter (fun m=> !decide (m.Name=s))=l:=by
 constructor
 ·have:∀(l:List Mono) (b:Int),(∀m,m∈l->m.Name≠s)->l.foldl (fun by_ m=>if m.Name=s then m.By else by_) b=b:=by
   intro l
   induction l with
   |nil=>intro b _;rfl
   |cons x r ih=>intro b hl;rw [List.foldl_cons,if_neg (hl x (by simp)),ih b fun m hm=>hl m (by simp [hm])]
  exact this l 0 h
 ·rw [List.filter_eq_self];intro m hm;simp [h m hm]
theorem last_zero {p:Option ByteArray} {l:List Mono} {s:ByteArray} (h:bL p l=true) (hz:bS l s=0):∀m,m∈l->m.Name≠s:=by
 have key:∀(l:List Mono) (b:Int),(∀m,m∈l->m.By≠0)->l.foldl (fun by_ m=>if m.Name=s then m.By else by_) b=0->∀m,m∈l->m.Name≠s:=by
  intro l
  induction l with
  |nil=>intro b _ _ m hm;cases hm
  |cons x r ih=>
   intro b hl h m hm
   rw [List.foldl_cons] at h
   rcases List.mem_cons.1 hm with rfl|hm
   ·intro e
    rw [if_pos e] at h
    by_cases c:∀y,y∈r->y.Name≠s
    ·have:r.foldl (fun by_ m=>if m.Name=s then m.By else by_) m.By=m.By:=by
      clear ih h hl hm
      generalize m.By=z
      induction r generalizing z with
      |nil=>rfl
      |cons y r ih2=>rw [List.foldl_cons,if_neg (c y (by simp)),ih2 (fun q hq=>c q (by simp [hq]))]
     rw [this] at h
     exact hl m (by simp) h
    ·exact c (ih _ (fun y hy=>hl y (by simp [hy])) h)
   ·exact ih _ (fun y hy=>hl y (by simp [hy])) h m hm
 exact key l 0 (fun m hm=>(zHa h m hm).1) hz
def Lf.rng (l:Lf):Prop:=r64 l.K/\∀m,m∈l.L->r64 m.By
theorem zOf:∀{l:List Mono},(∀m,m∈l->r64 m.By/\m.By≠0)->(bG l []).all sU=true/\lM (bG l [])=l
 |[],_=>⟨rfl,rfl⟩
 |a::ar,h=>by
  obtain ⟨h1,h2⟩:=zOf (l:=ar) fun m hm=>h m (by simp [hm])
  obtain ⟨h3,h4⟩:=h a (by simp)
  rw [zId]
  have e:trV (a.Name,a.By,0)=a.By:=by simp [trV]
  constructor
  ·rw [List.all_cons,h1,sU,e,decide_eq_true h3];rfl
  ·show List.filterMap _ _=_
   rw [List.filterMap_cons]
   simp only [e,zJe h3,if_neg h4]
   exact congrArg (a:: ·) h2
theorem last_rng {l:Lf} (h:l.rng) (s:ByteArray):r64 (bS l.L s):=by
 have key:∀(l:List Mono) (b:Int),(∀m,m∈l->r64 m.By)->r64 b->r64 (l.foldl (fun by_ m=>if m.Name=s then m.By else by_) b):=by
  intro l
  induction l with
  |nil=>intro b _ h;exact h
  |cons x r ih=>
   intro b hl hb
   rw [List.foldl_cons]
   refine ih _ (fun m hm=>hl m (by simp [hm])) ?_
   split
   ·exact hl x (by simp)
   ·exact hb
 exact key l.L 0 h.2 (by unfold r64;omega)
theorem zIo:zL.rng:=⟨by show r64 0;unfold r64;omega,fun m hm=>by cases hm⟩
theorem zNq (l:Lf) (b:Int):(dF l b).1.rng/\(dF l b).1.L.length<=l.L.length:=by
 unfold dF
 split
 ·split
  ·exact ⟨zIo,by simp [zL]⟩
  ·split
   ·rename_i h
    refine ⟨⟨h.1,fun m hm=>?_⟩,by simp [lH]⟩
    obtain ⟨x,hx,rfl⟩:=List.mem_map.1 hm
    have:=h.2
    unfold fT at this
    rw [List.all_eq_true] at this
    simpa using this x hx
   ·exact ⟨zIo,by simp [zL]⟩
 ·exact ⟨zIo,by simp [zL]⟩
theorem rest_rng {l:Lf} (h:l.rng) (s:ByteArray):(lQ l s).rng/\(lQ l s).L.length<=l.L.length:=
 ⟨⟨h.1,fun m hm=>h.2 m (List.mem_filter.1 hm).1⟩,List.length_filter_le _ _⟩
theorem subst_c1 {l to_:Lf} {s:ByteArray} (c:(¬gR l=0∨bD s=false)∨¬gR to_=0):mD l s to_=(zL,1):=by
 unfold mD
 refine if_neg fun h=>?_
 rcases c with (c|c)|c
 ·have:=zKi c;rw [h.1] at this;cases this
 ·rw [h.2.1] at c;cases c
 ·have:=zKi c;rw [h.2.2] at this;cases this
theorem subst_c4 {l to_:Lf} {s:ByteArray} (c:(gR l=0/\bD s=true)/\gR to_=0) (c4:¬(dF to_ (bS l.L s)).2=0):mD l s to_=(zL,(dF to_ (bS l.L s)).2):=by
 unfold mD
 rw [if_pos ⟨zKj c.1.1,c.1.2,zKj c.2⟩,if_neg c4]
theorem subst_ok {l to_:Lf} {s:ByteArray} (c:(gR l=0/\bD s=true)/\gR to_=0) (c4:(dF to_ (bS l.L s)).2=0):mD l s to_=jI (lQ l s) (dF to_ (bS l.L s)).1:=by
 unfold mD
 rw [if_pos ⟨zKj c.1.1,c.1.2,zKj c.2⟩,if_pos c4]
theorem strLt_trans' {a b c:ByteArray} (h:dD a b=true) (k:dD b c=true):dD a c=true:=zDv h k
theorem monos_weak {p q:Option ByteArray} {l:List Mono} (h:bL p l=true) (hpq:∀n,ltO p n=true->ltO q n=true):bL q l=true:=by
 cases l with
 |nil=>rfl
 |cons x r=>
  simp only [bL,Bool.and_eq_true] at h⊢
  exact ⟨⟨h.1.1,hpq _ h.1.2⟩,h.2⟩
theorem zEl (f:Mono->Bool):∀{p:Option ByteArray} {l:List Mono},bL p l=true->bL p (l.filter f)=true
 |_,[],_=>rfl
 |p,x::r,h=>by
  simp only [bL,Bool.and_eq_true] at h
  have ih:=zEl f h.2
  rw [List.filter_cons]
  by_cases c:f x=true
  ·rw [if_pos c];simp only [bL,Bool.and_eq_true];exact ⟨h.1,ih⟩
  ·rw [if_neg c]
   refine monos_weak ih fun n hn=>?_
   cases p with
   |none=>rfl
   |some q=>exact strLt_trans' h.1.2 hn
theorem zVd {b:Int} (hb:b≠0):∀{p:Option ByteArray} {l:List Mono},bL p l=true->bL p (lH b l)=true
 |_,[],_=>rfl
 |p,x::r,h=>by
  simp only [bL,Bool.and_eq_true,Bool.not_eq_true',decide_eq_false_iff_not] at h
  have ih:=zVd hb h.2
  show bL p (⟨x.Name,x.By*b⟩::lH b r)=true
  simp only [bL,Bool.and_eq_true,Bool.not_eq_true',decide_eq_false_iff_not]
  exact ⟨⟨⟨h.1.1.1,Int.mul_ne_zero h.1.1.2 hb⟩,h.1.2⟩,ih⟩
theorem subst_eq {l to_:Lf} {s:ByteArray} (hl:l.rng):mD l s to_=bI l s to_:=by
 unfold mD bI
 by_cases h:bJ l=true/\bD s=true/\bJ to_=true
 ·obtain ⟨h1,h2,h3⟩:=h
  rw [if_pos (⟨h1,h2,h3⟩:bJ l=true/\bD s=true/\bJ to_=true),if_pos (⟨h1,h3,h2⟩:bJ l=true/\bJ to_=true/\bD s=true)]
  by_cases c:bS l.L s=0
  ·rw [if_pos c]
   have hn:=last_zero h1 c
   have e:dF to_ (bS l.L s)=(zL,0):=by unfold dF;rw [if_pos h3,if_pos c]
   rw [e,if_pos rfl]
   have er:lQ l s=l:=by unfold lQ;rw [(last_none hn).2]
   rw [er]
   unfold jI
   rw [if_pos ⟨h1,rfl⟩]
   obtain ⟨g1,g2⟩:=zOf (l:=l.L) fun m hm=>⟨hl.2 m hm,(zHa h1 m hm).1⟩
   show lT (l.K+0) (bG l.L [])=_
   unfold lT
   rw [Int.add_zero,if_pos ⟨hl.1,g1⟩,g2]
  ·rw [if_neg c]
   by_cases d:r64 (to_.K*bS l.L s)/\fT (bS l.L s) to_.L=true
   ·rw [if_pos d]
    have e:dF to_ (bS l.L s)=(⟨to_.K*bS l.L s,lH (bS l.L s) to_.L⟩,0):=by unfold dF;rw [if_pos h3,if_neg c,if_pos d]
    rw [e,if_pos rfl]
    unfold jI
    rw [if_pos ⟨zEl _ h1,zVd c h3⟩]
    show lT (l.K+to_.K*bS l.L s) (bG (lQ l s).L (lH (bS l.L s) to_.L))=_
    rw [zDa _ _ _ _ (Nat.le_refl _)]
   ·rw [if_neg d]
    have e:dF to_ (bS l.L s)=(zL,3):=by unfold dF;rw [if_pos h3,if_neg c,if_neg d]
    rw [e,if_neg (by decide)]
 ·rw [if_neg h,if_neg fun k=>h ⟨k.1,k.2.2,k.2.1⟩]
end Go.Br
end
section
namespace Go.Br
open Go Go.Eng Go.L41
theorem sum_both {a b:List Mono} {i n:Nat} {x y:Mono} (hx:a[i]? =some x) (hy:b[n]? =some y) (h:y.Name=x.Name):bG (a.drop i) (b.drop n)=(x.Name,x.By,y.By)::bG (a.drop (i+1)) (b.drop (n+1)):=by
 rw [qR hx,qR hy,zDj,h,zGs,cond_false,cond_false]
theorem sum_left1 {a b:List Mono} {i n:Nat} {x:Mono} (hx:a[i]? =some x) (hn:¬n<b.length):bG (a.drop i) (b.drop n)=(x.Name,x.By,0)::bG (a.drop (i+1)) (b.drop n):=by
 rw [qR hx,yW hn,zId]
theorem sum_left2 {a b:List Mono} {i n:Nat} {x y:Mono} (hx:a[i]? =some x) (hy:b[n]? =some y) (h:dD y.Name x.Name=false) (hne:¬y.Name=x.Name):bG (a.drop i) (b.drop n)=(x.Name,x.By,0)::bG (a.drop (i+1)) (b.drop n):=by
 rw [qR hx,qR hy,zDj]
 have:dD x.Name y.Name=true:=by
  cases h2:dD x.Name y.Name with
  |true=>rfl
  |false=>exact absurd (zJj h h2) hne
 rw [this,cond_true]
theorem sum_right1 {a b:List Mono} {i n:Nat} {y:Mono} (hi:¬i<a.length) (hy:b[n]? =some y):bG (a.drop i) (b.drop n)=(y.Name,0,y.By)::bG (a.drop i) (b.drop (n+1)):=by
 rw [yW hi,qR hy,zIc]
theorem sum_right2 {a b:List Mono} {i n:Nat} {x y:Mono} (hx:a[i]? =some x) (hy:b[n]? =some y) (h:dD y.Name x.Name=true):bG (a.drop i) (b.drop n)=(y.Name,0,y.By)::bG (a.drop i) (b.drop (n+1)):=by
 rw [qR hx,qR hy,zDj]
 have:dD x.Name y.Name=false:=by
  cases h2:dD x.Name y.Name with
  |false=>rfl
  |true=>have:=zDv h h2;rw [zGs] at this;cases this
 rw [this,cond_false,h,cond_true]
theorem sum_end {a b:List Mono} {i n:Nat} (hi:¬i<a.length) (hn:¬n<b.length):bG (a.drop i) (b.drop n)=[]:=by
 rw [yW hi,yW hn,zQc]
/-! the tests of the reference's loop -/
def atM (l:List Mono) (k:Nat):Mono:=l.getD k ⟨bs [],0⟩
theorem zDu {l:List Mono} {k:Nat} (h:k<l.length):l[k]? =some (atM l k):=by
 unfold atM;rw [List.getD_eq_getElem?_getD,List.getElem?_eq_getElem h];rfl
theorem zRj {l:List Mono} {k:Nat} (h:k<l.length):atM l k∈l:=zZ (zDu h)
def sC2 (a b:List Mono) (i n:Nat):Bool:=decide ((n:Int)=b.length)||(decide ((i:Int)<a.length)&&(dD (atM a i).Name (atM b n).Name||decide ((atM a i).Name=(atM b n).Name)))
def sC3 (b:List Mono) (n:Nat) (s:ByteArray):Bool:=decide ((n:Int)<b.length)&&decide ((atM b n).Name=s)
theorem le_t {x y:ByteArray} (h:(dD x y||decide (x=y))=true):dD y x=false:=by
 rw [Bool.or_eq_true,decide_eq_true_eq] at h
 rcases h with h|rfl
 ·cases k:dD y x with
  |false=>rfl
  |true=>have:=zDv h k;rw [zGs] at this;cases this
 ·exact zGs _
theorem le_f {x y:ByteArray} (h:(dD x y||decide (x=y))=false):dD y x=true:=by
 rw [Bool.or_eq_false_iff,decide_eq_false_iff_not] at h
 cases k:dD y x with
 |true=>rfl
 |false=>exact absurd (zJj h.1 k) h.2
theorem sum_t {a b:List Mono} {i n:Nat} (h:i<a.length∨n<b.length) (hn:n<=b.length) (c2:sC2 a b i n=true):i<a.length:=by
 unfold sC2 at c2
 rw [Bool.or_eq_true,Bool.and_eq_true,decide_eq_true_eq,decide_eq_true_eq] at c2
 rcases c2 with c2|⟨c2,_⟩<;>omega
theorem sum_tt {a b:List Mono} {i n:Nat} (hi:i<a.length) (c3:sC3 b n (atM a i).Name=true):n<b.length/\bG (a.drop i) (b.drop n)=((atM a i).Name,(atM a i).By,(atM b n).By)::bG (a.drop (i+1)) (b.drop (n+1)):=by
 unfold sC3 at c3
 simp only [Bool.and_eq_true,decide_eq_true_eq] at c3
 have hn:n<b.length:=by omega
 exact ⟨hn,sum_both (zDu hi) (zDu hn) c3.2⟩
theorem sum_tf {a b:List Mono} {i n:Nat} (hi:i<a.length) (hn:n<=b.length) (c2:sC2 a b i n=true) (c3:sC3 b n (atM a i).Name=false):bG (a.drop i) (b.drop n)=((atM a i).Name,(atM a i).By,0)::bG (a.drop (i+1)) (b.drop n):=by
 by_cases h:n<b.length
 ·unfold sC2 at c2
  unfold sC3 at c3
  rw [Bool.or_eq_true,Bool.and_eq_true,decide_eq_true_eq] at c2
  simp only [Bool.and_eq_false_iff,decide_eq_false_iff_not] at c3
  have h2:dD (atM b n).Name (atM a i).Name=false:=by
   rcases c2 with c2|c2
   ·omega
   ·exact le_t c2.2
  have h3:¬(atM b n).Name=(atM a i).Name:=by
   rcases c3 with c3|c3
   ·omega
   ·exact c3
  exact sum_left2 (zDu hi) (zDu h) h2 h3
 ·exact sum_left1 (zDu hi) h
theorem sum_f {a b:List Mono} {i n:Nat} (hn:n<=b.length) (c2:sC2 a b i n=false):n<b.length:=by
 unfold sC2 at c2
 rw [Bool.or_eq_false_iff,decide_eq_false_iff_not] at c2
 omega
theorem sum_fx {a b:List Mono} {i n:Nat} (hn:n<b.length) (c2:sC2 a b i n=false):bG (a.drop i) (b.drop n)=((atM b n).Name,0,(atM b n).By)::bG (a.drop i) (b.drop (n+1))/\sC3 b n (atM b n).Name=true:=by
 refine ⟨?_,by unfold sC3;rw [decide_eq_true (by omega:(n:Int)<b.length),decide_eq_true rfl];rfl⟩
 unfold sC2 at c2
 rw [Bool.or_eq_false_iff,Bool.and_eq_false_iff,decide_eq_false_iff_not] at c2
 by_cases h:i<a.length
 ·have h2:dD (atM b n).Name (atM a i).Name=true:=by
   rcases c2.2 with k|k
   ·rw [decide_eq_false_iff_not] at k;omega
   ·exact le_f k
  exact sum_right2 (zDu h) (zDu hn) h2
 ·exact sum_right1 h (zDu hn)
theorem add_no' {k:Int} {ts:List Tr} (h:okF (decide (r64 k)) ts=false):lT k ts=(zL,3):=by
 rw [okF_all,Bool.and_eq_false_iff,decide_eq_false_iff_not] at h
 unfold lT
 refine if_neg fun hh=>?_
 rcases h with h|h
 ·exact h hh.1
 ·rw [hh.2] at h;cases h
theorem add_ok' {k:Int} {ts:List Tr} (h:okF (decide (r64 k)) ts=true):lT k ts=(⟨w64 k,lM ts⟩,0):=by
 rw [okF_all,Bool.and_eq_true,decide_eq_true_eq] at h
 unfold lT
 rw [if_pos h,zJe h.1]
theorem zCp (by_:Int) (d:List Tr) (t:Tr):jW by_ (d++[t])=jW by_ d++[(t.1,t.2.1,t.2.2*by_)]:=by simp [jW]
theorem zHp (by_:Int) (d:List Tr):(lM (jW by_ d)).length<=d.length:=by
 have:=zRy (jW by_ d);simpa [jW] using this
theorem substR_bad {l to_:Lf} {s:ByteArray} (c:(bJ l=false∨bJ to_=false)∨bD s=false):bI l s to_=(zL,1):=by
 unfold bI
 refine if_neg fun h=>?_
 rcases c with (c|c)|c
 ·rw [h.1] at c;cases c
 ·rw [h.2.1] at c;cases c
 ·rw [h.2.2] at c;cases c
theorem substR_c1 {l to_:Lf} {s:ByteArray} (c:(bJ l=true/\bJ to_=true)/\bD s=true):bJ l=true/\bJ to_=true/\bD s=true:=⟨c.1.1,c.1.2,c.2⟩
theorem substR_same {l to_:Lf} {s:ByteArray} (c:bJ l=true/\bJ to_=true/\bD s=true) (c4:bS l.L s=0):bI l s to_=(l,0):=by
 unfold bI;rw [if_pos c,if_pos c4]
theorem substR_no {l to_:Lf} {s:ByteArray} (c:bJ l=true/\bJ to_=true/\bD s=true) (c4:¬bS l.L s=0) (c5:¬r64 (to_.K*bS l.L s)∨fT (bS l.L s) to_.L=false):bI l s to_=(zL,3):=by
 unfold bI;rw [if_pos c,if_neg c4,if_neg fun h=>by rcases c5 with c5|c5;exact c5 h.1;rw [h.2] at c5;cases c5]
theorem substR_yes {l to_:Lf} {s:ByteArray} (c:bJ l=true/\bJ to_=true/\bD s=true) (c4:¬bS l.L s=0) (c5:r64 (to_.K*bS l.L s)/\fT (bS l.L s) to_.L=true):bI l s to_=lT (l.K+to_.K*bS l.L s) (jW (bS l.L s) (bG (lQ l s).L to_.L)):=by
 unfold bI;rw [if_pos c,if_neg c4,if_pos c5]
def zI:Ix:=⟨zL,bs [],[]⟩
def xJ:Except Int Ix->Ix
 |.ok e=>e
 |.error _=>zI
theorem mIxs_next' {f:Lf->Lf×Int} {l:List Ix} {k:Nat} {x:Ix} {done:List Ix} (h:l[k]? =some x) (hp:dL f l=dE done (dL f (l.drop k))) (hx:dZ (mIx f x)=0):dL f l=dE (done++[xJ (mIx f x)]) (dL f (l.drop (k+1))):=by
 obtain ⟨y,hy⟩:=zWh hx mIx_ne
 rw [hy];exact mIxs_next h hp hy
theorem mIxs_no' {f:Lf->Lf×Int} {l:List Ix} {k:Nat} {x:Ix} {done:List Ix} (h:l[k]? =some x) (hp:dL f l=dE done (dL f (l.drop k))) (hx:¬dZ (mIx f x)=0):dL f l=.error (dZ (mIx f x)):=by
 cases hm:mIx f x with
 |error y=>exact mIxs_no h hp hm
 |ok y=>rw [hm] at hx;exact absurd rfl hx
/-! ## What mapping keeps -/
theorem fE_congr {f g:Lf->Lf×Int} {l:Lf} (h:f l=g l):fE f l=fE g l:=by unfold fE;rw [h]
theorem zVh {f g:Lf->Lf×Int}:∀{l:List Lf},(∀x,x∈l->f x=g x)->dU f l=dU g l
 |[],_=>rfl
 |x::r,h=>by rw [dU,dU,fE_congr (h x (by simp)),zVh fun y hy=>h y (by simp [hy])]
theorem mIx_congr {f g:Lf->Lf×Int} {x:Ix} (h1:f x.Lin=g x.Lin) (h2:∀l,l∈x.At->f l=g l):mIx f x=mIx g x:=by
 rw [mIx,mIx,fE_congr h1,zVh h2]
theorem zQf {f g:Lf->Lf×Int}:∀{l:List Ix},(∀x,x∈l->f x.Lin=g x.Lin/\∀y,y∈x.At->f y=g y)->dL f l=dL g l
 |[],_=>rfl
 |x::r,h=>by rw [dL,dL,mIx_congr (h x (by simp)).1 (h x (by simp)).2,zQf fun y hy=>h y (by simp [hy])]
theorem mExs_congr {f g:Lf->Lf×Int}:∀{l:List Ex},(∀a,a∈l->mEx f a=mEx g a)->gA f l=gA g l
 |[],_=>by rw [gA,gA]
 |x::r,h=>by rw [gA,gA,h x (by simp),mExs_congr fun y hy=>h y (by simp [hy])]
theorem mEx_congr {f g:Lf->Lf×Int} {P:Lf->Prop} (hfg:∀l,P l->f l=g l) (e:Ex) (h:e.allF P):mEx f e=mEx g e:=by
 induction e using Ex.ind with
 |_ e ih=>
  rw [zQy,zQy,fE_congr (hfg _ (Ex.allF_lin h)),zQf fun x hx=>⟨hfg _ (Ex.allF_ix h hx),fun y hy=>hfg _ (Ex.allF_at h hx hy)⟩,mExs_congr fun a ha=>ih a ha (Ex.allF_arg h ha)]
end Go.Br
end
section
namespace Go.Br
open Go Go.Eng Go.L41
/-! ## Ascending triples -/
def jQ:Option ByteArray->List Tr->Bool
 |_,[]=>true
 |p,t::r=>bD t.1&&ltO p t.1&&jQ (some t.1) r
theorem ltO_trans {p:Option ByteArray} {a b:ByteArray} (h:ltO p a=true) (k:dD a b=true):ltO p b=true:=by
 cases p with
 |none=>rfl
 |some q=>exact zDv h k
theorem zBm:∀(n:Nat) (p:Option ByteArray) (a b:List Mono),a.length+b.length<=n->bL p a=true->bL p b=true->jQ p (bG a b)=true
 |_,p,[],[],_,_,_=>rfl
 |0,_,_::_,_,h,_,_=>by simp at h
 |0,_,[],_::_,h,_,_=>by simp at h
 |n+1,p,x::r,[],h,ha,hb=>by
  simp only [bL,Bool.and_eq_true] at ha
  rw [zId,jQ,Bool.and_eq_true,Bool.and_eq_true]
  exact ⟨⟨ha.1.1.1,ha.1.2⟩,zBm n _ r [] (by simp at h⊢;omega) ha.2 rfl⟩
 |n+1,p,[],y::s,h,ha,hb=>by
  simp only [bL,Bool.and_eq_true] at hb
  rw [zIc,jQ,Bool.and_eq_true,Bool.and_eq_true]
  exact ⟨⟨hb.1.1.1,hb.1.2⟩,zBm n _ [] s (by simp at h⊢;omega) rfl hb.2⟩
 |n+1,p,x::r,y::s,h,ha,hb=>by
  have ha0:=ha
  have hb0:=hb
  simp only [bL,Bool.and_eq_true] at ha hb
  rw [zDj]
  cases h1:dD x.Name y.Name with
  |true=>
   rw [cond_true,jQ,Bool.and_eq_true,Bool.and_eq_true]
   refine ⟨⟨ha.1.1.1,ha.1.2⟩,zBm n _ r (y::s) (by simp at h⊢;omega) ha.2 ?_⟩
   simp only [bL,Bool.and_eq_true]
   exact ⟨⟨hb.1.1,h1⟩,hb.2⟩
  |false=>
   rw [cond_false]
   cases h2:dD y.Name x.Name with
   |true=>
    rw [cond_true,jQ,Bool.and_eq_true,Bool.and_eq_true]
    refine ⟨⟨hb.1.1.1,hb.1.2⟩,zBm n _ (x::r) s (by simp at h⊢;omega) ?_ hb.2⟩
    simp only [bL,Bool.and_eq_true]
    exact ⟨⟨ha.1.1,h2⟩,ha.2⟩
   |false=>
    rw [cond_false,jQ,Bool.and_eq_true,Bool.and_eq_true]
    have e:x.Name=y.Name:=zJj h1 h2
    refine ⟨⟨ha.1.1.1,ha.1.2⟩,zBm n _ r s (by simp at h⊢;omega) ha.2 ?_⟩
    show bL (some x.Name) s=true
    rw [e];exact hb.2
theorem mul_asc (b:Int):∀{p:Option ByteArray} {l:List Tr},jQ p l=true->jQ p (jW b l)=true
 |_,[],_=>rfl
 |p,t::r,h=>by
  simp only [jQ,Bool.and_eq_true] at h
  show jQ p ((t.1,t.2.1,t.2.2*b)::jW b r)=true
  simp only [jQ,Bool.and_eq_true]
  exact ⟨h.1,mul_asc b h.2⟩
theorem sum_asc:∀{p:Option ByteArray} {l:List Tr},jQ p l=true->bL p (lM l)=true
 |_,[],_=>rfl
 |p,t::r,h=>by
  simp only [jQ,Bool.and_eq_true] at h
  have ih:=sum_asc h.2
  unfold lM at ih⊢
  rw [List.filterMap_cons]
  by_cases c:w64 (trV t)=0
  ·rw [if_pos c]
   exact monos_weak ih fun n hn=>ltO_trans h.1.2 hn
  ·rw [if_neg c]
   simp only [bL,Bool.and_eq_true,Bool.not_eq_true',decide_eq_false_iff_not]
   exact ⟨⟨⟨h.1.1,c⟩,h.1.2⟩,ih⟩
theorem sum_rng {l:List Tr} {m:Mono} (h:m∈lM l):r64 m.By:=by
 unfold lM at h
 obtain ⟨t,ht,e⟩:=List.mem_filterMap.1 h
 by_cases c:w64 (trV t)=0
 ·rw [if_pos c] at e;cases e
 ·rw [if_neg c] at e;injection e with e;subst e;exact w64_r _
/-! ## One form -/
theorem substR_len (l to_:Lf) (s:ByteArray):(bI l s to_).1.L.length<=l.L.length+to_.L.length:=by
 unfold bI
 split
 ·split
  ·exact Nat.le_add_right _ _
  ·split
   ·unfold lT
    split
    ·show (lM (jW _ _)).length<=_
     have h1:=zHp (bS l.L s) (bG (lQ l s).L to_.L)
     have h2:=zCf (lQ l s).L to_.L
     have h3:(lQ l s).L.length<=l.L.length:=List.length_filter_le _ _
     omega
    ·exact Nat.zero_le _
   ·exact Nat.zero_le _
 ·exact Nat.zero_le _
theorem substR_rng {l to_:Lf} (s:ByteArray) (hl:l.rng):(bI l s to_).1.rng:=by
 unfold bI
 split
 ·split
  ·exact hl
  ·split
   ·unfold lT
    split
    ·rename_i h;exact ⟨h.1,fun m hm=>sum_rng hm⟩
    ·exact zIo
   ·exact zIo
 ·exact zIo
theorem substR_ok {l to_:Lf} {s:ByteArray} (h1:bJ l=true) (h2:bJ to_=true) (h3:bD s=true) (h:(bI l s to_).2=0):bJ (bI l s to_).1=true:=by
 unfold bI at h⊢
 rw [if_pos ⟨h1,h2,h3⟩] at h⊢
 by_cases c:bS l.L s=0
 ·rw [if_pos c] at h⊢;exact h1
 ·rw [if_neg c] at h⊢
  by_cases d:r64 (to_.K*bS l.L s)/\fT (bS l.L s) to_.L=true
  ·rw [if_pos d] at h⊢
   unfold lT at h⊢
   split
   ·exact sum_asc (mul_asc _ (zBm _ none _ _ (Nat.le_refl _) (zEl _ h1) h2))
   ·rfl
  ·rw [if_neg d] at h⊢;rfl
theorem zIb:∀{q:ByteArray} {l:List Mono},bL (some q) l=true->∀m,m∈l->dD q m.Name=true
 |_,[],_,m,hm=>by cases hm
 |q,x::r,h,m,hm=>by
  simp only [bL,Bool.and_eq_true] at h
  rcases List.mem_cons.1 hm with rfl|hm
  ·exact h.1.2
  ·exact zDv h.1.2 (zIb h.2 m hm)
theorem lastBy_mem {l:List Mono} {s:ByteArray} (h:bS l s≠0):∃m,m∈l/\m.Name=s/\m.By=bS l s:=by
 have key:∀(l:List Mono) (b:Int),l.foldl (fun by_ m=>if m.Name=s then m.By else by_) b=b∨∃m,m∈l/\m.Name=s/\m.By=l.foldl (fun by_ m=>if m.Name=s then m.By else by_) b:=by
  intro l
  induction l with
  |nil=>intro b;exact .inl rfl
  |cons x r ih=>
   intro b
   rw [List.foldl_cons]
   by_cases c:x.Name=s
   ·rw [if_pos c]
    rcases ih x.By with e|⟨m,hm,e1,e2⟩
    ·exact .inr ⟨x,by simp,c,e.symm⟩
    ·exact .inr ⟨m,by simp [hm],e1,e2⟩
   ·rw [if_neg c]
    rcases ih b with e|⟨m,hm,e1,e2⟩
    ·exact .inl e
    ·exact .inr ⟨m,by simp [hm],e1,e2⟩
 rcases key l 0 with e|h2
 ·exact absurd e h
 ·exact h2
def gIx (g:Lf->Lf) (x:Ix):Ix:=⟨g x.Lin,x.From,x.At.map g⟩
mutual
def gEx (g:Lf->Lf):Ex->Ex
 |.mk o n v t l i arg_=>.mk o n v t (g l) (i.map (gIx g)) (mR g arg_)
def mR (g:Lf->Lf):List Ex->List Ex
 |[]=>[]
 |a::r=>gEx g a::mR g r
end
theorem gExs_map (g:Lf->Lf) (l:List Ex):mR g l=l.map (gEx g):=by
 induction l with
 |nil=>rfl
 |cons a r ih=>rw [mR,ih];rfl
theorem zEv (g:Lf->Lf) (e:Ex):gEx g e=.mk e.Op e.Name e.Val e.Ty (g e.Lin) (e.Idx.map (gIx g)) (e.Args.map (gEx g)):=by
 cases e;rw [gEx,gExs_map];rfl
theorem mLins_g {f:Lf->Lf×Int}:∀{l r:List Lf},dU f l=.ok r->r=l.map (fun x=>(f x).1)/\∀x,x∈l->(f x).2=0
 |[],r,h=>by rw [dU] at h;injection h with h;subst h;exact ⟨rfl,fun x hx=>by cases hx⟩
 |a::t,r,h=>by
  rw [dU] at h
  by_cases c:(f a).2=0
  ·rw [zLx c] at h
   cases hm:dU f t with
   |error y=>rw [hm] at h;cases h
   |ok u=>
    rw [hm] at h
    injection h with h
    subst h
    obtain ⟨h1,h2⟩:=mLins_g hm
    exact ⟨by rw [h1];rfl,fun x hx=>by rcases List.mem_cons.1 hx with rfl|hx;exact c;exact h2 x hx⟩
  ·rw [zKp c] at h;cases h
theorem mIx_g {f:Lf->Lf×Int} {x y:Ix} (h:mIx f x=.ok y):y=gIx (fun l=>(f l).1) x/\(f x.Lin).2=0/\∀l,l∈x.At->(f l).2=0:=by
 rw [mIx] at h
 by_cases c:(f x.Lin).2=0
 ·rw [zLx c] at h
  cases hm:dU f x.At with
  |error y=>rw [hm] at h;cases h
  |ok u=>
   rw [hm] at h
   injection h with h
   subst h
   obtain ⟨h1,h2⟩:=mLins_g hm
   exact ⟨by rw [h1];rfl,c,h2⟩
 ·rw [zKp c] at h;cases h
theorem mIxs_g {f:Lf->Lf×Int}:∀{l r:List Ix},dL f l=.ok r->r=l.map (gIx fun x=>(f x).1)/\∀x,x∈l->(f x.Lin).2=0/\∀y,y∈x.At->(f y).2=0
 |[],r,h=>by rw [dL] at h;injection h with h;subst h;exact ⟨rfl,fun x hx=>by cases hx⟩
 |a::t,r,h=>by
  rw [dL] at h
  cases h1:mIx f a with
  |error y=>rw [h1] at h;cases h
  |ok a'=>
   rw [h1] at h
   cases hm:dL f t with
   |error y=>rw [hm] at h;cases h
   |ok u=>
    rw [hm] at h
    injection h with h
    subst h
    obtain ⟨k1,k2⟩:=mIx_g h1
    obtain ⟨k3,k4⟩:=mIxs_g hm
    exact ⟨by rw [k1,k3];rfl,fun x hx=>by rcases List.mem_cons.1 hx with rfl|hx;exact k2;exact k4 x hx⟩
theorem zPz {P:Lf->Prop} {e:Ex} (h1:∀l,l∈bQ e->P l) (h2:∀a,a∈e.Args->a.allF P):e.allF P:=by
 intro x hx
 rw [wE] at hx
 rcases List.mem_cons.1 hx with rfl|hx
 ·exact h1
 ·have:∀l:List Ex,(∀a,a∈l->a.allF P)->x∈bO l->∀y,y∈bQ x->P y:=by
   intro l
   induction l with
   |nil=>intro _ h;simp [bO] at h
   |cons a r ih=>
    intro h hm
    rw [bO] at hm
    rcases List.mem_append.1 hm with k|k
    ·exact h a (by simp) x k
    ·exact ih (fun b hb=>h b (by simp [hb])) k
  exact this e.Args h2 hx
mutual
theorem mEx_g {f:Lf->Lf×Int}:∀{e e':Ex},mEx f e=.ok e'->e'=gEx (fun l=>(f l).1) e/\e.allF fun l=>(f l).2=0
 |.mk o n v t l i arg_,e',h=>by
  rw [mEx] at h
  by_cases c:(f l).2=0
  ·rw [zLx c] at h
   cases h1:dL f i with
   |error y=>rw [h1] at h;cases h
   |ok i'=>
    rw [h1] at h
    cases h2:gA f arg_ with
    |error y=>rw [h2] at h;cases h
    |ok as'=>
     rw [h2] at h
     injection h with h
     subst h
     obtain ⟨k1,k2⟩:=mIxs_g h1
     obtain ⟨k3,k4⟩:=mExs_g h2
     refine ⟨by rw [gEx,k1,k3,gExs_map],zPz ?_ k4⟩
     intro y hy
     unfold bQ at hy
     rcases List.mem_cons.1 hy with rfl|hy
     ·exact c
     ·obtain ⟨x,hx,hy⟩:=List.mem_flatMap.1 hy
      rcases List.mem_cons.1 hy with rfl|hy
      ·exact (k2 x hx).1
      ·exact (k2 x hx).2 y hy
  ·rw [zKp c] at h;cases h
theorem mExs_g {f:Lf->Lf×Int}:∀{l r:List Ex},gA f l=.ok r->r=l.map (gEx fun l=>(f l).1)/\∀a,a∈l->a.allF fun l=>(f l).2=0
 |[],r,h=>by rw [gA] at h;injection h with h;subst h;exact ⟨rfl,fun x hx=>by cases hx⟩
 |a::t,r,h=>by
  rw [gA] at h
  cases h1:mEx f a with
  |error y=>rw [h1] at h;cases h
  |ok a'=>
   rw [h1] at h
   cases hm:gA f t with
   |error y=>rw [hm] at h;cases h
   |ok u=>
    rw [hm] at h
    injection h with h
    subst h
    obtain ⟨k1,k2⟩:=mEx_g h1
    obtain ⟨k3,k4⟩:=mExs_g hm
    exact ⟨by rw [k1,k3];rfl,fun x hx=>by rcases List.mem_cons.1 hx with rfl|hx;exact k2;exact k4 x hx⟩
end
theorem mLins_er {f:Lf->Lf×Int} {c:Int}:∀{l:List Lf},dU f l=.error c->∃x,x∈l/\(f x).2=c
 |[],h=>by rw [dU] at h;cases h
 |a::t,h=>by
  rw [dU] at h
  by_cases k:(f a).2=0
  ·rw [zLx k] at h
   cases hm:dU f t with
   |error y=>rw [hm] at h;injection h with h;subst h;obtain ⟨x,hx,e⟩:=mLins_er hm;exact ⟨x,by simp [hx],e⟩
   |ok u=>rw [hm] at h;cases h
  ·rw [zKp k] at h;injection h with h;exact ⟨a,by simp,h⟩
theorem mIx_er {f:Lf->Lf×Int} {c:Int} {x:Ix} (h:mIx f x=.error c):∃l,l∈ixF x/\(f l).2=c:=by
 rw [mIx] at h
 by_cases k:(f x.Lin).2=0
 ·rw [zLx k] at h
  cases hm:dU f x.At with
  |error y=>rw [hm] at h;injection h with h;subst h;obtain ⟨l,hl,e⟩:=mLins_er hm;exact ⟨l,by simp [ixF,hl],e⟩
  |ok u=>rw [hm] at h;cases h
 ·rw [zKp k] at h;injection h with h;exact ⟨x.Lin,by simp [ixF],h⟩
theorem mIxs_er {f:Lf->Lf×Int} {c:Int}:∀{l:List Ix},dL f l=.error c->∃x,x∈l.flatMap ixF/\(f x).2=c
 |[],h=>by rw [dL] at h;cases h
 |a::t,h=>by
  rw [dL] at h
  cases k:mIx f a with
  |error y=>rw [k] at h;injection h with h;subst h;obtain ⟨l,hl,e⟩:=mIx_er k;exact ⟨l,by rw [List.flatMap_cons];exact List.mem_append_left _ hl,e⟩
  |ok a'=>
   rw [k] at h
   cases hm:dL f t with
   |error y=>rw [hm] at h;injection h with h;subst h;obtain ⟨x,hx,e⟩:=mIxs_er hm;exact ⟨x,by rw [List.flatMap_cons];exact List.mem_append_right _ hx,e⟩
   |ok u=>rw [hm] at h;cases h
theorem mEx_er {f:Lf->Lf×Int} {P:Int->Prop} (e:Ex) (hP:e.allF fun l=>P (f l).2):∀c,mEx f e=.error c->P c:=by
 induction e using Ex.ind with
 |_ e ih=>
  intro c h
  rw [zQy] at h
  by_cases k:(f e.Lin).2=0
  ·rw [zLx k] at h
   cases h1:dL f e.Idx with
   |error y=>
    rw [h1] at h;injection h with h;subst h
    obtain ⟨x,hx,e2⟩:=mIxs_er h1
    have:=hP e (by rw [wE];simp) x (by unfold bQ;exact List.mem_cons_of_mem _ hx)
    have this:P (f x).2:=this
    rw [e2] at this;exact this
   |ok i'=>
    rw [h1] at h
    cases h2:gA f e.Args with
    |error y=>
     rw [h2] at h;injection h with h;subst h
     have key:∀l:List Ex,(∀a,a∈l->a∈e.Args)->gA f l=.error y->P y:=by
      intro l
      induction l with
      |nil=>intro _ h;rw [gA] at h;cases h
      |cons a t iht=>
       intro hl h
       rw [gA] at h
       cases k2:mEx f a with
       |error z=>rw [k2] at h;injection h with h;subst h;exact ih a (hl a (by simp)) (Ex.allF_arg hP (hl a (by simp))) _ k2
       |ok a'=>
        rw [k2] at h
        cases hm:gA f t with
        |error z=>rw [hm] at h;injection h with h;subst h;exact iht (fun b hb=>hl b (by simp [hb])) hm
        |ok u=>rw [hm] at h;cases h
     exact key e.Args (fun a h=>h) h2
    |ok as'=>rw [h2] at h;cases h
  ·rw [zKp k] at h;injection h with h;subst h
   exact hP e (by rw [wE];simp) _ (by unfold bQ;simp)
/-! ## What stays -/
theorem forms_g (g:Lf->Lf) (e:Ex):bQ (gEx g e)=(bQ e).map g:=by
 rw [zEv]
 show g e.Lin::(e.Idx.map (gIx g)).flatMap (fun x=>x.Lin::x.At)=(e.Lin::e.Idx.flatMap fun x=>x.Lin::x.At).map g
 rw [List.map_cons]
 congr 1
 induction e.Idx with
 |nil=>rfl
 |cons x r ih=>rw [List.map_cons,List.flatMap_cons,List.flatMap_cons,List.map_append,ih];rfl
mutual
theorem zVa (g:Lf->Lf):∀e:Ex,dG (gEx g e)=(dG e).map (gEx g)
 |.mk o n v t l i arg_=>by rw [gEx,dG,dG,nodesL_g g arg_,List.map_cons,gEx]
theorem nodesL_g (g:Lf->Lf):∀l:List Ex,bO (mR g l)=(bO l).map (gEx g)
 |[]=>by rw [mR,bO];rfl
 |a::r=>by rw [mR,bO,bO,zVa g a,nodesL_g g r,List.map_append]
end
theorem allF_g {g:Lf->Lf} {P:Lf->Prop} {e:Ex} (h:e.allF fun l=>P (g l)):(gEx g e).allF P:=by
 intro x hx l hl
 rw [zVa] at hx
 obtain ⟨y,hy,rfl⟩:=List.mem_map.1 hx
 rw [forms_g] at hl
 obtain ⟨k,hk,rfl⟩:=List.mem_map.1 hl
 exact h y hy k hk
theorem dep_g (g:Lf->Lf):∀(n:Nat) (e:Ex),jA n (gEx g e)=jA n e
 |0,e=>rfl
 |n+1,e=>by
  rw [jA,jA,zEv]
  show nQ (jA n) 1 (e.Args.map (gEx g))=_
  have:∀(l:List Ex) (d:Int),nQ (jA n) d (l.map (gEx g))=nQ (jA n) d l:=by
   intro l
   induction l with
   |nil=>intro d;rfl
   |cons a r ih=>intro d;rw [List.map_cons,nQ,nQ,dep_g g n a,ih]
  exact this _ _
theorem conds_g (g:Lf->Lf) (op:Int):∀(l:List Ex) (i:Int),fN op i (l.map (gEx g))=fN op i l
 |[],_=>rfl
 |a::r,i=>by
  rw [List.map_cons,fN,fN,conds_g g op r]
  have:bV (gEx g a)=bV a:=by rw [zEv];rfl
  rw [this]
theorem nodeErr_g {g:Lf->Lf} {e:Ex} (hz:g ⟨0,[]⟩=⟨0,[]⟩) (hf:∀l,l∈bQ e->bJ (g l)=true) (h:dA e=0):dA (gEx g e)=0:=by
 obtain ⟨h1,h2,h3,h4,h5⟩:=zOd h
 have zero:∀l:Lf,lN l=true->lN (g l)=true:=by
  intro l hl
  have:l=⟨0,[]⟩:=by
   cases l with
   |mk K L=>
    unfold lN at hl
    simp only [Bool.and_eq_true,decide_eq_true_eq] at hl
    obtain ⟨rfl,hL⟩:=hl
    have:L=[]:=List.eq_nil_of_length_eq_zero (by omega)
    rw [this]
  rw [this,hz];rfl
 have k1:jB (gEx g e)=true:=by
  rw [zEv]
  unfold jB at h1⊢
  simp only [Bool.and_eq_true] at h1⊢
  obtain ⟨⟨⟨⟨⟨a1,a2⟩,a3⟩,a4⟩,a5⟩,a6⟩:=h1
  refine ⟨⟨⟨⟨⟨a1,a2⟩,a3⟩,?_⟩,?_⟩,?_⟩
  ·show (!(!decide (e.Op=2)&& !lN (g e.Lin)))=true
   cases c:decide (e.Op=2)
   ·rw [c] at a4
    have:lN e.Lin=true:=by simpa using a4
    rw [zero _ this];rfl
   ·rfl
  ·show (!(!decide (e.Op=3)&&(!decide (e.Name=bs [])||decide ((0:Int)<(e.Idx.map (gIx g)).length))))=true
   rw [List.length_map];exact a5
  ·show (e.Idx.map (gIx g)).all jJ=true
   rw [List.all_map]
   refine List.all_eq_true.2 fun x hx=>?_
   have:=List.all_eq_true.1 a6 x hx
   show jJ (gIx g x)=true
   unfold jJ gIx at *
   show (bif decide (x.From=bs []) then decide (((x.At.map g).length:Int)=0) else lN (g x.Lin))=true
   rw [List.length_map]
   cases c:decide (x.From=bs [])
   ·rw [c,cond_false] at this;rw [cond_false];exact zero _ this
   ·rw [c,cond_true] at this;rw [cond_true];exact this
 have k2:lI (gEx g e)=true:=by
  rw [zEv]
  unfold lI at h2⊢
  rw [Bool.and_eq_true] at h2⊢
  refine ⟨h2.1,?_⟩
  show (e.Idx.map (gIx g)).all rW=true
  rw [List.all_map];exact h2.2
 have k3:mF (gEx g e)=true:=by
  rw [zEv]
  unfold mF at h3⊢
  rw [Bool.and_eq_true] at h3⊢
  refine ⟨?_,?_⟩
  ·show (!(!decide (((e.Args.map (gEx g)).length:Int)=bU e.Op)||decide ((6:Int)<(e.Idx.map (gIx g)).length)))=true
   rw [List.length_map,List.length_map];exact h3.1
  ·show (e.Idx.map (gIx g)).all rV=true
   rw [List.all_map]
   refine List.all_eq_true.2 fun x hx=>?_
   have:=List.all_eq_true.1 h3.2 x hx
   show (!decide ((6:Int)<(x.At.map g).length))=true
   rw [List.length_map];exact this
 have k4:gZ (gEx g e)=true:=by
  rw [zEv]
  unfold gZ at h4⊢
  rw [Bool.and_eq_true] at h4⊢
  refine ⟨h4.1,?_⟩
  show fN e.Op 0 (e.Args.map (gEx g))=true
  rw [conds_g];exact h4.2
 have k5:jF (gEx g e)=true:=by
  unfold jF at h5⊢
  rw [Bool.and_eq_true] at h5⊢
  refine ⟨by rw [zEv];exact h5.1,?_⟩
  rw [forms_g,List.all_map]
  exact List.all_eq_true.2 hf
 unfold dA
 rw [k1,k2,k3,k4,k5];rfl
theorem errsL_zero {l:List Ex} (h:∀x,x∈l->dA x=0):gX l=0:=by
 induction l with
 |nil=>rfl
 |cons a r ih=>rw [gX,wR (h a (by simp)),cond_true];exact ih fun x hx=>h x (by simp [hx])
theorem valid_g {g:Lf->Lf} {e:Ex} (hz:g ⟨0,[]⟩=⟨0,[]⟩) (hf:e.allF fun l=>bJ (g l)=true) (h:fP e=0):fP (gEx g e)=0:=by
 have hp:=zGq h
 have hp2:fZ (gEx g e)=0:=by
  unfold fZ at hp⊢
  rw [zVa]
  refine errsL_zero fun x hx=>?_
  obtain ⟨y,hy,rfl⟩:=List.mem_map.1 hx
  exact nodeErr_g hz (hf y hy) (zWg hp y hy)
 unfold fP at h⊢
 have e1:szT (gEx g e)=szT e:=by unfold szT;rw [zVa,List.length_map]
 rw [dep_g,e1,hp2]
 rw [hp] at h
 exact h
theorem zNe {e:Ex} (h:fP e=0):e.allF fun l=>bJ l=true:=by
 intro x hx l hl
 have:=(zOd (zWg (zGq h) x hx)).2.2.2.2
 unfold jF at this
 rw [Bool.and_eq_true] at this
 exact List.all_eq_true.1 this.2 l hl
/-! ## Weights -/
theorem linsWt_g {g:Lf->Lf} {c:Nat} (hg:∀l,(g l).L.length<=l.L.length+c):∀l:List Lf,fB (l.map g)<=fB l+c*l.length
 |[]=>by simp [fB]
 |x::r=>by
  rw [List.map_cons,fB,fB,List.length_cons,Nat.mul_succ]
  have:=linsWt_g hg r;have:=hg x;omega
theorem idxWt_g {g:Lf->Lf} {c:Nat} (hg:∀l,(g l).L.length<=l.L.length+c):∀l:List Ix,dH (l.map (gIx g))<=(c+1)*dH l+c*l.length
 |[]=>by simp [dH]
 |x::r=>by
  rw [List.map_cons,dH,dH,List.length_cons,Nat.mul_succ,Nat.mul_add]
  have h1:=idxWt_g hg r
  have h2:=linsWt_g hg x.At
  have h3:=hg x.Lin
  have h4:(gIx g x).wt<=(c+1)*x.wt+c:=by
   show (g x.Lin).L.length+(x.At.map g).length+fB (x.At.map g)<=(c+1)*(x.Lin.L.length+x.At.length+fB x.At)+c
   rw [List.length_map]
   have e:(c+1)*(x.Lin.L.length+x.At.length+fB x.At)=(c*x.Lin.L.length+c*x.At.length+c*fB x.At)+(x.Lin.L.length+x.At.length+fB x.At):=by
    rw [Nat.add_mul,Nat.one_mul,Nat.mul_add,Nat.mul_add]
   omega
  omega
theorem wt_g {g:Lf->Lf} {c:Nat} (hg:∀l,(g l).L.length<=l.L.length+c) (e:Ex):(gEx g e).wt<=(c+1)*e.wt:=by
 induction e using Ex.ind with
 |_ e ih=>
  have key:∀l:List Ex,(∀a,a∈l->(gEx g a).wt<=(c+1)*a.wt)->dR (l.map (gEx g))<=(c+1)*dR l:=by
   intro l
   induction l with
   |nil=>intro _;simp [dR]
   |cons a r ihr=>
    intro h
    rw [List.map_cons,dR,dR,Nat.mul_add]
    have:=h a (by simp)
    have:=ihr fun b hb=>h b (by simp [hb])
    omega
  have h1:=key e.Args ih
  have h2:=idxWt_g hg e.Idx
  have h3:=hg e.Lin
  rw [Ex.wt_eq,Ex.wt_eq,zEv]
  show 1+(g e.Lin).L.length+(e.Idx.map (gIx g)).length+dH (e.Idx.map (gIx g))+dR (e.Args.map (gEx g))<=(c+1)*(1+e.Lin.L.length+e.Idx.length+dH e.Idx+dR e.Args)
  rw [List.length_map]
  have e1:(c+1)*(1+e.Lin.L.length+e.Idx.length+dH e.Idx+dR e.Args)=(c+1)*1+(c+1)*e.Lin.L.length+(c+1)*e.Idx.length+(c+1)*dH e.Idx+(c+1)*dR e.Args:=by
   rw [Nat.mul_add,Nat.mul_add,Nat.mul_add,Nat.mul_add]
  have e2:(c+1)*e.Lin.L.length=c*e.Lin.L.length+e.Lin.L.length:=by rw [Nat.add_mul,Nat.one_mul]
  have e3:(c+1)*e.Idx.length=c*e.Idx.length+e.Idx.length:=by rw [Nat.add_mul,Nat.one_mul]
  omega
end Go.Br
end
section
namespace Go.Br
open Go Go.Eng Go.Proofs Go.L41
structure PO {α:Type} (f:α->α->Int) (a:α):Prop where
 anti:∀b,f b a= -f a b
 rng:∀b,-1<=f a b/\f a b<=1
 cong:∀b,f a b=0->∀c,f a c=f b c
 cong':∀b c,f b c=0->f a b=f a c
 trans:∀b c,f a b<0->f b c<0->f a c<0
theorem PO.zero {α:Type} (a:α):PO (fun _ _=>0) a:=
 ⟨fun _=>rfl,fun _=>⟨by show (-1:Int)<=0;omega,by show (0:Int)<=1;omega⟩,fun _ _ _=>rfl,fun _ _ _=>rfl,fun _ _ h _=>h⟩
end Go.Br
end
section
namespace Go.Br
open Go Go.Eng Go.L41
/-! ## Short names -/
theorem nodes_take {e x:Ex} {k:Nat} (h:e.Args[k]? =some x):(bO (e.Args.take k)).length+(dG x).length+1<=(dG e).length:=by
 have:=congrArg List.length (nodes_at h (x:=x) (pre:=[]) (suf:=bO x.Args) (by rw [wE];rfl))
 rw [wE x]
 simp only [List.length_append,List.length_cons,List.length_nil] at this⊢
 omega
/-! ## Replacing -/
end Go.Br
end
section
namespace Go.Br
open Go Go.Eng Go.L41
structure Bf where
 Name:ByteArray
 T:Ty
 Dims:List Int
 Use:Int
 deriving DecidableEq
inductive St where
 |mk (op:Int) (name:ByteArray) (many lJ fold:Int) (idx:List Ix) (ex:Ex) (body:List St)
namespace St
def Op:St->Int|mk x _ _ _ _ _ _ _=>x
def Name:St->ByteArray|mk _ x _ _ _ _ _ _=>x
def Many:St->Int|mk _ _ x _ _ _ _ _=>x
def Mark:St->Int|mk _ _ _ x _ _ _ _=>x
def Fold:St->Int|mk _ _ _ _ x _ _ _=>x
def Idx:St->List Ix|mk _ _ _ _ _ x _ _=>x
def E:St->Ex|mk _ _ _ _ _ _ x _=>x
def Body:St->List St|mk _ _ _ _ _ _ _ x=>x
theorem eta (s:St):s=mk s.Op s.Name s.Many s.Mark s.Fold s.Idx s.E s.Body:=by cases s;rfl
theorem ind {P:St->Prop} (h:∀s:St,(∀a,a∈s.Body->P a)->P s) (s:St):P s:=
 St.rec (motive_1:=P) (motive_2:=fun l=>∀a,a∈l->P a) (fun o n m k f i e b ih=>h (mk o n m k f i e b) ih) (fun a h=>by cases h)
  (fun x l hx hl a ha=>by rcases List.mem_cons.1 ha with rfl|ha;exact hx;exact hl a ha) s
end St
structure Ns where
 Bufs:List Bf
 Body:List St
def Bf.cells (b:Bf):List C:=[cS b.Name,cI b.T.Kind,cI b.T.Bits,cI b.T.Frac,cI b.T.Round,cI b.T.Over,.sl 1 (b.Dims.map fun n=>[cI n]),cI b.Use]
mutual
def St.cells:St->List C
 |.mk o n m k f i e b=>[cI o,cS n,cI m,cI k,cI f,.sl 4 (i.map Ix.cells)]++e.cs++[.sl 20 (nU b)]
def nU:List St->List (List C)
 |[]=>[]
 |s::r=>s.cells::nU r
end
theorem zTz (l:List St):nU l=l.map St.cells:=by
 induction l with
 |nil=>rfl
 |cons s r ih=>rw [nU,ih];rfl
def St.cs (s:St):List C:=[cI s.Op,cS s.Name,cI s.Many,cI s.Mark,cI s.Fold,.sl 4 (s.Idx.map Ix.cells),
 cI s.E.Op,cS s.E.Name,cI s.E.Val.N,cI s.E.Val.D,cI s.E.Ty.Kind,cI s.E.Ty.Bits,cI s.E.Ty.Frac,cI s.E.Ty.Round,cI s.E.Ty.Over,cI s.E.Lin.K,.sl 2 (s.E.Lin.L.map Mono.cells),.sl 4 (s.E.Idx.map Ix.cells),.sl 13 (s.E.Args.map Ex.cells),.sl 20 (s.Body.map St.cells)]
theorem St.cells_eq (s:St):s.cells=s.cs:=by
 cases s;rw [St.cells,zTz];rfl
def Ns.cells (n:Ns):List C:=[.sl 8 (n.Bufs.map Bf.cells),.sl 20 (n.Body.map St.cells)]
abbrev vBf (b:Bf):V:=.agg b.cells
abbrev vSt (s:St):V:=.agg s.cs
abbrev bM (l:List St):V:=.c (.sl 20 (l.map St.cells))
abbrev vNs (n:Ns):V:=.agg n.cells
abbrev vIs (l:List Int):V:=.c (.sl 1 (l.map fun n=>[cI n]))
abbrev xF (l:List Bf):V:=.c (.sl 8 (l.map Bf.cells))
theorem zLa {α:Type} {p:α->Bool} {l:List α} {k:Nat} {x:α} (h:l[k]? =some x) (hp:(l.take k).all p=true) (hx:p x=true):(l.take (k+1)).all p=true:=by
 rw [yL h,List.all_append,hp];simp [hx]
theorem wD {l:List St} {k:Nat} {x:St} (h:l[k]? =some x):(l.map St.cells)[k]? =some x.cs:=by
 rw [Q h,St.cells_eq]
/-! ## Sizes -/
mutual
def St.wt:St->Nat
 |.mk _ _ _ _ _ i e b=>1+e.wt+i.length+dH i+bC b
def bC:List St->Nat
 |[]=>0
 |s::r=>s.wt+bC r
end
theorem St.wt_eq (s:St):s.wt=1+s.E.wt+s.Idx.length+dH s.Idx+bC s.Body:=by cases s;rw [St.wt];rfl
theorem kO (l:List St):l.length<=bC l:=by
 induction l with
 |nil=>simp [bC]
 |cons y r ih=>rw [bC,List.length_cons];have:=y.wt_eq;omega
theorem yC {l:List St} {a:St} (h:a∈l):a.wt<=bC l:=by
 induction l with
 |nil=>cases h
 |cons x r ih=>
  rw [bC]
  rcases List.mem_cons.1 h with rfl|h
  ·omega
  ·have:=ih h;omega
theorem St.wt_pos (s:St):1<=s.wt:=by rw [St.wt_eq];omega
theorem St.body_wt (s:St):bC s.Body<s.wt:=by rw [St.wt_eq s];omega
theorem St.parts {s:St} {B:Nat} (h:s.wt<=B):s.E.wt<=B/\s.Idx.length<=B/\dH s.Idx<=B/\s.Body.length<=B/\bC s.Body<=B:=by
 rw [St.wt_eq] at h
 have:=kO s.Body
 omega
def rdE (s:St):Ex:=.mk 3 s.Name ⟨0,0⟩ ⟨0,0,0,0,0⟩ ⟨0,[]⟩ s.Idx []
theorem rdE_wt (s:St):(rdE s).wt<=s.wt+1:=by
 rw [Ex.wt_eq,St.wt_eq];simp only [rdE,Ex.Lin,Ex.Idx,Ex.Args,dR,List.length_nil];omega
/-! ## Shapes (11.1) -/
def pJ (n:Int):Bool:=decide (1<=n)
def dW:Int->List Int->Option Int
 |s,[]=>some s
 |s,n::r=>if 4096<s*n then none else dW (s*n) r
def gL (d:List Int):Int:=if 6<d.length then 2 else if d.all pJ=true then (if (dW 1 d).isSome=true then 0 else 2) else 1
theorem dims_long {d:List Int} (h:6<d.length):gL d=2:=by unfold gL;rw [if_pos h]
theorem dims_neg {d:List Int} {k:Nat} {n:Int} (h:¬6<d.length) (hn:d[k]? =some n) (h2:n<1):gL d=1:=by
 unfold gL
 rw [if_neg h,if_neg (by rw [zKy hn (p:=pJ) (by unfold pJ;exact decide_eq_false (by omega))];simp)]
theorem zWj {d:List Int} (h:¬6<d.length) (h1:d.all pJ=true) (h2:dW 1 d=none):gL d=2:=by
 unfold gL;rw [if_neg h,if_pos h1,h2];rfl
theorem dims_ok {d:List Int} {s:Int} (h:¬6<d.length) (h1:d.all pJ=true) (h2:dW 1 d=some s):gL d=0:=by
 unfold gL;rw [if_neg h,if_pos h1,h2];rfl
theorem size_next {d:List Int} {k:Nat} {n s:Int} (h:d[k]? =some n) (hs:dW 1 d=dW s (d.drop k)) (h2:¬4096<s*n):dW 1 d=dW (s*n) (d.drop (k+1)):=by
 rw [hs,qR h,dW,if_neg h2]
theorem zUh {d:List Int} {k:Nat} {n s:Int} (h:d[k]? =some n) (hs:dW 1 d=dW s (d.drop k)) (h2:4096<s*n):dW 1 d=none:=by
 rw [hs,qR h,dW,if_pos h2]
theorem size_done {d:List Int} {k:Nat} {s:Int} (hs:dW 1 d=dW s (d.drop k)) (h:¬k<d.length):dW 1 d=some s:=by
 rw [hs,yW h];rfl
theorem quo_lt {s n:Int} (h:1<=s):Int.tdiv 4096 s<n↔4096<s*n:=by
 rw [Int.tdiv_eq_ediv_of_nonneg (by omega),Int.ediv_lt_iff_lt_mul (by omega),Int.mul_comm]
theorem quo_wrap {s:Int} (h:1<=s):IntKind.i64.wrap (Int.tdiv 4096 s)=Int.tdiv 4096 s:=by
 have h1:Int.tdiv 4096 s=4096/s:=Int.tdiv_eq_ediv_of_nonneg (by omega)
 have h2:0<=(4096:Int)/s:=Int.ediv_nonneg (by omega) (by omega)
 have h3:(4096:Int)/s<=4096:=Int.ediv_le_self _ (by omega)
 exact zJc ⟨by omega,by omega⟩
theorem quo_t {s n:Int} (h:1<=s) (c:IntKind.i64.wrap (Int.tdiv 4096 s)<n):4096<s*n:=by rw [quo_wrap h] at c;exact (quo_lt h).1 c
theorem quo_f {s n:Int} (h:1<=s) (c:¬IntKind.i64.wrap (Int.tdiv 4096 s)<n):¬4096<s*n:=by rw [quo_wrap h] at c;exact fun k=>c ((quo_lt h).2 k)
theorem zLi {d:List Int} {k:Nat} {n:Int} (h:d.all pJ=true) (hn:d[k]? =some n):1<=n:=by
 have:=(List.all_eq_true.1 h) n (zZ hn)
 simpa [pJ] using this
theorem zOe {s n:Int} (h:1<=s) (h2:1<=n):1<=s*n/\n<=s*n:=by
 have h3:1*n<=s*n:=Int.mul_le_mul_of_nonneg_right h (by omega)
 omega
def zBf:Bf:=⟨bs [],zTy,[],0⟩
def dM (l:List Bf) (s:ByteArray):Bool:=l.any fun b=>decide (b.Name=s)
def gH:List Bf->ByteArray->Bf
 |[],_=>zBf
 |b::r,s=>if b.Name=s then b else gH r s
theorem bufD_at {l:List Bf} {k:Nat} {b:Bf} {s:ByteArray} (h:l[k]? =some b) (hb:b.Name=s):gH (l.drop k) s=b:=by rw [qR h,gH,if_pos hb]
theorem bufD_next {l:List Bf} {k:Nat} {b:Bf} {s:ByteArray} (h:l[k]? =some b) (hb:¬b.Name=s):gH (l.drop k) s=gH (l.drop (k+1)) s:=by rw [qR h,gH,if_neg hb]
theorem hasBf_at {l:List Bf} {k:Nat} {b:Bf} {s:ByteArray} (h:l[k]? =some b) (hb:b.Name=s):dM l s=true:=by
 unfold dM;rw [List.any_eq_true];exact ⟨b,zZ h,decide_eq_true hb⟩
theorem zQj {l:List Bf} {k:Nat} {b:Bf} {s:ByteArray} (h:l[k]? =some b) (hp:dM (l.take k) s=false) (hb:¬b.Name=s):dM (l.take (k+1)) s=false:=by
 unfold dM at *;rw [yL h,List.any_append,hp];simp [hb]
theorem hasBf_lt {l:List Bf} {j k:Nat} {b:Bf} {s:ByteArray} (h:l[j]? =some b) (hj:j<k) (hb:b.Name=s):dM (l.take k) s=true:=by
 have:(l.take k)[j]? =some b:=by rw [List.getElem?_take];simp [hj,h]
 exact hasBf_at this hb
theorem bufD_no:∀{l:List Bf} {s:ByteArray},dM l s=false->gH l s=zBf
 |[],_,_=>rfl
 |b::r,s,h=>by
  simp only [dM,List.any_cons,Bool.or_eq_false_iff,decide_eq_false_iff_not] at h
  rw [gH,if_neg h.1];exact bufD_no h.2
def lF (seen:List Bf) (b:Bf):Int:=
 if bD b.Name=true then (if dM seen b.Name=true then 8 else if jM b.T=true then (if gL b.Dims=0 then (if b.Use<1∨3<b.Use then 1 else 0) else gL b.Dims) else 10) else 7
def dP:List Bf->List Bf->Int
 |_,[]=>0
 |seen,b::r=>if lF seen b=0 then dP (seen++[b]) r else lF seen b
theorem bfErr_7 {seen:List Bf} {b:Bf} (h:bD b.Name=false):lF seen b=7:=by unfold lF;rw [if_neg (by rw [h];simp)]
theorem bfErr_8 {seen:List Bf} {b:Bf} (h:bD b.Name=true) (h2:dM seen b.Name=true):lF seen b=8:=by unfold lF;rw [if_pos h,if_pos h2]
theorem zTe {seen:List Bf} {b:Bf} (h:bD b.Name=true) (h2:dM seen b.Name=false) (h3:jM b.T=false):lF seen b=10:=by unfold lF;rw [if_pos h,if_neg (by rw [h2];simp),if_neg (by rw [h3];simp)]
theorem bfErr_d {seen:List Bf} {b:Bf} (h:bD b.Name=true) (h2:dM seen b.Name=false) (h3:jM b.T=true) (h4:¬gL b.Dims=0):lF seen b=gL b.Dims:=by unfold lF;rw [if_pos h,if_neg (by rw [h2];simp),if_pos h3,if_neg h4]
theorem bfErr_u {seen:List Bf} {b:Bf} (h:bD b.Name=true) (h2:dM seen b.Name=false) (h3:jM b.T=true) (h4:gL b.Dims=0) (h5:b.Use<1∨3<b.Use):lF seen b=1:=by unfold lF;rw [if_pos h,if_neg (by rw [h2];simp),if_pos h3,if_pos h4,if_pos h5]
theorem bfErr_0 {seen:List Bf} {b:Bf} (h:bD b.Name=true) (h2:dM seen b.Name=false) (h3:jM b.T=true) (h4:gL b.Dims=0) (h5:¬(b.Use<1∨3<b.Use)):lF seen b=0:=by unfold lF;rw [if_pos h,if_neg (by rw [h2];simp),if_pos h3,if_pos h4,if_neg h5]
theorem zRh {l:List Bf} {k:Nat} {b:Bf} (h:l[k]? =some b) (hp:dP [] l=dP (l.take k) (l.drop k)) (hb:lF (l.take k) b=0):dP [] l=dP (l.take (k+1)) (l.drop (k+1)):=by
 rw [hp,qR h,dP,if_pos hb,yL h]
theorem zBp {l:List Bf} {k:Nat} {b:Bf} (h:l[k]? =some b) (hp:dP [] l=dP (l.take k) (l.drop k)) (hb:¬lF (l.take k) b=0):dP [] l=lF (l.take k) b:=by
 rw [hp,qR h,dP,if_neg hb]
theorem zWx {l:List Bf} {k:Nat} (hp:dP [] l=dP (l.take k) (l.drop k)) (h:¬k<l.length):dP [] l=0:=by
 rw [hp,yW h];rfl
/-! ## Depth and number of statements -/
def bP:Nat->List St->Bool
 |0,l=>l.isEmpty
 |n+1,l=>l.all fun s=>bP n s.Body
def lS:Nat->List St->Int
 |0,_=>0
 |n+1,l=>l.foldl (fun d s=>max d (1+lS n s.Body)) 0
theorem depF_ge {f:St->Int}:∀(l:List St) (d:Int),d<=l.foldl (fun d s=>max d (1+f s)) d
 |[],d=>Int.le_refl _
 |x::r,d=>by have:=depF_ge (f:=f) r (max d (1+f x));rw [List.foldl_cons];omega
theorem zSv {f:St->Int} {m:Int}:∀(l:List St) (d:Int),l.foldl (fun d s=>max d (1+f s)) d<=m↔d<=m/\∀s,s∈l->1+f s<=m
 |[],d=>by simp
 |x::r,d=>by
  rw [List.foldl_cons,zSv r]
  constructor
  ·rintro ⟨h1,h2⟩
   refine ⟨by omega,fun s hs=>?_⟩
   rcases List.mem_cons.1 hs with rfl|hs
   ·omega
   ·exact h2 s hs
  ·rintro ⟨h1,h2⟩
   have:=h2 x (by simp)
   exact ⟨by omega,fun s hs=>h2 s (by simp [hs])⟩
theorem zIl:∀(n:Nat) (l:List St),lS (n+1) l<=n↔bP n l=true
 |0,l=>by
  rw [lS,zSv]
  cases l with
  |nil=>simp [bP]
  |cons x r=>
   simp only [bP,List.isEmpty_cons,Bool.false_eq_true,iff_false,not_and]
   intro _ h
   have:=h x (by simp)
   simp only [lS] at this;omega
 |n+1,l=>by
  rw [lS,zSv,bP,List.all_eq_true]
  constructor
  ·rintro ⟨_,h⟩ s hs
   have:=h s hs
   exact (zIl n s.Body).1 (by omega)
  ·intro h
   refine ⟨by omega,fun s hs=>?_⟩
   have:=(zIl n s.Body).2 (h s hs)
   omega
theorem depS_le:∀(n:Nat) (l:List St),0<=lS n l/\lS n l<=n
 |0,l=>by simp [lS]
 |n+1,l=>by
  rw [lS]
  refine ⟨depF_ge l 0,(zSv l 0).2 ⟨by omega,fun s _=>?_⟩⟩
  have:=depS_le n s.Body;omega
mutual
def stN:St->Nat
 |.mk _ _ _ _ _ _ _ b=>1+bN b
def bN:List St->Nat
 |[]=>0
 |s::r=>stN s+bN r
end
def pZ (n:Nat) (l:List St):Bool:=bP n l
theorem withinG_eq (n:Nat) (l:List St):pZ n l=bP n l:=rfl
theorem withinG_next {n:Nat} {l:List St} {k:Nat} {s:St} (h:l[k]? =some s) (hp:pZ n (l.take k)=true) (hn:1<=n) (hs:bP (n-1) s.Body=true):pZ n (l.take (k+1))=true:=by
 obtain ⟨m,rfl⟩:∃m,n=m+1:=⟨n-1,by omega⟩
 exact zLa h hp hs
theorem within_no {n:Nat} {l:List St} {k:Nat} {s:St} {x:Int} (h:l[k]? =some s) (hx:x=n) (c:(decide (x<1)|| !bP (n-1) s.Body)=true):bP n l=false:=by
 cases n with
 |zero=>cases l with
  |nil=>simp at h
  |cons a r=>rfl
 |succ n=>
  have:bP n s.Body=false:=by
   rw [Bool.or_eq_true] at c
   rcases c with c|c
   ·rw [decide_eq_true_eq] at c;omega
   ·simpa using c
  exact zKy h this
theorem within_yes {n:Nat} {s:St} {x:Int} (hx:x=n) (c:(decide (x<1)|| !bP (n-1) s.Body)=false):1<=n/\bP (n-1) s.Body=true:=by
 rw [Bool.or_eq_false_iff] at c
 refine ⟨?_,by simpa using c.2⟩
 have:=c.1;rw [decide_eq_false_iff_not] at this;omega
theorem depS_next {n:Nat} {l:List St} {k:Nat} {s:St} (h:l[k]? =some s) (hn:1<=n):lS n (l.take (k+1))=max (lS n (l.take k)) (1+lS (n-1) s.Body):=by
 obtain ⟨m,rfl⟩:∃m,n=m+1:=⟨n-1,by omega⟩
 rw [yL h,lS,List.foldl_append];rfl
theorem depS_stop {n:Nat} {l:List St} {k:Nat} {x d:Int} (hx:x=n) (hd:d=lS n (l.take k)) (c:l.length<=k∨x<=0):d=lS n l:=by
 by_cases h0:n=0
 ·subst h0;rw [hd];rfl
 ·rw [hd,yU (by omega)]
theorem zDi (s:St):stN s=1+bN s.Body:=by cases s;rw [stN];rfl
theorem zBd:∀(a b:List St),bN (a++b)=bN a+bN b
 |[],b=>by simp [bN]
 |x::r,b=>by rw [List.cons_append,bN,bN,zBd r b];omega
theorem zBt:∀l:List St,l.length<=bN l
 |[]=>by simp [bN]
 |x::r=>by have:=zBt r;have:=zDi x;rw [bN,List.length_cons];omega
mutual
theorem stN_wt:∀s:St,stN s<=s.wt
 |.mk o n m k f i e b=>by rw [stN,St.wt];have:=zCr b;omega
theorem zCr:∀l:List St,bN l<=bC l
 |[]=>by simp [bN,bC]
 |s::r=>by rw [bN,bC];have:=stN_wt s;have:=zCr r;omega
end
mutual
def pK:St->Nat->Nat
 |.mk _ _ _ _ _ _ _ b,m=>lB b m b.length
def lB:List St->Nat->Nat->Nat
 |[],_,n=>n
 |s::r,m,n=>if n<=m then lB r m (n+pK s (m-n)) else n
end
def jN (l:List St) (m:Nat):Nat:=lB l m l.length
theorem numS_eq (s:St) (m:Nat):pK s m=jN s.Body m:=by cases s;rw [pK];rfl
mutual
theorem numS_le:∀(s:St) (m:Nat),pK s m<=stN s-1
 |.mk _ _ _ _ _ _ _ b,m=>by
  rw [pK,stN]
  have h1:=numL_le b m b.length
  have h2:=zBt b
  omega
theorem numL_le:∀(l:List St) (m n:Nat),lB l m n<=n+(bN l-l.length)
 |[],m,n=>by simp [lB]
 |s::r,m,n=>by
  rw [lB]
  have h3:=zBt r
  have h4:=zDi s
  split
  ·have h1:=numL_le r m (n+pK s (m-n))
   have h2:=numS_le s (m-n)
   rw [bN,List.length_cons];omega
  ·rw [bN,List.length_cons];omega
end
theorem numB_le (l:List St) (m:Nat):jN l m<=bN l:=by
 have h1:=numL_le l m l.length
 have h2:=zBt l
 unfold jN;omega
mutual
theorem numS_eqN:∀(s:St) (m:Nat),stN s-1<=m->pK s m=stN s-1
 |.mk _ _ _ _ _ _ _ b,m,h=>by
  rw [stN] at h
  rw [pK,stN,numL_eqN b m b.length (by have:=zBt b;omega)]
  have:=zBt b;omega
theorem numL_eqN:∀(l:List St) (m n:Nat),n+(bN l-l.length)<=m->lB l m n=n+(bN l-l.length)
 |[],m,n,h=>by simp [lB,bN]
 |s::r,m,n,h=>by
  rw [bN,List.length_cons] at h
  have h3:=zBt r
  have h4:=zDi s
  rw [lB,if_pos (by omega),numS_eqN s (m-n) (by omega),numL_eqN r m _ (by omega),bN,List.length_cons]
  omega
end
theorem numB_eqN {l:List St} {m:Nat} (h:bN l<=m):jN l m=bN l:=by
 have h2:=zBt l
 unfold jN
 rw [numL_eqN l m _ (by omega)];omega
theorem numL_ge:∀(l:List St) (m n:Nat),n<=lB l m n
 |[],m,n=>by rw [lB];omega
 |s::r,m,n=>by
  rw [lB];split
  ·have:=numL_ge r m (n+pK s (m-n));omega
  ·omega
mutual
theorem numS_ok:∀(s:St) (m:Nat),pK s m<=m->pK s m=stN s-1
 |.mk _ _ _ _ _ _ _ b,m,h=>by
  rw [pK] at h⊢
  rw [stN,numL_ok b m _ h]
  have:=zBt b;omega
theorem numL_ok:∀(l:List St) (m n:Nat),lB l m n<=m->lB l m n=n+(bN l-l.length)
 |[],m,n,h=>by simp [lB,bN]
 |s::r,m,n,h=>by
  have h3:=zBt r
  have h4:=zDi s
  by_cases hn:n<=m
  ·rw [lB,if_pos hn] at h⊢
   have h5:=numL_ge r m (n+pK s (m-n))
   have h6:=numS_ok s (m-n) (by omega)
   rw [numL_ok r m _ h,h6,bN,List.length_cons];omega
  ·rw [lB,if_neg hn] at h;omega
end
theorem numB_ok {l:List St} {m:Nat} (h:jN l m<=m):bN l=jN l m:=by
 have h2:=zBt l
 unfold jN at *
 rw [numL_ok l m _ h];omega
theorem num_next {l:List St} {k m n N:Nat} {s:St} (h:l[k]? =some s) (hp:N=lB (l.drop k) m n) (hn:n<=m):N=lB (l.drop (k+1)) m (n+jN s.Body (m-n)):=by
 rw [hp,qR h,lB,if_pos hn,numS_eq]
theorem num_end {l:List St} {k m n N:Nat} (hp:N=lB (l.drop k) m n) (h:l.length<=k∨m<n):n=N:=by
 rw [hp]
 by_cases hk:k<l.length
 ·obtain ⟨a,ha⟩:=qY l k hk
  rw [qR ha,lB,if_neg (by omega)]
 ·rw [yW hk,lB]
theorem zHq {l:List St} {s:St} (h:s∈l):stN s<=bN l:=by
 induction l with
 |nil=>cases h
 |cons x r ih=>
  rw [bN]
  rcases List.mem_cons.1 h with rfl|h
  ·omega
  ·have:=ih h;omega
theorem stsN_drop {l:List St} {k:Nat} {s:St} (h:l[k]? =some s):bN (l.drop k)=stN s+bN (l.drop (k+1)):=by rw [qR h,bN]
theorem num_sum {l:List St} {k m n:Nat} {s:St} (h:l[k]? =some s) (hp:jN l m=lB (l.drop k) m n) (hn:n<=m):n+jN s.Body (m-n)<=n+bN l:=by
 have h1:=numB_le s.Body (m-n)
 have h2:bN l=bN (l.take k)+(stN s+bN (l.drop (k+1))):=by
  rw [←bN,←qR h,←zBd,List.take_append_drop]
 have:=zDi s
 omega
end Go.Br
end
section
namespace Go.Br
open Go Go.Eng Go.L41
/-! ## Names of a node -/
def gS (sc:List ByteArray) (l:Lf):Bool:=l.L.all fun m=>bK sc m.Name
def sL (sc:List ByteArray) (x:Ix):Bool:=gS sc x.Lin&&x.At.all (gS sc)
def hC (sc:List ByteArray) (e:Ex):Bool:=gS sc e.Lin&&e.Idx.all (sL sc)
def jS (B:List Bf) (x:Ix):Int:=
 if x.From=bs [] then 0 else if dM B x.From=true then (if (gH B x.From).T.Kind=3 then (if (gH B x.From).Dims.length=x.At.length then 0 else 11) else 10) else 9
def lE (B:List Bf):List Ix->Int
 |[]=>0
 |x::r=>if jS B x=0 then lE B r else jS B x
def gP (B:List Bf) (sc:List ByteArray) (e:Ex):Int:=
 if hC sc e=true then (if e.Op=3 then (if dM B e.Name=true then (if (gH B e.Name).Dims.length=e.Idx.length then lE B e.Idx else 11) else 9) else 0) else 9
def dK (B:List Bf) (sc:List ByteArray):List Ex->Int
 |[]=>0
 |e::r=>if gP B sc e=0 then dK B sc r else gP B sc e
theorem gathE_0 {B:List Bf} {x:Ix} (h:x.From=bs []):jS B x=0:=by unfold jS;rw [if_pos h]
theorem gathE_9 {B:List Bf} {x:Ix} (h:¬x.From=bs []) (h1:dM B x.From=false):jS B x=9:=by unfold jS;rw [if_neg h,if_neg (by rw [h1];simp)]
theorem zSn {B:List Bf} {x:Ix} (h:¬x.From=bs []) (h1:dM B x.From=true) (h2:¬(gH B x.From).T.Kind=3):jS B x=10:=by unfold jS;rw [if_neg h,if_pos h1,if_neg h2]
theorem zSm {B:List Bf} {x:Ix} (h:¬x.From=bs []) (h1:dM B x.From=true) (h2:(gH B x.From).T.Kind=3) (h3:¬(gH B x.From).Dims.length=x.At.length):jS B x=11:=by unfold jS;rw [if_neg h,if_pos h1,if_pos h2,if_neg h3]
theorem zSl {B:List Bf} {x:Ix} (h:¬x.From=bs []) (h1:dM B x.From=true) (h2:(gH B x.From).T.Kind=3) (h3:(gH B x.From).Dims.length=x.At.length):jS B x=0:=by unfold jS;rw [if_neg h,if_pos h1,if_pos h2,if_pos h3]
theorem zLp {B:List Bf} {l:List Ix} {k:Nat} {x:Ix} (h:l[k]? =some x) (hx:jS B x=0):lE B (l.drop k)=lE B (l.drop (k+1)):=by rw [qR h,lE,if_pos hx]
theorem zLo {B:List Bf} {l:List Ix} {k:Nat} {x:Ix} (h:l[k]? =some x) (hx:¬jS B x=0):lE B (l.drop k)=jS B x:=by rw [qR h,lE,if_neg hx]
theorem nodeN_9 {B:List Bf} {sc:List ByteArray} {e:Ex} (h:hC sc e=false):gP B sc e=9:=by unfold gP;rw [if_neg (by rw [h];simp)]
theorem nodeN_o {B:List Bf} {sc:List ByteArray} {e:Ex} (h:hC sc e=true) (h1:¬e.Op=3):gP B sc e=0:=by unfold gP;rw [if_pos h,if_neg h1]
theorem nodeN_n {B:List Bf} {sc:List ByteArray} {e:Ex} (h:hC sc e=true) (h1:e.Op=3) (h2:dM B e.Name=false):gP B sc e=9:=by unfold gP;rw [if_pos h,if_pos h1,if_neg (by rw [h2];simp)]
theorem nodeN_r {B:List Bf} {sc:List ByteArray} {e:Ex} (h:hC sc e=true) (h1:e.Op=3) (h2:dM B e.Name=true) (h3:¬(gH B e.Name).Dims.length=e.Idx.length):gP B sc e=11:=by unfold gP;rw [if_pos h,if_pos h1,if_pos h2,if_neg h3]
theorem zKe {B:List Bf} {sc:List ByteArray} {e:Ex} (h:hC sc e=true) (h1:e.Op=3) (h2:dM B e.Name=true) (h3:(gH B e.Name).Dims.length=e.Idx.length):gP B sc e=lE B e.Idx:=by unfold gP;rw [if_pos h,if_pos h1,if_pos h2,if_pos h3]
theorem zIa (B:List Bf) (sc:List ByteArray):∀(a b:List Ex),dK B sc (a++b)=if dK B sc a=0 then dK B sc b else dK B sc a
 |[],b=>by simp [dK]
 |x::r,b=>by
  rw [List.cons_append,dK,dK,zIa B sc r b]
  by_cases h:gP B sc x=0
  ·rw [if_pos h,if_pos h]
  ·rw [if_neg h,if_neg h,if_neg h]
theorem zQa {B:List Bf} {sc:List ByteArray} {pre:List Ex} {x:Ex} (h:dK B sc pre=0):dK B sc (pre++[x])=gP B sc x:=by
 rw [zIa,if_pos h,dK,dK]
 by_cases hx:gP B sc x=0
 ·rw [if_pos hx,hx]
 ·rw [if_neg hx]
theorem nodesN_pre {B:List Bf} {sc:List ByteArray} {pre suf:List Ex} {x:Ex} (h:¬dK B sc (pre++[x])=0):dK B sc (pre++x::suf)=dK B sc (pre++[x]):=by
 rw [show pre++x::suf=(pre++[x])++suf by simp,zIa,if_neg h]
theorem nodesN_at {B:List Bf} {sc:List ByteArray} {l:List Ex} {k:Nat} {x:Ex} (h:l[k]? =some x) (hx:gP B sc x=0):dK B sc (l.drop k)=dK B sc (l.drop (k+1)):=by rw [qR h,dK,if_pos hx]
theorem nodesN_no {B:List Bf} {sc:List ByteArray} {l:List Ex} {k:Nat} {x:Ex} (h:l[k]? =some x) (hx:¬gP B sc x=0):dK B sc (l.drop k)=gP B sc x:=by rw [qR h,dK,if_neg hx]
/-! ## Types -/
def tyF (B:List Bf) (e:Ex) (l:List Ty):Ty×Int:=
 if e.Op=1∨e.Op=12 then (e.Ty,0) else
 if e.Op=2 then (iTy,0) else
 if e.Op=3 then ((gH B e.Name).T,0) else
 if e.Op=8 then (dV l 0,0) else
 if e.Op=16∨e.Op=17∨e.Op=18 then (zTy,0) else
 if dV l (l.length-2)=dV l (l.length-1) then (if bV e=true then (zTy,0) else (dV l (l.length-1),0)) else (zTy,10)
theorem zCd {B:List Bf} {e:Ex} {l:List Ty} (h:e.Op=1∨e.Op=12):tyF B e l=(e.Ty,0):=by unfold tyF;rw [if_pos h]
theorem zCk {B:List Bf} {e:Ex} {l:List Ty} (h:e.Op=2):tyF B e l=(iTy,0):=by unfold tyF;rw [if_neg (by omega),if_pos h]
theorem zCc {B:List Bf} {e:Ex} {l:List Ty} (h:e.Op=3):tyF B e l=((gH B e.Name).T,0):=by unfold tyF;rw [if_neg (by omega),if_neg (by omega),if_pos h]
theorem zCj {B:List Bf} {e:Ex} {l:List Ty} (h:e.Op=8):tyF B e l=(dV l 0,0):=by unfold tyF;rw [if_neg (by omega),if_neg (by omega),if_neg (by omega),if_pos h]
theorem wZ {B:List Bf} {e:Ex} {l:List Ty} (h:e.Op=16∨e.Op=17∨e.Op=18):tyF B e l=(zTy,0):=by unfold tyF;rw [if_neg (by omega),if_neg (by omega),if_neg (by omega),if_neg (by omega),if_pos h]
abbrev jC (o:Int):Prop:=o=1∨o=12∨o=2∨o=3∨o=8∨o=16∨o=17∨o=18
theorem tyF_o {B:List Bf} {e:Ex} {l:List Ty} (h:¬jC e.Op):tyF B e l=if dV l (l.length-2)=dV l (l.length-1) then (if bV e=true then (zTy,0) else (dV l (l.length-1),0)) else (zTy,10):=by
 unfold jC at h;unfold tyF;rw [if_neg (by omega),if_neg (by omega),if_neg (by omega),if_neg (by omega),if_neg (by omega)]
theorem zAa {B:List Bf} {e:Ex} {l:List Ty} (h:¬jC e.Op) (h2:¬dV l (l.length-2)=dV l (l.length-1)):tyF B e l=(zTy,10):=by rw [tyF_o h,if_neg h2]
theorem zCi {B:List Bf} {e:Ex} {l:List Ty} (h:¬jC e.Op) (h2:dV l (l.length-2)=dV l (l.length-1)) (h3:bV e=true):tyF B e l=(zTy,0):=by rw [tyF_o h,if_pos h2,if_pos h3]
theorem zCb {B:List Bf} {e:Ex} {l:List Ty} (h:¬jC e.Op) (h2:dV l (l.length-2)=dV l (l.length-1)) (h3:bV e=false):tyF B e l=(dV l (l.length-1),0):=by rw [tyF_o h,if_pos h2,if_neg (by rw [h3];simp)]
theorem tyF_zero {B:List Bf} {e:Ex} {l:List Ty} (h:¬(tyF B e l).2=0):(tyF B e l).1=zTy:=by
 unfold tyF at h⊢
 repeat' split at h<;>first|exact absurd rfl h|skip
 all_goals simp_all
theorem nodeT_zero {B:List Bf} {e:Ex} (h:¬(dT (tyF B) e).2=0):(dT (tyF B) e).1=zTy:=by
 rw [zSf] at h⊢
 split
 ·rename_i c
  rw [if_pos c] at h
  exact tyF_zero h
 ·rfl
def gW:List Ex->List Ty->List Ty
 |[],_=>[]
 |_::_,[]=>[]
 |a::r,t::ts=>if bV a=true then gW r ts else t::gW r ts
def kiF (B:List Bf) (e:Ex) (l:List Ty):Ty×Int:=
 if l.length=2/\¬dV l 0=dV l 1 then (zTy,10) else
 if e.Op=1∨e.Op=12 then (e.Ty,0) else
 if e.Op=2 then (iTy,0) else
 if e.Op=3 then ((gH B e.Name).T,0) else
 if bV e=true then (zTy,0) else (dV l 0,0)
def kiN (B:List Bf) (e:Ex) (l:List Ty):Ty×Int:=kiF B e (gW e.Args l)
theorem zHd {B:List Bf} {e:Ex} {l:List Ty} (h:l.length=2) (h2:¬dV l 0=dV l 1):kiF B e l=(zTy,10):=by unfold kiF;rw [if_pos ⟨h,h2⟩]
theorem zQi {B:List Bf} {e:Ex} {l:List Ty} (h:¬(l.length=2/\¬dV l 0=dV l 1)) (h1:e.Op=1∨e.Op=12):kiF B e l=(e.Ty,0):=by unfold kiF;rw [if_neg h,if_pos h1]
theorem zRr {B:List Bf} {e:Ex} {l:List Ty} (h:¬(l.length=2/\¬dV l 0=dV l 1)) (h1:e.Op=2):kiF B e l=(iTy,0):=by unfold kiF;rw [if_neg h,if_neg (by omega),if_pos h1]
theorem zRq {B:List Bf} {e:Ex} {l:List Ty} (h:¬(l.length=2/\¬dV l 0=dV l 1)) (h1:e.Op=3):kiF B e l=((gH B e.Name).T,0):=by unfold kiF;rw [if_neg h,if_neg (by omega),if_neg (by omega),if_pos h1]
theorem zOn {B:List Bf} {e:Ex} {l:List Ty} (h:¬(l.length=2/\¬dV l 0=dV l 1)) (h1:bV e=true):kiF B e l=(zTy,0):=by
 have:13<=e.Op:=by unfold bV at h1;simp at h1;omega
 unfold kiF
 by_cases h12:e.Op=1∨e.Op=12
 ·omega
 ·rw [if_neg h,if_neg h12,if_neg (by omega),if_neg (by omega),if_pos h1]
theorem zOm {B:List Bf} {e:Ex} {l:List Ty} (h:¬(l.length=2/\¬dV l 0=dV l 1)) (h1:¬(e.Op=1∨e.Op=12∨e.Op=2∨e.Op=3)) (h2:bV e=false):kiF B e l=(dV l 0,0):=by
 unfold kiF;rw [if_neg h,if_neg (by omega),if_neg (by omega),if_neg (by omega),if_neg (by rw [h2];simp)]
theorem zUy:∀{arg_:List Ex} {ts:List Ty} {a:Ex} {t:Ty},arg_.length=ts.length->gW (arg_++[a]) (ts++[t])=gW arg_ ts++(if bV a=true then [] else [t])
 |[],[],a,t,_=>by simp only [List.nil_append,gW]
 |x::r,y::s,a,t,h=>by
  simp only [List.cons_append,gW]
  rw [zUy (arg_:=r) (ts:=s) (by simpa using h)]
  split<;>rfl
 |[],_::_,_,_,h=>by simp at h
 |_::_,[],_,_,h=>by simp at h
theorem conds_ok {e:Ex} (h:fZ e=0):fN e.Op 0 e.Args=true:=by
 have:=(zOd (zGw h)).2.2.2.1
 simp only [gZ,Bool.and_eq_true] at this
 exact this.2
theorem ty_ki {B:List Bf} {e:Ex} {l:List Ty} (h:fZ e=0) (hl:l.length=e.Args.length):tyF B e l=kiN B e l:=by
 have hr:=zSd h
 have hc:=conds_ok h
 obtain ⟨o1,o2⟩:=node_op (zGw h)
 have hle:l.length=(bU e.Op).toNat:=by omega
 unfold kiN
 generalize hA:e.Args=A at hr hc hl
 have hcond:bV e=true↔13<=e.Op:=by unfold bV;simp;omega
 unfold bU at hr
 by_cases c0:e.Op=1∨e.Op=2∨e.Op=3
 ·rw [if_pos c0] at hr
  match A,l,hr,hl with
  |[],[],_,_=>
   have hn:¬(([]:List Ty).length=2/\¬dV [] 0=dV [] 1):=by simp
   rcases c0 with c|c|c
   ·rw [zCd (.inl c)];exact (zQi hn (.inl c)).symm
   ·rw [zCk c];exact (zRr hn c).symm
   ·rw [zCc c];exact (zRq hn c).symm
  |_::_,_,hr,_=>simp at hr;omega
 rw [if_neg c0] at hr
 by_cases c1:e.Op=8∨e.Op=12∨e.Op=18
 ·rw [if_pos c1] at hr
  match A,l,hr,hl with
  |[a],[t],_,_=>
   simp only [fN,Bool.and_true,beq_iff_eq] at hc
   rcases c1 with c|c|c
   ·have ha:bV a=false:=by rw [hc];simp [gT,c]
    rw [zCj c,gW,if_neg (by rw [ha];simp),gW,zOm (by simp) (by omega) (by cases hx:bV e;rfl;exact absurd (hcond.1 hx) (by omega))]
   ·have ha:bV a=false:=by rw [hc];simp [gT,c]
    rw [zCd (.inr c),gW,if_neg (by rw [ha];simp),gW,zQi (by simp) (.inr c)]
   ·have ha:bV a=true:=by rw [hc];simp [gT,c]
    rw [wZ (by omega),gW,if_pos ha,gW,zOn (by simp) (hcond.2 (by omega))]
  |[],_,hr,_=>simp at hr
  |_::_::_,_,hr,_=>simp at hr;omega
 rw [if_neg c1] at hr
 by_cases c11:e.Op=11
 ·rw [if_pos c11] at hr
  match A,l,hr,hl with
  |[a,b,c],[s,t,u],_,_=>
   simp only [fN,Bool.and_true,Bool.and_eq_true,beq_iff_eq] at hc
   have ha:bV a=true:=by rw [hc.1];simp [gT,c11]
   have hb:bV b=false:=by rw [hc.2.1];simp [gT,c11]
   have hd:bV c=false:=by rw [hc.2.2];simp [gT,c11]
   have hec:bV e=false:=by cases hx:bV e;rfl;exact absurd (hcond.1 hx) (by omega)
   rw [gW,if_pos ha,gW,if_neg (by rw [hb];simp),gW,if_neg (by rw [hd];simp),gW]
   by_cases q:t=u
   ·subst q
    rw [zCb (by unfold jC;omega) rfl hec,zOm (by simp [dV]) (by omega) hec];rfl
   ·rw [zAa (e:=e) (l:=[s,t,u]) (by unfold jC;omega) q,zHd (l:=[t,u]) rfl q]
  |[],_,hr,_=>simp at hr
  |[_],_,hr,_=>simp at hr
  |[_,_],_,hr,_=>simp at hr
  |_::_::_::_::_,_,hr,_=>simp at hr;omega
 rw [if_neg c11] at hr
 match A,l,hr,hl with
 |[a,b],[t,u],_,_=>
  simp only [fN,Bool.and_true,Bool.and_eq_true,beq_iff_eq] at hc
  by_cases c16:e.Op=16∨e.Op=17
  ·have ha:bV a=true:=by rw [hc.1];rcases c16 with c|c<;>simp [gT,c]
   have hb:bV b=true:=by rw [hc.2];rcases c16 with c|c<;>simp [gT,c]
   rw [wZ (by omega),gW,if_pos ha,gW,if_pos hb,gW,zOn (by simp) (hcond.2 (by omega))]
  ·have w:∀i,gT e.Op i=false:=fun i=>by unfold gT;simp;omega
   have ha:bV a=false:=by rw [hc.1,w]
   have hb:bV b=false:=by rw [hc.2,w]
   rw [gW,if_neg (by rw [ha];simp),gW,if_neg (by rw [hb];simp),gW]
   by_cases q:t=u
   ·subst q
    by_cases ce:bV e=true
    ·rw [zCi (by unfold jC;omega) rfl ce,zOn (by simp [dV]) ce]
    ·have ce':bV e=false:=by simpa using ce
     rw [zCb (by unfold jC;omega) rfl ce',zOm (by simp [dV]) (by omega) ce'];rfl
   ·rw [zAa (e:=e) (l:=[t,u]) (by unfold jC;omega) q,zHd (l:=[t,u]) rfl q]
 |[],_,hr,_=>simp at hr
 |[_],_,hr,_=>simp at hr
 |_::_::_::_,_,hr,_=>simp at hr;omega
mutual
theorem nodeT_ki (B:List Bf):∀e:Ex,fZ e=0->dT (tyF B) e=dT (kiN B) e
 |.mk o nm v t l i arg_,h=>by
  have h3:=nodeL_ki B arg_ fun a ha=>zUv h ha
  rw [dT,dT,←h3]
  by_cases c:(bT (tyF B) arg_).2=0
  ·rw [if_pos c,if_pos c]
   exact ty_ki h (zGz _ _ c)
  ·rw [if_neg c,if_neg c]
theorem nodeL_ki (B:List Bf):∀l:List Ex,(∀a,a∈l->fZ a=0)->bT (tyF B) l=bT (kiN B) l
 |[],_=>rfl
 |a::r,h=>by
  rw [bT,bT,←nodeT_ki B a (h a (by simp)),←nodeL_ki B r fun x hx=>h x (by simp [hx])]
end
def bW (B:List Bf) (sc:List ByteArray) (e:Ex):Ty×Int:=
 if fP e=0 then (if dK B sc (dG e)=0 then dT (tyF B) e else (zTy,dK B sc (dG e))) else (zTy,fP e)
theorem exprT_1 {B:List Bf} {sc:List ByteArray} {e:Ex} (h:¬fP e=0):bW B sc e=(zTy,fP e):=by unfold bW;rw [if_neg h]
theorem exprT_2 {B:List Bf} {sc:List ByteArray} {e:Ex} (h:fP e=0) (h2:¬dK B sc (dG e)=0):bW B sc e=(zTy,dK B sc (dG e)):=by unfold bW;rw [if_pos h,if_neg h2]
theorem zWf {B:List Bf} {sc:List ByteArray} {e:Ex} (h:fP e=0) (h2:dK B sc (dG e)=0):bW B sc e=dT (tyF B) e:=by unfold bW;rw [if_pos h,if_pos h2]
theorem exprT_k {B:List Bf} {sc:List ByteArray} {e:Ex} (h:fP e=0) (h2:dK B sc (dG e)=0):bW B sc e=dT (kiN B) e:=by rw [zWf h h2];exact nodeT_ki B e (zGq h)
theorem exprT_rd {B:List Bf} {sc:List ByteArray} {s:St} (h:(bW B sc (rdE s)).2=0):(bW B sc (rdE s)).1=(gH B s.Name).T:=by
 by_cases h1:fP (rdE s)=0
 ·by_cases h2:dK B sc (dG (rdE s))=0
  ·rw [zWf h1 h2,zSf]
   have:bT (tyF B) (rdE s).Args=([],0):=rfl
   rw [this,if_pos rfl,zCc rfl];rfl
  ·rw [exprT_2 h1 h2] at h;exact absurd h h2
 ·rw [exprT_1 h1] at h;exact absurd h h1
/-! ## Statements -/
def jY (e:Ex):Bool:=decide (e=zEx)
def gE (s:St):Bool:=decide (s.Op=2)||decide (s.Op=3)
def dN (s:St):Bool:=
 (decide (s.Op=1)||gE s||decide (s.Op=4))&& !(decide (s.Op=4)&& !decide (s.Name=bs []))&& !(!decide (s.Op=1)&&(!decide (s.Many=0)|| !decide (s.Mark=0)))&&
 !(!decide (s.Op=3)&& !decide (s.Fold=0))&& !(!gE s&&decide ((0:Int)<s.Idx.length))&& !(decide (s.Op=1)&& !jY s.E)&&(!gE s||decide ((s.Body.length:Int)=0))
theorem syn_1 {s:St} (c:((!decide (s.Op=1)&& !(decide (s.Op=2)||decide (s.Op=3)))&& !decide (s.Op=4))=true):false=dN s:=by
 unfold dN gE
 simp only [Bool.and_eq_true,Bool.not_eq_true',Bool.or_eq_false_iff] at c
 simp only [c.1.1,c.1.2.1,c.1.2.2,c.2,Bool.or_self,Bool.false_and]
theorem syn_2 {s:St} (c:(decide (s.Op=4)&& !decide (s.Name=bs []))=true):false=dN s:=by
 unfold dN;simp only [c,Bool.not_true,Bool.and_false,Bool.false_and]
theorem syn_3 {s:St} (c:(!decide (s.Op=1)&&(!decide (s.Many=0)|| !decide (s.Mark=0)))=true):false=dN s:=by
 unfold dN;simp only [c,Bool.not_true,Bool.and_false,Bool.false_and]
theorem syn_4 {s:St} (c:(!decide (s.Op=3)&& !decide (s.Fold=0))=true):false=dN s:=by
 unfold dN;simp only [c,Bool.not_true,Bool.and_false,Bool.false_and]
theorem syn_5 {s:St} (c:(!gE s&&decide ((0:Int)<s.Idx.length))=true):false=dN s:=by
 unfold dN;simp only [c,Bool.not_true,Bool.and_false,Bool.false_and]
theorem syn_6 {s:St} (c:(decide (s.Op=1)&& !jY s.E)=true):false=dN s:=by
 unfold dN;simp only [c,Bool.not_true,Bool.and_false,Bool.false_and]
theorem syn_7 {s:St} (c1:((!decide (s.Op=1)&& !gE s)&& !decide (s.Op=4))=false) (c2:(decide (s.Op=4)&& !decide (s.Name=bs []))=false) (c3:(!decide (s.Op=1)&&(!decide (s.Many=0)|| !decide (s.Mark=0)))=false) (c4:(!decide (s.Op=3)&& !decide (s.Fold=0))=false)
  (c5:(!gE s&&decide ((0:Int)<s.Idx.length))=false) (c6:(decide (s.Op=1)&& !jY s.E)=false):(!gE s||decide ((s.Body.length:Int)=0))=dN s:=by
 have h1:(decide (s.Op=1)||gE s||decide (s.Op=4))=true:=by
  revert c1;cases decide (s.Op=1)<;>cases gE s<;>cases decide (s.Op=4)<;>simp
 unfold dN
 simp only [h1,c2,c3,c4,c5,c6,Bool.not_false,Bool.true_and]
def lY (B:List Bf) (U:List ByteArray) (s:St):Int:=
 if bD s.Name=true then (if dM B s.Name=true∨bK U s.Name=true then 8 else if s.Many<1∨65536<s.Many∨s.Mark<0∨3<s.Mark then 1 else 0) else 7
def ifE (B:List Bf) (sc:List ByteArray) (s:St):Int:=if (bW B sc s.E).2=0 then (if bV s.E=true then 0 else 10) else (bW B sc s.E).2
def jL (B:List Bf) (sc:List ByteArray) (s:St):Int:=
 if (bW B sc (rdE s)).2=0 then (if (gH B s.Name).Use=1∨(s.Op=3/\(s.Fold<1∨4<s.Fold)) then 1 else
  if (bW B sc s.E).2=0 then (if bV s.E=true∨¬(bW B sc s.E).1=(gH B s.Name).T then 10 else 0) else (bW B sc s.E).2) else (bW B sc (rdE s)).2
def stE (B:List Bf) (U sc:List ByteArray) (s:St):Int:=
 if dN s=true then (if s.Op=1 then lY B U s else if s.Op=4 then ifE B sc s else jL B sc s) else 5
structure Ck where
 U:List ByteArray
 W:List Int
 E:Int
def fQ (U:List ByteArray) (s:St):List ByteArray:=if s.Op=1 then U++[s.Name] else U
mutual
def fC (B:List Bf):List ByteArray->List ByteArray->List Int->St->Ck
 |U,sc,here,.mk o nm mn mk fo i e b=>if stE B U sc (.mk o nm mn mk fo i e b)=0 then bR B (fQ U (.mk o nm mn mk fo i e b)) (fQ sc (.mk o nm mn mk fo i e b)) here 0 b else ⟨[],here,stE B U sc (.mk o nm mn mk fo i e b)⟩
def bR (B:List Bf):List ByteArray->List ByteArray->List Int->Int->List St->Ck
 |U,_,_,_,[]=>⟨U,[],0⟩
 |U,sc,way,i,s::r=>if (fC B U sc (way++[i]) s).E=0 then bR B (fC B U sc (way++[i]) s).U sc way (i+1) r else fC B U sc (way++[i]) s
end
theorem chkS_eq (B:List Bf) (U sc:List ByteArray) (here:List Int) (s:St):fC B U sc here s=if stE B U sc s=0 then bR B (fQ U s) (fQ sc s) here 0 s.Body else ⟨[],here,stE B U sc s⟩:=by cases s;rw [fC];rfl
theorem chkS_no {B:List Bf} {U sc:List ByteArray} {here:List Int} {s:St} (h:¬stE B U sc s=0):fC B U sc here s=⟨[],here,stE B U sc s⟩:=by rw [chkS_eq,if_neg h]
theorem zKx {B:List Bf} {U sc:List ByteArray} {here:List Int} {s:St} (h:stE B U sc s=0):fC B U sc here s=bR B (fQ U s) (fQ sc s) here 0 s.Body:=by rw [chkS_eq,if_pos h]
theorem zPd {B:List Bf} {R:Ck} {U sc:List ByteArray} {way:List Int} {l:List St} {k:Nat} {s:St} (h:l[k]? =some s) (hp:R=bR B U sc way k (l.drop k)) (hx:(fC B U sc (way++[(k:Int)]) s).E=0):R=bR B (fC B U sc (way++[(k:Int)]) s).U sc way ((k+1:Nat):Int) (l.drop (k+1)):=by
 rw [hp,qR h,bR,if_pos hx];rfl
theorem zEt {B:List Bf} {R:Ck} {U sc:List ByteArray} {way:List Int} {l:List St} {k:Nat} {s:St} (h:l[k]? =some s) (hp:R=bR B U sc way k (l.drop k)) (hx:¬(fC B U sc (way++[(k:Int)]) s).E=0):R=fC B U sc (way++[(k:Int)]) s:=by
 rw [hp,qR h,bR,if_neg hx]
theorem zTa {B:List Bf} {R:Ck} {U sc:List ByteArray} {way:List Int} {l:List St} {k:Nat} (hp:R=bR B U sc way k (l.drop k)) (h:¬k<l.length):R=⟨U,[],0⟩:=by
 rw [hp,yW h,bR]
theorem chkL_ok:∀{B:List Bf} {l:List St} {U sc:List ByteArray} {way:List Int} {i:Int},(bR B U sc way i l).E=0->(bR B U sc way i l).W=[]
 |B,[],U,sc,way,i,_=>by rw [bR]
 |B,s::r,U,sc,way,i,h=>by
  rw [bR] at h⊢
  by_cases c:(fC B U sc (way++[i]) s).E=0
  ·rw [if_pos c] at h⊢;exact chkL_ok h
  ·rw [if_neg c] at h;exact absurd h c
mutual
theorem chkS_len (B:List Bf):∀(s:St) (U sc:List ByteArray) (here:List Int),(fC B U sc here s).U.length<=U.length+stN s
 |.mk o nm mn mk fo i e b,U,sc,here=>by
  rw [fC,stN]
  split
  ·have h1:=chkL_len B b (fQ U (.mk o nm mn mk fo i e b)) (fQ sc (.mk o nm mn mk fo i e b)) here 0
   have h2:(fQ U (.mk o nm mn mk fo i e b)).length<=U.length+1:=by unfold fQ;split<;>simp
   omega
  ·simp
theorem chkL_len (B:List Bf):∀(l:List St) (U sc:List ByteArray) (way:List Int) (i:Int),(bR B U sc way i l).U.length<=U.length+bN l
 |[],U,sc,way,i=>by rw [bR];simp
 |s::r,U,sc,way,i=>by
  rw [bR,bN]
  have h1:=chkS_len B s U sc (way++[i])
  split
  ·have h2:=chkL_len B r (fC B U sc (way++[i]) s).U sc way (i+1)
   omega
  ·omega
end
theorem wW {U:List ByteArray} {s:St} (h:s.Op=1):fQ U s=U++[s.Name]:=by unfold fQ;rw [if_pos h]
theorem zGg {U:List ByteArray} {s:St} (h:¬s.Op=1):fQ U s=U:=by unfold fQ;rw [if_neg h]
theorem scAll_next {S:List ByteArray} {f:Lf} {l:List Ix} {k:Nat} {x:Ix} (h:l[k]? =some x):((gS S f&&(l.take k).all (sL S))&&gS S x.Lin&&x.At.all (gS S))=(gS S f&&(l.take (k+1)).all (sL S)):=by
 rw [yL h,List.all_append]
 simp only [List.all_cons,List.all_nil,Bool.and_true,sL,Bool.and_assoc]
theorem st10_t {c:Bool} {a b:Ty} (h:(c|| !dJ [cI a.Kind,cI a.Bits,cI a.Frac,cI a.Round,cI a.Over] [cI b.Kind,cI b.Bits,cI b.Frac,cI b.Round,cI b.Over])=true):c=true∨¬a=b:=by
 rw [tyC_eq,Bool.or_eq_true] at h
 rcases h with h|h
 ·exact .inl h
 ·exact .inr (by simpa using h)
theorem st10_f {c:Bool} {a b:Ty} (h:(c|| !dJ [cI a.Kind,cI a.Bits,cI a.Frac,cI a.Round,cI a.Over] [cI b.Kind,cI b.Bits,cI b.Frac,cI b.Round,cI b.Over])=false):¬(c=true∨¬a=b):=by
 rw [tyC_eq,Bool.or_eq_false_iff] at h
 rw [h.1]
 rintro (k|k)
 ·cases k
 ·exact k (by simpa using h.2)
theorem zNl {B:List Bf} {sc:List ByteArray} {s:St} (h:¬(bW B sc (rdE s)).2=0):jL B sc s=(bW B sc (rdE s)).2:=by unfold jL;rw [if_neg h]
theorem zLh {B:List Bf} {sc:List ByteArray} {s:St} (h:(bW B sc (rdE s)).2=0) (h2:(gH B s.Name).Use=1∨(s.Op=3/\(s.Fold<1∨4<s.Fold))):jL B sc s=1:=by unfold jL;rw [if_pos h,if_pos h2]
theorem zNk {B:List Bf} {sc:List ByteArray} {s:St} (h:(bW B sc (rdE s)).2=0) (h2:¬((gH B s.Name).Use=1∨(s.Op=3/\(s.Fold<1∨4<s.Fold)))) (h3:¬(bW B sc s.E).2=0):jL B sc s=(bW B sc s.E).2:=by unfold jL;rw [if_pos h,if_neg h2,if_neg h3]
theorem zTw {B:List Bf} {sc:List ByteArray} {s:St} (h:(bW B sc (rdE s)).2=0) (h2:¬((gH B s.Name).Use=1∨(s.Op=3/\(s.Fold<1∨4<s.Fold)))) (h3:(bW B sc s.E).2=0) (h4:bV s.E=true∨¬(bW B sc s.E).1=(gH B s.Name).T):jL B sc s=10:=by unfold jL;rw [if_pos h,if_neg h2,if_pos h3,if_pos h4]
theorem storeE_0 {B:List Bf} {sc:List ByteArray} {s:St} (h:(bW B sc (rdE s)).2=0) (h2:¬((gH B s.Name).Use=1∨(s.Op=3/\(s.Fold<1∨4<s.Fold)))) (h3:(bW B sc s.E).2=0) (h4:¬(bV s.E=true∨¬(bW B sc s.E).1=(gH B s.Name).T)):jL B sc s=0:=by unfold jL;rw [if_pos h,if_neg h2,if_pos h3,if_neg h4]
theorem loopE_7 {B:List Bf} {U:List ByteArray} {s:St} (h:bD s.Name=false):lY B U s=7:=by unfold lY;rw [if_neg (by rw [h];simp)]
theorem loopE_8 {B:List Bf} {U:List ByteArray} {s:St} (h:bD s.Name=true) (h2:dM B s.Name=true∨bK U s.Name=true):lY B U s=8:=by unfold lY;rw [if_pos h,if_pos h2]
theorem loopE_1 {B:List Bf} {U:List ByteArray} {s:St} (h:bD s.Name=true) (h2:¬(dM B s.Name=true∨bK U s.Name=true)) (h3:s.Many<1∨65536<s.Many∨s.Mark<0∨3<s.Mark):lY B U s=1:=by unfold lY;rw [if_pos h,if_neg h2,if_pos h3]
theorem loopE_0 {B:List Bf} {U:List ByteArray} {s:St} (h:bD s.Name=true) (h2:¬(dM B s.Name=true∨bK U s.Name=true)) (h3:¬(s.Many<1∨65536<s.Many∨s.Mark<0∨3<s.Mark)):lY B U s=0:=by unfold lY;rw [if_pos h,if_neg h2,if_neg h3]
theorem ifE_x {B:List Bf} {sc:List ByteArray} {s:St} (h:¬(bW B sc s.E).2=0):ifE B sc s=(bW B sc s.E).2:=by unfold ifE;rw [if_neg h]
theorem ifE_10 {B:List Bf} {sc:List ByteArray} {s:St} (h:(bW B sc s.E).2=0) (h2:bV s.E=false):ifE B sc s=10:=by unfold ifE;rw [if_pos h,if_neg (by rw [h2];simp)]
theorem ifE_0 {B:List Bf} {sc:List ByteArray} {s:St} (h:(bW B sc s.E).2=0) (h2:bV s.E=true):ifE B sc s=0:=by unfold ifE;rw [if_pos h,if_pos h2]
theorem stE_5 {B:List Bf} {U sc:List ByteArray} {s:St} (h:dN s=false):stE B U sc s=5:=by unfold stE;rw [if_neg (by rw [h];simp)]
theorem zPr {B:List Bf} {U sc:List ByteArray} {s:St} (h:dN s=true) (h2:s.Op=1):stE B U sc s=lY B U s:=by unfold stE;rw [if_pos h,if_pos h2]
theorem zTx {B:List Bf} {U sc:List ByteArray} {s:St} (h:dN s=true) (h2:s.Op=4):stE B U sc s=ifE B sc s:=by unfold stE;rw [if_pos h,if_neg (by omega),if_pos h2]
theorem stE_s {B:List Bf} {U sc:List ByteArray} {s:St} (h:dN s=true) (h2:¬s.Op=1) (h3:¬s.Op=4):stE B U sc s=jL B sc s:=by unfold stE;rw [if_pos h,if_neg h2,if_neg h3]
def dO (n:Ns):List Int×Int:=
 if bP 40 n.Body=true then (if 2000<jN n.Body 2000∨128<n.Bufs.length then ([],2) else if dP [] n.Bufs=0 then ((bR n.Bufs [] [] [] 0 n.Body).W,(bR n.Bufs [] [] [] 0 n.Body).E) else ([],dP [] n.Bufs)) else ([],13)
theorem zTr {n:Ns} (h:bP 40 n.Body=false):dO n=([],13):=by unfold dO;rw [if_neg (by rw [h];simp)]
theorem validN_2 {n:Ns} (h:bP 40 n.Body=true) (h2:2000<jN n.Body 2000∨128<n.Bufs.length):dO n=([],2):=by unfold dO;rw [if_pos h,if_pos h2]
theorem validN_b {n:Ns} (h:bP 40 n.Body=true) (h2:¬(2000<jN n.Body 2000∨128<n.Bufs.length)) (h3:¬dP [] n.Bufs=0):dO n=([],dP [] n.Bufs):=by unfold dO;rw [if_pos h,if_neg h2,if_neg h3]
theorem zNg {n:Ns} (h:bP 40 n.Body=true) (h2:¬(2000<jN n.Body 2000∨128<n.Bufs.length)) (h3:dP [] n.Bufs=0):dO n=((bR n.Bufs [] [] [] 0 n.Body).W,(bR n.Bufs [] [] [] 0 n.Body).E):=by unfold dO;rw [if_pos h,if_neg h2,if_pos h3]
structure Ns.Ok (n:Ns):Prop where
 bufs:n.Bufs.length<=4294967296
 dims:∀b,b∈n.Bufs->b.Dims.length<=17592186044416
 body:bC n.Body<=536870912
end Go.Br
end
section
namespace Go.Br
open Go Go.Eng Go.L41
def pD (i:List Ix):Ex:=.mk 0 (bs []) ⟨0,0⟩ ⟨0,0,0,0,0⟩ ⟨0,[]⟩ i []
theorem idxE_wt (i:List Ix):(pD i).wt=1+i.length+dH i:=by
 rw [Ex.wt_eq];simp only [pD,Ex.Lin,Ex.Idx,Ex.Args,dR,List.length_nil];omega
mutual
def mA:St->Nat->Nat
 |.mk _ _ _ _ _ _ _ b,m=>fK b m b.length
def fK:List St->Nat->Nat->Nat
 |[],_,n=>n
 |s::r,m,n=>if n<=m then fK r m (n+fU s.E m+fU (pD s.Idx) m+mA s (m-n)) else n
end
def jK (l:List St) (m:Nat):Nat:=fK l m l.length
theorem weighS_eq (s:St) (m:Nat):mA s m=jK s.Body m:=by cases s;rw [mA];rfl
theorem weighSs_ge:∀(l:List St) (m n:Nat),n<=fK l m n
 |[],m,n=>by rw [fK];omega
 |s::r,m,n=>by
  rw [fK];split
  ·have:=weighSs_ge r m (n+fU s.E m+fU (pD s.Idx) m+mA s (m-n));omega
  ·omega
mutual
theorem weighS_wt:∀(s:St) (m:Nat),mA s m<=m->bC s.Body<=mA s m
 |.mk _ _ _ _ _ _ _ b,m,h=>by
  rw [mA] at h⊢
  have:=zPl b m _ h
  have:=kO b
  simp only [St.Body];omega
theorem zPl:∀(l:List St) (m n:Nat),fK l m n<=m->n+(bC l-l.length)<=fK l m n
 |[],m,n,h=>by simp [fK,bC]
 |s::r,m,n,h=>by
  by_cases hn:n<=m
  ·rw [fK,if_pos hn] at h⊢
   have h1:=weighSs_ge r m (n+fU s.E m+fU (pD s.Idx) m+mA s (m-n))
   have h2:=zPl r m _ h
   have h3:=zTn s.E m (by omega)
   have h4:=zTn (pD s.Idx) m (by omega)
   have h5:=weighS_wt s (m-n) (by omega)
   have h6:=kO r
   rw [idxE_wt] at h4
   rw [bC,List.length_cons,St.wt_eq];omega
  ·rw [fK,if_neg hn] at h;omega
end
theorem weighB_wt {l:List St} {m:Nat} (h:jK l m<=m):bC l<=jK l m:=by
 unfold jK at *
 have:=zPl l m _ h
 have:=kO l
 omega
mutual
def St.fit:St->Prop
 |.mk _ _ _ _ _ i e b=>i.length<=140737488355328/\(∀x,x∈i->x.fit)/\e.fit/\b.length<=140737488355328/\nP b
def nP:List St->Prop
 |[]=>True
 |s::r=>s.fit/\nP r
end
theorem zSp {l:List St} (h:nP l):∀a,a∈l->a.fit:=by
 induction l with
 |nil=>intro a ha;cases ha
 |cons x r ih=>
  intro a ha
  rw [nP] at h
  rcases List.mem_cons.1 ha with rfl|ha
  ·exact h.1
  ·exact ih h.2 a ha
theorem fitS_of {l:List St} (h:∀a,a∈l->a.fit):nP l:=by
 induction l with
 |nil=>rw [nP];trivial
 |cons x r ih=>rw [nP];exact ⟨h x (by simp),ih fun a ha=>h a (by simp [ha])⟩
theorem St.fit_eq {s:St} (h:s.fit):s.Idx.length<=140737488355328/\(∀x,x∈s.Idx->x.fit)/\s.E.fit/\s.Body.length<=140737488355328/\nP s.Body:=by
 cases s with
 |mk o n m k f i e b=>rw [St.fit] at h;exact h
theorem idxE_fit {i:List Ix} (h1:i.length<=140737488355328) (h2:∀x,x∈i->x.fit):(pD i).fit:=by
 unfold pD;rw [Ex.fit];exact ⟨by simp,h1,by simp,h2,trivial⟩
abbrev wB (m:Nat):Nat:=140737488355328+m*1125899906857624
mutual
theorem weighS_le:∀(s:St) (m:Nat),s.fit->m<=5000->mA s m<=wB m
 |.mk o nm k f mn i e b,m,h,hm=>by
  rw [St.fit] at h
  obtain ⟨_,_,_,h1,h2⟩:=h
  rw [mA]
  exact weighSs_le b m _ h2 hm (fun hb=>by cases b;exact absurd rfl hb;simp) (by unfold wB;omega)
theorem weighSs_le:∀(l:List St) (m n:Nat),nP l->m<=5000->(l≠[]->1<=n)->n<=wB m->fK l m n<=wB m
 |[],m,n,_,_,_,h=>by rw [fK];exact h
 |s::r,m,n,hf,hm,h1,h=>by
  rw [nP] at hf
  rw [fK]
  have h1:=h1 (by simp)
  obtain ⟨f1,f2,f3,_,_⟩:=St.fit_eq hf.1
  split
  ·rename_i hn
   have h3:=weighS_le s (m-n) hf.1 (by omega)
   have h4:=zGp s.E m f3
   have h5:=zGp (pD s.Idx) m (idxE_fit f1 f2)
   refine weighSs_le r m _ hf.2 hm (fun _=>by omega) ?_
   unfold wB at *
   omega
  ·exact h
end
theorem weighSs_end {m n k:Nat} {l:List St} {N:Nat} {x:Int} (hp:N=fK (l.drop k) m n) (hx:x=m) (h:l.length<=k∨x<n):n=N:=by
 rw [hp]
 by_cases hk:k<l.length
 ·obtain ⟨a,ha⟩:=qY l k hk
  rw [qR ha,fK,if_neg (by omega)]
 ·rw [yW hk,fK]
theorem weighSs_next {m n k:Nat} {l:List St} {N:Nat} {s:St} (hs:l[k]? =some s) (hp:N=fK (l.drop k) m n) (h:n<=m):N=fK (l.drop (k+1)) m (n+fU s.E m+fU (pD s.Idx) m+jK s.Body (m-n)):=by
 rw [hp,qR hs,fK,if_pos h,weighS_eq]
theorem weigh_lt {m n:Nat} {l:List St} {k:Nat} {s:St} (hs:l[k]? =some s) (hf:nP l) (hm:m<=5000) (hn:n<=m) (h1:1<=n):n+fU s.E m+fU (pD s.Idx) m+jK s.Body (m-n)<=wB m:=by
 have hs':=zSp hf s (zZ hs)
 obtain ⟨f1,f2,f3,f4,f5⟩:=St.fit_eq hs'
 have h3:=weighS_le s (m-n) hs' (by omega)
 rw [weighS_eq] at h3
 have h4:=zGp s.E m f3
 have h5:=zGp (pD s.Idx) m (idxE_fit f1 f2)
 unfold wB at *
 omega
/-! ## What the laws of layers 30,36 and 41 take for small -/
structure Ns.Fit (n:Ns):Prop where
 bufs:n.Bufs.length<=140737488355328
 dims:∀b,b∈n.Bufs->b.Dims.length<=17592186044416
 len:n.Body.length<=140737488355328
 body:nP n.Body
theorem Ns.Fit.ok {n:Ns} (h:n.Fit) {m:Nat} (hm:m<=5000) (hb:n.Bufs.length<=150) (hw:jK n.Body m<=m):n.Ok:=
 ⟨by omega,h.dims,by have:=weighB_wt hw;omega⟩
end Go.Br
end
section
namespace Go.Br
open Go Go.Eng Go.L41
/-! ## For the reference's check -/
structure Bd where
 Name:ByteArray
 Val:Int
 deriving DecidableEq
def Bd.cells (x:Bd):List C:=[cS x.Name,cI x.Val]
theorem any_hasB (bd:List Bd) (s:ByteArray):(bd.any fun d=>decide (d.Name=s))=bK (bd.map Bd.Name) s:=by
 unfold bK;rw [List.any_map];rfl
theorem any_step {bd:List Bd} {i:Nat} {d:Bd} {s:ByteArray} (h:bd[i]? =some d):(((bd.take i).any fun d=>decide (d.Name=s))||decide (d.Name=s))=(bd.take (i+1)).any fun d=>decide (d.Name=s):=by
 rw [yL h,List.any_append];simp
theorem bound_no {l:List Lf} {sc:List ByteArray} {k j:Nat} {x:Lf} {m:Mono} (h:l[k]? =some x) (hm:x.L[j]? =some m) (c:bK sc m.Name=false):l.all (gS sc)=false:=by
 have:gS sc x=false:=zKy hm (p:=fun y:Mono=>bK sc y.Name) c
 exact zKy h this
theorem ixs_len (l:List Ix) (k:Nat):((l.take k).flatMap ixF).length<=l.length+dH l:=by
 have h1:∀l:List Ix,(l.flatMap ixF).length<=l.length+dH l:=by
  intro l
  induction l with
  |nil=>simp
  |cons x r ih=>
   rw [List.flatMap_cons,List.length_append,dH,Ix.wt,List.length_cons]
   simp only [ixF,List.length_cons];omega
 have h2:=h1 (l.take k)
 have h3:dH (l.take k)<=dH l:=by
  have:∀(l:List Ix) (k:Nat),dH (l.take k)<=dH l:=by
   intro l
   induction l with
   |nil=>intro k;simp [dH]
   |cons x r ih=>intro k;cases k with
    |zero=>simp [dH]
    |succ k=>rw [List.take_succ_cons,dH,dH];have:=ih k;omega
  exact this l k
 have h4:=List.length_take_le' k l
 omega
theorem node_sc (sc:List ByteArray) (e:Ex):([e.Lin].all (gS sc)&&(e.Idx.flatMap ixF).all (gS sc))=hC sc e:=by
 unfold hC
 congr 1
 ·simp
 ·rw [List.all_flatMap];rfl
theorem node_sc_f {sc:List ByteArray} {e:Ex} (c:(![e.Lin].all (gS sc)|| !(e.Idx.flatMap ixF).all (gS sc))=true):hC sc e=false:=by
 rw [←Bool.not_and,node_sc] at c;simpa using c
theorem node_sc_t {sc:List ByteArray} {e:Ex} (c:(![e.Lin].all (gS sc)|| !(e.Idx.flatMap ixF).all (gS sc))=false):hC sc e=true:=by
 rw [←Bool.not_and,node_sc] at c;simpa using c
theorem nonC_len:∀(arg_:List Ex) (ts:List Ty),(gW arg_ ts).length<=arg_.length
 |[],_=>by simp [gW]
 |_::_,[]=>by simp [gW]
 |a::r,t::ts=>by
  have:=nonC_len r ts
  rw [gW];split<;>simp<;>omega
theorem ki10_t {l:List Ty} (c:(decide (((l.map tyC).length:Int)=2)&& !dJ [cI (dV l 0).Kind,cI (dV l 0).Bits,cI (dV l 0).Frac,cI (dV l 0).Round,cI (dV l 0).Over] [cI (dV l 1).Kind,cI (dV l 1).Bits,cI (dV l 1).Frac,cI (dV l 1).Round,cI (dV l 1).Over])=true):l.length=2/\¬dV l 0=dV l 1:=by
 rw [Bool.and_eq_true,decide_eq_true_eq,List.length_map] at c
 exact ⟨by omega,zHn c.2⟩
theorem ki10_f {l:List Ty} (c:(decide (((l.map tyC).length:Int)=2)&& !dJ [cI (dV l 0).Kind,cI (dV l 0).Bits,cI (dV l 0).Frac,cI (dV l 0).Round,cI (dV l 0).Over] [cI (dV l 1).Kind,cI (dV l 1).Bits,cI (dV l 1).Frac,cI (dV l 1).Round,cI (dV l 1).Over])=false):¬(l.length=2/\¬dV l 0=dV l 1):=by
 rintro ⟨h1,h2⟩
 rw [Bool.and_eq_false_iff,decide_eq_false_iff_not,List.length_map] at c
 rcases c with c|c
 ·omega
 ·exact h2 (zHo c)
theorem ki_one {e:Ex} {l:List Ty} (h:fZ e=0) (hl:l.length=e.Args.length) (h1:¬(e.Op=1∨e.Op=12∨e.Op=2∨e.Op=3)) (h2:bV e=false):1<=(gW e.Args l).length:=by
 have hr:=zSd h
 have hc:=conds_ok h
 obtain ⟨o1,o2⟩:=node_op (zGw h)
 have h13:e.Op<13:=by
  unfold bV at h2
  simp only [Bool.and_eq_false_iff,decide_eq_false_iff_not] at h2
  omega
 generalize e.Args=A at hr hc hl
 have w:∀i,(e.Op=11->i≠0)->gT e.Op i=false:=fun i hi=>by
  unfold gT;simp only [Bool.or_eq_false_iff,Bool.and_eq_false_iff,decide_eq_false_iff_not]
  by_cases h11:e.Op=11
  ·have:=hi h11;omega
  ·omega
 unfold bU at hr
 match A,l,hl with
 |[],_,_=>
  exfalso
  simp only [List.length_nil] at hr
  split at hr
  ·omega
  ·split at hr
   ·simp at hr
   ·split at hr<;>simp at hr
 |[a],[t],_=>
  simp only [fN,Bool.and_true,beq_iff_eq] at hc
  have h11:e.Op≠11:=by rintro h11;rw [h11] at hr;simp at hr
  rw [w 0 (fun h=>absurd h h11)] at hc
  rw [gW,if_neg (by rw [hc];simp)];simp
 |a::b::r,t::u::s,_=>
  simp only [fN,Bool.and_eq_true,beq_iff_eq] at hc
  have hb:=hc.2.1
  rw [w (0+1) (fun _=>by omega)] at hb
  rw [gW]
  split
  ·rw [gW,if_neg (by rw [hb];simp)];simp
  ·simp
 |[_],[],hl=>simp at hl
 |[_],_::_::_,hl=>simp at hl
 |_::_::_,[],hl=>simp at hl
 |_::_::_,[_],hl=>simp at hl
theorem map_bd {bd:List Bd} {s:St}:(bd++[(⟨s.Name,s.Many⟩:Bd)]).map Bd.Name=bd.map Bd.Name++[s.Name]:=by simp
theorem pln_1 {s:St} (c:((!decide (s.Op=1)&& !decide (s.Op=4))&& !gE s)=true):false=dN s:=by
 unfold dN
 simp only [Bool.and_eq_true,Bool.not_eq_true'] at c
 simp only [c.1.1,c.1.2,c.2,Bool.or_self,Bool.false_and]
theorem pln_2 {s:St} (c:(((!decide (s.Op=1)&&(!decide (s.Many=0)|| !decide (s.Mark=0)))||(!decide (s.Op=3)&& !decide (s.Fold=0)))||(decide (s.Op=4)&& !decide (s.Name=bs [])))=true):false=dN s:=by
 rw [Bool.or_eq_true,Bool.or_eq_true] at c
 rcases c with (c|c)|c
 ·exact syn_3 c
 ·exact syn_4 c
 ·exact syn_2 c
theorem pln_3 {s:St} (c:((!gE s&&decide ((0:Int)<s.Idx.length))||(gE s&&decide ((0:Int)<s.Body.length)))=true):false=dN s:=by
 rw [Bool.or_eq_true] at c
 rcases c with c|c
 ·exact syn_5 c
 ·unfold dN
  rw [Bool.and_eq_true,decide_eq_true_eq] at c
  have:decide ((s.Body.length:Int)=0)=false:=decide_eq_false (by omega)
  simp only [c.1,this,Bool.not_true,Bool.or_self,Bool.and_false]
theorem pln_4 {s:St} (c1:((!decide (s.Op=1)&& !decide (s.Op=4))&& !gE s)=false) (c2:(((!decide (s.Op=1)&&(!decide (s.Many=0)|| !decide (s.Mark=0)))||(!decide (s.Op=3)&& !decide (s.Fold=0)))||(decide (s.Op=4)&& !decide (s.Name=bs [])))=false)
  (c3:((!gE s&&decide ((0:Int)<s.Idx.length))||(gE s&&decide ((0:Int)<s.Body.length)))=false):(!decide (s.Op=1)||decide (s.E=zEx))=dN s:=by
 rw [Bool.or_eq_false_iff,Bool.or_eq_false_iff] at c2
 rw [Bool.or_eq_false_iff] at c3
 have h1:(decide (s.Op=1)||gE s||decide (s.Op=4))=true:=by
  revert c1;cases decide (s.Op=1)<;>cases gE s<;>cases decide (s.Op=4)<;>simp
 have h7:(!gE s||decide ((s.Body.length:Int)=0))=true:=by
  have h:=c3.2
  rw [Bool.and_eq_false_iff,decide_eq_false_iff_not] at h
  rcases h with h|h
  ·rw [h];rfl
  ·rw [show decide ((s.Body.length:Int)=0)=true from decide_eq_true (by omega),Bool.or_true]
 unfold dN jY
 simp only [h1,c2.1.1,c2.1.2,c2.2,c3.1,h7,Bool.not_false,Bool.true_and,Bool.and_true,Bool.not_and,Bool.not_not]
theorem st3_t {n:Int} {c:Bool} {a b:Ty} (h:(decide (n=0)&&(c|| !dJ [cI a.Kind,cI a.Bits,cI a.Frac,cI a.Round,cI a.Over] [cI b.Kind,cI b.Bits,cI b.Frac,cI b.Round,cI b.Over]))=true):n=0/\(c=true∨¬a=b):=by
 rw [Bool.and_eq_true,decide_eq_true_eq] at h
 exact ⟨h.1,st10_t h.2⟩
theorem st3_f {n:Int} {c:Bool} {a b:Ty} (h:(decide (n=0)&&(c|| !dJ [cI a.Kind,cI a.Bits,cI a.Frac,cI a.Round,cI a.Over] [cI b.Kind,cI b.Bits,cI b.Frac,cI b.Round,cI b.Over]))=false):n=0->¬(c=true∨¬a=b):=by
 intro h0
 rw [decide_eq_true h0,Bool.true_and] at h
 exact st10_f h
theorem st_fin {B:List Bf} {sc:List ByteArray} {s:St} (h:(bW B sc (rdE s)).2=0) (h2:¬((gH B s.Name).Use=1∨(s.Op=3/\(s.Fold<1∨4<s.Fold)))) (h3:(bW B sc s.E).2=0->¬(bV s.E=true∨¬(bW B sc s.E).1=(gH B s.Name).T)):jL B sc s=(bW B sc s.E).2:=by
 by_cases h4:(bW B sc s.E).2=0
 ·rw [storeE_0 h h2 h4 (h3 h4),h4]
 ·exact zNk h h2 h4
theorem if_t {B:List Bf} {sc:List ByteArray} {s:St} (c:(decide ((bW B sc s.E).2=0)&& !bV s.E)=true):ifE B sc s=10:=by
 rw [Bool.and_eq_true,decide_eq_true_eq] at c
 exact ifE_10 c.1 (by simpa using c.2)
theorem if_fin {B:List Bf} {sc:List ByteArray} {s:St} (c:(decide ((bW B sc s.E).2=0)&& !bV s.E)=false):ifE B sc s=(bW B sc s.E).2:=by
 by_cases h:(bW B sc s.E).2=0
 ·rw [decide_eq_true h,Bool.true_and] at c
  rw [ifE_0 h (by simpa using c),h]
 ·exact ifE_x h
theorem within_f {l:List St} (c:40<lS 41 l):bP 40 l=false:=by
 cases h:bP 40 l with
 |false=>rfl
 |true=>have h2:lS 41 l<=40:=(zIl 40 l).2 h;omega
theorem within_t {l:List St} (c:lS 41 l<=40):bP 40 l=true:=(zIl 40 l).1 c
end Go.Br
end
section
namespace Go.Br
open Go Go.Eng Go.L41
def below (s:ByteArray) (x:ByteArray):Bool:=dD x s
theorem zKl (x:ByteArray) (r:List ByteArray) (s:ByteArray):bK (x::r) s=(decide (x=s)||bK r s):=rfl
theorem hasB_mem {l:List ByteArray} {s:ByteArray}:bK l s=true↔s∈l:=by
 unfold bK;rw [List.any_eq_true]
 constructor
 ·rintro ⟨x,hx,h⟩;rw [decide_eq_true_eq] at h;rw [←h];exact hx
 ·intro h;exact ⟨s,h,by simp⟩
end Go.Br
end
section
namespace Go.L41
open Go Go.Eng
structure Lifetime where
 Name:ByteArray
 From:Int
 To:Int
 Size:Int
def Lifetime.cells (x:Lifetime):List C:=[cS x.Name,cI x.From,cI x.To,cI x.Size]
abbrev vL (x:Lifetime):V:=.agg x.cells
def vW (p:Int) (y:Lifetime):Bool:=decide (y.From<=p)&&decide (p<=y.To)
def cnt (l:List Lifetime) (p:Int):Int:=((l.filter (vW p)).length:Int)
theorem cnt_le (l:List Lifetime) (p:Int):0<=cnt l p/\cnt l p<=l.length:=by
 unfold cnt
 have:=List.length_filter_le (vW p) l
 omega
end Go.L41
end
section
namespace Go.Br
open Go Go.Eng Go.L41
theorem zAg (a b:List ByteArray) (s:ByteArray):bK (a++b) s=(bK a s||bK b s):=by simp [bK,List.any_append]
structure Sp where
 From:Int
 To:Int
end Go.Br
end
section
namespace Go.Br
open Go Go.Eng Go.L41
/-! ## Statements in preorder,with their paths -/
mutual
def rJ (here:List Int):St->List (St×List Int)
 |.mk o nm mn mk fo i e b=>(.mk o nm mn mk fo i e b,here)::gB here 0 b
def gB (way:List Int):Int->List St->List (St×List Int)
 |_,[]=>[]
 |i,s::r=>rJ (way++[i]) s++gB way (i+1) r
end
theorem preS_eq (here:List Int) (s:St):rJ here s=(s,here)::gB here 0 s.Body:=by cases s;rw [rJ];rfl
theorem zMr (way:List Int):∀(a b:List St) (i:Int),gB way i (a++b)=gB way i a++gB way (i+a.length) b
 |[],b,i=>by simp [gB]
 |x::r,b,i=>by
  rw [List.cons_append,gB,gB,zMr way r b,List.append_assoc,List.length_cons]
  rw [show i+1+(r.length:Int)=i+((r.length+1:Nat):Int) by omega]
theorem preL_next {way:List Int} {l:List St} {k:Nat} {s:St} (h:l[k]? =some s):gB way 0 (l.take (k+1))=gB way 0 (l.take k)++rJ (way++[(k:Int)]) s:=by
 have hk:=(List.getElem?_eq_some_iff.1 h).1
 rw [yL h,zMr,List.length_take,Nat.min_eq_left (by omega),Int.zero_add]
 simp [gB]
theorem preL_at {way:List Int} {l:List St} {k:Nat} {s:St} (h:l[k]? =some s):gB way 0 l=gB way 0 (l.take k)++(rJ (way++[(k:Int)]) s++gB way ((k:Int)+1) (l.drop (k+1))):=by
 have hk:=(List.getElem?_eq_some_iff.1 h).1
 have e:l=l.take k++s::l.drop (k+1):=by rw [←qR h,List.take_append_drop]
 have e2:=congrArg (gB way 0) e
 rw [zMr,List.length_take,Nat.min_eq_left (by omega),Int.zero_add,gB] at e2
 exact e2
theorem pre_at1 {way:List Int} {l:List St} {k:Nat} {s:St} (h:l[k]? =some s):gB way 0 l=gB way 0 (l.take k)++(s,way++[(k:Int)])::(gB (way++[(k:Int)]) 0 s.Body++gB way ((k:Int)+1) (l.drop (k+1))):=by
 rw [preL_at h,preS_eq];rfl
theorem pre_at2 {way:List Int} {l:List St} {k:Nat} {s:St} {pre suf:List (St×List Int)} {x:St×List Int} (h:l[k]? =some s) (hx:gB (way++[(k:Int)]) 0 s.Body=pre++x::suf):gB way 0 l=(gB way 0 (l.take k)++(s,way++[(k:Int)])::pre)++x::(suf++gB way ((k:Int)+1) (l.drop (k+1))):=by
 rw [pre_at1 h,hx];simp
mutual
theorem preS_len (here:List Int):∀s:St,(rJ here s).length=stN s
 |.mk o nm mn mk fo i e b=>by rw [rJ,stN,List.length_cons,zSe here b];omega
theorem zSe (way:List Int):∀(l:List St) (i:Int),(gB way i l).length=bN l
 |[],i=>by rw [gB,bN];rfl
 |s::r,i=>by rw [gB,bN,List.length_append,preS_len,zSe way r]
end
theorem zTu {l:List St} {k:Nat} {s:St} (h:l[k]? =some s):bN (l.take k)+(1+bN s.Body)<=bN l:=by
 have h2:bN l=bN (l.take k)+(stN s+bN (l.drop (k+1))):=by
  rw [←bN,←qR h,←zBd,List.take_append_drop]
 have:=zDi s
 omega
def gI (s:St):List ByteArray:=if s.Op=1 then [s.Name] else []
def mY (l:List (St×List Int)):List ByteArray:=l.flatMap fun x=>gI x.1
mutual
def dS:St->List ByteArray
 |.mk o nm mn mk fo i e b=>gI (.mk o nm mn mk fo i e b)++bE b
def bE:List St->List ByteArray
 |[]=>[]
 |s::r=>dS s++bE r
end
theorem zEm (s:St):dS s=gI s++bE s.Body:=by cases s;rw [dS];rfl
theorem loopsA_append (a b:List (St×List Int)):mY (a++b)=mY a++mY b:=by unfold mY;rw [List.flatMap_append]
mutual
theorem loopsA_S (here:List Int):∀s:St,mY (rJ here s)=dS s
 |.mk o nm mn mk fo i e b=>by
  rw [rJ,dS,←loopsA_L here b 0];rfl
theorem loopsA_L (way:List Int):∀(l:List St) (i:Int),mY (gB way i l)=bE l
 |[],i=>by rw [gB,bE];rfl
 |s::r,i=>by rw [gB,bE,loopsA_append,loopsA_S,loopsA_L way r]
end
theorem zMu {l:List St} {k:Nat} {s:St} (h:l[k]? =some s):bE (l.take (k+1))=bE (l.take k)++(gI s++bE s.Body):=by
 have:∀a b:List St,bE (a++b)=bE a++bE b:=by
  intro a b
  induction a with
  |nil=>rw [bE];rfl
  |cons x r ih=>rw [List.cons_append,bE,bE,ih,List.append_assoc]
 rw [yL h,this,bE,bE,List.append_nil,zEm]
theorem loopNm_len (s:St):(gI s).length<=1:=by unfold gI;split<;>simp
mutual
theorem loopsS_len:∀s:St,(dS s).length<=stN s
 |.mk o nm mn mk fo i e b=>by
  rw [dS,stN,List.length_append]
  have:=loopNm_len (.mk o nm mn mk fo i e b)
  have:=zHc b
  omega
theorem zHc:∀l:List St,(bE l).length<=bN l
 |[]=>by rw [bE];simp
 |s::r=>by rw [bE,bN,List.length_append];have:=loopsS_len s;have:=zHc r;omega
end
def fX (t:ByteArray) (s:St):Bool:=decide (s.Op=1)&&decide (s.Name=t)
def pM (t:ByteArray) (x:St×List Int):Bool:=fX t x.1
def lL (t:ByteArray) (l:List (St×List Int)):Option (List Int):=(l.find? (pM t)).map (·.2)
def dX (l:List St) (t:ByteArray):Option (List Int):=lL t (gB [] 0 l)
theorem findA_none {t:ByteArray} {l:List (St×List Int)} (h:l.any (pM t)=false):lL t l=none:=by
 unfold lL
 rw [List.find?_eq_none.2 (fun x hx hh=>by
  rw [List.any_eq_false] at h
  exact h x hx hh)];rfl
theorem findA_some {t:ByteArray} {pre suf:List (St×List Int)} {x:St×List Int} (h:pre.any (pM t)=false) (hx:pM t x=true):lL t (pre++x::suf)=some x.2:=by
 unfold lL
 rw [List.find?_append,List.find?_eq_none.2 (fun y hy hh=>by
  rw [List.any_eq_false] at h
  exact h y hy hh),List.find?_cons_of_pos hx];rfl
theorem any_one {t:ByteArray} {pre:List (St×List Int)} {x:St×List Int} (h:pre.any (pM t)=false) (hx:pM t x=false):(pre++[x]).any (pM t)=false:=by
 rw [List.any_append,h];simp [hx]
mutual
def nO (t:ByteArray):St->Option (List Int)
 |.mk o nm mn mk fo i e b=>if fX t (.mk o nm mn mk fo i e b)=true then some [] else gJ t 0 b
def gJ (t:ByteArray):Int->List St->Option (List Int)
 |_,[]=>none
 |i,s::r=>match nO t s with|some w=>some (i::w)|none=>gJ t (i+1) r
end
theorem fndS_eq (t:ByteArray) (s:St):nO t s=if fX t s=true then some [] else gJ t 0 s.Body:=by cases s;rw [nO];rfl
theorem findA_append (t:ByteArray) (a b:List (St×List Int)):lL t (a++b)=match lL t a with|some w=>some w|none=>lL t b:=by
 unfold lL
 rw [List.find?_append]
 cases List.find? (pM t) a<;>rfl
mutual
theorem fndS_find (t:ByteArray):∀(s:St) (here:List Int),lL t (rJ here s)=(nO t s).map (here++ ·)
 |.mk o nm mn mk fo i e b,here=>by
  rw [rJ,nO]
  by_cases h:fX t (.mk o nm mn mk fo i e b)=true
  ·rw [if_pos h,lL,List.find?_cons_of_pos (by exact h)];simp
  ·rw [if_neg h]
   have:lL t ((.mk o nm mn mk fo i e b,here)::gB here 0 b)=lL t (gB here 0 b):=by
    unfold lL;rw [List.find?_cons_of_neg (by exact h)]
   rw [this,zVy t b here 0]
theorem zVy (t:ByteArray):∀(l:List St) (way:List Int) (i:Int),lL t (gB way i l)=(gJ t i l).map (way++ ·)
 |[],way,i=>by rw [gB,gJ];rfl
 |s::r,way,i=>by
  rw [gB,gJ,findA_append,fndS_find t s,zVy t r]
  cases nO t s<;>simp
end
theorem zOr (l:List St) (t:ByteArray):dX l t=gJ t 0 l:=by
 unfold dX;rw [zVy];cases gJ t 0 l<;>simp
theorem fndL_ne (t:ByteArray):∀(l:List St) (i:Int) (u:List Int),gJ t i l=some u->u≠[]
 |[],i,u,h=>by rw [gJ] at h;cases h
 |s::r,i,u,h=>by
  rw [gJ] at h
  cases c:nO t s with
  |some w=>rw [c] at h;simp only [Option.some.injEq] at h;rw [←h];simp
  |none=>rw [c] at h;exact fndL_ne t r (i+1) u h
mutual
theorem fndS_len (t:ByteArray):∀(s:St) (w:List Int),nO t s=some w->w.length+1<=stN s
 |.mk o nm mn mk fo i e b,w,h=>by
  rw [nO] at h
  split at h
  ·simp only [Option.some.injEq] at h;rw [←h,stN];simp
  ·rw [stN];have:=fndL_len t b 0 w h;omega
theorem fndL_len (t:ByteArray):∀(l:List St) (i:Int) (w:List Int),gJ t i l=some w->w.length<=bN l
 |[],i,w,h=>by rw [gJ] at h;cases h
 |s::r,i,w,h=>by
  rw [gJ] at h
  rw [bN]
  cases c:nO t s with
  |some u=>rw [c] at h;simp only [Option.some.injEq] at h;rw [←h,List.length_cons];have:=fndS_len t s u c;omega
  |none=>rw [c] at h;have:=fndL_len t r (i+1) w h;omega
end
theorem fndL_getD (t:ByteArray) (l:List St) (i:Int):((gJ t i l).getD []).length<=bN l:=by
 cases h:gJ t i l with
 |none=>simp
 |some w=>exact fndL_len t l i w h
theorem findN_ne {t:ByteArray} {l:List St} {u:List Int} (h:dX l t=some u):u≠[]:=by rw [zOr] at h;exact fndL_ne t l 0 u h
theorem fndL_next {t:ByteArray} {l:List St} {k:Nat} {s:St} {R:Option (List Int)} (h:l[k]? =some s) (hp:R=gJ t k (l.drop k)) (hs:nO t s=none):R=gJ t ((k+1:Nat):Int) (l.drop (k+1)):=by
 rw [hp,qR h,gJ,hs];rfl
theorem fndL_hit {t:ByteArray} {l:List St} {k:Nat} {s:St} {w:List Int} {R:Option (List Int)} (h:l[k]? =some s) (hp:R=gJ t k (l.drop k)) (hs:nO t s=some w):R=some ((k:Int)::w):=by
 rw [hp,qR h,gJ,hs]
theorem fnd_2 {t:ByteArray} {l:List St} {k:Nat} {s:St} {R:Option (List Int)} (h:l[k]? =some s) (hp:R=gJ t k (l.drop k)) (c2:¬fX t s=true) (c3:(gJ t 0 s.Body).isSome=true):R=some ((k:Int)::(gJ t 0 s.Body).getD []):=by
 obtain ⟨w,hw⟩:=Option.isSome_iff_exists.1 c3
 rw [hw]
 exact fndL_hit h hp (by rw [fndS_eq,if_neg c2,hw];rfl)
theorem fnd_0 {t:ByteArray} {l:List St} {k:Nat} {s:St} {R:Option (List Int)} (h:l[k]? =some s) (hp:R=gJ t k (l.drop k)) (c2:¬fX t s=true) (c3:(gJ t 0 s.Body).isSome=false):R=gJ t ((k+1:Nat):Int) (l.drop (k+1)):=
 fndL_next h hp (by rw [fndS_eq,if_neg c2];simpa using c3)
theorem fnd_1 {t:ByteArray} {l:List St} {k:Nat} {s:St} {R:Option (List Int)} (h:l[k]? =some s) (hp:R=gJ t k (l.drop k)) (c2:fX t s=true):R=some [(k:Int)]:=
 fndL_hit h hp (by rw [fndS_eq,if_pos c2])
theorem fndL_end {t:ByteArray} {l:List St} {k:Nat} {R:Option (List Int)} (hp:R=gJ t k (l.drop k)) (h:¬k<l.length):R=none:=by
 rw [hp,yW h,gJ]
/-! ## Statements with all forms mapped -/
mutual
def mSt (f:Lf->Lf×Int) (g:ByteArray->ByteArray):St->Except Int St
 |.mk o nm mn mk fo i e b=>match dL f i with
  |.error y=>.error y
  |.ok i'=>match mEx f e with
   |.error y=>.error y
   |.ok e'=>match fW f g b with
    |.error y=>.error y
    |.ok b'=>.ok (.mk o (if o=1 then g nm else nm) mn mk fo i' e' b')
def fW (f:Lf->Lf×Int) (g:ByteArray->ByteArray):List St->Except Int (List St)
 |[]=>.ok []
 |s::r=>match mSt f g s with
  |.error y=>.error y
  |.ok s'=>match fW f g r with
   |.error y=>.error y
   |.ok r'=>.ok (s'::r')
end
theorem mSt_eq (f:Lf->Lf×Int) (g:ByteArray->ByteArray) (s:St):mSt f g s=match dL f s.Idx with
  |.error y=>.error y
  |.ok i'=>match mEx f s.E with
   |.error y=>.error y
   |.ok e'=>match fW f g s.Body with
    |.error y=>.error y
    |.ok b'=>.ok (.mk s.Op (if s.Op=1 then g s.Name else s.Name) s.Many s.Mark s.Fold i' e' b'):=by cases s;rw [mSt];rfl
theorem mSt_e1 {f:Lf->Lf×Int} {g:ByteArray->ByteArray} {s:St} {c:Int} (h:dL f s.Idx=.error c):mSt f g s=.error c:=by rw [mSt_eq,h]
theorem mSt_e2 {f:Lf->Lf×Int} {g:ByteArray->ByteArray} {s:St} {c:Int} {i:List Ix} (h:dL f s.Idx=.ok i) (h2:mEx f s.E=.error c):mSt f g s=.error c:=by rw [mSt_eq,h];simp only [h2]
theorem mSt_e3 {f:Lf->Lf×Int} {g:ByteArray->ByteArray} {s:St} {c:Int} {i:List Ix} {e:Ex} (h:dL f s.Idx=.ok i) (h2:mEx f s.E=.ok e) (h3:fW f g s.Body=.error c):mSt f g s=.error c:=by rw [mSt_eq,h];simp only [h2,h3]
theorem mSt_ok {f:Lf->Lf×Int} {g:ByteArray->ByteArray} {s:St} {i:List Ix} {e:Ex} {b:List St} (h:dL f s.Idx=.ok i) (h2:mEx f s.E=.ok e) (h3:fW f g s.Body=.ok b):mSt f g s=.ok (.mk s.Op (if s.Op=1 then g s.Name else s.Name) s.Many s.Mark s.Fold i e b):=by rw [mSt_eq,h];simp only [h2,h3]
mutual
theorem mSt_ne {f:Lf->Lf×Int} {g:ByteArray->ByteArray}:∀s:St,mSt f g s≠ .error 0
 |.mk o nm mn mk fo i e b=>by
  rw [mSt]
  cases h1:dL f i with
  |error y=>intro h;cases h;exact zQe h1
  |ok a=>
   cases h2:mEx f e with
   |error y=>intro h;simp only at h;cases h;exact mEx_ne e h2
   |ok a=>
    cases h3:fW f g b with
    |error y=>intro h;simp only at h;cases h;exact mSts_ne b h3
    |ok a=>simp
theorem mSts_ne {f:Lf->Lf×Int} {g:ByteArray->ByteArray}:∀l:List St,fW f g l≠ .error 0
 |[]=>by simp [fW]
 |x::r=>by
  rw [fW]
  cases h1:mSt f g x with
  |error y=>intro h;cases h;exact mSt_ne x h1
  |ok a=>
   cases h2:fW f g r with
   |error y=>intro h;simp only at h;cases h;exact mSts_ne r h2
   |ok a=>simp
end
def gQ:Except Int (List St)->List St
 |.ok l=>l
 |.error _=>[]
theorem zVg {f:Lf->Lf×Int} {g:ByteArray->ByteArray} {l:List St} {k:Nat} {x y:St} {done:List St} (h:l[k]? =some x) (hp:fW f g l=dE done (fW f g (l.drop k))) (hx:mSt f g x=.ok y):fW f g l=dE (done++[y]) (fW f g (l.drop (k+1))):=by
 rw [hp,qR h,fW,hx]
 cases fW f g (l.drop (k+1))<;>simp [dE,jP]
theorem zIe {f:Lf->Lf×Int} {g:ByteArray->ByteArray} {l:List St} {k:Nat} {x:St} {done:List St} {c:Int} (h:l[k]? =some x) (hp:fW f g l=dE done (fW f g (l.drop k))) (hx:mSt f g x=.error c):fW f g l=.error c:=by
 rw [hp,qR h,fW,hx];rfl
theorem mSts_end {f:Lf->Lf×Int} {g:ByteArray->ByteArray} {l:List St} {k:Nat} {done:List St} (hp:fW f g l=dE done (fW f g (l.drop k))) (h:¬k<l.length):fW f g l=.ok done:=by
 rw [hp,yW h];simp [fW,dE,jP]
mutual
theorem mSt_id:∀s:St,mSt idF (fun x=>x) s=.ok s
 |.mk o nm mn mk fo i e b=>by
  rw [mSt,mIxs_id,mEx_id];simp only [mSts_id b]
  by_cases h:o=1
  ·rw [if_pos h]
  ·rw [if_neg h]
theorem mSts_id:∀l:List St,fW idF (fun x=>x) l=.ok l
 |[]=>by rw [fW]
 |x::r=>by rw [fW,mSt_id x,mSts_id r]
end
def gN (P:Lf->Prop) (i:List Ix):Prop:=∀x,x∈i->P x.Lin/\∀l,l∈x.At->P l
mutual
def St.allF (P:Lf->Prop):St->Prop
 |.mk _ _ _ _ _ i e b=>gN P i/\e.allF P/\bH P b
def bH (P:Lf->Prop):List St->Prop
 |[]=>True
 |s::r=>s.allF P/\bH P r
end
theorem St.allF_eq {P:Lf->Prop} {s:St} (h:s.allF P):gN P s.Idx/\s.E.allF P/\bH P s.Body:=by cases s;rw [St.allF] at h;exact h
theorem kY {P:Lf->Prop}:∀{l:List St},bH P l->∀s,s∈l->s.allF P
 |[],_,s,hs=>by cases hs
 |x::r,h,s,hs=>by
  rw [bH] at h
  rcases List.mem_cons.1 hs with rfl|hs
  ·exact h.1
  ·exact kY h.2 s hs
theorem zPj {P:Lf->Prop}:∀{l:List St},(∀s,s∈l->s.allF P)->bH P l
 |[],_=>by rw [bH];trivial
 |x::r,h=>by rw [bH];exact ⟨h x (by simp),zPj fun s hs=>h s (by simp [hs])⟩
end Go.Br
end
section
namespace Go.Br
open Go Go.Eng Go.L41
def zSt:St:=.mk 0 (bs []) 0 0 0 [] zEx []
def trl:List Int->List St->List St->List St
 |[],_,out=>out
 |i::r,l,out=>if 0<=i/\i<l.length then trl r (l.getD i.toNat zSt).Body (out++[l.getD i.toNat zSt]) else []
def fI (l:List St) (way:List Int):List St:=trl way l []
theorem trl_next {way:List Int} {k:Nat} {i:Int} {l:List St} {out R:List St} (h:way[k]? =some i) (hp:R=trl (way.drop k) l out) (hi:0<=i/\i<l.length):R=trl (way.drop (k+1)) (l.getD i.toNat zSt).Body (out++[l.getD i.toNat zSt]):=by
 rw [hp,qR h,trl,if_pos hi]
theorem trl_no {way:List Int} {k:Nat} {i:Int} {l:List St} {out R:List St} (h:way[k]? =some i) (hp:R=trl (way.drop k) l out) (hi:¬(0<=i/\i<l.length)):R=[]:=by
 rw [hp,qR h,trl,if_neg hi]
theorem trl_end {way:List Int} {k:Nat} {l:List St} {out R:List St} (hp:R=trl (way.drop k) l out) (h:¬k<way.length):R=out:=by
 rw [hp,yW h,trl]
theorem zJk {l:List St} {i:Int} (h:0<=i/\i<l.length):l[i.toNat]? =some (l.getD i.toNat zSt):=by
 have:i.toNat<l.length:=by omega
 rw [List.getElem?_eq_getElem this,List.getD,List.getElem?_eq_getElem this];rfl
theorem zMm {l:List St} {i:Int} (h:0<=i/\i<l.length):l.getD i.toNat zSt∈l:=zZ (zJk h)
def atF:List Int->List St->St->St×Bool
 |[],_,s=>(s,true)
 |i::r,l,_=>if 0<=i/\i<l.length then atF r (l.getD i.toNat zSt).Body (l.getD i.toNat zSt) else (zSt,false)
def atT (l:List St) (way:List Int):St×Bool:=if way=[] then (zSt,false) else atF way l zSt
theorem atF_next {way:List Int} {k:Nat} {i:Int} {l:List St} {s:St} {R:St×Bool} (h:way[k]? =some i) (hp:R=atF (way.drop k) l s) (hi:0<=i/\i<l.length):R=atF (way.drop (k+1)) (l.getD i.toNat zSt).Body (l.getD i.toNat zSt):=by
 rw [hp,qR h,atF,if_pos hi]
theorem atF_no {way:List Int} {k:Nat} {i:Int} {l:List St} {s:St} {R:St×Bool} (h:way[k]? =some i) (hp:R=atF (way.drop k) l s) (hi:¬(0<=i/\i<l.length)):R=(zSt,false):=by
 rw [hp,qR h,atF,if_neg hi]
theorem atF_end {way:List Int} {k:Nat} {l:List St} {s:St} {R:St×Bool} (hp:R=atF (way.drop k) l s) (h:¬k<way.length):R=(s,true):=by
 rw [hp,yW h,atF]
theorem trl_atF:∀(way:List Int) (l out:List St) (s:St),out≠[]->out.getLast? =some s->(trl way l out=[]/\(atF way l s).2=false/\atF way l s=(zSt,false))∨(trl way l out≠[]/\(trl way l out).getLast? =some (atF way l s).1/\(atF way l s).2=true)
 |[],l,out,s,h,h2=>.inr ⟨h,h2,rfl⟩
 |i::r,l,out,s,h,h2=>by
  rw [trl,atF]
  by_cases hi:0<=i/\i<l.length
  ·rw [if_pos hi,if_pos hi]
   exact trl_atF r _ _ _ (by simp) (by simp)
  ·rw [if_neg hi,if_neg hi];exact .inl ⟨rfl,rfl,rfl⟩
theorem trail_at (l:List St) (way:List Int):(fI l way=[]/\atT l way=(zSt,false))∨(fI l way≠[]/\(fI l way).getLast? =some (atT l way).1/\(atT l way).2=true):=by
 unfold fI atT
 cases way with
 |nil=>exact .inl ⟨rfl,if_pos rfl⟩
 |cons i r=>
  rw [if_neg (by simp),trl,atF]
  by_cases hi:0<=i/\i<l.length
  ·rw [if_pos hi,if_pos hi]
   rcases trl_atF r (l.getD i.toNat zSt).Body ([]++[l.getD i.toNat zSt]) (l.getD i.toNat zSt) (by simp) (by simp) with ⟨h1,h2,h3⟩|h
   ·exact .inl ⟨h1,h3⟩
   ·exact .inr h
  ·rw [if_neg hi,if_neg hi];exact .inl ⟨rfl,rfl⟩
theorem trl_len:∀(way:List Int) (l out:List St),(trl way l out).length<=out.length+way.length
 |[],l,out=>by simp [trl]
 |i::r,l,out=>by
  rw [trl];split
  ·have:=trl_len r (l.getD i.toNat zSt).Body (out++[l.getD i.toNat zSt])
   simp only [List.length_append,List.length_cons,List.length_nil] at this⊢;omega
  ·simp
def mU:List Int->List St->Prop
 |[],_=>True
 |i::r,l=>(0<=i/\i<l.length)/\mU r (l.getD i.toNat zSt).Body
theorem way_at {l0:List St}:∀{way:List Int} {l:List St} {s:St},(atF way l s).2=true->mU way l
 |[],_,_,_=>trivial
 |i::r,l,s,h=>by
  rw [atF] at h
  by_cases hi:0<=i/\i<l.length
  ·rw [if_pos hi] at h;exact ⟨hi,way_at (l0:=l0) h⟩
  ·rw [if_neg hi] at h;cases h
theorem way_of {l:List St} {way:List Int} (h:(atT l way).2=true):way≠[]/\mU way l:=by
 unfold atT at h
 by_cases hw:way=[]
 ·rw [if_pos hw] at h;cases h
 ·rw [if_neg hw] at h;exact ⟨hw,way_at (l0:=l) h⟩
theorem at_some {l:List St} {way:List Int} (h:fI l way≠[]):(atT l way).2=true:=by
 rcases trail_at l way with ⟨h1,_⟩|⟨_,_,h1⟩
 ·exact absurd h1 h
 ·exact h1
theorem at_none {l:List St} {way:List Int} (h:fI l way=[]):atT l way=(zSt,false):=by
 rcases trail_at l way with ⟨_,h1⟩|⟨h1,_⟩
 ·exact h1
 ·exact absurd h h1
theorem at_last {l:List St} {way:List Int} (h:fI l way≠[]):(fI l way).drop ((fI l way).length-1)=[(atT l way).1]:=by
 rcases trail_at l way with ⟨h1,_⟩|⟨_,h2,_⟩
 ·exact absurd h1 h
 ·have hl:0<(fI l way).length:=List.length_pos_iff.2 h
  have hg:(fI l way)[(fI l way).length-1]? =some (atT l way).1:=by rw [←List.getLast?_eq_getElem?];exact h2
  rw [qR hg,show (fI l way).length-1+1=(fI l way).length by omega,List.drop_length]
theorem atF_le:∀{way:List Int} {l:List St} {s:St} {B:Nat},bC l<=B->s.wt<=B->(atF way l s).1.wt<=B+2
 |[],l,s,B,_,h=>by rw [atF];show s.wt<=_;omega
 |i::r,l,s,B,h,h2=>by
  rw [atF]
  split
  ·rename_i hi
   have h1:=yC (zMm hi)
   have h2:=St.body_wt (l.getD i.toNat zSt)
   exact atF_le (by omega) (by omega)
  ·show zSt.wt<=_
   have:zSt.wt=2:=by decide
   omega
theorem atF_le' {way : List Int} {l : List St} {B : Nat} (h : bC l ≤ B) : (atF way l zSt).1.wt ≤ B + 2:= by
  cases way with
  | nil => show zSt.wt ≤ _; have : zSt.wt = 2:= by decide
           omega
  | cons i r =>
    rw [atF]
    split
    · rename_i hi
      have h1 := yC (zMm hi)
      have h2 := St.body_wt (l.getD i.toNat zSt)
      exact atF_le (by omega) (by omega)
    · show zSt.wt ≤ _
      have : zSt.wt = 2:= by decide
      omega
theorem zSt_wt:zSt.wt=2:=by decide
theorem atT_wt {l:List St} {way:List Int}:(atT l way).1.wt<=bC l+2:=by
 unfold atT
 split
 ·show zSt.wt<=_;rw [zSt_wt];omega
 ·exact atF_le' (Nat.le_refl _)
end Go.Br
end
section
namespace Go.Br
open Go Go.Eng Go.L41
/-! ## Numerals -/
def vV (n:Nat):ByteArray:=⟨(Lib.decDigits n).toArray⟩
def nmK (base:ByteArray) (k:Nat):ByteArray:=if k=0 then base else base++vV k
def rdX (i:List Ix):Ex:=.mk 3 (bs []) ⟨0,0⟩ ⟨0,0,0,0,0⟩ ⟨0,[]⟩ i []
theorem rdX_wt (i:List Ix):(rdX i).wt=1+i.length+dH i:=by
 rw [Ex.wt_eq];simp only [rdX,Ex.Lin,Ex.Idx,Ex.Args,dR,List.length_nil];omega
def rdZ (i:List Ix):Ex:=.mk 0 (bs []) ⟨0,0⟩ ⟨0,0,0,0,0⟩ ⟨0,[]⟩ i []
theorem rdZ_wt (i:List Ix):(rdZ i).wt=1+i.length+dH i:=by
 rw [Ex.wt_eq];simp only [rdZ,Ex.Lin,Ex.Idx,Ex.Args,dR,List.length_nil];omega
end Go.Br
end
section
namespace Go.Br
open Go Go.Eng Go.L41
/-! ## One form: a name for a name -/
def vrL (t:ByteArray):Lf:=⟨0,[⟨t,1⟩]⟩
mutual
def gSt (g:Lf->Lf) (r:ByteArray->ByteArray):St->St
 |.mk o nm mn mk fo i e b=>.mk o (if o=1 then r nm else nm) mn mk fo (i.map (gIx g)) (gEx g e) (fD g r b)
def fD (g:Lf->Lf) (r:ByteArray->ByteArray):List St->List St
 |[]=>[]
 |s::t=>gSt g r s::fD g r t
end
theorem zSo (g:Lf->Lf) (r:ByteArray->ByteArray):∀l:List St,fD g r l=l.map (gSt g r)
 |[]=>by rw [fD];rfl
 |s::t=>by rw [fD,zSo g r t];rfl
theorem zRc (g:Lf->Lf) (r:ByteArray->ByteArray) (s:St):gSt g r s=.mk s.Op (if s.Op=1 then r s.Name else s.Name) s.Many s.Mark s.Fold (s.Idx.map (gIx g)) (gEx g s.E) (fD g r s.Body):=by cases s;rw [gSt];rfl
theorem mIxs_sure (g:Lf->Lf) (i:List Ix):dL (fun l=>(g l,0)) i=.ok (i.map (gIx g)):=by
 cases h:dL (fun l=>(g l,0)) i with
 |error c=>
  obtain ⟨x,_,hx⟩:=mIxs_er h
  have:c=0:=hx.symm
  subst this
  exact absurd h zQe
 |ok a=>rw [(mIxs_g h).1]
theorem mEx_sure (g:Lf->Lf) (e:Ex):mEx (fun l=>(g l,0)) e=.ok (gEx g e):=by
 cases h:mEx (fun l=>(g l,0)) e with
 |error c=>
  have:c=0:=mEx_er (P:=fun c=>c=0) e (fun _ _ _ _=>rfl) c h
  subst this
  exact absurd h (mEx_ne e)
 |ok a=>rw [(mEx_g h).1]
theorem zLj {B:List Bf} {sc:List ByteArray}:∀{l:List Ex},dK B sc l=0↔∀x,x∈l->gP B sc x=0
 |[]=>by simp [dK]
 |x::r=>by
  rw [dK]
  by_cases h:gP B sc x=0
  ·rw [if_pos h,zLj (l:=r)];simp [h]
  ·rw [if_neg h];simp [h]
theorem gath_g (B:List Bf) (g:Lf->Lf):∀l:List Ix,lE B (l.map (gIx g))=lE B l
 |[]=>rfl
 |x::r=>by
  have e:jS B (gIx g x)=jS B x:=by unfold jS gIx;rw [List.length_map]
  rw [List.map_cons,lE,lE,e,gath_g B g r]
theorem lin_in (e:Ex):e.Lin∈bQ e:=by unfold bQ;simp
theorem ix_in {e:Ex} {x:Ix} (h:x∈e.Idx):x.Lin∈bQ e/\∀l,l∈x.At->l∈bQ e:=by
 unfold bQ
 refine ⟨List.mem_cons_of_mem _ (List.mem_flatMap.2 ⟨x,h,by simp⟩),fun l hl=>List.mem_cons_of_mem _ (List.mem_flatMap.2 ⟨x,h,by simp [hl]⟩)⟩
theorem tyF_g (B:List Bf) (g:Lf->Lf) (e:Ex) (l:List Ty):tyF B (gEx g e) l=tyF B e l:=by rw [zEv];rfl
mutual
theorem nodeT_g (B:List Bf) (g:Lf->Lf):∀e:Ex,dT (tyF B) (gEx g e)=dT (tyF B) e
 |.mk o nm v t l i a=>by
  have h1:=nodeL_g B g a
  have h2:=tyF_g B g (.mk o nm v t l i a)
  rw [gEx] at h2⊢
  rw [dT,dT,h1]
  simp only [h2]
theorem nodeL_g (B:List Bf) (g:Lf->Lf):∀l:List Ex,bT (tyF B) (mR g l)=bT (tyF B) l
 |[]=>by rw [mR]
 |a::r=>by rw [mR,bT,bT,nodeT_g B g a,nodeL_g B g r]
end
theorem zCz {B:List Bf} {sc:List ByteArray} {e:Ex} (h:(bW B sc e).2=0):fP e=0/\dK B sc (dG e)=0:=by
 by_cases h1:fP e=0
 ·by_cases h2:dK B sc (dG e)=0
  ·exact ⟨h1,h2⟩
  ·rw [exprT_2 h1 h2] at h;exact absurd h h2
 ·rw [exprT_1 h1] at h;exact absurd h h1
theorem isCond_g (g:Lf->Lf) (e:Ex):bV (gEx g e)=bV e:=by rw [zEv];rfl
theorem rdE_g {g:Lf->Lf} {r:ByteArray->ByteArray} {s:St} (hz:g ⟨0,[]⟩=⟨0,[]⟩) (h:¬s.Op=1):rdE (gSt g r s)=gEx g (rdE s):=by
 rw [zRc,zEv]
 unfold rdE
 show Ex.mk 3 (if s.Op=1 then r s.Name else s.Name) _ _ _ _ _=Ex.mk 3 s.Name ⟨0,0⟩ ⟨0,0,0,0,0⟩ (g ⟨0,[]⟩) (s.Idx.map (gIx g)) []
 rw [if_neg h,hz];rfl
theorem gEx_zEx {g:Lf->Lf} (hz:g ⟨0,[]⟩=⟨0,[]⟩):gEx g zEx=zEx:=by
 rw [zEv]
 show Ex.mk 0 _ _ _ (g ⟨0,[]⟩) [] []=_
 rw [hz];rfl
theorem syn_g {g:Lf->Lf} {r:ByteArray->ByteArray} {s:St} (hz:g ⟨0,[]⟩=⟨0,[]⟩) (h:dN s=true):dN (gSt g r s)=true:=by
 cases s with
 |mk o nm mn mk fo i e b=>
  have hE:jY e=true->jY (gEx g e)=true:=by
   unfold jY
   intro h
   rw [decide_eq_true_eq] at h⊢
   rw [h,gEx_zEx hz]
  have hL:(fD g r b).length=b.length:=by rw [zSo,List.length_map]
  rw [gSt]
  unfold dN gE at h⊢
  simp only [St.Op,St.Name,St.Many,St.Mark,St.Fold,St.Idx,St.E,St.Body,List.length_map,hL] at h⊢
  simp only [Bool.and_eq_true] at h⊢
  obtain ⟨⟨⟨⟨⟨⟨h1,h2⟩,h3⟩,h4⟩,h5⟩,h6⟩,h7⟩:=h
  refine ⟨⟨⟨⟨⟨⟨h1,?_⟩,h3⟩,h4⟩,h5⟩,?_⟩,h7⟩
  ·by_cases ho:o=1
   ·have h4:¬o=4:=by omega
    simp [h4]
   ·rw [if_neg ho];exact h2
  ·by_cases c:o=1
   ·have:jY e=true:=by simpa [c] using h6
    simp [hE this]
   ·simp [c]
theorem within_g (g:Lf->Lf) (r:ByteArray->ByteArray):∀(n:Nat) (l:List St),bP n (fD g r l)=bP n l
 |0,l=>by rw [zSo];cases l<;>rfl
 |n+1,l=>by
  rw [bP,bP,zSo,List.all_map]
  congr 1
  funext s
  show bP n (gSt g r s).Body=_
  rw [zRc];exact within_g g r n s.Body
theorem zFj {n:Ns} (h:(dO n).2=0):bP 40 n.Body=true/\¬(2000<jN n.Body 2000∨128<n.Bufs.length)/\dP [] n.Bufs=0/\(bR n.Bufs [] [] [] 0 n.Body).E=0:=by
 have h1:bP 40 n.Body=true:=by
  cases c:bP 40 n.Body with
  |true=>rfl
  |false=>rw [zTr c] at h;cases h
 have h2:¬(2000<jN n.Body 2000∨128<n.Bufs.length):=fun c=>by rw [validN_2 h1 c] at h;cases h
 have h3:dP [] n.Bufs=0:=by
  by_cases c:dP [] n.Bufs=0
  ·exact c
  ·rw [validN_b h1 h2 c] at h;exact absurd h c
 rw [zNg h1 h2 h3] at h
 exact ⟨h1,h2,h3,h⟩
theorem gIx_id {g:Lf->Lf} {x:Ix} (h1:g x.Lin=x.Lin) (h2:∀l,l∈x.At->g l=l):gIx g x=x:=by
 unfold gIx
 rw [h1,show x.At.map g=x.At from by
  rw [List.map_congr_left (g:=id) (fun l hl=>h2 l hl)];simp]
theorem gIxs_id {g:Lf->Lf} {l:List Ix} (h:∀x,x∈l->g x.Lin=x.Lin/\∀y,y∈x.At->g y=y):l.map (gIx g)=l:=by
 rw [show l.map (gIx g)=l.map id from List.map_congr_left fun x hx=>gIx_id (h x hx).1 (h x hx).2];simp
theorem gEx_id {g:Lf->Lf}:∀e:Ex,e.allF (fun l=>g l=l)->gEx g e=e:=by
 intro e
 induction e using Ex.ind with
 |_ e ih=>
  intro h
  have h0:∀l,l∈bQ e->g l=l:=h e (by rw [wE];simp)
  have hA:e.Args.map (gEx g)=e.Args:=by
   rw [List.map_congr_left (g:=id) (fun a ha=>ih a ha fun x hx l hl=>h x (by
    rw [wE]
    refine List.mem_cons_of_mem _ ?_
    have:∀l:List Ex,a∈l->x∈dG a->x∈bO l:=by
     intro l
     induction l with
     |nil=>intro h;cases h
     |cons b r ih2=>
      intro hm hx
      rw [bO]
      rcases List.mem_cons.1 hm with rfl|hm
      ·exact List.mem_append_left _ hx
      ·exact List.mem_append_right _ (ih2 hm hx)
    exact this e.Args ha hx) l hl)];simp
  rw [zEv,h0 _ (lin_in e),gIxs_id (fun x hx=>⟨h0 _ (ix_in hx).1,fun y hy=>h0 _ ((ix_in hx).2 y hy)⟩),hA]
  cases e;rfl
theorem gIx_gIx (g g':Lf->Lf) (x:Ix):gIx g' (gIx g x)=gIx (fun l=>g' (g l)) x:=by
 unfold gIx;simp [List.map_map,Function.comp_def]
mutual
theorem gEx_gEx (g g':Lf->Lf):∀e:Ex,gEx g' (gEx g e)=gEx (fun l=>g' (g l)) e
 |.mk o n v t l i a=>by
  rw [gEx,gEx,gEx,gExs_gExs g g' a,List.map_map]
  congr 1
  exact List.map_congr_left fun x _=>gIx_gIx g g' x
theorem gExs_gExs (g g':Lf->Lf):∀l:List Ex,mR g' (mR g l)=mR (fun l=>g' (g l)) l
 |[]=>by rw [mR,mR,mR]
 |a::r=>by rw [mR,mR,mR,gEx_gEx g g' a,gExs_gExs g g' r]
end
theorem ixsAll_and {P Q:Lf->Prop} {i:List Ix} (h1:gN P i) (h2:gN Q i):gN (fun l=>P l/\Q l) i:=fun x hx=>⟨⟨(h1 x hx).1,(h2 x hx).1⟩,fun l hl=>⟨(h1 x hx).2 l hl,(h2 x hx).2 l hl⟩⟩
theorem syn_parts {s:St} (h:dN s=true):(gE s=false->s.Idx=[])/\(s.Op=1->s.E=zEx):=by
 unfold dN at h
 simp only [Bool.and_eq_true] at h
 obtain ⟨⟨⟨⟨⟨⟨h1,h2⟩,h3⟩,h4⟩,h5⟩,h6⟩,h7⟩:=h
 constructor
 ·intro hs
  rw [hs] at h5
  have:¬(0:Int)<s.Idx.length:=by simpa using h5
  exact List.eq_nil_of_length_eq_zero (by omega)
 ·intro ho
  rw [decide_eq_true ho] at h6
  have:jY s.E=true:=by simpa using h6
  unfold jY at this
  simpa using this
theorem zEx_all {P:Lf->Prop} (h:P ⟨0,[]⟩):zEx.allF P:=by
 refine zPz (fun l hl=>?_) (fun a ha=>by cases ha)
 unfold bQ at hl
 rcases List.mem_cons.1 hl with rfl|hl
 ·exact h
 ·cases hl
theorem stE_lin {B:List Bf} {U sc:List ByteArray} {s:St} (h:stE B U sc s=0):gN (fun l=>bJ l=true) s.Idx/\s.E.allF (fun l=>bJ l=true):=by
 have hs:dN s=true:=by
  cases c:dN s with
  |true=>rfl
  |false=>rw [stE_5 c] at h;cases h
 obtain ⟨s1,s2⟩:=syn_parts hs
 have nil:∀{i:List Ix},i=[]->gN (fun l=>bJ l=true) i:=fun e x hx=>by rw [e] at hx;cases hx
 by_cases h1:s.Op=1
 ·refine ⟨nil (s1 ?_),by rw [s2 h1];exact zEx_all rfl⟩
  unfold gE;rw [decide_eq_false (by omega),decide_eq_false (by omega)];rfl
 ·by_cases h4:s.Op=4
  ·rw [zTx hs h4] at h
   have k1:(bW B sc s.E).2=0:=by
    by_cases c:(bW B sc s.E).2=0
    ·exact c
    ·rw [ifE_x c] at h;exact absurd h c
   refine ⟨nil (s1 ?_),zNe (zCz k1).1⟩
   unfold gE;rw [decide_eq_false (by omega),decide_eq_false (by omega)];rfl
  ·rw [stE_s hs h1 h4] at h
   have k1:(bW B sc (rdE s)).2=0:=by
    by_cases c:(bW B sc (rdE s)).2=0
    ·exact c
    ·rw [zNl c] at h;exact absurd h c
   have k2:¬((gH B s.Name).Use=1∨(s.Op=3/\(s.Fold<1∨4<s.Fold))):=fun c=>by rw [zLh k1 c] at h;cases h
   have k3:(bW B sc s.E).2=0:=by
    by_cases c:(bW B sc s.E).2=0
    ·exact c
    ·rw [zNk k1 k2 c] at h;exact absurd h c
   refine ⟨fun x hx=>?_,zNe (zCz k3).1⟩
   have:=zNe (zCz k1).1 (rdE s) (by rw [wE];simp)
   have hx':x∈(rdE s).Idx:=hx
   exact ⟨this _ (ix_in hx').1,fun l hl=>this _ ((ix_in hx').2 l hl)⟩
mutual
theorem chkS_lin {B:List Bf}:∀(s:St) (U sc:List ByteArray) (here:List Int),(fC B U sc here s).E=0->s.allF (fun l=>bJ l=true)
 |.mk o nm mn mk fo i e b,U,sc,here,h=>by
  have h0:stE B U sc (.mk o nm mn mk fo i e b)=0:=by
   by_cases c:stE B U sc (.mk o nm mn mk fo i e b)=0
   ·exact c
   ·rw [chkS_no c] at h;exact absurd h c
  have h1:=stE_lin h0
  rw [zKx h0] at h
  rw [St.allF]
  exact ⟨h1.1,h1.2,chkL_lin b _ _ _ _ h⟩
theorem chkL_lin {B:List Bf}:∀(l:List St) (U sc:List ByteArray) (way:List Int) (i:Int),(bR B U sc way i l).E=0->bH (fun l=>bJ l=true) l
 |[],_,_,_,_,_=>by rw [bH];trivial
 |s::r,U,sc,way,i,h=>by
  have h0:(fC B U sc (way++[i]) s).E=0:=by
   by_cases c:(fC B U sc (way++[i]) s).E=0
   ·exact c
   ·rw [bR,if_neg c] at h;exact absurd h c
  rw [bR,if_pos h0] at h
  rw [bH]
  exact ⟨chkS_lin s _ _ _ h0,chkL_lin r _ _ _ _ h⟩
end
/-! ## A name that is not in use -/
mutual
theorem allF_and {P Q:Lf->Prop}:∀s:St,s.allF P->s.allF Q->s.allF (fun l=>P l/\Q l)
 |.mk o nm mn mk fo i e b,h1,h2=>by
  rw [St.allF] at h1 h2⊢
  exact ⟨ixsAll_and h1.1 h2.1,fun x hx l hl=>⟨h1.2.1 x hx l hl,h2.2.1 x hx l hl⟩,zKz b h1.2.2 h2.2.2⟩
theorem zKz {P Q:Lf->Prop}:∀l:List St,bH P l->bH Q l->bH (fun l=>P l/\Q l) l
 |[],_,_=>by rw [bH];trivial
 |s::r,h1,h2=>by
  rw [bH] at h1 h2⊢
  exact ⟨allF_and s h1.1 h2.1,zKz r h1.2 h2.2⟩
end
def xP:Except Int (List Ix)->List Ix
 |.ok l=>l
 |.error _=>[]
theorem mIxs_0 {f:Lf->Lf×Int} {i:List Ix} (h:dZ (dL f i)=0):∃a,dL f i=.ok a:=zWh h zQe
theorem mEx_0 {f:Lf->Lf×Int} {e:Ex} (h:dZ (mEx f e)=0):∃a,mEx f e=.ok a:=zWh h (mEx_ne e)
theorem mSts_0 {f:Lf->Lf×Int} {g:ByteArray->ByteArray} {l:List St} (h:dZ (fW f g l)=0):∃a,fW f g l=.ok a:=zWh h (mSts_ne l)
theorem err_is {α:Type} {x:Except Int α} (h:¬dZ x=0):x=.error (dZ x):=by
 cases x with
 |ok a=>exact absurd rfl h
 |error c=>rfl
theorem mIxs_err {f:Lf->Lf×Int} {i:List Ix} (h:¬dZ (dL f i)=0):dL f i=.error (dZ (dL f i)):=err_is h
theorem mEx_err {f:Lf->Lf×Int} {e:Ex} (h:¬dZ (mEx f e)=0):mEx f e=.error (dZ (mEx f e)):=err_is h
theorem mSts_err {f:Lf->Lf×Int} {g:ByteArray->ByteArray} {l:List St} (h:¬dZ (fW f g l)=0):fW f g l=.error (dZ (fW f g l)):=err_is h
theorem ixsAll_of {P:Lf->Prop} {e:Ex} (h:e.allF P):gN P e.Idx:=fun x hx=>⟨Ex.allF_ix h hx,fun l hl=>Ex.allF_at h hx hl⟩
theorem mid_getS {A:List (List C)} {l:List St} {k:Nat} {x:St} (hA:A.length=k) (h:l[k]? =some x):(A++(l.drop k).map St.cells)[k]? =some x.cs:=by
 rw [mid_get hA h,St.cells_eq]
mutual
theorem st_short {B:Nat}:∀s:St,s.wt<=B->s.allF (fun l=>l.L.length<=B)
 |.mk o nm mn mk fo i e b,h=>by
  rw [St.allF]
  rw [St.wt] at h
  refine ⟨fun x hx=>?_,fun x hx l hl=>forms_wt (Nat.le_trans (zFp e x hx) (by omega)) hl,zPq b (by omega)⟩
  have:=zAq hx
  rw [Ix.wt] at this
  exact ⟨by omega,fun l hl=>by have:=zDc hl;omega⟩
theorem zPq {B:Nat}:∀l:List St,bC l<=B->bH (fun l=>l.L.length<=B) l
 |[],_=>by rw [bH];trivial
 |s::r,h=>by
  rw [bC] at h
  rw [bH]
  exact ⟨st_short s (by omega),zPq r (by omega)⟩
end
theorem zJi {l:List St} {B:Nat} (h:bC l<=B):bH (fun l=>l.L.length<=B) l:=zPq l h
/-! ## What renaming keeps -/
theorem vrL_rng (t:ByteArray):(vrL t).rng:=⟨by show r64 0;unfold r64;omega,fun m hm=>by
 simp only [vrL,List.mem_singleton] at hm;subst hm;show r64 1;unfold r64;omega⟩
end Go.Br
end
section
set_option maxRecDepth 100000
namespace Go.Br
open Go Go.Eng Go.L41
noncomputable instance:DecidableEq St:=fun _ _=>Classical.propDecidable _
noncomputable instance:DecidableEq Ns:=fun _ _=>Classical.propDecidable _
theorem St.eq_iff {a b:St}:a=b↔a.Op=b.Op/\a.Name=b.Name/\a.Many=b.Many/\a.Mark=b.Mark/\a.Fold=b.Fold/\a.Idx=b.Idx/\a.E=b.E/\a.Body=b.Body:=by
 constructor
 ·rintro rfl;exact ⟨rfl,rfl,rfl,rfl,rfl,rfl,rfl,rfl⟩
 ·rintro ⟨h1,h2,h3,h4,h5,h6,h7,h8⟩
  rw [St.eta a,St.eta b,h1,h2,h3,h4,h5,h6,h7,h8]
theorem st_eq (a b:St):(((((((decide (a.Op=b.Op)&&decide (a.Name=b.Name))&&decide (a.Many=b.Many))&&decide (a.Mark=b.Mark))&&decide (a.Fold=b.Fold))&&decide (a.Idx=b.Idx))&&decide (a.E=b.E))&&decide (a.Body=b.Body))=decide (a=b):=by
 rw [Bool.eq_iff_iff]
 simp only [Bool.and_eq_true,decide_eq_true_eq,St.eq_iff]
 constructor
 ·rintro ⟨⟨⟨⟨⟨⟨⟨h1,h2⟩,h3⟩,h4⟩,h5⟩,h6⟩,h7⟩,h8⟩;exact ⟨h1,h2,h3,h4,h5,h6,h7,h8⟩
 ·rintro ⟨h1,h2,h3,h4,h5,h6,h7,h8⟩;exact ⟨⟨⟨⟨⟨⟨⟨h1,h2⟩,h3⟩,h4⟩,h5⟩,h6⟩,h7⟩,h8⟩
theorem bf_ne (x y:Bf):(((!decide (x.Name=y.Name)|| !dJ [cI x.T.Kind,cI x.T.Bits,cI x.T.Frac,cI x.T.Round,cI x.T.Over] [cI y.T.Kind,cI y.T.Bits,cI y.T.Frac,cI y.T.Round,cI y.T.Over])|| !decide (x.Use=y.Use))|| !decide (x.Dims=y.Dims))= !decide (x=y):=by
 rw [litsEq_ty,←Bool.not_and,←Bool.not_and,←Bool.not_and]
 congr 1
 rw [Bool.eq_iff_iff]
 simp only [Bool.and_eq_true,decide_eq_true_eq]
 cases x;cases y;simp only [Bf.mk.injEq]
 constructor
 ·rintro ⟨⟨⟨h1,h2⟩,h3⟩,h4⟩;exact ⟨h1,h2,h4,h3⟩
 ·rintro ⟨h1,h2,h3,h4⟩;exact ⟨⟨⟨h1,h2⟩,h4⟩,h3⟩
theorem Ns.eq_iff {a b:Ns}:a=b↔a.Bufs=b.Bufs/\a.Body=b.Body:=by
 constructor
 ·rintro rfl;exact ⟨rfl,rfl⟩
 ·rintro ⟨h1,h2⟩;cases a;cases b;simp_all
end Go.Br
end
section
namespace Go.Br
open Go Go.Eng Go.L41
theorem sub_bad {s:ByteArray} {u:Lf} (h:¬(bJ u=true/\bD s=true)) (l:Lf):bI l s u=(zL,1):=by
 unfold bI;exact if_neg fun k=>h ⟨k.2.1,k.2.2⟩
theorem zRz {s:ByteArray} {u:Lf} (h:bJ u=true/\bD s=true):bI ⟨0,[]⟩ s u=(⟨0,[]⟩,0):=by
 unfold bI;rw [if_pos ⟨rfl,h.1,h.2⟩];rfl
abbrev sbF (s:ByteArray) (u:Lf):Lf->Lf×Int:=fun l=>bI l s u
def sbT (s:ByteArray) (u:Lf) (l:List St):Except Int (List St):=fW (sbF s u) (fun x=>x) l
theorem mIxs_bad {f:Lf->Lf×Int} (h:∀l,f l=(zL,1)):∀i:List Ix,dL f i=.ok []∨dL f i=.error 1
 |[]=>.inl rfl
 |x::r=>.inr (by
   have e:mIx f x=.error 1:=by rw [mIx,zKp (by rw [h];decide),h]
   rw [dL,e])
theorem mEx_bad {f:Lf->Lf×Int} (h:∀l,f l=(zL,1)) (e:Ex):mEx f e=.error 1:=by
 rw [zQy,zKp (by rw [h];decide),h]
theorem mEx_rd {f:Lf->Lf×Int} (h:f ⟨0,[]⟩=(⟨0,[]⟩,0)) (i:List Ix):mEx f (rdX i)=match dL f i with
  |.error y=>.error y
  |.ok i'=>.ok (rdX i'):=by
 unfold rdX
 rw [mEx,zLx (by rw [h]),h,gA]
 cases dL f i<;>rfl
theorem sub_1 {s:ByteArray} {u:Lf} {x:St} (c:¬dZ (mEx (sbF s u) (rdX x.Idx))=0):mSt (sbF s u) (fun x=>x) x=.error (dZ (mEx (sbF s u) (rdX x.Idx))):=by
 by_cases h:bJ u=true/\bD s=true
 ·rw [mEx_rd (show sbF s u ⟨0,[]⟩=(⟨0,[]⟩,0) from zRz h)] at c⊢
  cases k:dL (sbF s u) x.Idx with
  |ok a=>rw [k] at c;exact absurd rfl c
  |error y=>exact mSt_e1 k
 ·have hb:∀l,sbF s u l=(zL,1):=sub_bad h
  rw [mEx_bad hb]
  rcases mIxs_bad hb x.Idx with k|k
  ·exact mSt_e2 k (mEx_bad hb x.E)
  ·exact mSt_e1 k
theorem sub_0 {s:ByteArray} {u:Lf} {i:List Ix} (c:dZ (mEx (sbF s u) (rdX i))=0):dL (sbF s u) i=.ok (nD (mEx (sbF s u) (rdX i))).Idx:=by
 by_cases h:bJ u=true/\bD s=true
 ·rw [mEx_rd (show sbF s u ⟨0,[]⟩=(⟨0,[]⟩,0) from zRz h)] at c⊢
  cases k:dL (sbF s u) i with
  |ok a=>rfl
  |error y=>
   rw [k] at c
   have:y=0:=c
   subst this
   exact absurd k zQe
 ·rw [mEx_bad (sub_bad h)] at c;cases c
theorem sub_2 {s:ByteArray} {u:Lf} {x:St} (c:dZ (mEx (sbF s u) (rdX x.Idx))=0) (c2:¬dZ (mEx (sbF s u) x.E)=0):mSt (sbF s u) (fun x=>x) x=.error (dZ (mEx (sbF s u) x.E)):=mSt_e2 (sub_0 c) (mEx_err c2)
theorem sub_3 {s:ByteArray} {u:Lf} {x:St} (c:dZ (mEx (sbF s u) (rdX x.Idx))=0) (c2:dZ (mEx (sbF s u) x.E)=0) (c3:¬dZ (sbT s u x.Body)=0):mSt (sbF s u) (fun x=>x) x=.error (dZ (sbT s u x.Body)):=by
 obtain ⟨e,he⟩:=mEx_0 c2
 exact mSt_e3 (sub_0 c) he (mSts_err c3)
theorem sub_4 {s:ByteArray} {u:Lf} {x:St} (c:dZ (mEx (sbF s u) (rdX x.Idx))=0) (c2:dZ (mEx (sbF s u) x.E)=0) (c3:dZ (sbT s u x.Body)=0):
  mSt (sbF s u) (fun x=>x) x=.ok (.mk x.Op x.Name x.Many x.Mark x.Fold (nD (mEx (sbF s u) (rdX x.Idx))).Idx (nD (mEx (sbF s u) x.E)) (gQ (sbT s u x.Body))):=by
 obtain ⟨e,he⟩:=mEx_0 c2
 obtain ⟨b,hb⟩:=mSts_0 c3
 rw [mSt_ok (sub_0 c) he hb,he,sbT,hb,ite_self];rfl
theorem rdX_all {P:Lf->Prop} {i:List Ix} (h0:P ⟨0,[]⟩) (h:gN P i):(rdX i).allF P:=by
 intro x hx l hl
 rw [wE] at hx
 have hx:x=rdX i:=by simpa [rdX,Ex.Args,bO] using hx
 subst hx
 rw [bQ] at hl
 rcases List.mem_cons.1 hl with rfl|hl
 ·exact h0
 ·obtain ⟨y,hy,hl⟩:=List.mem_flatMap.1 hl
  rcases List.mem_cons.1 hl with rfl|hl
  ·exact (h y hy).1
  ·exact (h y hy).2 l hl
theorem zrng:Lf.rng ⟨0,[]⟩:=⟨by show r64 0;unfold r64;omega,fun m hm=>by cases hm⟩
theorem St.all_parts {P:Lf->Prop} {s:St} (h:s.allF P):gN P s.Idx/\s.E.allF P/\bH P s.Body:=by
 cases s;rw [St.allF] at h;exact h
/-! ## Weights -/
mutual
theorem mSt_g {f:Lf->Lf×Int} {r:ByteArray->ByteArray}:∀{s s':St},mSt f r s=.ok s'->s'=gSt (fun l=>(f l).1) r s
 |.mk o nm mn mk fo i e b,s',h=>by
  rw [mSt] at h
  cases h1:dL f i with
  |error y=>rw [h1] at h;cases h
  |ok a=>
   cases h2:mEx f e with
   |error y=>rw [h1,h2] at h;cases h
   |ok d=>
    cases h3:fW f r b with
    |error y=>rw [h1,h2] at h;simp only [h3] at h;cases h
    |ok t=>
     rw [h1,h2] at h;simp only [h3] at h
     injection h with h
     rw [←h,gSt,(mIxs_g h1).1,(mEx_g h2).1,mSts_g h3]
theorem mSts_g {f:Lf->Lf×Int} {r:ByteArray->ByteArray}:∀{l l':List St},fW f r l=.ok l'->l'=fD (fun l=>(f l).1) r l
 |[],l',h=>by rw [fW] at h;injection h with h;rw [←h,fD]
 |x::t,l',h=>by
  rw [fW] at h
  cases h1:mSt f r x with
  |error y=>rw [h1] at h;cases h
  |ok a=>
   cases h2:fW f r t with
   |error y=>rw [h1] at h;simp only [h2] at h;cases h
   |ok d=>
    rw [h1] at h;simp only [h2] at h
    injection h with h
    rw [←h,fD,mSt_g h1,mSts_g h2]
end
theorem linsWt_20 {g:Lf->Lf} (hg:∀l,(g l).L.length<=l.L.length+20):∀l:List Lf,fB (l.map g)<=fB l+20*l.length
 |[]=>by simp [fB]
 |x::r=>by rw [List.map_cons,fB,fB,List.length_cons];have:=linsWt_20 hg r;have:=hg x;omega
theorem idxWt_20 {g:Lf->Lf} (hg:∀l,(g l).L.length<=l.L.length+20):∀l:List Ix,dH (l.map (gIx g))<=21*dH l+20*l.length
 |[]=>by simp [dH]
 |x::r=>by
  rw [List.map_cons,dH,dH,List.length_cons]
  have h1:=idxWt_20 hg r
  have h2:(gIx g x).wt<=21*x.wt+20:=by
   unfold gIx Ix.wt
   have h3:=linsWt_20 hg x.At
   have h4:=hg x.Lin
   simp only [List.length_map];omega
  omega
mutual
theorem gSt_20 {g:Lf->Lf} {r:ByteArray->ByteArray} (hg:∀l,(g l).L.length<=l.L.length+20):∀s:St,(gSt g r s).wt<=41*s.wt
 |.mk o nm mn mk fo i e b=>by
  rw [gSt,St.wt,St.wt,List.length_map]
  have h1:=idxWt_20 hg i
  have h2:=wt_g hg e
  have h3:=gSts_20 (r:=r) hg b
  omega
theorem gSts_20 {g:Lf->Lf} {r:ByteArray->ByteArray} (hg:∀l,(g l).L.length<=l.L.length+20):∀l:List St,bC (fD g r l)<=41*bC l
 |[]=>by rw [fD];simp [bC]
 |s::t=>by rw [fD,bC,bC];have:=gSt_20 (r:=r) hg s;have:=gSts_20 (r:=r) hg t;omega
end
theorem sbT_wt {s:ByteArray} {u:Lf} {l:List St} (hu:u.L.length<=20):bC (gQ (sbT s u l))<=41*bC l:=by
 cases h:sbT s u l with
 |error y=>show bC []<=_;simp [bC]
 |ok a=>
  show bC a<=_
  rw [mSts_g h]
  exact gSts_20 (fun l=>by have:=substR_len l u s;show (bI l s u).1.L.length<=_;omega) l
end Go.Br
end
section
namespace Go.Br
open Go Go.Eng Go.L41
def mN (s:St) (b:List St):St:=.mk s.Op s.Name s.Many s.Mark s.Fold s.Idx s.E b
theorem setB_self (s:St):mN s s.Body=s:=by cases s;rfl
theorem setB_n (s:St) (b:List St):stN (mN s b)=1+bN b:=by rw [zDi];rfl
def fY:List Int->List St->List St->List St
 |[],l,_=>l
 |i::p,l,q=>l.take i.toNat++(if p=[] then q else [mN (l.getD i.toNat zSt) (fY p (l.getD i.toNat zSt).Body q)])++l.drop (i.toNat+1)
theorem zEh (i:Int) (l q:List St):fY [i] l q=l.take i.toNat++q++l.drop (i.toNat+1):=by rw [fY,if_pos rfl]
theorem zGa {i:Int} {p:List Int} (h:p≠[]) (l q:List St):fY (i::p) l q=l.take i.toNat++[mN (l.getD i.toNat zSt) (fY p (l.getD i.toNat zSt).Body q)]++l.drop (i.toNat+1):=by rw [fY,if_neg h]
theorem cut_at {l:List St} {i:Int} (h:0<=i/\i<l.length):l.take i.toNat++[l.getD i.toNat zSt]++l.drop (i.toNat+1)=l:=by
 have hg:=zJk h
 rw [List.append_assoc,List.singleton_append,←qR hg,List.take_append_drop]
theorem replL_n:∀{way:List Int} {l q:List St} {s:St},way≠[]->(atF way l s).2=true->bN (fY way l q)+stN (atF way l s).1=bN l+bN q
 |[],_,_,_,h,_=>absurd rfl h
 |i::p,l,q,s,_,h=>by
  rw [atF] at h⊢
  by_cases c:0<=i/\i<l.length
  ·rw [if_pos c] at h⊢
   have hc:=congrArg bN (cut_at c)
   rw [zBd,zBd,bN,bN] at hc
   by_cases hp:p=[]
   ·subst hp;rw [zEh,atF,zBd,zBd];simp only;omega
   ·have ih:=replL_n (q:=q) hp h
    rw [zGa hp,zBd,zBd,bN,bN,setB_n]
    have:=zDi (l.getD i.toNat zSt)
    omega
  ·rw [if_neg c] at h;cases h
theorem zNa:∀a b:List St,bC (a++b)=bC a+bC b
 |[],b=>by simp [bC]
 |x::r,b=>by rw [List.cons_append,bC,bC,zNa r b];omega
theorem setB_wt (s:St) (b:List St):(mN s b).wt+bC s.Body=s.wt+bC b:=by
 have h1:=St.wt_eq s
 have h2:=St.wt_eq (mN s b)
 simp only [mN,St.Idx,St.E,St.Body] at h1 h2⊢
 omega
theorem replL_wt:∀{way:List Int} {l q:List St},mU way l->bC (fY way l q)<=bC l+bC q
 |[],l,q,_=>by rw [fY];omega
 |i::p,l,q,h=>by
  have hc:=congrArg bC (cut_at h.1)
  rw [zNa,zNa,bC,bC] at hc
  by_cases hp:p=[]
  ·subst hp;rw [zEh,zNa,zNa];omega
  ·have ih:=replL_wt (q:=q) h.2
   have hb:=setB_wt (l.getD i.toNat zSt) (fY p (l.getD i.toNat zSt).Body q)
   rw [zGa hp,zNa,zNa,bC,bC]
   omega
def vM (n:Ns) (way:List Int) (q:List St):Ns:=⟨n.Bufs,fY way n.Body q⟩
def lU (n:Ns) (way:List Int) (q:List St):Ns:=if (atT n.Body way).2=true then vM n way q else ⟨[],[]⟩
end Go.Br
end
section
set_option maxRecDepth 100000
namespace Go.Br
open Go Go.Eng Go.L41
def zNs:Ns:=⟨[],[]⟩
def lG (n:Ns) (s:ByteArray):Bool:=dM n.Bufs s||(dX n.Body s).isSome
def fV (n:Ns) (s:ByteArray):List Int:=(dX n.Body s).getD []
def gO (n:Ns) (s:ByteArray):Int:=if (dO n).2=0 then (if (dX n.Body s).isSome=true then 0 else 19) else (dO n).2
def fM (n:Ns) (s:ByteArray):List Int×St×Int:=if gO n s=0 then (fV n s,(atT n.Body (fV n s)).1,0) else ([],zSt,gO n s)
def pE (n:Ns) (way:List Int) (q:List St):Ns×Int:=if (dO (lU n way q)).2=0 then (lU n way q,0) else (zNs,(dO (lU n way q)).2)
def gU (nm:ByteArray) (many lJ:Int) (b:List St):St:=.mk 1 nm many lJ 0 [] zEx b
def sIf (e:Ex) (b:List St):St:=.mk 4 (bs []) 0 0 0 [] e b
def pT (l:Lf):Ex:=.mk 2 (bs []) ⟨0,0⟩ ⟨0,0,0,0,0⟩ l [] []
def ltE (f:Lf) (m:Int):Ex:=.mk 13 (bs []) ⟨0,0⟩ ⟨0,0,0,0,0⟩ ⟨0,[]⟩ [] [pT f,pT ⟨m,[]⟩]
def jO (by_:Int) (a b:ByteArray):Lf:=(jI (dF (fL a) by_).1 (fL b)).1
def vG (s:St) (by_:Int) (f:Lf) (b:List St):List St:=if Int.tmod s.Many by_=0 then b else [sIf (ltE f s.Many) b]
def rT (s:St) (by_:Int) (outer inner:ByteArray) (f:Lf) (b:List St):St:=gU outer (w64 (Int.tdiv (w64 (w64 (s.Many+by_)-1)) by_)) s.Mark [gU inner by_ 0 (vG s by_ f b)]
def vU (n:Ns) (loop outer inner:ByteArray):Bool:=decide (outer=inner)||(!decide (outer=loop)&&lG n outer)||(!decide (inner=loop)&&lG n inner)
def rE (n:Ns) (s:St) (loop:ByteArray) (by_:Int) (outer inner:ByteArray):Int:=
 if by_<1∨s.Many<by_ then 1 else if (!bD outer|| !bD inner)=true then 7 else if vU n loop outer inner=true then 8 else dZ (sbT loop (jO by_ outer inner) s.Body)
def mM (n:Ns) (loop:ByteArray) (by_:Int) (outer inner:ByteArray):Ns×Int:=
  if gO n loop=0 then
    (if rE n (fM n loop).2.1 loop by_ outer inner=0 then pE n (fV n loop) [rT (fM n loop).2.1 by_ outer inner (jO by_ outer inner) (gQ (sbT loop (jO by_ outer inner) (fM n loop).2.1.Body))]
     else (zNs,rE n (fM n loop).2.1 loop by_ outer inner))
  else (zNs,gO n loop)
/-! ## Peeling -/
def mW (many:Int) (rest:ByteArray):Lf:=(jI (fL rest) ⟨many,[]⟩).1
def mH (n:Ns) (s:St) (loop:ByteArray) (many:Int) (rest:ByteArray):Int:=
 if bE s.Body=[] then (if many<1∨s.Many<=many then 1 else if bD rest=false then 7 else if lG n rest=true then 8 else dZ (sbT loop (mW many rest) s.Body)) else 19
def tE (s:St) (many:Int):St:=.mk s.Op s.Name many s.Mark s.Fold s.Idx s.E s.Body
def pO (n:Ns) (loop:ByteArray) (many:Int) (rest:ByteArray):Ns×Int:=
  if gO n loop=0 then
    (if mH n (fM n loop).2.1 loop many rest=0 then pE n (fV n loop) [tE (fM n loop).2.1 many,gU rest (w64 ((fM n loop).2.1.Many-many)) (fM n loop).2.1.Mark (gQ (sbT loop (mW many rest) (fM n loop).2.1.Body))]
     else (zNs,mH n (fM n loop).2.1 loop many rest))
  else (zNs,gO n loop)
/-! ## Collapsing -/
def jX (f:Lf->Bool) (i:List Ix):Bool:=i.all fun x=>f x.Lin&&x.At.all f
def rX (f:Lf->Bool) (e:Ex):Bool:=(dG e).all fun a=>f a.Lin&&jX f a.Idx
mutual
def evS (f:Lf->Bool):St->Bool
 |.mk _ _ _ _ _ i e b=>jX f i&&evL f b&&rX f e
def evL (f:Lf->Bool):List St->Bool
 |[]=>true
 |s::r=>evS f s&&evL f r
end
def pS (a b:ByteArray) (many:Int) (l:Lf):Bool:=decide (Int.tmod (bF l.L a) many=0)&&decide (w64 (Int.tdiv (bF l.L a) many)=bF l.L b)
def nF (n:Ns) (s:St) (outer nm:ByteArray):Int:=
  if s.Body.length=1/\(s.Body.getD 0 zSt).Op=1 then
    (if bD nm=false then 7 else if ((!decide (nm=outer)&& !decide (nm=(s.Body.getD 0 zSt).Name))&&lG n nm)=true then 8
     else if w64 (Int.tdiv 65536 (s.Body.getD 0 zSt).Many)<s.Many then 2
     else if evL (pS outer (s.Body.getD 0 zSt).Name (s.Body.getD 0 zSt).Many) (s.Body.getD 0 zSt).Body=false then 19
     else if dZ (sbT outer ⟨0,[]⟩ (s.Body.getD 0 zSt).Body)=0 then dZ (sbT (s.Body.getD 0 zSt).Name (fL nm) (gQ (sbT outer ⟨0,[]⟩ (s.Body.getD 0 zSt).Body))) else dZ (sbT outer ⟨0,[]⟩ (s.Body.getD 0 zSt).Body)) else 19
def pV (s:St) (outer nm:ByteArray):St:=gU nm (w64 (s.Many*(s.Body.getD 0 zSt).Many)) s.Mark (gQ (sbT (s.Body.getD 0 zSt).Name (fL nm) (gQ (sbT outer ⟨0,[]⟩ (s.Body.getD 0 zSt).Body))))
def nR (n:Ns) (outer nm:ByteArray):Ns×Int:=
 if gO n outer=0 then (if nF n (fM n outer).2.1 outer nm=0 then pE n (fV n outer) [pV (fM n outer).2.1 outer nm] else (zNs,nF n (fM n outer).2.1 outer nm)) else (zNs,gO n outer)
/-! ## The examples -/
def cpI (l:Lf):Ix:=⟨l,bs [],[]⟩
def cpB (l:Lf):St:=.mk 2 (bs [99]) 0 0 0 [cpI l] (.mk 3 (bs [97]) ⟨0,0⟩ ⟨0,0,0,0,0⟩ ⟨0,[]⟩ [cpI l] []) []
def cpT:Ty:=⟨3,0,0,0,0⟩
def cpN (b:List St):Ns:=⟨[⟨bs [97],cpT,[8],1⟩,⟨bs [99],cpT,[8],2⟩],b⟩
def vI1:Lf:=⟨0,[⟨bs [105],1⟩]⟩
def cpy (many limit:Int):Ns:=cpN [gU (bs [105]) many 0 (if 0<limit then [sIf (ltE vI1 limit) [cpB vI1]] else [cpB vI1])]
end Go.Br
end
section
namespace Go.Br
open Go Go.Eng Go.L41
theorem tdiv_back {a b:Int} (ha:r64 a) (hb:r64 b) (hb0:b≠0) (hs:¬(b= -1/\a= -9223372036854775808)) (h:w64 (Int.tdiv (w64 (a*b)) b)=a):r64 (a*b):=by
 have hp:=w64_r (a*b)
 have hpe:=zJf (a*b)
 generalize w64 (a*b)=p at *
 have h1:=Int.mul_tdiv_add_tmod p b
 have h2:(p.tmod b).natAbs=p.natAbs%b.natAbs:=Int.natAbs_tmod p b
 have h3:(p.tdiv b).natAbs=p.natAbs/b.natAbs:=Int.natAbs_tdiv p b
 have hbn:0<b.natAbs:=by omega
 have h4:=Nat.mod_lt p.natAbs hbn
 have h5:=Nat.div_le_self p.natAbs b.natAbs
 have h6:=Nat.div_add_mod p.natAbs b.natAbs
 have hwe:=zJf (p.tdiv b)
 have hq:p.tdiv b=a:=by
  by_cases hbig:p.tdiv b=9223372036854775808
  ·exfalso
   rw [hbig] at h1 h3 hwe
   have hb1:b.natAbs=1:=by
    have h7:p.natAbs/b.natAbs=9223372036854775808:=by omega
    rw [h7] at h6
    unfold r64 at hp
    have h8:b.natAbs*9223372036854775808<=9223372036854775808:=by omega
    omega
   unfold r64 at *
   have hbc:b=1∨b= -1:=by omega
   rcases hbc with rfl|rfl
   ·omega
   ·exact hs ⟨rfl,by omega⟩
  ·rw [←h]
   unfold r64 at *
   omega
 rw [hq] at h1
 rw [Int.mul_comm b a] at h1
 generalize a*b=m at *
 generalize p.tmod b=r at *
 unfold r64 at *
 omega
theorem times_no {a b:Int} (ha:r64 a) (hb:r64 b) (h0:¬(a=0∨b=0)) (c:((a= -1/\b= -9223372036854775808)∨(b= -1/\a= -9223372036854775808))∨¬w64 (Int.tdiv (w64 (a*b)) b)=a):dI a b=(0,false):=by
 unfold dI
 rw [if_neg]
 intro hr
 rcases c with (⟨rfl,rfl⟩|⟨rfl,rfl⟩)|c
 ·revert hr;unfold r64;decide
 ·revert hr;unfold r64;decide
 ·rw [zJe hr,Int.mul_tdiv_cancel a (fun h=>h0 (.inr h)),zJe ha] at c
  exact c rfl
theorem times_yes {a b:Int} (ha:r64 a) (hb:r64 b) (h0:¬(a=0∨b=0)) (c:¬(((a= -1/\b= -9223372036854775808)∨(b= -1/\a= -9223372036854775808))∨¬w64 (Int.tdiv (w64 (a*b)) b)=a)):dI a b=(w64 (a*b),true):=by
 have h1:w64 (Int.tdiv (w64 (a*b)) b)=a:=Classical.byContradiction fun h=>c (.inr h)
 have hr:=tdiv_back ha hb (fun h=>h0 (.inr h)) (fun h=>c (.inl (.inr h))) h1
 unfold dI
 rw [if_pos hr,zJe hr]
theorem times_0 {a b:Int} (h0:a=0∨b=0):dI a b=(0,true):=by
 have:a*b=0:=by rcases h0 with rfl|rfl<;>simp
 unfold dI;rw [this];rfl
def xR (l:List ByteArray):Prop:=l.Pairwise fun x y=>dD x y=true
theorem strLt_ne {a b:ByteArray} (h:dD a b=true):a≠b:=by rintro rfl;rw [zGs] at h;cases h
theorem coeff_gt {q:ByteArray} {l:List Mono} (h:∀m,m∈l->dD q m.Name=true):bF l q=0:=by
 induction l with
 |nil=>rfl
 |cons x r ih=>
  rw [bF,if_neg (fun e=>strLt_ne (h x (List.mem_cons_self ..)) e.symm)]
  exact ih fun m hm=>h m (List.mem_cons_of_mem _ hm)
theorem zFk:∀{q:ByteArray} {l:List Tr},jQ (some q) l=true->∀t,t∈l->dD q t.1=true
 |_,[],_,t,h=>by cases h
 |q,x::r,h,t,ht=>by
  simp only [jQ,Bool.and_eq_true,ltO] at h
  rcases List.mem_cons.1 ht with rfl|ht
  ·exact h.1.2
  ·exact zDv h.1.2 (zFk h.2 t ht)
theorem trs_asc:∀{p:Option ByteArray} {l:List Tr},jQ p l=true->xR (l.map (·.1))
 |_,[],_=>List.Pairwise.nil
 |p,x::r,h=>by
  simp only [jQ,Bool.and_eq_true] at h
  refine List.pairwise_cons.2 ⟨fun y hy=>?_,trs_asc h.2⟩
  obtain ⟨t,ht,rfl⟩:=List.mem_map.1 hy
  exact zFk h.2 t ht
theorem hd_c (x:Mono) (r:List Mono):bF (x::r) x.Name=x.By:=by rw [bF,if_pos rfl]
theorem tl_c {x:Mono} {r:List Mono} {t:ByteArray} (h:dD x.Name t=true):bF (x::r) t=bF r t:=by rw [bF,if_neg (strLt_ne h)]
theorem mono_wk {p:Option ByteArray} {q:ByteArray} {y:Mono} {s:List Mono} (h:bL p (y::s)=true) (k:dD q y.Name=true):bL (some q) (y::s)=true:=by
 simp only [bL,Bool.and_eq_true] at h⊢
 exact ⟨⟨h.1.1,k⟩,h.2⟩
theorem zFr {p:Option ByteArray} {y:Mono} {s:List Mono} (h:bL p (y::s)=true):bL (some y.Name) s=true:=by
 simp only [bL,Bool.and_eq_true] at h
 exact h.2
theorem zCu:∀(n:Nat) (p:Option ByteArray) (a b:List Mono),a.length+b.length<=n->bL p a=true->bL p b=true->∀t,t∈bG a b->t.2.1=bF a t.1/\t.2.2=bF b t.1
 |_,p,[],[],_,_,_,t,ht=>by rw [zQc] at ht;cases ht
 |0,_,_::_,_,h,_,_,_,_=>by simp at h
 |0,_,[],_::_,h,_,_,_,_=>by simp at h
 |n+1,p,x::r,[],h,ha,hb,t,ht=>by
  have hn:r.length+([]:List Mono).length<=n:=by simp at h⊢;omega
  rw [zId] at ht
  rcases List.mem_cons.1 ht with rfl|ht
  ·exact ⟨(hd_c x r).symm,rfl⟩
  ·have h1:=zFk (zBm n (some x.Name) r [] hn (zFr ha) rfl) t ht
   rw [tl_c h1]
   exact zCu n (some x.Name) r [] hn (zFr ha) rfl t ht
 |n+1,p,[],y::s,h,ha,hb,t,ht=>by
  have hn:([]:List Mono).length+s.length<=n:=by simp at h⊢;omega
  rw [zIc] at ht
  rcases List.mem_cons.1 ht with rfl|ht
  ·exact ⟨rfl,(hd_c y s).symm⟩
  ·have h1:=zFk (zBm n (some y.Name) [] s hn rfl (zFr hb)) t ht
   rw [tl_c h1]
   exact zCu n (some y.Name) [] s hn rfl (zFr hb) t ht
 |n+1,p,x::r,y::s,h,ha,hb,t,ht=>by
  have h':r.length+1+(s.length+1)<=n+1:=by simpa using h
  rw [zDj] at ht
  cases c:dD x.Name y.Name with
  |true=>
   rw [c,cond_true] at ht
   have hw:=mono_wk hb c
   have hn:r.length+(y::s).length<=n:=by simp;omega
   rcases List.mem_cons.1 ht with rfl|ht
   ·exact ⟨(hd_c x r).symm,(coeff_gt (zIb hw)).symm⟩
   ·have h1:=zFk (zBm n (some x.Name) r (y::s) hn (zFr ha) hw) t ht
    rw [tl_c h1]
    exact zCu n (some x.Name) r (y::s) hn (zFr ha) hw t ht
  |false=>
   rw [c,cond_false] at ht
   cases d:dD y.Name x.Name with
   |true=>
    rw [d,cond_true] at ht
    have hw:=mono_wk ha d
    have hn:(x::r).length+s.length<=n:=by simp;omega
    rcases List.mem_cons.1 ht with rfl|ht
    ·exact ⟨(coeff_gt (zIb hw)).symm,(hd_c y s).symm⟩
    ·have h1:=zFk (zBm n (some y.Name) (x::r) s hn hw (zFr hb)) t ht
     rw [tl_c (x:=y) h1]
     exact zCu n (some y.Name) (x::r) s hn hw (zFr hb) t ht
   |false=>
    rw [d,cond_false] at ht
    have e:=zJj c d
    have hn:r.length+s.length<=n:=by omega
    rcases List.mem_cons.1 ht with rfl|ht
    ·exact ⟨(hd_c x r).symm,by show y.By=bF (y::s) x.Name;rw [e];exact (hd_c y s).symm⟩
    ·have hs:bL (some x.Name) s=true:=by rw [e];exact zFr hb
     have h1:=zFk (zBm n (some x.Name) r s hn (zFr ha) hs) t ht
     rw [tl_c h1,tl_c (x:=y) (by rw [←e];exact h1)]
     exact zCu n (some x.Name) r s hn (zFr ha) hs t ht
theorem zHb:∀(n:Nat) (a b:List Mono),a.length+b.length<=n->∀m,m∈a∨m∈b->∃t,t∈bG a b/\t.1=m.Name
 |_,[],[],_,m,hm=>by rcases hm with hm|hm<;>cases hm
 |0,_::_,_,h,_,_=>by simp at h
 |0,[],_::_,h,_,_=>by simp at h
 |n+1,x::r,[],h,m,hm=>by
  rw [zId]
  rcases hm with hm|hm
  ·rcases List.mem_cons.1 hm with rfl|hm
   ·exact ⟨_,List.mem_cons_self ..,rfl⟩
   ·obtain ⟨t,h1,h2⟩:=zHb n r [] (by simp at h⊢;omega) m (.inl hm)
    exact ⟨t,List.mem_cons_of_mem _ h1,h2⟩
  ·cases hm
 |n+1,[],y::s,h,m,hm=>by
  rw [zIc]
  rcases hm with hm|hm
  ·cases hm
  ·rcases List.mem_cons.1 hm with rfl|hm
   ·exact ⟨_,List.mem_cons_self ..,rfl⟩
   ·obtain ⟨t,h1,h2⟩:=zHb n [] s (by simp at h⊢;omega) m (.inr hm)
    exact ⟨t,List.mem_cons_of_mem _ h1,h2⟩
 |n+1,x::r,y::s,h,m,hm=>by
  have h':r.length+1+(s.length+1)<=n+1:=by simpa using h
  rw [zDj]
  cases c:dD x.Name y.Name with
  |true=>
   rw [cond_true]
   have go:(m∈r∨m∈y::s)->∃t,t∈(x.Name,x.By,(0:Int))::bG r (y::s)/\t.1=m.Name:=fun hq=>by
    obtain ⟨t,h1,h2⟩:=zHb n r (y::s) (by simp;omega) m hq
    exact ⟨t,List.mem_cons_of_mem _ h1,h2⟩
   rcases hm with hm|hm
   ·rcases List.mem_cons.1 hm with rfl|hm
    ·exact ⟨_,List.mem_cons_self ..,rfl⟩
    ·exact go (.inl hm)
   ·exact go (.inr hm)
  |false=>
   rw [cond_false]
   cases d:dD y.Name x.Name with
   |true=>
    rw [cond_true]
    have go:(m∈x::r∨m∈s)->∃t,t∈(y.Name,(0:Int),y.By)::bG (x::r) s/\t.1=m.Name:=fun hq=>by
     obtain ⟨t,h1,h2⟩:=zHb n (x::r) s (by simp;omega) m hq
     exact ⟨t,List.mem_cons_of_mem _ h1,h2⟩
    rcases hm with hm|hm
    ·exact go (.inl hm)
    ·rcases List.mem_cons.1 hm with rfl|hm
     ·exact ⟨_,List.mem_cons_self ..,rfl⟩
     ·exact go (.inr hm)
   |false=>
    rw [cond_false]
    have e:=zJj c d
    have go:(m∈r∨m∈s)->∃t,t∈(x.Name,x.By,y.By)::bG r s/\t.1=m.Name:=fun hq=>by
     obtain ⟨t,h1,h2⟩:=zHb n r s (by omega) m hq
     exact ⟨t,List.mem_cons_of_mem _ h1,h2⟩
    rcases hm with hm|hm
    ·rcases List.mem_cons.1 hm with rfl|hm
     ·exact ⟨_,List.mem_cons_self ..,rfl⟩
     ·exact go (.inl hm)
    ·rcases List.mem_cons.1 hm with rfl|hm
     ·exact ⟨_,List.mem_cons_self ..,e⟩
     ·exact go (.inr hm)
end Go.Br
end
section
namespace Go.Br
open Go Go.Eng Go.L41
mutual
def nV (P:St->Prop):St->Prop
 |.mk o nm mn mk fo i e b=>P (.mk o nm mn mk fo i e b)/\lO P b
def lO (P:St->Prop):List St->Prop
 |[]=>True
 |s::r=>nV P s/\lO P r
end
theorem zFa {P:St->Prop} {s:St} (h:nV P s):P s/\lO P s.Body:=by cases s;rw [nV] at h;exact h
theorem zFd {P:St->Prop}:∀{l:List St},lO P l->∀s,s∈l->nV P s
 |[],_,s,hs=>by cases hs
 |x::r,h,s,hs=>by
  rw [lO] at h
  rcases List.mem_cons.1 hs with rfl|hs
  ·exact h.1
  ·exact zFd h.2 s hs
mutual
theorem chkS_all (B:List Bf):∀(s:St) (U sc:List ByteArray) (here:List Int),(fC B U sc here s).E=0->nV (fun s=>∃U sc,stE B U sc s=0) s
 |.mk o nm mn mk fo i e b,U,sc,here,h=>by
  rw [fC] at h
  rw [nV]
  split at h
  ·next c=>exact ⟨⟨U,sc,c⟩,chkL_all B b _ _ _ _ h⟩
  ·next c=>exact absurd h c
theorem chkL_all (B:List Bf):∀(l:List St) (U sc:List ByteArray) (way:List Int) (i:Int),(bR B U sc way i l).E=0->lO (fun s=>∃U sc,stE B U sc s=0) l
 |[],_,_,_,_,_=>by rw [lO];trivial
 |s::r,U,sc,way,i,h=>by
  rw [bR] at h
  rw [lO]
  split at h
  ·next c=>exact ⟨chkS_all B s _ _ _ c,chkL_all B r _ _ _ _ h⟩
  ·next c=>exact absurd h c
end
theorem zNf {n:Ns} (h:(dO n).2=0):lO (fun s=>∃U sc,stE n.Bufs U sc s=0) n.Body:=chkL_all n.Bufs n.Body [] [] [] 0 (zFj h).2.2.2
theorem atF_stAll {P:St->Prop}:∀{way:List Int} {l:List St} {s:St},lO P l->nV P s->(atF way l s).2=true->nV P (atF way l s).1
 |[],_,_,_,h,_=>by rw [atF];exact h
 |i::r,l,s,hl,hs,h=>by
  rw [atF] at h⊢
  by_cases c:0<=i/\i<l.length
  ·rw [if_pos c] at h⊢
   have h1:=zFd hl _ (zMm c)
   exact atF_stAll (zFa h1).2 h1 h
  ·rw [if_neg c] at h;cases h
theorem zPh {P:St->Prop} {l:List St} {way:List Int} (hl:lO P l) (h:(atT l way).2=true):nV P (atT l way).1:=by
 unfold atT at h⊢
 by_cases hw:way=[]
 ·rw [if_pos hw] at h;cases h
 ·rw [if_neg hw] at h⊢
  cases way with
  |nil=>exact absurd rfl hw
  |cons i r=>
   rw [atF] at h⊢
   by_cases c:0<=i/\i<l.length
   ·rw [if_pos c] at h⊢
    have h1:=zFd hl _ (zMm c)
    exact atF_stAll (zFa h1).2 h1 h
   ·rw [if_neg c] at h;cases h
/-! ## The loop that is found -/
mutual
theorem fndS_at (t:ByteArray):∀(s:St) (w:List Int),nO t s=some w->(w=[]/\fX t s=true)∨(w≠[]/\∀s0,(atF w s.Body s0).2=true/\fX t (atF w s.Body s0).1=true)
 |.mk o nm mn mk fo i e b,w,h=>by
  rw [nO] at h
  split at h
  ·next c=>injection h with h;exact .inl ⟨h.symm,c⟩
  ·next c=>
   obtain ⟨j,rest,rfl,hj,h1,h2⟩:=fndL_at t b 0 w h
   refine .inr ⟨by simp,fun s0=>?_⟩
   show (atF ((0+(j:Int))::rest) b s0).2=true/\fX t (atF ((0+(j:Int))::rest) b s0).1=true
   rw [atF,if_pos ⟨by omega,by omega⟩,show (0+(j:Int)).toNat=j by omega]
   exact ⟨h1,h2⟩
theorem fndL_at (t:ByteArray):∀(l:List St) (i:Int) (w:List Int),gJ t i l=some w->∃(j:Nat) (rest:List Int),w=(i+(j:Int))::rest/\j<l.length/\(atF rest (l.getD j zSt).Body (l.getD j zSt)).2=true/\fX t (atF rest (l.getD j zSt).Body (l.getD j zSt)).1=true
 |[],i,w,h=>by rw [gJ] at h;cases h
 |s::r,i,w,h=>by
  rw [gJ] at h
  cases c:nO t s with
  |some u=>
   rw [c] at h
   injection h with h
   refine ⟨0,u,by rw [←h];simp,by simp,?_⟩
   show (atF u s.Body s).2=true/\fX t (atF u s.Body s).1=true
   rcases fndS_at t s u c with ⟨rfl,h1⟩|⟨_,h1⟩
   ·rw [atF];exact ⟨rfl,h1⟩
   ·exact h1 s
  |none=>
   rw [c] at h
   obtain ⟨j,rest,h1,h2,h3⟩:=fndL_at t r (i+1) w h
   refine ⟨j+1,rest,?_,by simp;omega,h3⟩
   rw [h1]
   congr 1
   omega
end
theorem found_at {l:List St} {t:ByteArray} {w:List Int} (h:dX l t=some w):(atT l w).2=true/\fX t (atT l w).1=true:=by
 rw [zOr] at h
 obtain ⟨j,rest,rfl,hj,h1,h2⟩:=fndL_at t l 0 w h
 unfold atT
 rw [if_neg (by simp),atF,if_pos ⟨by omega,by omega⟩,show (0+(j:Int)).toNat=j by omega]
 exact ⟨h1,h2⟩
theorem any_hit (t:ByteArray):∀L:List (St×List Int),L.any (pM t)=bK (mY L) t
 |[]=>rfl
 |x::r=>by
  rw [List.any_cons,any_hit t r]
  unfold mY
  rw [List.flatMap_cons,zAg]
  congr 1
  unfold pM fX gI
  by_cases c:x.1.Op=1
  ·rw [if_pos c,zKl];simp [c,bK]
  ·rw [if_neg c];simp [c,bK]
theorem find_has (l:List St) (t:ByteArray):(dX l t).isSome=bK (bE l) t:=by
 rw [←loopsA_L [] l 0,←any_hit]
 unfold dX lL
 rw [Option.isSome_map,Bool.eq_iff_iff,List.find?_isSome,List.any_eq_true]
/-! ## What it is -/
theorem zLm {B:List Bf} {U sc:List ByteArray} {s:St} (h:stE B U sc s=0) (ho:s.Op=1):bD s.Name=true/\dM B s.Name=false/\1<=s.Many/\s.Many<=65536/\s.Fold=0/\s.Idx=[]/\s.E=zEx:=by
 have hs:dN s=true:=by
  cases c:dN s with
  |true=>rfl
  |false=>rw [stE_5 c] at h;cases h
 rw [zPr hs ho] at h
 unfold lY at h
 by_cases c1:bD s.Name=true
 ·rw [if_pos c1] at h
  by_cases c2:dM B s.Name=true∨bK U s.Name=true
  ·rw [if_pos c2] at h;cases h
  ·rw [if_neg c2] at h
   by_cases c3:s.Many<1∨65536<s.Many∨s.Mark<0∨3<s.Mark
   ·rw [if_pos c3] at h;cases h
   ·have c4:dM B s.Name=false:=by
     cases k:dM B s.Name with
     |false=>rfl
     |true=>exact absurd (.inl k) c2
    unfold dN gE at hs
    simp only [ho,Bool.and_eq_true,Bool.or_eq_true,Bool.not_eq_true',Bool.and_eq_false_iff,decide_eq_true_eq,decide_eq_false_iff_not,Bool.or_eq_false_iff,Bool.not_eq_false',jY] at hs
    obtain ⟨⟨⟨⟨⟨_,_⟩,h4⟩,h5⟩,h6⟩,_⟩:=hs
    refine ⟨c1,c4,by omega,by omega,?_,?_,?_⟩
    ·rcases h4 with h4|h4
     ·exact absurd h4 (by decide)
     ·exact h4
    ·rcases h5 with h5|h5
     ·exact absurd h5 (by decide)
     ·exact List.eq_nil_of_length_eq_zero (by omega)
    ·rcases h6 with h6|h6
     ·exact absurd trivial h6
     ·exact h6
 ·rw [if_neg c1] at h;cases h
theorem zLq {n:Ns} {t:ByteArray} (h:(dO n).2=0) (hf:(dX n.Body t).isSome=true):(atT n.Body (fV n t)).2=true/\(atT n.Body (fV n t)).1.Op=1/\(atT n.Body (fV n t)).1.Name=t/\dM n.Bufs t=false/\bD t=true/\1<=(atT n.Body (fV n t)).1.Many/\(atT n.Body (fV n t)).1.Many<=65536/\(atT n.Body (fV n t)).1.Fold=0/\(atT n.Body (fV n t)).1.Idx=[]/\(atT n.Body (fV n t)).1.E=zEx:=by
 obtain ⟨w,hw⟩:=Option.isSome_iff_exists.1 hf
 have e:fV n t=w:=by unfold fV;rw [hw];rfl
 rw [e]
 obtain ⟨h1,h2⟩:=found_at hw
 unfold fX at h2
 simp only [Bool.and_eq_true,decide_eq_true_eq] at h2
 obtain ⟨U,sc,h3⟩:=(zFa (zPh (zNf h) h1)).1
 obtain ⟨k1,k2,k3,k4,k5,k6,k7⟩:=zLm h3 h2.1
 rw [h2.2] at k1 k2
 exact ⟨h1,h2.1,h2.2,k2,k1,k3,k4,k5,k6,k7⟩
/-! ## Names that are taken -/
def vD (n:Ns) (s:ByteArray) (ex:List ByteArray):Bool:=dM n.Bufs s||(bK (bE n.Body) s&& !bK ex s)
end Go.Br
end
