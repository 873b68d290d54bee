/-
  Sorting and thinning of lists of strings that are the call's own: slices.Sort and slices.Compact,by the shelf's contracts.
  The names that an expression reads,in plain Lean.
  Sums of linear forms,exactly,in plain Lean: numbers of 64 and of 128 bits,merges of ascending lists,substitution.
  The reference's substitution of forms,in plain Lean: the sum,and the mapping of all forms of an expression.
  What the substitution of a form keeps,in plain Lean: valid forms stay valid,the name is gone,the shape of an expression stays.
  The comparison of expressions is a total order,in plain Lean.
  Layer 14 in plain Lean: short names,replacing,the names in forms,the example that every statement checks.
  Loop nests,in plain Lean: buffers,statements,and the cells that hold them.
  What the check of a nest says (30.1),in plain Lean.
  Weights of nests,in plain Lean.
  For the reference's check of nests,in plain Lean.
  Ascending lists of names,one name added at a time,in plain Lean.
  Lifetimes as plain data,and what the functions of the layer compute.
  Layer 41 in plain Lean: what statements touch; the spans of buffers.
  Nests walked and mapped,in plain Lean (30.2,30.3).
  Paths in nests,in plain Lean (30.2).
  Names that are not in use,in plain Lean (30.2): numerals,and the first number that is free.
  A loop renamed to a name that is not in use,in plain Lean (30.3,30.5).
  The example of the laws of layer 30; lengths of paths. In plain Lean.
  A form put for a name in all forms of statements (30.3): what Substitute returns; what Rename of the reference returns.
  A statement on a path replaced by others (30.2).
  Split,peeled and collapsed loops,in plain Lean (36.1 to 36.4).
  What the reference of layer 5 computes,in plain Lean: products,sums of forms.
  What is known of the statements of a valid nest,and of the loop that Find finds.
  Conditions: none.
-/
import Derived.Test.YtlfjpejkoccibaaGreatDoorCfg
import Derived.Test.YtlfjpejkoccibaaGreatDoorEngZ
import Derived.Test.YtlfjpejkoccibaaGreatDoorShelfB
import Derived.Sort.OwnSorted
import Derived.Lib.OwnBridge
import Derived.Test.YtlfjpejkoccibaaGreatDoorPlain
import Derived.Test.YtlfjpejkoccibaaGreatDoorNames
import Derived.Lib.ItoaNum
set_option linter.unusedSimpArgs false
set_option linter.unusedVariables false
section
namespace Go.Br
open Go Go.Eng Go.RowKit Go.Proofs Go.L41
end Go.Br
end
section
namespace Go.Br
open Go Go.Eng Go.L41
end Go.Br
end
section
namespace Go.Br
open Go Go.Eng Go.L41
/-! ## The order of names -/
theorem bl_cons (a b:UInt8) (x y:List UInt8):Op.bytesLess (a::x) (b::y)=true↔a<b∨(a=b/\Op.bytesLess x y=true):=by
 rw [Op.bytesLess]
 by_cases h1:a<b<;>by_cases h2:a=b<;>simp [h1,h2]
theorem bl_trans:∀(x y z:List UInt8),Op.bytesLess x y=true->Op.bytesLess y z=true->Op.bytesLess x z=true
 |[],[],_,h,_=>by simp [Op.bytesLess] at h
 |[],_::_,[],_,h=>by simp [Op.bytesLess] at h
 |[],_::_,_::_,_,_=>by simp [Op.bytesLess]
 |_::_,[],_,h,_=>by simp [Op.bytesLess] at h
 |_::_,_::_,[],_,h=>by simp [Op.bytesLess] at h
 |a::x,b::y,c::z,h,k=>by
  rw [bl_cons] at h k⊢
  rcases h with h|⟨rfl,h⟩
  ·rcases k with k|⟨rfl,k⟩
   ·exact .inl (UInt8.lt_trans h k)
   ·exact .inl h
  ·rcases k with k|⟨rfl,k⟩
   ·exact .inl k
   ·exact .inr ⟨rfl,bl_trans x y z h k⟩
theorem bl_tri:∀(x y:List UInt8),Op.bytesLess x y=false->Op.bytesLess y x=false->x=y
 |[],[],_,_=>rfl
 |[],_::_,h,_=>by simp [Op.bytesLess] at h
 |_::_,[],_,h=>by simp [Op.bytesLess] at h
 |a::x,b::y,h,k=>by
  have h1:¬Op.bytesLess (a::x) (b::y)=true:=by rw [h];simp
  have k1:¬Op.bytesLess (b::y) (a::x)=true:=by rw [k];simp
  rw [bl_cons] at h1 k1
  have e:a=b:=UInt8.le_antisymm (UInt8.not_lt.1 fun c=>k1 (.inl c)) (UInt8.not_lt.1 fun c=>h1 (.inl c))
  subst e
  have h2:Op.bytesLess x y=false:=by
   cases c:Op.bytesLess x y with
   |false=>rfl
   |true=>exact absurd (.inr ⟨rfl,c⟩) h1
  have k2:Op.bytesLess y x=false:=by
   cases c:Op.bytesLess y x with
   |false=>rfl
   |true=>exact absurd (.inr ⟨rfl,c⟩) k1
  rw [bl_tri x y h2 k2]
theorem bl_irr:∀(x:List UInt8),Op.bytesLess x x=false
 |[]=>by simp [Op.bytesLess]
 |a::x=>by
  cases c:Op.bytesLess (a::x) (a::x) with
  |false=>rfl
  |true=>
   rw [bl_cons] at c
   rcases c with c|⟨_,c⟩
   ·exact absurd c (UInt8.lt_irrefl a)
   ·rw [bl_irr x] at c;cases c
theorem zJs {a b:ByteArray} (h:strLt a b=false) (k:strLt b a=false):a=b:=by
 have h1:=bl_tri _ _ h k
 rw [ByteArray.toList_eq,ByteArray.toList_eq] at h1
 exact ByteArray.ext (Array.toList_inj.1 h1)
theorem strLt_irr (a:ByteArray):strLt a a=false:=bl_irr _
theorem zCl {a b c:ByteArray} (h:strLt a b=true) (k:strLt b c=true):strLt a c=true:=bl_trans _ _ _ h k
/-! ## Numbers -/
def r64 (n:Int):Prop:= -9223372036854775808<=n/\n<=9223372036854775807
instance (n:Int):Decidable (r64 n):=by unfold r64;infer_instance
def w64 (n:Int):Int:=IntKind.i64.wrap n
theorem zJn {n:Int} (h:r64 n):w64 n=n:=IntWalk.i64_in n h
theorem w64_eq (n:Int):w64 n=(n+9223372036854775808)%18446744073709551616-9223372036854775808:=by unfold w64;rw [IntKind.wrap_i64]
theorem w64_r (n:Int):r64 (w64 n):=by rw [w64_eq];unfold r64;omega
theorem u64_eq (n:Int):IntKind.u64.wrap n=n%18446744073709551616:=by rw [IntKind.wrap_u64]
theorem plus_ok {a b:Int} (ha:r64 a) (hb:r64 b):decide (decide (a<w64 (a+b))=decide (0<b))=decide (r64 (a+b)):=by
 refine decide_eq_decide.2 ?_
 rw [w64_eq,decide_eq_decide]
 unfold r64 at *
 omega
theorem sq_le {a b:Nat} (ha:a<=4294967295) (hb:b<=4294967295):a*b<=18446744065119617025:=Nat.mul_le_mul ha hb
def hiN (a b:Nat):Nat:=
 (a/4294967296)*(b/4294967296)+((a/4294967296)*(b%4294967296)+((a%4294967296)*(b%4294967296))/4294967296)/4294967296+
  ((a%4294967296)*(b/4294967296)+((a/4294967296)*(b%4294967296)+((a%4294967296)*(b%4294967296))/4294967296)%4294967296)/4294967296
theorem mul_parts (a b:Nat):a*b=(a/4294967296)*(b/4294967296)*18446744073709551616+((a/4294967296)*(b%4294967296)+(a%4294967296)*(b/4294967296))*4294967296+(a%4294967296)*(b%4294967296):=by
 have ea:a=(a/4294967296)*4294967296+a%4294967296:=by omega
 have eb:b=(b/4294967296)*4294967296+b%4294967296:=by omega
 generalize a/4294967296=a1 at *
 generalize a%4294967296=a0 at *
 generalize b/4294967296=b1 at *
 generalize b%4294967296=b0 at *
 subst ea eb
 rw [Nat.add_mul,Nat.mul_add,Nat.mul_add,Nat.add_mul]
 have e1:a1*4294967296*(b1*4294967296)=a1*b1*18446744073709551616:=by
  rw [Nat.mul_mul_mul_comm]
 have e2:a1*4294967296*b0=a1*b0*4294967296:=by rw [Nat.mul_right_comm]
 have e3:a0*(b1*4294967296)=a0*b1*4294967296:=by rw [Nat.mul_assoc]
 rw [e1,e2,e3]
 omega
theorem hi_lo (a b:Nat):hiN a b*18446744073709551616+(a*b)%18446744073709551616=a*b:=by
 have h:=mul_parts a b
 unfold hiN
 generalize a*b=n at *
 generalize (a/4294967296)*(b/4294967296)=p11 at *
 generalize (a/4294967296)*(b%4294967296)=p10 at *
 generalize (a%4294967296)*(b/4294967296)=p01 at *
 generalize (a%4294967296)*(b%4294967296)=p00 at *
 omega
theorem part_le {a b:Nat} (ha:a<18446744073709551616) (hb:b<18446744073709551616):
  (a/4294967296)*(b/4294967296)<=18446744065119617025/\(a/4294967296)*(b%4294967296)<=18446744065119617025/\(a%4294967296)*(b/4294967296)<=18446744065119617025/\(a%4294967296)*(b%4294967296)<=18446744065119617025:=
 ⟨sq_le (by omega) (by omega),sq_le (by omega) (by omega),sq_le (by omega) (by omega),sq_le (by omega) (by omega)⟩
theorem hi_zero {a b:Nat}:hiN a b=0↔a*b<18446744073709551616:=by
 have h:=hi_lo a b
 constructor
 ·intro e;rw [e] at h;omega
 ·intro e
  by_cases c:hiN a b=0
  ·exact c
  ·exfalso;generalize a*b=n at *;generalize hiN a b=m at *;omega
theorem hi_bounds {a b:Nat} (ha:a<18446744073709551616) (hb:b<18446744073709551616):
  (a/4294967296)*(b%4294967296)+((a%4294967296)*(b%4294967296))/4294967296<18446744073709551616/\
  (a%4294967296)*(b/4294967296)+((a/4294967296)*(b%4294967296)+((a%4294967296)*(b%4294967296))/4294967296)%4294967296<18446744073709551616/\
  (a/4294967296)*(b/4294967296)+((a/4294967296)*(b%4294967296)+((a%4294967296)*(b%4294967296))/4294967296)/4294967296<18446744073709551616/\hiN a b<18446744073709551616:=by
 obtain ⟨h1,h2,h3,h4⟩:=part_le ha hb
 have h5:=hi_lo a b
 have h6:a*b<=18446744073709551615*18446744073709551615:=Nat.mul_le_mul (by omega) (by omega)
 refine ⟨?_,?_,?_,?_⟩
 ·generalize (a/4294967296)*(b%4294967296)=p10 at *
  generalize (a%4294967296)*(b%4294967296)=p00 at *
  omega
 ·generalize (a/4294967296)*(b%4294967296)=p10 at *
  generalize (a%4294967296)*(b/4294967296)=p01 at *
  generalize (a%4294967296)*(b%4294967296)=p00 at *
  omega
 ·generalize (a/4294967296)*(b/4294967296)=p11 at *
  generalize (a/4294967296)*(b%4294967296)=p10 at *
  generalize (a%4294967296)*(b%4294967296)=p00 at *
  omega
 ·generalize a*b=n at *
  generalize hiN a b=m at *
  omega
def timesT (x y:Int):Int×Bool:=if r64 (x*y) then (x*y,true) else (0,false)
theorem magn_neg {x:Int} (h:r64 x) (hn:x<0):IntKind.u64.wrap (-(IntKind.u64.wrap x))=(x.natAbs:Int):=by
 unfold r64 at h;rw [u64_eq,u64_eq];omega
theorem magn_pos {x:Int} (h:r64 x) (hn:¬x<0):IntKind.u64.wrap x=(x.natAbs:Int):=by
 unfold r64 at h;rw [u64_eq];omega
theorem magn_le {x:Int} (h:r64 x):x.natAbs<=9223372036854775808:=by unfold r64 at h;omega
theorem abs_mul (x y:Int):(x*y).natAbs=x.natAbs*y.natAbs:=Int.natAbs_mul x y
theorem sign_mul {x y:Int} (hx:x<0) (hy:¬y<0):x*y<=0:=Int.mul_nonpos_of_nonpos_of_nonneg (by omega) (by omega)
theorem sign_mul2 {x y:Int} (hx:¬x<0) (hy:y<0):x*y<=0:=Int.mul_nonpos_of_nonneg_of_nonpos (by omega) (by omega)
theorem sign_mul3 {x y:Int} (hx:x<0) (hy:y<0):0<=x*y:=Int.mul_nonneg_of_nonpos_of_nonpos (by omega) (by omega)
theorem sign_mul4 {x y:Int} (hx:¬x<0) (hy:¬y<0):0<=x*y:=Int.mul_nonneg (by omega) (by omega)
theorem neg_mul {x y:Int} (h:(decide (x<0)==decide (y<0))=false):x*y<=0:=by
 by_cases hx:x<0<;>by_cases hy:y<0
 ·simp [hx,hy] at h
 ·exact sign_mul hx hy
 ·exact sign_mul2 hx hy
 ·simp [hx,hy] at h
theorem pos_mul {x y:Int} (h:(decide (x<0)==decide (y<0))=true):0<=x*y:=by
 by_cases hx:x<0<;>by_cases hy:y<0
 ·exact sign_mul3 hx hy
 ·simp [hx,hy] at h
 ·simp [hx,hy] at h
 ·exact sign_mul4 hx hy
theorem times_big {x y:Int} (hx:r64 x) (hy:r64 y) (h:hiN x.natAbs y.natAbs≠0∨9223372036854775808<x.natAbs*y.natAbs%18446744073709551616):timesT x y=(0,false):=by
 unfold timesT
 refine if_neg fun k=>?_
 have h1:=abs_mul x y
 unfold r64 at k
 have h2:x.natAbs*y.natAbs<18446744073709551616:=by rw [←h1];omega
 rcases h with h|h
 ·exact h (hi_zero.2 h2)
 ·rw [Nat.mod_eq_of_lt h2,←h1] at h;omega
theorem times_edge {x y:Int} (h:(decide (x<0)==decide (y<0))=true) (h2:x.natAbs*y.natAbs%18446744073709551616=9223372036854775808):timesT x y=(0,false):=by
 unfold timesT
 refine if_neg fun k=>?_
 have h1:=abs_mul x y
 have h3:=pos_mul h
 unfold r64 at k
 rw [←h1] at h2
 omega
theorem times_neg {x y:Int} (h:(decide (x<0)==decide (y<0))=false) (h0:hiN x.natAbs y.natAbs=0) (hl:x.natAbs*y.natAbs%18446744073709551616<=9223372036854775808):timesT x y=(IntKind.i64.wrap (IntKind.u64.wrap (-((x.natAbs*y.natAbs%18446744073709551616:Nat):Int))),true):=by
 have h1:=abs_mul x y
 have h3:=neg_mul h
 have h4:=hi_zero.1 h0
 rw [Nat.mod_eq_of_lt h4] at hl⊢
 rw [←h1] at hl⊢
 unfold timesT
 rw [if_pos (by unfold r64;omega),u64_eq]
 congr 1
 show _=w64 _
 rw [w64_eq];omega
theorem times_pos {x y:Int} (h:(decide (x<0)==decide (y<0))=true) (h0:hiN x.natAbs y.natAbs=0) (hl:x.natAbs*y.natAbs%18446744073709551616<9223372036854775808):timesT x y=(IntKind.i64.wrap ((x.natAbs*y.natAbs%18446744073709551616:Nat):Int),true):=by
 have h1:=abs_mul x y
 have h3:=pos_mul h
 have h4:=hi_zero.1 h0
 rw [Nat.mod_eq_of_lt h4] at hl⊢
 rw [←h1] at hl⊢
 unfold timesT
 rw [if_pos (by unfold r64;omega)]
 congr 1
 show _=w64 _
 rw [w64_eq];omega
theorem times_f {x y:Int} (hx:r64 x) (hy:r64 y) (c:(¬((hiN x.natAbs y.natAbs:Nat):Int)=0∨9223372036854775808<((x.natAbs*y.natAbs%18446744073709551616:Nat):Int))∨((x.natAbs*y.natAbs%18446744073709551616:Nat):Int)=9223372036854775808/\(decide (x<0)==decide (y<0))=true):timesT x y=(0,false):=by
 rcases c with (c|c)|⟨c,d⟩
 ·exact times_big hx hy (.inl (by omega))
 ·exact times_big hx hy (.inr (by omega))
 ·exact times_edge d (by omega)
abbrev Tr:=ByteArray×Int×Int
def mergeN:Nat->List Mono->List Mono->List Tr
 |0,_,_=>[]
 |_+1,[],[]=>[]
 |n+1,a::ar,[]=>(a.Name,a.By,0)::mergeN n ar []
 |n+1,[],b::bs=>(b.Name,0,b.By)::mergeN n [] bs
 |n+1,a::ar,b::bs=>
  bif strLt a.Name b.Name then (a.Name,a.By,0)::mergeN n ar (b::bs)
  else bif strLt b.Name a.Name then (b.Name,0,b.By)::mergeN n (a::ar) bs
  else (a.Name,a.By,b.By)::mergeN n ar bs
theorem wI:∀(n:Nat) (a b:List Mono),a.length+b.length<=n->mergeN n a b=mergeN (a.length+b.length) a b
 |0,a,b,h=>by rw [show a.length+b.length=0 by omega]
 |n+1,[],[],_=>rfl
 |n+1,a::ar,[],h=>by
  have ih:=wI n ar [] (by simp at h⊢;omega)
  show (a.Name,a.By,0)::mergeN n ar []=(a.Name,a.By,0)::mergeN (ar.length) ar []
  rw [ih];rfl
 |n+1,[],b::bs,h=>by
  have ih:=wI n [] bs (by simp at h⊢;omega)
  have e:([]:List Mono).length+(b::bs).length=bs.length+1:=by simp
  rw [e,mergeN,mergeN,ih];simp
 |n+1,a::ar,b::bs,h=>by
  have h':ar.length+1+(bs.length+1)<=n+1:=by simpa using h
  have i1:=wI n ar (b::bs) (by simp;omega)
  have i2:=wI n (a::ar) bs (by simp;omega)
  have i3:=wI n ar bs (by omega)
  have j1:=wI (ar.length+bs.length+1) ar (b::bs) (by simp;omega)
  have j2:=wI (ar.length+bs.length+1) (a::ar) bs (by simp;omega)
  have j3:=wI (ar.length+bs.length+1) ar bs (by omega)
  have e:(a::ar).length+(b::bs).length=(ar.length+bs.length+1)+1:=by simp;omega
  rw [e,mergeN,mergeN,i1,i2,i3,j1,j2,j3]
def mergeL (a b:List Mono):List Tr:=mergeN (a.length+b.length) a b
theorem mergeL_nil:mergeL [] []=[]:=rfl
theorem zHw (a:Mono) (ar:List Mono):mergeL (a::ar) []=(a.Name,a.By,0)::mergeL ar []:=rfl
theorem zHv (b:Mono) (bs:List Mono):mergeL [] (b::bs)=(b.Name,0,b.By)::mergeL [] bs:=by
 unfold mergeL;rw [show ([]:List Mono).length+(b::bs).length=bs.length+1 by simp,mergeN];simp
theorem zEb (a b:Mono) (ar bs:List Mono):mergeL (a::ar) (b::bs)=bif strLt a.Name b.Name then (a.Name,a.By,0)::mergeL ar (b::bs) else bif strLt b.Name a.Name then (b.Name,0,b.By)::mergeL (a::ar) bs else (a.Name,a.By,b.By)::mergeL ar bs:=by
 unfold mergeL
 rw [show (a::ar).length+(b::bs).length=(ar.length+bs.length+1)+1 by simp;omega,mergeN]
 rw [wI _ ar (b::bs) (by simp;omega),wI _ (a::ar) bs (by simp;omega),wI _ ar bs (by omega)]
theorem zMb (a b:List Mono):(mergeL a b).length<=a.length+b.length:=by
 have:∀(n:Nat) (a b:List Mono),(mergeN n a b).length<=n:=by
  intro n
  induction n with
  |zero=>intro a b;simp [mergeN]
  |succ n ih=>
   intro a b
   cases a with
   |nil=>
    cases b with
    |nil=>simp [mergeN]
    |cons b bs=>simp only [mergeN,List.length_cons];have:=ih [] bs;omega
   |cons a ar=>
    cases b with
    |nil=>simp only [mergeN,List.length_cons];have:=ih ar [];omega
    |cons b bs=>
     have h1:=ih ar (b::bs)
     have h2:=ih (a::ar) bs
     have h3:=ih ar bs
     simp only [mergeN]
     cases strLt a.Name b.Name<;>cases strLt b.Name a.Name<;>simp only [cond_true,cond_false,List.length_cons]<;>omega
 exact this _ a b
def hdM (l:List Mono):Mono:=l.headD ⟨bs [],0⟩
theorem zHf {l:List Mono} (h:0<l.length):l[0]? =some (hdM l):=by
 cases l with
 |nil=>simp at h
 |cons x r=>rfl
def mC2 (a b:List Mono):Bool:=decide ((b.length:Int)=0)||(decide ((0:Int)<a.length)&&strLt (hdM a).Name (hdM b).Name)
def mC3 (a b:List Mono):Bool:=decide ((a.length:Int)=0)||strLt (hdM b).Name (hdM a).Name
theorem mC2_b {a b:List Mono} (c:mC2 a b=false):0<b.length:=by
 unfold mC2 at c
 cases b with
 |nil=>simp at c
 |cons y s=>simp
theorem merge_left {a b:List Mono} (h:0<a.length∨0<b.length) (c:mC2 a b=true):0<a.length/\mergeL a b=((hdM a).Name,(hdM a).By,0)::mergeL (a.drop 1) b:=by
 unfold mC2 at c
 cases a with
 |nil=>
  cases b with
  |nil=>simp at h
  |cons y s=>simp at c;omega
 |cons x r=>
  refine ⟨by simp,?_⟩
  cases b with
  |nil=>rw [zHw];rfl
  |cons y s=>
   have c2:strLt x.Name y.Name=true:=by
    rw [Bool.or_eq_true,Bool.and_eq_true,decide_eq_true_eq] at c
    rcases c with c|c
    ·simp at c;omega
    ·exact c.2
   rw [zEb,c2];rfl
theorem merge_right {a b:List Mono} (h:0<a.length∨0<b.length) (c:mC2 a b=false) (c3:mC3 a b=true):0<b.length/\mergeL a b=((hdM b).Name,0,(hdM b).By)::mergeL a (b.drop 1):=by
 unfold mC2 at c
 unfold mC3 at c3
 cases b with
 |nil=>simp at c
 |cons y s=>
  refine ⟨by simp,?_⟩
  cases a with
  |nil=>rw [zHv];rfl
  |cons x r=>
   have c2:strLt x.Name y.Name=false:=by
    rw [Bool.or_eq_false_iff,Bool.and_eq_false_iff] at c
    rcases c.2 with c|c
    ·simp at c
    ·exact c
   have c4:strLt y.Name x.Name=true:=by
    rw [Bool.or_eq_true,decide_eq_true_eq] at c3
    rcases c3 with c|c
    ·simp at c;omega
    ·exact c
   rw [zEb,c2,c4];rfl
theorem merge_both {a b:List Mono} (c:mC2 a b=false) (c3:mC3 a b=false):0<a.length/\0<b.length/\mergeL a b=((hdM a).Name,(hdM a).By,(hdM b).By)::mergeL (a.drop 1) (b.drop 1):=by
 unfold mC2 at c
 unfold mC3 at c3
 cases b with
 |nil=>simp at c
 |cons y s=>
  cases a with
  |nil=>simp at c3
  |cons x r=>
   refine ⟨by simp,by simp,?_⟩
   have c2:strLt x.Name y.Name=false:=by
    rw [Bool.or_eq_false_iff,Bool.and_eq_false_iff] at c
    rcases c.2 with c|c
    ·simp at c
    ·exact c
   have c4:strLt y.Name x.Name=false:=by
    rw [Bool.or_eq_false_iff] at c3
    exact c3.2
   rw [zEb,c2,c4];rfl
/-! ## Sums -/
def trV (t:Tr):Int:=t.2.1+t.2.2
def trOk (t:Tr):Bool:=decide (r64 (trV t))
def sumW (ts:List Tr):List Mono:=ts.filterMap fun t=>if w64 (trV t)=0 then none else some ⟨t.1,w64 (trV t)⟩
theorem sumW_next (d:List Tr) (t:Tr):sumW (d++[t])=sumW d++(if w64 (trV t)=0 then [] else [⟨t.1,w64 (trV t)⟩]):=by
 unfold sumW;rw [List.filterMap_append];congr 1
 by_cases h:w64 (trV t)=0<;>simp [h]
theorem zNq (d:List Tr):(sumW d).length<=d.length:=List.length_filterMap_le _ _
def okF (ok:Bool) (d:List Tr):Bool:=d.foldl (fun b t=>b&&decide (r64 (t.2.1+t.2.2))) ok
theorem okF_next (ok:Bool) (d:List Tr) (t:Tr):okF ok (d++[t])=(okF ok d&&decide (r64 (t.2.1+t.2.2))):=by unfold okF;rw [List.foldl_append];rfl
theorem okF_all (ok:Bool) (d:List Tr):okF ok d=(ok&&d.all trOk):=by
 induction d generalizing ok with
 |nil=>simp [okF]
 |cons t r ih=>
  show okF (ok&&trOk t) r=_
  rw [ih,List.all_cons,Bool.and_assoc]
theorem zDn:∀(n:Nat) (a b:List Mono),(∀m,m∈a->r64 m.By)->(∀m,m∈b->r64 m.By)->∀t,t∈mergeN n a b->r64 t.2.1/\r64 t.2.2
 |0,_,_,_,_,t,ht=>by simp [mergeN] at ht
 |_+1,[],[],_,_,t,ht=>by simp [mergeN] at ht
 |n+1,x::r,[],h1,h2,t,ht=>by
  simp only [mergeN] at ht
  rcases List.mem_cons.1 ht with rfl|ht
  ·exact ⟨h1 x (by simp),by show r64 0;unfold r64;omega⟩
  ·exact zDn n r [] (fun m hm=>h1 m (by simp [hm])) h2 t ht
 |n+1,[],y::s,h1,h2,t,ht=>by
  simp only [mergeN] at ht
  rcases List.mem_cons.1 ht with rfl|ht
  ·exact ⟨by show r64 0;unfold r64;omega,h2 y (by simp)⟩
  ·exact zDn n [] s h1 (fun m hm=>h2 m (by simp [hm])) t ht
 |n+1,x::r,y::s,h1,h2,t,ht=>by
  have g1:=zDn n r (y::s) (fun m hm=>h1 m (by simp [hm])) h2 t
  have g2:=zDn n (x::r) s h1 (fun m hm=>h2 m (by simp [hm])) t
  have g3:=zDn n r s (fun m hm=>h1 m (by simp [hm])) (fun m hm=>h2 m (by simp [hm])) t
  have z0:r64 0:=by unfold r64;omega
  simp only [mergeN] at ht
  cases c1:strLt x.Name y.Name with
  |true=>
   rw [c1,cond_true] at ht
   rcases List.mem_cons.1 ht with rfl|ht
   ·exact ⟨h1 x (by simp),z0⟩
   ·exact g1 ht
  |false=>
   rw [c1,cond_false] at ht
   cases c2:strLt y.Name x.Name with
   |true=>
    rw [c2,cond_true] at ht
    rcases List.mem_cons.1 ht with rfl|ht
    ·exact ⟨z0,h2 y (by simp)⟩
    ·exact g2 ht
   |false=>
    rw [c2,cond_false] at ht
    rcases List.mem_cons.1 ht with rfl|ht
    ·exact ⟨h1 x (by simp),h2 y (by simp)⟩
    ·exact g3 ht
theorem merge_rng {a b:List Mono} (h1:∀m,m∈a->r64 m.By) (h2:∀m,m∈b->r64 m.By) {d s:List Tr} {t:Tr} (h:mergeL a b=d++t::s):r64 t.2.1/\r64 t.2.2/\d.length<=a.length+b.length:=by
 have h3:=zMb a b
 rw [h] at h3
 simp only [List.length_append,List.length_cons] at h3
 obtain ⟨k1,k2⟩:=zDn _ a b h1 h2 t (by rw [show mergeN (a.length+b.length) a b=mergeL a b from rfl,h];simp)
 exact ⟨k1,k2,by omega⟩
def addT (k:Int) (ts:List Tr):Lf×Int:=if r64 k/\ts.all trOk=true then (⟨k,sumW ts⟩,0) else (zL,3)
def addL (a b:Lf):Lf×Int:=if linOk a=true/\linOk b=true then addT (a.K+b.K) (mergeL a.L b.L) else (zL,1)
theorem add_bad {a b:Lf} (h:¬(linOk a=true/\linOk b=true)):addL a b=(zL,1):=by unfold addL;rw [if_neg h]
theorem add_c1 {a b:Lf} (c:¬linErr a=0∨¬linErr b=0):addL a b=(zL,1):=add_bad fun h=>by
 rcases c with c|c
 ·have:=zHd c;rw [h.1] at this;cases this
 ·have:=zHd c;rw [h.2] at this;cases this
theorem add_no {a b:Lf} (h1:linOk a=true) (h2:linOk b=true) (h:okF (decide (r64 (a.K+b.K))) (mergeL a.L b.L)=false):addL a b=(zL,3):=by
 unfold addL addT
 rw [if_pos ⟨h1,h2⟩,if_neg fun k=>?_]
 rw [okF_all,decide_eq_true k.1,k.2] at h
 cases h
theorem add_ok {a b:Lf} (h1:linOk a=true) (h2:linOk b=true) (h:okF (decide (r64 (a.K+b.K))) (mergeL a.L b.L)=true):addL a b=(⟨w64 (a.K+b.K),sumW (mergeL a.L b.L)⟩,0):=by
 rw [okF_all,Bool.and_eq_true,decide_eq_true_eq] at h
 unfold addL addT
 rw [if_pos ⟨h1,h2⟩,if_pos h,zJn h.1]
def scaleM (by_:Int) (l:List Mono):List Mono:=l.map fun m=>⟨m.Name,m.By*by_⟩
def scaleOk (by_:Int) (l:List Mono):Bool:=l.all fun m=>decide (r64 (m.By*by_))
def scaleL (a:Lf) (by_:Int):Lf×Int:=if linOk a=true then (if by_=0 then (zL,0) else if r64 (a.K*by_)/\scaleOk by_ a.L=true then (⟨a.K*by_,scaleM by_ a.L⟩,0) else (zL,3)) else (zL,1)
def restL (l:Lf) (s:ByteArray):Lf:=⟨l.K,l.L.filter fun m=> !decide (m.Name=s)⟩
def lastBy (l:List Mono) (s:ByteArray):Int:=l.foldl (fun by_ m=>if m.Name=s then m.By else by_) 0
def substP (l:Lf) (s:ByteArray) (to_:Lf):Lf×Int:=
 if linOk l=true/\isNameB s=true/\linOk to_=true then (if (scaleL to_ (lastBy l.L s)).2=0 then addL (restL l s) (scaleL to_ (lastBy l.L s)).1 else (zL,(scaleL to_ (lastBy l.L s)).2)) else (zL,1)
def mulT (by_:Int) (ts:List Tr):List Tr:=ts.map fun t=>(t.1,t.2.1,t.2.2*by_)
def substR (l:Lf) (s:ByteArray) (to_:Lf):Lf×Int:=
 if linOk l=true/\linOk to_=true/\isNameB s=true then
  (if lastBy l.L s=0 then (l,0) else if r64 (to_.K*lastBy l.L s)/\scaleOk (lastBy l.L s) to_.L=true then addT (l.K+to_.K*lastBy l.L s) (mulT (lastBy l.L s) (mergeL (restL l s).L to_.L)) else (zL,3))
 else (zL,1)
def scaleW (by_:Int) (l:List Mono):List Mono:=l.map fun m=>⟨m.Name,(timesT m.By by_).1⟩
def scaleB (by_:Int) (l:List Mono):Bool:=l.all fun m=>(timesT m.By by_).2
theorem scaleW_len (by_:Int) (l:List Mono):(scaleW by_ l).length=l.length:=by simp [scaleW]
theorem scaleW_next {by_:Int} {l:List Mono} {k:Nat} {x:Mono} (h:l[k]? =some x):scaleW by_ (l.take (k+1))=scaleW by_ (l.take k)++[⟨x.Name,(timesT x.By by_).1⟩]:=by unfold scaleW;rw [yH h,List.map_append];rfl
theorem scaleB_next {by_:Int} {l:List Mono} {k:Nat} {x:Mono} (h:l[k]? =some x):scaleB by_ (l.take (k+1))=(scaleB by_ (l.take k)&&(timesT x.By by_).2):=by unfold scaleB;rw [yH h,List.all_append];simp
theorem timesT_2 (x y:Int):(timesT x y).2=decide (r64 (x*y)):=by unfold timesT;by_cases h:r64 (x*y)<;>simp [h]
theorem timesT_1 {x y:Int} (h:r64 (x*y)):(timesT x y).1=x*y:=by unfold timesT;rw [if_pos h]
theorem scaleB_ok (by_:Int) (l:List Mono):scaleB by_ l=scaleOk by_ l:=by unfold scaleB scaleOk;congr 1;funext m;exact timesT_2 _ _
theorem scaleW_ok {by_:Int} {l:List Mono} (h:scaleOk by_ l=true):scaleW by_ l=scaleM by_ l:=by
 unfold scaleOk at h
 rw [List.all_eq_true] at h
 unfold scaleW scaleM
 refine List.map_congr_left fun m hm=>?_
 rw [timesT_1 (by simpa using h m hm)]
theorem scale_ok {l:Lf} {by_:Int} (h1:linOk l=true) (h2:¬by_=0) (h3:(timesT l.K by_).2=true/\scaleB by_ l.L=true):scaleL l by_=(⟨(timesT l.K by_).1,scaleW by_ l.L⟩,0):=by
 rw [timesT_2,decide_eq_true_eq,scaleB_ok] at h3
 unfold scaleL
 rw [if_pos h1,if_neg h2,if_pos h3,timesT_1 h3.1,scaleW_ok h3.2]
theorem scale_no {l:Lf} {by_:Int} (h1:linOk l=true) (h2:¬by_=0) (h3:(timesT l.K by_).2=false∨scaleB by_ l.L=false):scaleL l by_=(zL,3):=by
 unfold scaleL
 rw [if_pos h1,if_neg h2,if_neg fun h=>?_]
 rw [timesT_2,scaleB_ok,decide_eq_true h.1,h.2] at h3
 rcases h3 with h3|h3<;>cases h3
theorem scale_zero {l:Lf} {by_:Int} (h1:linOk l=true) (h2:by_=0):scaleL l by_=(zL,0):=by unfold scaleL;rw [if_pos h1,if_pos h2]
theorem scale_bad {l:Lf} {by_:Int} (h1:linOk l=false):scaleL l by_=(zL,1):=by unfold scaleL;rw [if_neg (by rw [h1];simp)]
theorem zBr (by_:Int):∀(n:Nat) (a b:List Mono),a.length+b.length<=n->mergeL a (scaleM by_ b)=mulT by_ (mergeL a b)
 |_,[],[],_=>rfl
 |0,_::_,_,h=>by simp at h
 |0,[],_::_,h=>by simp at h
 |n+1,a::ar,[],h=>by
  have ih:=zBr by_ n ar [] (by simp at h⊢;omega)
  show mergeL (a::ar) []=_
  rw [zHw]
  show _=(a.Name,a.By,0*by_)::mulT by_ (mergeL ar [])
  rw [←ih,Int.zero_mul];rfl
 |n+1,[],b::bs,h=>by
  have ih:=zBr by_ n [] bs (by simp at h⊢;omega)
  show mergeL [] (⟨b.Name,b.By*by_⟩::scaleM by_ bs)=_
  rw [zHv,zHv,ih];rfl
 |n+1,a::ar,b::bs,h=>by
  have h':ar.length+1+(bs.length+1)<=n+1:=by simpa using h
  have i1:=zBr by_ n ar (b::bs) (by simp;omega)
  have i2:=zBr by_ n (a::ar) bs (by simp;omega)
  have i3:=zBr by_ n ar bs (by omega)
  have e:scaleM by_ (b::bs)=⟨b.Name,b.By*by_⟩::scaleM by_ bs:=rfl
  rw [e] at i1⊢
  rw [zEb,zEb,i1,i2,i3]
  cases strLt a.Name b.Name<;>cases strLt b.Name a.Name<;>simp [mulT]
theorem zQf {l:List Mono} {k:Nat} {x:Mono} {s:ByteArray} (h:l[k]? =some x):lastBy (l.take (k+1)) s=if x.Name=s then x.By else lastBy (l.take k) s:=by
 unfold lastBy;rw [yH h,List.foldl_append];rfl
theorem rest_next {l:List Mono} {k:Nat} {x:Mono} {s:ByteArray} (h:l[k]? =some x):(l.take (k+1)).filter (fun m=> !decide (m.Name=s))=(l.take k).filter (fun m=> !decide (m.Name=s))++(if x.Name=s then [] else [x]):=by
 rw [yH h,List.filter_append];by_cases e:x.Name=s<;>simp [e]
theorem zLz:∀{p:Option ByteArray} {l:List Mono},monosOk p l=true->∀m,m∈l->m.By≠0/\isNameB m.Name=true
 |_,[],_,m,hm=>by cases hm
 |p,x::r,h,m,hm=>by
  simp only [monosOk,Bool.and_eq_true,Bool.not_eq_true',decide_eq_false_iff_not] at h
  rcases List.mem_cons.1 hm with rfl|hm
  ·exact ⟨h.1.1.2,h.1.1.1⟩
  ·exact zLz h.2 m hm
theorem last_none {l:List Mono} {s:ByteArray} (h:∀m,m∈l->m.Name≠s):lastBy l s=0/\l.filter (fun m=> !decide (m.Name=s))=l:=by
 constructor
 ·have:∀(l:List Mono) (b:Int),(∀m,m∈l->m.Name≠s)->l.foldl (fun by_ m=>if m.Name=s then m.By else by_) b=b:=by
   intro l
   induction l with
   |nil=>intro b _;rfl
   |cons x r ih=>intro b hl;rw [List.foldl_cons,if_neg (hl x (by simp)),ih b fun m hm=>hl m (by simp [hm])]
  exact this l 0 h
 ·rw [List.filter_eq_self];intro m hm;simp [h m hm]
theorem last_zero {p:Option ByteArray} {l:List Mono} {s:ByteArray} (h:monosOk p l=true) (hz:lastBy l s=0):∀m,m∈l->m.Name≠s:=by
 have key:∀(l:List Mono) (b:Int),(∀m,m∈l->m.By≠0)->l.foldl (fun by_ m=>if m.Name=s then m.By else by_) b=0->∀m,m∈l->m.Name≠s:=by
  intro l
  induction l with
  |nil=>intro b _ _ m hm;cases hm
  |cons x r ih=>
   intro b hl h m hm
   rw [List.foldl_cons] at h
   rcases List.mem_cons.1 hm with rfl|hm
   ·intro e
    rw [if_pos e] at h
    by_cases c:∀y,y∈r->y.Name≠s
    ·have:r.foldl (fun by_ m=>if m.Name=s then m.By else by_) m.By=m.By:=by
      clear ih h hl hm
      generalize m.By=z
      induction r generalizing z with
      |nil=>rfl
      |cons y r ih2=>rw [List.foldl_cons,if_neg (c y (by simp)),ih2 (fun q hq=>c q (by simp [hq]))]
     rw [this] at h
     exact hl m (by simp) h
    ·exact c (ih _ (fun y hy=>hl y (by simp [hy])) h)
   ·exact ih _ (fun y hy=>hl y (by simp [hy])) h m hm
 exact key l 0 (fun m hm=>(zLz h m hm).1) hz
def Lf.rng (l:Lf):Prop:=r64 l.K/\∀m,m∈l.L->r64 m.By
theorem zKh:∀{l:List Mono},(∀m,m∈l->r64 m.By/\m.By≠0)->(mergeL l []).all trOk=true/\sumW (mergeL l [])=l
 |[],_=>⟨rfl,rfl⟩
 |a::ar,h=>by
  obtain ⟨h1,h2⟩:=zKh (l:=ar) fun m hm=>h m (by simp [hm])
  obtain ⟨h3,h4⟩:=h a (by simp)
  rw [zHw]
  have e:trV (a.Name,a.By,0)=a.By:=by simp [trV]
  constructor
  ·rw [List.all_cons,h1,trOk,e,decide_eq_true h3];rfl
  ·show List.filterMap _ _=_
   rw [List.filterMap_cons]
   simp only [e,zJn h3,if_neg h4]
   exact congrArg (a:: ·) h2
theorem last_rng {l:Lf} (h:l.rng) (s:ByteArray):r64 (lastBy l.L s):=by
 have key:∀(l:List Mono) (b:Int),(∀m,m∈l->r64 m.By)->r64 b->r64 (l.foldl (fun by_ m=>if m.Name=s then m.By else by_) b):=by
  intro l
  induction l with
  |nil=>intro b _ h;exact h
  |cons x r ih=>
   intro b hl hb
   rw [List.foldl_cons]
   refine ih _ (fun m hm=>hl m (by simp [hm])) ?_
   split
   ·exact hl x (by simp)
   ·exact hb
 exact key l.L 0 h.2 (by unfold r64;omega)
theorem zGj:zL.rng:=⟨by show r64 0;unfold r64;omega,fun m hm=>by cases hm⟩
theorem zJx (l:Lf) (b:Int):(scaleL l b).1.rng/\(scaleL l b).1.L.length<=l.L.length:=by
 unfold scaleL
 split
 ·split
  ·exact ⟨zGj,by simp [zL]⟩
  ·split
   ·rename_i h
    refine ⟨⟨h.1,fun m hm=>?_⟩,by simp [scaleM]⟩
    obtain ⟨x,hx,rfl⟩:=List.mem_map.1 hm
    have:=h.2
    unfold scaleOk at this
    rw [List.all_eq_true] at this
    simpa using this x hx
   ·exact ⟨zGj,by simp [zL]⟩
 ·exact ⟨zGj,by simp [zL]⟩
theorem rest_rng {l:Lf} (h:l.rng) (s:ByteArray):(restL l s).rng/\(restL l s).L.length<=l.L.length:=
 ⟨⟨h.1,fun m hm=>h.2 m (List.mem_filter.1 hm).1⟩,List.length_filter_le _ _⟩
theorem subst_c1 {l to_:Lf} {s:ByteArray} (c:(¬linErr l=0∨isNameB s=false)∨¬linErr to_=0):substP l s to_=(zL,1):=by
 unfold substP
 refine if_neg fun h=>?_
 rcases c with (c|c)|c
 ·have:=zHd c;rw [h.1] at this;cases this
 ·rw [h.2.1] at c;cases c
 ·have:=zHd c;rw [h.2.2] at this;cases this
theorem subst_c4 {l to_:Lf} {s:ByteArray} (c:(linErr l=0/\isNameB s=true)/\linErr to_=0) (c4:¬(scaleL to_ (lastBy l.L s)).2=0):substP l s to_=(zL,(scaleL to_ (lastBy l.L s)).2):=by
 unfold substP
 rw [if_pos ⟨zHe c.1.1,c.1.2,zHe c.2⟩,if_neg c4]
theorem subst_ok {l to_:Lf} {s:ByteArray} (c:(linErr l=0/\isNameB s=true)/\linErr to_=0) (c4:(scaleL to_ (lastBy l.L s)).2=0):substP l s to_=addL (restL l s) (scaleL to_ (lastBy l.L s)).1:=by
 unfold substP
 rw [if_pos ⟨zHe c.1.1,c.1.2,zHe c.2⟩,if_pos c4]
theorem strLt_trans' {a b c:ByteArray} (h:strLt a b=true) (k:strLt b c=true):strLt a c=true:=zCl h k
theorem monos_weak {p q:Option ByteArray} {l:List Mono} (h:monosOk p l=true) (hpq:∀n,ltO p n=true->ltO q n=true):monosOk q l=true:=by
 cases l with
 |nil=>rfl
 |cons x r=>
  simp only [monosOk,Bool.and_eq_true] at h⊢
  exact ⟨⟨h.1.1,hpq _ h.1.2⟩,h.2⟩
theorem zDd (f:Mono->Bool):∀{p:Option ByteArray} {l:List Mono},monosOk p l=true->monosOk p (l.filter f)=true
 |_,[],_=>rfl
 |p,x::r,h=>by
  simp only [monosOk,Bool.and_eq_true] at h
  have ih:=zDd f h.2
  rw [List.filter_cons]
  by_cases c:f x=true
  ·rw [if_pos c];simp only [monosOk,Bool.and_eq_true];exact ⟨h.1,ih⟩
  ·rw [if_neg c]
   refine monos_weak ih fun n hn=>?_
   cases p with
   |none=>rfl
   |some q=>exact strLt_trans' h.1.2 hn
theorem zPn {b:Int} (hb:b≠0):∀{p:Option ByteArray} {l:List Mono},monosOk p l=true->monosOk p (scaleM b l)=true
 |_,[],_=>rfl
 |p,x::r,h=>by
  simp only [monosOk,Bool.and_eq_true,Bool.not_eq_true',decide_eq_false_iff_not] at h
  have ih:=zPn hb h.2
  show monosOk p (⟨x.Name,x.By*b⟩::scaleM b r)=true
  simp only [monosOk,Bool.and_eq_true,Bool.not_eq_true',decide_eq_false_iff_not]
  exact ⟨⟨⟨h.1.1.1,Int.mul_ne_zero h.1.1.2 hb⟩,h.1.2⟩,ih⟩
theorem subst_eq {l to_:Lf} {s:ByteArray} (hl:l.rng):substP l s to_=substR l s to_:=by
 unfold substP substR
 by_cases h:linOk l=true/\isNameB s=true/\linOk to_=true
 ·obtain ⟨h1,h2,h3⟩:=h
  rw [if_pos (⟨h1,h2,h3⟩:linOk l=true/\isNameB s=true/\linOk to_=true),if_pos (⟨h1,h3,h2⟩:linOk l=true/\linOk to_=true/\isNameB s=true)]
  by_cases c:lastBy l.L s=0
  ·rw [if_pos c]
   have hn:=last_zero h1 c
   have e:scaleL to_ (lastBy l.L s)=(zL,0):=by unfold scaleL;rw [if_pos h3,if_pos c]
   rw [e,if_pos rfl]
   have er:restL l s=l:=by unfold restL;rw [(last_none hn).2]
   rw [er]
   unfold addL
   rw [if_pos ⟨h1,rfl⟩]
   obtain ⟨g1,g2⟩:=zKh (l:=l.L) fun m hm=>⟨hl.2 m hm,(zLz h1 m hm).1⟩
   show addT (l.K+0) (mergeL l.L [])=_
   unfold addT
   rw [Int.add_zero,if_pos ⟨hl.1,g1⟩,g2]
  ·rw [if_neg c]
   by_cases d:r64 (to_.K*lastBy l.L s)/\scaleOk (lastBy l.L s) to_.L=true
   ·rw [if_pos d]
    have e:scaleL to_ (lastBy l.L s)=(⟨to_.K*lastBy l.L s,scaleM (lastBy l.L s) to_.L⟩,0):=by unfold scaleL;rw [if_pos h3,if_neg c,if_pos d]
    rw [e,if_pos rfl]
    unfold addL
    rw [if_pos ⟨zDd _ h1,zPn c h3⟩]
    show addT (l.K+to_.K*lastBy l.L s) (mergeL (restL l s).L (scaleM (lastBy l.L s) to_.L))=_
    rw [zBr _ _ _ _ (Nat.le_refl _)]
   ·rw [if_neg d]
    have e:scaleL to_ (lastBy l.L s)=(zL,3):=by unfold scaleL;rw [if_pos h3,if_neg c,if_neg d]
    rw [e,if_neg (by decide)]
 ·rw [if_neg h,if_neg fun k=>h ⟨k.1,k.2.2,k.2.1⟩]
end Go.Br
end
section
namespace Go.Br
open Go Go.Eng Go.L41
def atM (l:List Mono) (k:Nat):Mono:=l.getD k ⟨bs [],0⟩
def sC2 (a b:List Mono) (i n:Nat):Bool:=decide ((n:Int)=b.length)||(decide ((i:Int)<a.length)&&(strLt (atM a i).Name (atM b n).Name||decide ((atM a i).Name=(atM b n).Name)))
theorem sumM_len (by_:Int) (d:List Tr):(sumW (mulT by_ d)).length<=d.length:=by
 have:=zNq (mulT by_ d);simpa [mulT] using this
theorem fE_congr {f g:Lf->Lf×Int} {l:Lf} (h:f l=g l):fE f l=fE g l:=by unfold fE;rw [h]
theorem zPp {f g:Lf->Lf×Int}:∀{l:List Lf},(∀x,x∈l->f x=g x)->mLins f l=mLins g l
 |[],_=>rfl
 |x::r,h=>by rw [mLins,mLins,fE_congr (h x (by simp)),zPp fun y hy=>h y (by simp [hy])]
theorem mIx_congr {f g:Lf->Lf×Int} {x:Ix} (h1:f x.Lin=g x.Lin) (h2:∀l,l∈x.At->f l=g l):mIx f x=mIx g x:=by
 rw [mIx,mIx,fE_congr h1,zPp h2]
theorem zMd {f g:Lf->Lf×Int}:∀{l:List Ix},(∀x,x∈l->f x.Lin=g x.Lin/\∀y,y∈x.At->f y=g y)->mIxs f l=mIxs g l
 |[],_=>rfl
 |x::r,h=>by rw [mIxs,mIxs,mIx_congr (h x (by simp)).1 (h x (by simp)).2,zMd fun y hy=>h y (by simp [hy])]
theorem mExs_congr {f g:Lf->Lf×Int}:∀{l:List Ex},(∀a,a∈l->mEx f a=mEx g a)->mExs f l=mExs g l
 |[],_=>by rw [mExs,mExs]
 |x::r,h=>by rw [mExs,mExs,h x (by simp),mExs_congr fun y hy=>h y (by simp [hy])]
theorem mEx_congr {f g:Lf->Lf×Int} {P:Lf->Prop} (hfg:∀l,P l->f l=g l) (e:Ex) (h:e.allF P):mEx f e=mEx g e:=by
 induction e using Ex.ind with
 |_ e ih=>
  rw [zPr,zPr,fE_congr (hfg _ (Ex.allF_lin h)),zMd fun x hx=>⟨hfg _ (Ex.allF_ix h hx),fun y hy=>hfg _ (Ex.allF_at h hx hy)⟩,mExs_congr fun a ha=>ih a ha (Ex.allF_arg h ha)]
end Go.Br
end
section
namespace Go.Br
open Go Go.Eng Go.L41
/-! ## Ascending triples -/
def trsOk:Option ByteArray->List Tr->Bool
 |_,[]=>true
 |p,t::r=>isNameB t.1&&ltO p t.1&&trsOk (some t.1) r
theorem ltO_trans {p:Option ByteArray} {a b:ByteArray} (h:ltO p a=true) (k:strLt a b=true):ltO p b=true:=by
 cases p with
 |none=>rfl
 |some q=>exact zCl h k
theorem wS:∀(n:Nat) (p:Option ByteArray) (a b:List Mono),a.length+b.length<=n->monosOk p a=true->monosOk p b=true->trsOk p (mergeL a b)=true
 |_,p,[],[],_,_,_=>rfl
 |0,_,_::_,_,h,_,_=>by simp at h
 |0,_,[],_::_,h,_,_=>by simp at h
 |n+1,p,x::r,[],h,ha,hb=>by
  simp only [monosOk,Bool.and_eq_true] at ha
  rw [zHw,trsOk,Bool.and_eq_true,Bool.and_eq_true]
  exact ⟨⟨ha.1.1.1,ha.1.2⟩,wS n _ r [] (by simp at h⊢;omega) ha.2 rfl⟩
 |n+1,p,[],y::s,h,ha,hb=>by
  simp only [monosOk,Bool.and_eq_true] at hb
  rw [zHv,trsOk,Bool.and_eq_true,Bool.and_eq_true]
  exact ⟨⟨hb.1.1.1,hb.1.2⟩,wS n _ [] s (by simp at h⊢;omega) rfl hb.2⟩
 |n+1,p,x::r,y::s,h,ha,hb=>by
  have ha0:=ha
  have hb0:=hb
  simp only [monosOk,Bool.and_eq_true] at ha hb
  rw [zEb]
  cases h1:strLt x.Name y.Name with
  |true=>
   rw [cond_true,trsOk,Bool.and_eq_true,Bool.and_eq_true]
   refine ⟨⟨ha.1.1.1,ha.1.2⟩,wS n _ r (y::s) (by simp at h⊢;omega) ha.2 ?_⟩
   simp only [monosOk,Bool.and_eq_true]
   exact ⟨⟨hb.1.1,h1⟩,hb.2⟩
  |false=>
   rw [cond_false]
   cases h2:strLt y.Name x.Name with
   |true=>
    rw [cond_true,trsOk,Bool.and_eq_true,Bool.and_eq_true]
    refine ⟨⟨hb.1.1.1,hb.1.2⟩,wS n _ (x::r) s (by simp at h⊢;omega) ?_ hb.2⟩
    simp only [monosOk,Bool.and_eq_true]
    exact ⟨⟨ha.1.1,h2⟩,ha.2⟩
   |false=>
    rw [cond_false,trsOk,Bool.and_eq_true,Bool.and_eq_true]
    have e:x.Name=y.Name:=zJs h1 h2
    refine ⟨⟨ha.1.1.1,ha.1.2⟩,wS n _ r s (by simp at h⊢;omega) ha.2 ?_⟩
    show monosOk (some x.Name) s=true
    rw [e];exact hb.2
theorem mul_asc (b:Int):∀{p:Option ByteArray} {l:List Tr},trsOk p l=true->trsOk p (mulT b l)=true
 |_,[],_=>rfl
 |p,t::r,h=>by
  simp only [trsOk,Bool.and_eq_true] at h
  show trsOk p ((t.1,t.2.1,t.2.2*b)::mulT b r)=true
  simp only [trsOk,Bool.and_eq_true]
  exact ⟨h.1,mul_asc b h.2⟩
theorem sum_asc:∀{p:Option ByteArray} {l:List Tr},trsOk p l=true->monosOk p (sumW l)=true
 |_,[],_=>rfl
 |p,t::r,h=>by
  simp only [trsOk,Bool.and_eq_true] at h
  have ih:=sum_asc h.2
  unfold sumW at ih⊢
  rw [List.filterMap_cons]
  by_cases c:w64 (trV t)=0
  ·rw [if_pos c]
   exact monos_weak ih fun n hn=>ltO_trans h.1.2 hn
  ·rw [if_neg c]
   simp only [monosOk,Bool.and_eq_true,Bool.not_eq_true',decide_eq_false_iff_not]
   exact ⟨⟨⟨h.1.1,c⟩,h.1.2⟩,ih⟩
theorem sum_rng {l:List Tr} {m:Mono} (h:m∈sumW l):r64 m.By:=by
 unfold sumW at h
 obtain ⟨t,ht,e⟩:=List.mem_filterMap.1 h
 by_cases c:w64 (trV t)=0
 ·rw [if_pos c] at e;cases e
 ·rw [if_neg c] at e;injection e with e;subst e;exact w64_r _
/-! ## One form -/
theorem substR_len (l to_:Lf) (s:ByteArray):(substR l s to_).1.L.length<=l.L.length+to_.L.length:=by
 unfold substR
 split
 ·split
  ·exact Nat.le_add_right _ _
  ·split
   ·unfold addT
    split
    ·show (sumW (mulT _ _)).length<=_
     have h1:=sumM_len (lastBy l.L s) (mergeL (restL l s).L to_.L)
     have h2:=zMb (restL l s).L to_.L
     have h3:(restL l s).L.length<=l.L.length:=List.length_filter_le _ _
     omega
    ·exact Nat.zero_le _
   ·exact Nat.zero_le _
 ·exact Nat.zero_le _
theorem zHs {l to_:Lf} (s:ByteArray) (hl:l.rng):(substR l s to_).1.rng:=by
 unfold substR
 split
 ·split
  ·exact hl
  ·split
   ·unfold addT
    split
    ·rename_i h;exact ⟨h.1,fun m hm=>sum_rng hm⟩
    ·exact zGj
   ·exact zGj
 ·exact zGj
theorem zOu {l to_:Lf} {s:ByteArray} (h1:linOk l=true) (h2:linOk to_=true) (h3:isNameB s=true) (h:(substR l s to_).2=0):linOk (substR l s to_).1=true:=by
 unfold substR at h⊢
 rw [if_pos ⟨h1,h2,h3⟩] at h⊢
 by_cases c:lastBy l.L s=0
 ·rw [if_pos c] at h⊢;exact h1
 ·rw [if_neg c] at h⊢
  by_cases d:r64 (to_.K*lastBy l.L s)/\scaleOk (lastBy l.L s) to_.L=true
  ·rw [if_pos d] at h⊢
   unfold addT at h⊢
   split
   ·exact sum_asc (mul_asc _ (wS _ none _ _ (Nat.le_refl _) (zDd _ h1) h2))
   ·rfl
  ·rw [if_neg d] at h⊢;rfl
theorem zCn:∀{q:ByteArray} {l:List Mono},monosOk (some q) l=true->∀m,m∈l->strLt q m.Name=true
 |_,[],_,m,hm=>by cases hm
 |q,x::r,h,m,hm=>by
  simp only [monosOk,Bool.and_eq_true] at h
  rcases List.mem_cons.1 hm with rfl|hm
  ·exact h.1.2
  ·exact zCl h.1.2 (zCn h.2 m hm)
theorem lastBy_mem {l:List Mono} {s:ByteArray} (h:lastBy l s≠0):∃m,m∈l/\m.Name=s/\m.By=lastBy l s:=by
 have key:∀(l:List Mono) (b:Int),l.foldl (fun by_ m=>if m.Name=s then m.By else by_) b=b∨∃m,m∈l/\m.Name=s/\m.By=l.foldl (fun by_ m=>if m.Name=s then m.By else by_) b:=by
  intro l
  induction l with
  |nil=>intro b;exact .inl rfl
  |cons x r ih=>
   intro b
   rw [List.foldl_cons]
   by_cases c:x.Name=s
   ·rw [if_pos c]
    rcases ih x.By with e|⟨m,hm,e1,e2⟩
    ·exact .inr ⟨x,by simp,c,e.symm⟩
    ·exact .inr ⟨m,by simp [hm],e1,e2⟩
   ·rw [if_neg c]
    rcases ih b with e|⟨m,hm,e1,e2⟩
    ·exact .inl e
    ·exact .inr ⟨m,by simp [hm],e1,e2⟩
 rcases key l 0 with e|h2
 ·exact absurd e h
 ·exact h2
def gIx (g:Lf->Lf) (x:Ix):Ix:=⟨g x.Lin,x.From,x.At.map g⟩
mutual
def gEx (g:Lf->Lf):Ex->Ex
 |.mk o n v t l i arg_=>.mk o n v t (g l) (i.map (gIx g)) (gExs g arg_)
def gExs (g:Lf->Lf):List Ex->List Ex
 |[]=>[]
 |a::r=>gEx g a::gExs g r
end
theorem gExs_map (g:Lf->Lf) (l:List Ex):gExs g l=l.map (gEx g):=by
 induction l with
 |nil=>rfl
 |cons a r ih=>rw [gExs,ih];rfl
theorem gEx_eq (g:Lf->Lf) (e:Ex):gEx g e=.mk e.Op e.Name e.Val e.Ty (g e.Lin) (e.Idx.map (gIx g)) (e.Args.map (gEx g)):=by
 cases e;rw [gEx,gExs_map];rfl
theorem mLins_g {f:Lf->Lf×Int}:∀{l r:List Lf},mLins f l=.ok r->r=l.map (fun x=>(f x).1)/\∀x,x∈l->(f x).2=0
 |[],r,h=>by rw [mLins] at h;injection h with h;subst h;exact ⟨rfl,fun x hx=>by cases hx⟩
 |a::t,r,h=>by
  rw [mLins] at h
  by_cases c:(f a).2=0
  ·rw [zJg c] at h
   cases hm:mLins f t with
   |error y=>rw [hm] at h;cases h
   |ok u=>
    rw [hm] at h
    injection h with h
    subst h
    obtain ⟨h1,h2⟩:=mLins_g hm
    exact ⟨by rw [h1];rfl,fun x hx=>by rcases List.mem_cons.1 hx with rfl|hx;exact c;exact h2 x hx⟩
  ·rw [zKv c] at h;cases h
theorem mIx_g {f:Lf->Lf×Int} {x y:Ix} (h:mIx f x=.ok y):y=gIx (fun l=>(f l).1) x/\(f x.Lin).2=0/\∀l,l∈x.At->(f l).2=0:=by
 rw [mIx] at h
 by_cases c:(f x.Lin).2=0
 ·rw [zJg c] at h
  cases hm:mLins f x.At with
  |error y=>rw [hm] at h;cases h
  |ok u=>
   rw [hm] at h
   injection h with h
   subst h
   obtain ⟨h1,h2⟩:=mLins_g hm
   exact ⟨by rw [h1];rfl,c,h2⟩
 ·rw [zKv c] at h;cases h
theorem mIxs_g {f:Lf->Lf×Int}:∀{l r:List Ix},mIxs f l=.ok r->r=l.map (gIx fun x=>(f x).1)/\∀x,x∈l->(f x.Lin).2=0/\∀y,y∈x.At->(f y).2=0
 |[],r,h=>by rw [mIxs] at h;injection h with h;subst h;exact ⟨rfl,fun x hx=>by cases hx⟩
 |a::t,r,h=>by
  rw [mIxs] at h
  cases h1:mIx f a with
  |error y=>rw [h1] at h;cases h
  |ok a'=>
   rw [h1] at h
   cases hm:mIxs f t with
   |error y=>rw [hm] at h;cases h
   |ok u=>
    rw [hm] at h
    injection h with h
    subst h
    obtain ⟨k1,k2⟩:=mIx_g h1
    obtain ⟨k3,k4⟩:=mIxs_g hm
    exact ⟨by rw [k1,k3];rfl,fun x hx=>by rcases List.mem_cons.1 hx with rfl|hx;exact k2;exact k4 x hx⟩
theorem nodes_allF {P:Lf->Prop} {e:Ex} (h1:∀l,l∈formsL e->P l) (h2:∀a,a∈e.Args->a.allF P):e.allF P:=by
 intro x hx
 rw [kV] at hx
 rcases List.mem_cons.1 hx with rfl|hx
 ·exact h1
 ·have:∀l:List Ex,(∀a,a∈l->a.allF P)->x∈nodesL l->∀y,y∈formsL x->P y:=by
   intro l
   induction l with
   |nil=>intro _ h;simp [nodesL] at h
   |cons a r ih=>
    intro h hm
    rw [nodesL] at hm
    rcases List.mem_append.1 hm with k|k
    ·exact h a (by simp) x k
    ·exact ih (fun b hb=>h b (by simp [hb])) k
  exact this e.Args h2 hx
mutual
theorem mEx_g {f:Lf->Lf×Int}:∀{e e':Ex},mEx f e=.ok e'->e'=gEx (fun l=>(f l).1) e/\e.allF fun l=>(f l).2=0
 |.mk o n v t l i arg_,e',h=>by
  rw [mEx] at h
  by_cases c:(f l).2=0
  ·rw [zJg c] at h
   cases h1:mIxs f i with
   |error y=>rw [h1] at h;cases h
   |ok i'=>
    rw [h1] at h
    cases h2:mExs f arg_ with
    |error y=>rw [h2] at h;cases h
    |ok as'=>
     rw [h2] at h
     injection h with h
     subst h
     obtain ⟨k1,k2⟩:=mIxs_g h1
     obtain ⟨k3,k4⟩:=mExs_g h2
     refine ⟨by rw [gEx,k1,k3,gExs_map],nodes_allF ?_ k4⟩
     intro y hy
     unfold formsL at hy
     rcases List.mem_cons.1 hy with rfl|hy
     ·exact c
     ·obtain ⟨x,hx,hy⟩:=List.mem_flatMap.1 hy
      rcases List.mem_cons.1 hy with rfl|hy
      ·exact (k2 x hx).1
      ·exact (k2 x hx).2 y hy
  ·rw [zKv c] at h;cases h
theorem mExs_g {f:Lf->Lf×Int}:∀{l r:List Ex},mExs f l=.ok r->r=l.map (gEx fun l=>(f l).1)/\∀a,a∈l->a.allF fun l=>(f l).2=0
 |[],r,h=>by rw [mExs] at h;injection h with h;subst h;exact ⟨rfl,fun x hx=>by cases hx⟩
 |a::t,r,h=>by
  rw [mExs] at h
  cases h1:mEx f a with
  |error y=>rw [h1] at h;cases h
  |ok a'=>
   rw [h1] at h
   cases hm:mExs f t with
   |error y=>rw [hm] at h;cases h
   |ok u=>
    rw [hm] at h
    injection h with h
    subst h
    obtain ⟨k1,k2⟩:=mEx_g h1
    obtain ⟨k3,k4⟩:=mExs_g hm
    exact ⟨by rw [k1,k3];rfl,fun x hx=>by rcases List.mem_cons.1 hx with rfl|hx;exact k2;exact k4 x hx⟩
end
theorem mLins_er {f:Lf->Lf×Int} {c:Int}:∀{l:List Lf},mLins f l=.error c->∃x,x∈l/\(f x).2=c
 |[],h=>by rw [mLins] at h;cases h
 |a::t,h=>by
  rw [mLins] at h
  by_cases k:(f a).2=0
  ·rw [zJg k] at h
   cases hm:mLins f t with
   |error y=>rw [hm] at h;injection h with h;subst h;obtain ⟨x,hx,e⟩:=mLins_er hm;exact ⟨x,by simp [hx],e⟩
   |ok u=>rw [hm] at h;cases h
  ·rw [zKv k] at h;injection h with h;exact ⟨a,by simp,h⟩
theorem mIx_er {f:Lf->Lf×Int} {c:Int} {x:Ix} (h:mIx f x=.error c):∃l,l∈ixF x/\(f l).2=c:=by
 rw [mIx] at h
 by_cases k:(f x.Lin).2=0
 ·rw [zJg k] at h
  cases hm:mLins f x.At with
  |error y=>rw [hm] at h;injection h with h;subst h;obtain ⟨l,hl,e⟩:=mLins_er hm;exact ⟨l,by simp [ixF,hl],e⟩
  |ok u=>rw [hm] at h;cases h
 ·rw [zKv k] at h;injection h with h;exact ⟨x.Lin,by simp [ixF],h⟩
theorem mIxs_er {f:Lf->Lf×Int} {c:Int}:∀{l:List Ix},mIxs f l=.error c->∃x,x∈l.flatMap ixF/\(f x).2=c
 |[],h=>by rw [mIxs] at h;cases h
 |a::t,h=>by
  rw [mIxs] at h
  cases k:mIx f a with
  |error y=>rw [k] at h;injection h with h;subst h;obtain ⟨l,hl,e⟩:=mIx_er k;exact ⟨l,by rw [List.flatMap_cons];exact List.mem_append_left _ hl,e⟩
  |ok a'=>
   rw [k] at h
   cases hm:mIxs f t with
   |error y=>rw [hm] at h;injection h with h;subst h;obtain ⟨x,hx,e⟩:=mIxs_er hm;exact ⟨x,by rw [List.flatMap_cons];exact List.mem_append_right _ hx,e⟩
   |ok u=>rw [hm] at h;cases h
theorem mEx_er {f:Lf->Lf×Int} {P:Int->Prop} (e:Ex) (hP:e.allF fun l=>P (f l).2):∀c,mEx f e=.error c->P c:=by
 induction e using Ex.ind with
 |_ e ih=>
  intro c h
  rw [zPr] at h
  by_cases k:(f e.Lin).2=0
  ·rw [zJg k] at h
   cases h1:mIxs f e.Idx with
   |error y=>
    rw [h1] at h;injection h with h;subst h
    obtain ⟨x,hx,e2⟩:=mIxs_er h1
    have:=hP e (by rw [kV];simp) x (by unfold formsL;exact List.mem_cons_of_mem _ hx)
    have this:P (f x).2:=this
    rw [e2] at this;exact this
   |ok i'=>
    rw [h1] at h
    cases h2:mExs f e.Args with
    |error y=>
     rw [h2] at h;injection h with h;subst h
     have key:∀l:List Ex,(∀a,a∈l->a∈e.Args)->mExs f l=.error y->P y:=by
      intro l
      induction l with
      |nil=>intro _ h;rw [mExs] at h;cases h
      |cons a t iht=>
       intro hl h
       rw [mExs] at h
       cases k2:mEx f a with
       |error z=>rw [k2] at h;injection h with h;subst h;exact ih a (hl a (by simp)) (Ex.allF_arg hP (hl a (by simp))) _ k2
       |ok a'=>
        rw [k2] at h
        cases hm:mExs f t with
        |error z=>rw [hm] at h;injection h with h;subst h;exact iht (fun b hb=>hl b (by simp [hb])) hm
        |ok u=>rw [hm] at h;cases h
     exact key e.Args (fun a h=>h) h2
    |ok as'=>rw [h2] at h;cases h
  ·rw [zKv k] at h;injection h with h;subst h
   exact hP e (by rw [kV];simp) _ (by unfold formsL;simp)
/-! ## What stays -/
theorem forms_g (g:Lf->Lf) (e:Ex):formsL (gEx g e)=(formsL e).map g:=by
 rw [gEx_eq]
 show g e.Lin::(e.Idx.map (gIx g)).flatMap (fun x=>x.Lin::x.At)=(e.Lin::e.Idx.flatMap fun x=>x.Lin::x.At).map g
 rw [List.map_cons]
 congr 1
 induction e.Idx with
 |nil=>rfl
 |cons x r ih=>rw [List.map_cons,List.flatMap_cons,List.flatMap_cons,List.map_append,ih];rfl
mutual
theorem nodes_g (g:Lf->Lf):∀e:Ex,nodes (gEx g e)=(nodes e).map (gEx g)
 |.mk o n v t l i arg_=>by rw [gEx,nodes,nodes,nodesL_g g arg_,List.map_cons,gEx]
theorem nodesL_g (g:Lf->Lf):∀l:List Ex,nodesL (gExs g l)=(nodesL l).map (gEx g)
 |[]=>by rw [gExs,nodesL];rfl
 |a::r=>by rw [gExs,nodesL,nodesL,nodes_g g a,nodesL_g g r,List.map_append]
end
theorem allF_g {g:Lf->Lf} {P:Lf->Prop} {e:Ex} (h:e.allF fun l=>P (g l)):(gEx g e).allF P:=by
 intro x hx l hl
 rw [nodes_g] at hx
 obtain ⟨y,hy,rfl⟩:=List.mem_map.1 hx
 rw [forms_g] at hl
 obtain ⟨k,hk,rfl⟩:=List.mem_map.1 hl
 exact h y hy k hk
theorem zOr {e:Ex} (h:validE e=0):e.allF fun l=>linOk l=true:=by
 intro x hx l hl
 have:=(node_all (errsL_mem (valid_part h) x hx)).2.2.2.2
 unfold formOk at this
 rw [Bool.and_eq_true] at this
 exact List.all_eq_true.1 this.2 l hl
/-! ## Weights -/
theorem linsWt_g {g:Lf->Lf} {c:Nat} (hg:∀l,(g l).L.length<=l.L.length+c):∀l:List Lf,linsWt (l.map g)<=linsWt l+c*l.length
 |[]=>by simp [linsWt]
 |x::r=>by
  rw [List.map_cons,linsWt,linsWt,List.length_cons,Nat.mul_succ]
  have:=linsWt_g hg r;have:=hg x;omega
theorem idxWt_g {g:Lf->Lf} {c:Nat} (hg:∀l,(g l).L.length<=l.L.length+c):∀l:List Ix,idxWt (l.map (gIx g))<=(c+1)*idxWt l+c*l.length
 |[]=>by simp [idxWt]
 |x::r=>by
  rw [List.map_cons,idxWt,idxWt,List.length_cons,Nat.mul_succ,Nat.mul_add]
  have h1:=idxWt_g hg r
  have h2:=linsWt_g hg x.At
  have h3:=hg x.Lin
  have h4:(gIx g x).wt<=(c+1)*x.wt+c:=by
   show (g x.Lin).L.length+(x.At.map g).length+linsWt (x.At.map g)<=(c+1)*(x.Lin.L.length+x.At.length+linsWt x.At)+c
   rw [List.length_map]
   have e:(c+1)*(x.Lin.L.length+x.At.length+linsWt x.At)=(c*x.Lin.L.length+c*x.At.length+c*linsWt x.At)+(x.Lin.L.length+x.At.length+linsWt x.At):=by
    rw [Nat.add_mul,Nat.one_mul,Nat.mul_add,Nat.mul_add]
   omega
  omega
theorem wt_g {g:Lf->Lf} {c:Nat} (hg:∀l,(g l).L.length<=l.L.length+c) (e:Ex):(gEx g e).wt<=(c+1)*e.wt:=by
 induction e using Ex.ind with
 |_ e ih=>
  have key:∀l:List Ex,(∀a,a∈l->(gEx g a).wt<=(c+1)*a.wt)->argsWt (l.map (gEx g))<=(c+1)*argsWt l:=by
   intro l
   induction l with
   |nil=>intro _;simp [argsWt]
   |cons a r ihr=>
    intro h
    rw [List.map_cons,argsWt,argsWt,Nat.mul_add]
    have:=h a (by simp)
    have:=ihr fun b hb=>h b (by simp [hb])
    omega
  have h1:=key e.Args ih
  have h2:=idxWt_g hg e.Idx
  have h3:=hg e.Lin
  rw [Ex.wt_eq,Ex.wt_eq,gEx_eq]
  show 1+(g e.Lin).L.length+(e.Idx.map (gIx g)).length+idxWt (e.Idx.map (gIx g))+argsWt (e.Args.map (gEx g))<=(c+1)*(1+e.Lin.L.length+e.Idx.length+idxWt e.Idx+argsWt e.Args)
  rw [List.length_map]
  have e1:(c+1)*(1+e.Lin.L.length+e.Idx.length+idxWt e.Idx+argsWt e.Args)=(c+1)*1+(c+1)*e.Lin.L.length+(c+1)*e.Idx.length+(c+1)*idxWt e.Idx+(c+1)*argsWt e.Args:=by
   rw [Nat.mul_add,Nat.mul_add,Nat.mul_add,Nat.mul_add]
  have e2:(c+1)*e.Lin.L.length=c*e.Lin.L.length+e.Lin.L.length:=by rw [Nat.add_mul,Nat.one_mul]
  have e3:(c+1)*e.Idx.length=c*e.Idx.length+e.Idx.length:=by rw [Nat.add_mul,Nat.one_mul]
  omega
end Go.Br
end
section
namespace Go.Br
open Go Go.Eng Go.Proofs Go.L41
structure PO {α:Type} (f:α->α->Int) (a:α):Prop where
 anti:∀b,f b a= -f a b
 rng:∀b,-1<=f a b/\f a b<=1
 cong:∀b,f a b=0->∀c,f a c=f b c
 cong':∀b c,f b c=0->f a b=f a c
 trans:∀b c,f a b<0->f b c<0->f a c<0
theorem PO.zero {α:Type} (a:α):PO (fun _ _=>0) a:=
 ⟨fun _=>rfl,fun _=>⟨by show (-1:Int)<=0;omega,by show (0:Int)<=1;omega⟩,fun _ _ _=>rfl,fun _ _ _=>rfl,fun _ _ h _=>h⟩
end Go.Br
end
section
namespace Go.Br
open Go Go.Eng Go.L41
/-! ## Short names -/
end Go.Br
end
section
namespace Go.Br
open Go Go.Eng Go.L41
structure Bf where
 Name:ByteArray
 T:Ty
 Dims:List Int
 Use:Int
 deriving DecidableEq
inductive St where
 |mk (op:Int) (name:ByteArray) (many mark fold:Int) (idx:List Ix) (ex:Ex) (body:List St)
namespace St
def Op:St->Int|mk x _ _ _ _ _ _ _=>x
def Name:St->ByteArray|mk _ x _ _ _ _ _ _=>x
def Many:St->Int|mk _ _ x _ _ _ _ _=>x
def Mark:St->Int|mk _ _ _ x _ _ _ _=>x
def Fold:St->Int|mk _ _ _ _ x _ _ _=>x
def Idx:St->List Ix|mk _ _ _ _ _ x _ _=>x
def E:St->Ex|mk _ _ _ _ _ _ x _=>x
def Body:St->List St|mk _ _ _ _ _ _ _ x=>x
theorem eta (s:St):s=mk s.Op s.Name s.Many s.Mark s.Fold s.Idx s.E s.Body:=by cases s;rfl
theorem ind {P:St->Prop} (h:∀s:St,(∀a,a∈s.Body->P a)->P s) (s:St):P s:=
 St.rec (motive_1:=P) (motive_2:=fun l=>∀a,a∈l->P a) (fun o n m k f i e b ih=>h (mk o n m k f i e b) ih) (fun a h=>by cases h)
  (fun x l hx hl a ha=>by rcases List.mem_cons.1 ha with rfl|ha;exact hx;exact hl a ha) s
end St
structure Ns where
 Bufs:List Bf
 Body:List St
def Bf.cells (b:Bf):List C:=[cS b.Name,cI b.T.Kind,cI b.T.Bits,cI b.T.Frac,cI b.T.Round,cI b.T.Over,.sl 1 (b.Dims.map fun n=>[cI n]),cI b.Use]
mutual
def St.cells:St->List C
 |.mk o n m k f i e b=>[cI o,cS n,cI m,cI k,cI f,.sl 4 (i.map Ix.cells)]++e.cs++[.sl 20 (stCellsL b)]
def stCellsL:List St->List (List C)
 |[]=>[]
 |s::r=>s.cells::stCellsL r
end
theorem zOw (l:List St):stCellsL l=l.map St.cells:=by
 induction l with
 |nil=>rfl
 |cons s r ih=>rw [stCellsL,ih];rfl
def St.cs (s:St):List C:=[cI s.Op,cS s.Name,cI s.Many,cI s.Mark,cI s.Fold,.sl 4 (s.Idx.map Ix.cells),
 cI s.E.Op,cS s.E.Name,cI s.E.Val.N,cI s.E.Val.D,cI s.E.Ty.Kind,cI s.E.Ty.Bits,cI s.E.Ty.Frac,cI s.E.Ty.Round,cI s.E.Ty.Over,cI s.E.Lin.K,.sl 2 (s.E.Lin.L.map Mono.cells),.sl 4 (s.E.Idx.map Ix.cells),.sl 13 (s.E.Args.map Ex.cells),.sl 20 (s.Body.map St.cells)]
theorem St.cells_eq (s:St):s.cells=s.cs:=by
 cases s;rw [St.cells,zOw];rfl
def Ns.cells (n:Ns):List C:=[.sl 8 (n.Bufs.map Bf.cells),.sl 20 (n.Body.map St.cells)]
abbrev vBf (b:Bf):V:=.agg b.cells
abbrev vSt (s:St):V:=.agg s.cs
abbrev vSts (l:List St):V:=.c (.sl 20 (l.map St.cells))
abbrev vNs (n:Ns):V:=.agg n.cells
abbrev vIs (l:List Int):V:=.c (.sl 1 (l.map fun n=>[cI n]))
abbrev vBfs (l:List Bf):V:=.c (.sl 8 (l.map Bf.cells))
theorem allP_next {α:Type} {p:α->Bool} {l:List α} {k:Nat} {x:α} (h:l[k]? =some x) (hp:(l.take k).all p=true) (hx:p x=true):(l.take (k+1)).all p=true:=by
 rw [yH h,List.all_append,hp];simp [hx]
theorem kZ {l:List St} {k:Nat} {x:St} (h:l[k]? =some x):(l.map St.cells)[k]? =some x.cs:=by
 rw [v h,St.cells_eq]
/-! ## Sizes -/
mutual
def St.wt:St->Nat
 |.mk _ _ _ _ _ i e b=>1+e.wt+i.length+idxWt i+stsWt b
def stsWt:List St->Nat
 |[]=>0
 |s::r=>s.wt+stsWt r
end
theorem St.wt_eq (s:St):s.wt=1+s.E.wt+s.Idx.length+idxWt s.Idx+stsWt s.Body:=by cases s;rw [St.wt];rfl
theorem kP (l:List St):l.length<=stsWt l:=by
 induction l with
 |nil=>simp [stsWt]
 |cons y r ih=>rw [stsWt,List.length_cons];have:=y.wt_eq;omega
theorem yG {l:List St} {a:St} (h:a∈l):a.wt<=stsWt l:=by
 induction l with
 |nil=>cases h
 |cons x r ih=>
  rw [stsWt]
  rcases List.mem_cons.1 h with rfl|h
  ·omega
  ·have:=ih h;omega
theorem St.wt_pos (s:St):1<=s.wt:=by rw [St.wt_eq];omega
theorem St.body_wt (s:St):stsWt s.Body<s.wt:=by rw [St.wt_eq s];omega
theorem St.parts {s:St} {B:Nat} (h:s.wt<=B):s.E.wt<=B/\s.Idx.length<=B/\idxWt s.Idx<=B/\s.Body.length<=B/\stsWt s.Body<=B:=by
 rw [St.wt_eq] at h
 have:=kP s.Body
 omega
def rdE (s:St):Ex:=.mk 3 s.Name ⟨0,0⟩ ⟨0,0,0,0,0⟩ ⟨0,[]⟩ s.Idx []
theorem rdE_wt (s:St):(rdE s).wt<=s.wt+1:=by
 rw [Ex.wt_eq,St.wt_eq];simp only [rdE,Ex.Lin,Ex.Idx,Ex.Args,argsWt,List.length_nil];omega
/-! ## Shapes (11.1) -/
def posI (n:Int):Bool:=decide (1<=n)
def sizeFrom:Int->List Int->Option Int
 |s,[]=>some s
 |s,n::r=>if 4096<s*n then none else sizeFrom (s*n) r
def dimsErr (d:List Int):Int:=if 6<d.length then 2 else if d.all posI=true then (if (sizeFrom 1 d).isSome=true then 0 else 2) else 1
theorem dims_long {d:List Int} (h:6<d.length):dimsErr d=2:=by unfold dimsErr;rw [if_pos h]
theorem dims_neg {d:List Int} {k:Nat} {n:Int} (h:¬6<d.length) (hn:d[k]? =some n) (h2:n<1):dimsErr d=1:=by
 unfold dimsErr
 rw [if_neg h,if_neg (by rw [all_no hn (p:=posI) (by unfold posI;exact decide_eq_false (by omega))];simp)]
theorem dims_over {d:List Int} (h:¬6<d.length) (h1:d.all posI=true) (h2:sizeFrom 1 d=none):dimsErr d=2:=by
 unfold dimsErr;rw [if_neg h,if_pos h1,h2];rfl
theorem dims_ok {d:List Int} {s:Int} (h:¬6<d.length) (h1:d.all posI=true) (h2:sizeFrom 1 d=some s):dimsErr d=0:=by
 unfold dimsErr;rw [if_neg h,if_pos h1,h2];rfl
theorem size_next {d:List Int} {k:Nat} {n s:Int} (h:d[k]? =some n) (hs:sizeFrom 1 d=sizeFrom s (d.drop k)) (h2:¬4096<s*n):sizeFrom 1 d=sizeFrom (s*n) (d.drop (k+1)):=by
 rw [hs,qP h,sizeFrom,if_neg h2]
theorem size_over {d:List Int} {k:Nat} {n s:Int} (h:d[k]? =some n) (hs:sizeFrom 1 d=sizeFrom s (d.drop k)) (h2:4096<s*n):sizeFrom 1 d=none:=by
 rw [hs,qP h,sizeFrom,if_pos h2]
theorem size_done {d:List Int} {k:Nat} {s:Int} (hs:sizeFrom 1 d=sizeFrom s (d.drop k)) (h:¬k<d.length):sizeFrom 1 d=some s:=by
 rw [hs,kB h];rfl
theorem quo_lt {s n:Int} (h:1<=s):Int.tdiv 4096 s<n↔4096<s*n:=by
 rw [Int.tdiv_eq_ediv_of_nonneg (by omega),Int.ediv_lt_iff_lt_mul (by omega),Int.mul_comm]
theorem quo_wrap {s:Int} (h:1<=s):IntKind.i64.wrap (Int.tdiv 4096 s)=Int.tdiv 4096 s:=by
 have h1:Int.tdiv 4096 s=4096/s:=Int.tdiv_eq_ediv_of_nonneg (by omega)
 have h2:0<=(4096:Int)/s:=Int.ediv_nonneg (by omega) (by omega)
 have h3:(4096:Int)/s<=4096:=Int.ediv_le_self _ (by omega)
 exact zIs ⟨by omega,by omega⟩
theorem quo_t {s n:Int} (h:1<=s) (c:IntKind.i64.wrap (Int.tdiv 4096 s)<n):4096<s*n:=by rw [quo_wrap h] at c;exact (quo_lt h).1 c
theorem quo_f {s n:Int} (h:1<=s) (c:¬IntKind.i64.wrap (Int.tdiv 4096 s)<n):¬4096<s*n:=by rw [quo_wrap h] at c;exact fun k=>c ((quo_lt h).2 k)
theorem posI_get {d:List Int} {k:Nat} {n:Int} (h:d.all posI=true) (hn:d[k]? =some n):1<=n:=by
 have:=(List.all_eq_true.1 h) n (zZ hn)
 simpa [posI] using this
theorem mul_pos1 {s n:Int} (h:1<=s) (h2:1<=n):1<=s*n/\n<=s*n:=by
 have h3:1*n<=s*n:=Int.mul_le_mul_of_nonneg_right h (by omega)
 omega
def zBf:Bf:=⟨bs [],zTy,[],0⟩
def hasBf (l:List Bf) (s:ByteArray):Bool:=l.any fun b=>decide (b.Name=s)
def bufD:List Bf->ByteArray->Bf
 |[],_=>zBf
 |b::r,s=>if b.Name=s then b else bufD r s
theorem bufD_at {l:List Bf} {k:Nat} {b:Bf} {s:ByteArray} (h:l[k]? =some b) (hb:b.Name=s):bufD (l.drop k) s=b:=by rw [qP h,bufD,if_pos hb]
theorem bufD_next {l:List Bf} {k:Nat} {b:Bf} {s:ByteArray} (h:l[k]? =some b) (hb:¬b.Name=s):bufD (l.drop k) s=bufD (l.drop (k+1)) s:=by rw [qP h,bufD,if_neg hb]
theorem hasBf_at {l:List Bf} {k:Nat} {b:Bf} {s:ByteArray} (h:l[k]? =some b) (hb:b.Name=s):hasBf l s=true:=by
 unfold hasBf;rw [List.any_eq_true];exact ⟨b,zZ h,decide_eq_true hb⟩
theorem hasBf_next {l:List Bf} {k:Nat} {b:Bf} {s:ByteArray} (h:l[k]? =some b) (hp:hasBf (l.take k) s=false) (hb:¬b.Name=s):hasBf (l.take (k+1)) s=false:=by
 unfold hasBf at *;rw [yH h,List.any_append,hp];simp [hb]
theorem bufD_no:∀{l:List Bf} {s:ByteArray},hasBf l s=false->bufD l s=zBf
 |[],_,_=>rfl
 |b::r,s,h=>by
  simp only [hasBf,List.any_cons,Bool.or_eq_false_iff,decide_eq_false_iff_not] at h
  rw [bufD,if_neg h.1];exact bufD_no h.2
def bfErr (seen:List Bf) (b:Bf):Int:=
 if isNameB b.Name=true then (if hasBf seen b.Name=true then 8 else if tyOk b.T=true then (if dimsErr b.Dims=0 then (if b.Use<1∨3<b.Use then 1 else 0) else dimsErr b.Dims) else 10) else 7
def bufsErr:List Bf->List Bf->Int
 |_,[]=>0
 |seen,b::r=>if bfErr seen b=0 then bufsErr (seen++[b]) r else bfErr seen b
theorem bfErr_7 {seen:List Bf} {b:Bf} (h:isNameB b.Name=false):bfErr seen b=7:=by unfold bfErr;rw [if_neg (by rw [h];simp)]
theorem bfErr_8 {seen:List Bf} {b:Bf} (h:isNameB b.Name=true) (h2:hasBf seen b.Name=true):bfErr seen b=8:=by unfold bfErr;rw [if_pos h,if_pos h2]
theorem bfErr_10 {seen:List Bf} {b:Bf} (h:isNameB b.Name=true) (h2:hasBf seen b.Name=false) (h3:tyOk b.T=false):bfErr seen b=10:=by unfold bfErr;rw [if_pos h,if_neg (by rw [h2];simp),if_neg (by rw [h3];simp)]
theorem bfErr_d {seen:List Bf} {b:Bf} (h:isNameB b.Name=true) (h2:hasBf seen b.Name=false) (h3:tyOk b.T=true) (h4:¬dimsErr b.Dims=0):bfErr seen b=dimsErr b.Dims:=by unfold bfErr;rw [if_pos h,if_neg (by rw [h2];simp),if_pos h3,if_neg h4]
theorem bfErr_u {seen:List Bf} {b:Bf} (h:isNameB b.Name=true) (h2:hasBf seen b.Name=false) (h3:tyOk b.T=true) (h4:dimsErr b.Dims=0) (h5:b.Use<1∨3<b.Use):bfErr seen b=1:=by unfold bfErr;rw [if_pos h,if_neg (by rw [h2];simp),if_pos h3,if_pos h4,if_pos h5]
theorem bfErr_0 {seen:List Bf} {b:Bf} (h:isNameB b.Name=true) (h2:hasBf seen b.Name=false) (h3:tyOk b.T=true) (h4:dimsErr b.Dims=0) (h5:¬(b.Use<1∨3<b.Use)):bfErr seen b=0:=by unfold bfErr;rw [if_pos h,if_neg (by rw [h2];simp),if_pos h3,if_pos h4,if_neg h5]
theorem bufsErr_next {l:List Bf} {k:Nat} {b:Bf} (h:l[k]? =some b) (hp:bufsErr [] l=bufsErr (l.take k) (l.drop k)) (hb:bfErr (l.take k) b=0):bufsErr [] l=bufsErr (l.take (k+1)) (l.drop (k+1)):=by
 rw [hp,qP h,bufsErr,if_pos hb,yH h]
theorem zFa {l:List Bf} {k:Nat} {b:Bf} (h:l[k]? =some b) (hp:bufsErr [] l=bufsErr (l.take k) (l.drop k)) (hb:¬bfErr (l.take k) b=0):bufsErr [] l=bfErr (l.take k) b:=by
 rw [hp,qP h,bufsErr,if_neg hb]
theorem bufsErr_end {l:List Bf} {k:Nat} (hp:bufsErr [] l=bufsErr (l.take k) (l.drop k)) (h:¬k<l.length):bufsErr [] l=0:=by
 rw [hp,kB h];rfl
/-! ## Depth and number of statements -/
def withinT:Nat->List St->Bool
 |0,l=>l.isEmpty
 |n+1,l=>l.all fun s=>withinT n s.Body
mutual
def stN:St->Nat
 |.mk _ _ _ _ _ _ _ b=>1+stsN b
def stsN:List St->Nat
 |[]=>0
 |s::r=>stN s+stsN r
end
def withinG (n:Nat) (l:List St):Bool:=withinT n l
theorem withinG_eq (n:Nat) (l:List St):withinG n l=withinT n l:=rfl
theorem withinG_next {n:Nat} {l:List St} {k:Nat} {s:St} (h:l[k]? =some s) (hp:withinG n (l.take k)=true) (hn:1<=n) (hs:withinT (n-1) s.Body=true):withinG n (l.take (k+1))=true:=by
 obtain ⟨m,rfl⟩:∃m,n=m+1:=⟨n-1,by omega⟩
 exact allP_next h hp hs
theorem within_no {n:Nat} {l:List St} {k:Nat} {s:St} {x:Int} (h:l[k]? =some s) (hx:x=n) (c:(decide (x<1)|| !withinT (n-1) s.Body)=true):withinT n l=false:=by
 cases n with
 |zero=>cases l with
  |nil=>simp at h
  |cons a r=>rfl
 |succ n=>
  have:withinT n s.Body=false:=by
   rw [Bool.or_eq_true] at c
   rcases c with c|c
   ·rw [decide_eq_true_eq] at c;omega
   ·simpa using c
  exact all_no h this
theorem within_yes {n:Nat} {s:St} {x:Int} (hx:x=n) (c:(decide (x<1)|| !withinT (n-1) s.Body)=false):1<=n/\withinT (n-1) s.Body=true:=by
 rw [Bool.or_eq_false_iff] at c
 refine ⟨?_,by simpa using c.2⟩
 have:=c.1;rw [decide_eq_false_iff_not] at this;omega
theorem zIl (s:St):stN s=1+stsN s.Body:=by cases s;rw [stN];rfl
theorem zIv:∀(a b:List St),stsN (a++b)=stsN a+stsN b
 |[],b=>by simp [stsN]
 |x::r,b=>by rw [List.cons_append,stsN,stsN,zIv r b];omega
theorem zDj:∀l:List St,l.length<=stsN l
 |[]=>by simp [stsN]
 |x::r=>by have:=zDj r;have:=zIl x;rw [stsN,List.length_cons];omega
mutual
theorem stN_wt:∀s:St,stN s<=s.wt
 |.mk o n m k f i e b=>by rw [stN,St.wt];have:=zDq b;omega
theorem zDq:∀l:List St,stsN l<=stsWt l
 |[]=>by simp [stsN,stsWt]
 |s::r=>by rw [stsN,stsWt];have:=stN_wt s;have:=zDq r;omega
end
mutual
def numS:St->Nat->Nat
 |.mk _ _ _ _ _ _ _ b,m=>numL b m b.length
def numL:List St->Nat->Nat->Nat
 |[],_,n=>n
 |s::r,m,n=>if n<=m then numL r m (n+numS s (m-n)) else n
end
def numB (l:List St) (m:Nat):Nat:=numL l m l.length
theorem numS_eq (s:St) (m:Nat):numS s m=numB s.Body m:=by cases s;rw [numS];rfl
mutual
theorem numS_le:∀(s:St) (m:Nat),numS s m<=stN s-1
 |.mk _ _ _ _ _ _ _ b,m=>by
  rw [numS,stN]
  have h1:=numL_le b m b.length
  have h2:=zDj b
  omega
theorem numL_le:∀(l:List St) (m n:Nat),numL l m n<=n+(stsN l-l.length)
 |[],m,n=>by simp [numL]
 |s::r,m,n=>by
  rw [numL]
  have h3:=zDj r
  have h4:=zIl s
  split
  ·have h1:=numL_le r m (n+numS s (m-n))
   have h2:=numS_le s (m-n)
   rw [stsN,List.length_cons];omega
  ·rw [stsN,List.length_cons];omega
end
theorem numB_le (l:List St) (m:Nat):numB l m<=stsN l:=by
 have h1:=numL_le l m l.length
 have h2:=zDj l
 unfold numB;omega
theorem numL_ge:∀(l:List St) (m n:Nat),n<=numL l m n
 |[],m,n=>by rw [numL];omega
 |s::r,m,n=>by
  rw [numL];split
  ·have:=numL_ge r m (n+numS s (m-n));omega
  ·omega
mutual
theorem numS_ok:∀(s:St) (m:Nat),numS s m<=m->numS s m=stN s-1
 |.mk _ _ _ _ _ _ _ b,m,h=>by
  rw [numS] at h⊢
  rw [stN,numL_ok b m _ h]
  have:=zDj b;omega
theorem numL_ok:∀(l:List St) (m n:Nat),numL l m n<=m->numL l m n=n+(stsN l-l.length)
 |[],m,n,h=>by simp [numL,stsN]
 |s::r,m,n,h=>by
  have h3:=zDj r
  have h4:=zIl s
  by_cases hn:n<=m
  ·rw [numL,if_pos hn] at h⊢
   have h5:=numL_ge r m (n+numS s (m-n))
   have h6:=numS_ok s (m-n) (by omega)
   rw [numL_ok r m _ h,h6,stsN,List.length_cons];omega
  ·rw [numL,if_neg hn] at h;omega
end
theorem numB_ok {l:List St} {m:Nat} (h:numB l m<=m):stsN l=numB l m:=by
 have h2:=zDj l
 unfold numB at *
 rw [numL_ok l m _ h];omega
theorem num_next {l:List St} {k m n N:Nat} {s:St} (h:l[k]? =some s) (hp:N=numL (l.drop k) m n) (hn:n<=m):N=numL (l.drop (k+1)) m (n+numB s.Body (m-n)):=by
 rw [hp,qP h,numL,if_pos hn,numS_eq]
theorem num_end {l:List St} {k m n N:Nat} (hp:N=numL (l.drop k) m n) (h:l.length<=k∨m<n):n=N:=by
 rw [hp]
 by_cases hk:k<l.length
 ·obtain ⟨a,ha⟩:=qZ l k hk
  rw [qP ha,numL,if_neg (by omega)]
 ·rw [kB hk,numL]
theorem zNr {l:List St} {s:St} (h:s∈l):stN s<=stsN l:=by
 induction l with
 |nil=>cases h
 |cons x r ih=>
  rw [stsN]
  rcases List.mem_cons.1 h with rfl|h
  ·omega
  ·have:=ih h;omega
theorem stsN_drop {l:List St} {k:Nat} {s:St} (h:l[k]? =some s):stsN (l.drop k)=stN s+stsN (l.drop (k+1)):=by rw [qP h,stsN]
theorem num_sum {l:List St} {k m n:Nat} {s:St} (h:l[k]? =some s) (hp:numB l m=numL (l.drop k) m n) (hn:n<=m):n+numB s.Body (m-n)<=n+stsN l:=by
 have h1:=numB_le s.Body (m-n)
 have h2:stsN l=stsN (l.take k)+(stN s+stsN (l.drop (k+1))):=by
  rw [←stsN,←qP h,←zIv,List.take_append_drop]
 have:=zIl s
 omega
end Go.Br
end
section
namespace Go.Br
open Go Go.Eng Go.L41
/-! ## Names of a node -/
def inSc (sc:List ByteArray) (l:Lf):Bool:=l.L.all fun m=>hasB sc m.Name
def ixSc (sc:List ByteArray) (x:Ix):Bool:=inSc sc x.Lin&&x.At.all (inSc sc)
def nodeSc (sc:List ByteArray) (e:Ex):Bool:=inSc sc e.Lin&&e.Idx.all (ixSc sc)
def gathE (B:List Bf) (x:Ix):Int:=
 if x.From=bs [] then 0 else if hasBf B x.From=true then (if (bufD B x.From).T.Kind=3 then (if (bufD B x.From).Dims.length=x.At.length then 0 else 11) else 10) else 9
def gathL (B:List Bf):List Ix->Int
 |[]=>0
 |x::r=>if gathE B x=0 then gathL B r else gathE B x
def nodeN (B:List Bf) (sc:List ByteArray) (e:Ex):Int:=
 if nodeSc sc e=true then (if e.Op=3 then (if hasBf B e.Name=true then (if (bufD B e.Name).Dims.length=e.Idx.length then gathL B e.Idx else 11) else 9) else 0) else 9
def nodesN (B:List Bf) (sc:List ByteArray):List Ex->Int
 |[]=>0
 |e::r=>if nodeN B sc e=0 then nodesN B sc r else nodeN B sc e
theorem gathE_0 {B:List Bf} {x:Ix} (h:x.From=bs []):gathE B x=0:=by unfold gathE;rw [if_pos h]
theorem gathE_9 {B:List Bf} {x:Ix} (h:¬x.From=bs []) (h1:hasBf B x.From=false):gathE B x=9:=by unfold gathE;rw [if_neg h,if_neg (by rw [h1];simp)]
theorem gathE_10 {B:List Bf} {x:Ix} (h:¬x.From=bs []) (h1:hasBf B x.From=true) (h2:¬(bufD B x.From).T.Kind=3):gathE B x=10:=by unfold gathE;rw [if_neg h,if_pos h1,if_neg h2]
theorem gathE_11 {B:List Bf} {x:Ix} (h:¬x.From=bs []) (h1:hasBf B x.From=true) (h2:(bufD B x.From).T.Kind=3) (h3:¬(bufD B x.From).Dims.length=x.At.length):gathE B x=11:=by unfold gathE;rw [if_neg h,if_pos h1,if_pos h2,if_neg h3]
theorem gathE_ok {B:List Bf} {x:Ix} (h:¬x.From=bs []) (h1:hasBf B x.From=true) (h2:(bufD B x.From).T.Kind=3) (h3:(bufD B x.From).Dims.length=x.At.length):gathE B x=0:=by unfold gathE;rw [if_neg h,if_pos h1,if_pos h2,if_pos h3]
theorem gathL_next {B:List Bf} {l:List Ix} {k:Nat} {x:Ix} (h:l[k]? =some x) (hx:gathE B x=0):gathL B (l.drop k)=gathL B (l.drop (k+1)):=by rw [qP h,gathL,if_pos hx]
theorem gathL_no {B:List Bf} {l:List Ix} {k:Nat} {x:Ix} (h:l[k]? =some x) (hx:¬gathE B x=0):gathL B (l.drop k)=gathE B x:=by rw [qP h,gathL,if_neg hx]
theorem nodeN_9 {B:List Bf} {sc:List ByteArray} {e:Ex} (h:nodeSc sc e=false):nodeN B sc e=9:=by unfold nodeN;rw [if_neg (by rw [h];simp)]
theorem nodeN_o {B:List Bf} {sc:List ByteArray} {e:Ex} (h:nodeSc sc e=true) (h1:¬e.Op=3):nodeN B sc e=0:=by unfold nodeN;rw [if_pos h,if_neg h1]
theorem nodeN_n {B:List Bf} {sc:List ByteArray} {e:Ex} (h:nodeSc sc e=true) (h1:e.Op=3) (h2:hasBf B e.Name=false):nodeN B sc e=9:=by unfold nodeN;rw [if_pos h,if_pos h1,if_neg (by rw [h2];simp)]
theorem nodeN_r {B:List Bf} {sc:List ByteArray} {e:Ex} (h:nodeSc sc e=true) (h1:e.Op=3) (h2:hasBf B e.Name=true) (h3:¬(bufD B e.Name).Dims.length=e.Idx.length):nodeN B sc e=11:=by unfold nodeN;rw [if_pos h,if_pos h1,if_pos h2,if_neg h3]
theorem nodeN_g {B:List Bf} {sc:List ByteArray} {e:Ex} (h:nodeSc sc e=true) (h1:e.Op=3) (h2:hasBf B e.Name=true) (h3:(bufD B e.Name).Dims.length=e.Idx.length):nodeN B sc e=gathL B e.Idx:=by unfold nodeN;rw [if_pos h,if_pos h1,if_pos h2,if_pos h3]
theorem zFp (B:List Bf) (sc:List ByteArray):∀(a b:List Ex),nodesN B sc (a++b)=if nodesN B sc a=0 then nodesN B sc b else nodesN B sc a
 |[],b=>by simp [nodesN]
 |x::r,b=>by
  rw [List.cons_append,nodesN,nodesN,zFp B sc r b]
  by_cases h:nodeN B sc x=0
  ·rw [if_pos h,if_pos h]
  ·rw [if_neg h,if_neg h,if_neg h]
theorem zLy {B:List Bf} {sc:List ByteArray} {pre:List Ex} {x:Ex} (h:nodesN B sc pre=0):nodesN B sc (pre++[x])=nodeN B sc x:=by
 rw [zFp,if_pos h,nodesN,nodesN]
 by_cases hx:nodeN B sc x=0
 ·rw [if_pos hx,hx]
 ·rw [if_neg hx]
theorem nodesN_pre {B:List Bf} {sc:List ByteArray} {pre suf:List Ex} {x:Ex} (h:¬nodesN B sc (pre++[x])=0):nodesN B sc (pre++x::suf)=nodesN B sc (pre++[x]):=by
 rw [show pre++x::suf=(pre++[x])++suf by simp,zFp,if_neg h]
def tyF (B:List Bf) (e:Ex) (l:List Ty):Ty×Int:=
 if e.Op=1∨e.Op=12 then (e.Ty,0) else
 if e.Op=2 then (iTy,0) else
 if e.Op=3 then ((bufD B e.Name).T,0) else
 if e.Op=8 then (tyAt l 0,0) else
 if e.Op=16∨e.Op=17∨e.Op=18 then (zTy,0) else
 if tyAt l (l.length-2)=tyAt l (l.length-1) then (if isCond e=true then (zTy,0) else (tyAt l (l.length-1),0)) else (zTy,10)
theorem zBd {B:List Bf} {e:Ex} {l:List Ty} (h:e.Op=1∨e.Op=12):tyF B e l=(e.Ty,0):=by unfold tyF;rw [if_pos h]
theorem zBc {B:List Bf} {e:Ex} {l:List Ty} (h:e.Op=2):tyF B e l=(iTy,0):=by unfold tyF;rw [if_neg (by omega),if_pos h]
theorem zAx {B:List Bf} {e:Ex} {l:List Ty} (h:e.Op=3):tyF B e l=((bufD B e.Name).T,0):=by unfold tyF;rw [if_neg (by omega),if_neg (by omega),if_pos h]
theorem zBb {B:List Bf} {e:Ex} {l:List Ty} (h:e.Op=8):tyF B e l=(tyAt l 0,0):=by unfold tyF;rw [if_neg (by omega),if_neg (by omega),if_neg (by omega),if_pos h]
theorem wE {B:List Bf} {e:Ex} {l:List Ty} (h:e.Op=16∨e.Op=17∨e.Op=18):tyF B e l=(zTy,0):=by unfold tyF;rw [if_neg (by omega),if_neg (by omega),if_neg (by omega),if_neg (by omega),if_pos h]
abbrev opLow (o:Int):Prop:=o=1∨o=12∨o=2∨o=3∨o=8∨o=16∨o=17∨o=18
theorem tyF_o {B:List Bf} {e:Ex} {l:List Ty} (h:¬opLow e.Op):tyF B e l=if tyAt l (l.length-2)=tyAt l (l.length-1) then (if isCond e=true then (zTy,0) else (tyAt l (l.length-1),0)) else (zTy,10):=by
 unfold opLow at h;unfold tyF;rw [if_neg (by omega),if_neg (by omega),if_neg (by omega),if_neg (by omega),if_neg (by omega)]
theorem wF {B:List Bf} {e:Ex} {l:List Ty} (h:¬opLow e.Op) (h2:¬tyAt l (l.length-2)=tyAt l (l.length-1)):tyF B e l=(zTy,10):=by rw [tyF_o h,if_neg h2]
theorem zBa {B:List Bf} {e:Ex} {l:List Ty} (h:¬opLow e.Op) (h2:tyAt l (l.length-2)=tyAt l (l.length-1)) (h3:isCond e=true):tyF B e l=(zTy,0):=by rw [tyF_o h,if_pos h2,if_pos h3]
theorem zAz {B:List Bf} {e:Ex} {l:List Ty} (h:¬opLow e.Op) (h2:tyAt l (l.length-2)=tyAt l (l.length-1)) (h3:isCond e=false):tyF B e l=(tyAt l (l.length-1),0):=by rw [tyF_o h,if_pos h2,if_neg (by rw [h3];simp)]
theorem tyF_zero {B:List Bf} {e:Ex} {l:List Ty} (h:¬(tyF B e l).2=0):(tyF B e l).1=zTy:=by
 unfold tyF at h⊢
 repeat' split at h<;>first|exact absurd rfl h|skip
 all_goals simp_all
theorem nodeT_zero {B:List Bf} {e:Ex} (h:¬(nodeT (tyF B) e).2=0):(nodeT (tyF B) e).1=zTy:=by
 rw [zNy] at h⊢
 split
 ·rename_i c
  rw [if_pos c] at h
  exact tyF_zero h
 ·rfl
def exprT (B:List Bf) (sc:List ByteArray) (e:Ex):Ty×Int:=
 if validE e=0 then (if nodesN B sc (nodes e)=0 then nodeT (tyF B) e else (zTy,nodesN B sc (nodes e))) else (zTy,validE e)
theorem exprT_1 {B:List Bf} {sc:List ByteArray} {e:Ex} (h:¬validE e=0):exprT B sc e=(zTy,validE e):=by unfold exprT;rw [if_neg h]
theorem exprT_2 {B:List Bf} {sc:List ByteArray} {e:Ex} (h:validE e=0) (h2:¬nodesN B sc (nodes e)=0):exprT B sc e=(zTy,nodesN B sc (nodes e)):=by unfold exprT;rw [if_pos h,if_neg h2]
theorem exprT_3 {B:List Bf} {sc:List ByteArray} {e:Ex} (h:validE e=0) (h2:nodesN B sc (nodes e)=0):exprT B sc e=nodeT (tyF B) e:=by unfold exprT;rw [if_pos h,if_pos h2]
theorem exprT_rd {B:List Bf} {sc:List ByteArray} {s:St} (h:(exprT B sc (rdE s)).2=0):(exprT B sc (rdE s)).1=(bufD B s.Name).T:=by
 by_cases h1:validE (rdE s)=0
 ·by_cases h2:nodesN B sc (nodes (rdE s))=0
  ·rw [exprT_3 h1 h2,zNy]
   have:nodeL (tyF B) (rdE s).Args=([],0):=rfl
   rw [this,if_pos rfl,zAx rfl];rfl
  ·rw [exprT_2 h1 h2] at h;exact absurd h h2
 ·rw [exprT_1 h1] at h;exact absurd h h1
/-! ## Statements -/
def emptyE (e:Ex):Bool:=decide (e=zEx)
def isSto (s:St):Bool:=decide (s.Op=2)||decide (s.Op=3)
def synSt (s:St):Bool:=
 (decide (s.Op=1)||isSto s||decide (s.Op=4))&& !(decide (s.Op=4)&& !decide (s.Name=bs []))&& !(!decide (s.Op=1)&&(!decide (s.Many=0)|| !decide (s.Mark=0)))&&
 !(!decide (s.Op=3)&& !decide (s.Fold=0))&& !(!isSto s&&decide ((0:Int)<s.Idx.length))&& !(decide (s.Op=1)&& !emptyE s.E)&&(!isSto s||decide ((s.Body.length:Int)=0))
theorem syn_1 {s:St} (c:((!decide (s.Op=1)&& !(decide (s.Op=2)||decide (s.Op=3)))&& !decide (s.Op=4))=true):false=synSt s:=by
 unfold synSt isSto
 simp only [Bool.and_eq_true,Bool.not_eq_true',Bool.or_eq_false_iff] at c
 simp only [c.1.1,c.1.2.1,c.1.2.2,c.2,Bool.or_self,Bool.false_and]
theorem syn_2 {s:St} (c:(decide (s.Op=4)&& !decide (s.Name=bs []))=true):false=synSt s:=by
 unfold synSt;simp only [c,Bool.not_true,Bool.and_false,Bool.false_and]
theorem syn_3 {s:St} (c:(!decide (s.Op=1)&&(!decide (s.Many=0)|| !decide (s.Mark=0)))=true):false=synSt s:=by
 unfold synSt;simp only [c,Bool.not_true,Bool.and_false,Bool.false_and]
theorem syn_4 {s:St} (c:(!decide (s.Op=3)&& !decide (s.Fold=0))=true):false=synSt s:=by
 unfold synSt;simp only [c,Bool.not_true,Bool.and_false,Bool.false_and]
theorem syn_5 {s:St} (c:(!isSto s&&decide ((0:Int)<s.Idx.length))=true):false=synSt s:=by
 unfold synSt;simp only [c,Bool.not_true,Bool.and_false,Bool.false_and]
theorem syn_6 {s:St} (c:(decide (s.Op=1)&& !emptyE s.E)=true):false=synSt s:=by
 unfold synSt;simp only [c,Bool.not_true,Bool.and_false,Bool.false_and]
theorem syn_7 {s:St} (c1:((!decide (s.Op=1)&& !isSto s)&& !decide (s.Op=4))=false) (c2:(decide (s.Op=4)&& !decide (s.Name=bs []))=false) (c3:(!decide (s.Op=1)&&(!decide (s.Many=0)|| !decide (s.Mark=0)))=false) (c4:(!decide (s.Op=3)&& !decide (s.Fold=0))=false)
  (c5:(!isSto s&&decide ((0:Int)<s.Idx.length))=false) (c6:(decide (s.Op=1)&& !emptyE s.E)=false):(!isSto s||decide ((s.Body.length:Int)=0))=synSt s:=by
 have h1:(decide (s.Op=1)||isSto s||decide (s.Op=4))=true:=by
  revert c1;cases decide (s.Op=1)<;>cases isSto s<;>cases decide (s.Op=4)<;>simp
 unfold synSt
 simp only [h1,c2,c3,c4,c5,c6,Bool.not_false,Bool.true_and]
def loopE (B:List Bf) (U:List ByteArray) (s:St):Int:=
 if isNameB s.Name=true then (if hasBf B s.Name=true∨hasB U s.Name=true then 8 else if s.Many<1∨65536<s.Many∨s.Mark<0∨3<s.Mark then 1 else 0) else 7
def ifE (B:List Bf) (sc:List ByteArray) (s:St):Int:=if (exprT B sc s.E).2=0 then (if isCond s.E=true then 0 else 10) else (exprT B sc s.E).2
def storeE (B:List Bf) (sc:List ByteArray) (s:St):Int:=
 if (exprT B sc (rdE s)).2=0 then (if (bufD B s.Name).Use=1∨(s.Op=3/\(s.Fold<1∨4<s.Fold)) then 1 else
  if (exprT B sc s.E).2=0 then (if isCond s.E=true∨¬(exprT B sc s.E).1=(bufD B s.Name).T then 10 else 0) else (exprT B sc s.E).2) else (exprT B sc (rdE s)).2
def stE (B:List Bf) (U sc:List ByteArray) (s:St):Int:=
 if synSt s=true then (if s.Op=1 then loopE B U s else if s.Op=4 then ifE B sc s else storeE B sc s) else 5
structure Ck where
 U:List ByteArray
 W:List Int
 E:Int
def nextU (U:List ByteArray) (s:St):List ByteArray:=if s.Op=1 then U++[s.Name] else U
mutual
def chkS (B:List Bf):List ByteArray->List ByteArray->List Int->St->Ck
 |U,sc,here,.mk o nm mn mk fo i e b=>if stE B U sc (.mk o nm mn mk fo i e b)=0 then chkL B (nextU U (.mk o nm mn mk fo i e b)) (nextU sc (.mk o nm mn mk fo i e b)) here 0 b else ⟨[],here,stE B U sc (.mk o nm mn mk fo i e b)⟩
def chkL (B:List Bf):List ByteArray->List ByteArray->List Int->Int->List St->Ck
 |U,_,_,_,[]=>⟨U,[],0⟩
 |U,sc,way,i,s::r=>if (chkS B U sc (way++[i]) s).E=0 then chkL B (chkS B U sc (way++[i]) s).U sc way (i+1) r else chkS B U sc (way++[i]) s
end
theorem chkS_eq (B:List Bf) (U sc:List ByteArray) (here:List Int) (s:St):chkS B U sc here s=if stE B U sc s=0 then chkL B (nextU U s) (nextU sc s) here 0 s.Body else ⟨[],here,stE B U sc s⟩:=by cases s;rw [chkS];rfl
theorem chkS_no {B:List Bf} {U sc:List ByteArray} {here:List Int} {s:St} (h:¬stE B U sc s=0):chkS B U sc here s=⟨[],here,stE B U sc s⟩:=by rw [chkS_eq,if_neg h]
theorem chkS_in {B:List Bf} {U sc:List ByteArray} {here:List Int} {s:St} (h:stE B U sc s=0):chkS B U sc here s=chkL B (nextU U s) (nextU sc s) here 0 s.Body:=by rw [chkS_eq,if_pos h]
theorem chkL_next {B:List Bf} {R:Ck} {U sc:List ByteArray} {way:List Int} {l:List St} {k:Nat} {s:St} (h:l[k]? =some s) (hp:R=chkL B U sc way k (l.drop k)) (hx:(chkS B U sc (way++[(k:Int)]) s).E=0):R=chkL B (chkS B U sc (way++[(k:Int)]) s).U sc way ((k+1:Nat):Int) (l.drop (k+1)):=by
 rw [hp,qP h,chkL,if_pos hx];rfl
theorem zFz {B:List Bf} {R:Ck} {U sc:List ByteArray} {way:List Int} {l:List St} {k:Nat} {s:St} (h:l[k]? =some s) (hp:R=chkL B U sc way k (l.drop k)) (hx:¬(chkS B U sc (way++[(k:Int)]) s).E=0):R=chkS B U sc (way++[(k:Int)]) s:=by
 rw [hp,qP h,chkL,if_neg hx]
theorem chkL_end {B:List Bf} {R:Ck} {U sc:List ByteArray} {way:List Int} {l:List St} {k:Nat} (hp:R=chkL B U sc way k (l.drop k)) (h:¬k<l.length):R=⟨U,[],0⟩:=by
 rw [hp,kB h,chkL]
theorem chkL_ok:∀{B:List Bf} {l:List St} {U sc:List ByteArray} {way:List Int} {i:Int},(chkL B U sc way i l).E=0->(chkL B U sc way i l).W=[]
 |B,[],U,sc,way,i,_=>by rw [chkL]
 |B,s::r,U,sc,way,i,h=>by
  rw [chkL] at h⊢
  by_cases c:(chkS B U sc (way++[i]) s).E=0
  ·rw [if_pos c] at h⊢;exact chkL_ok h
  ·rw [if_neg c] at h;exact absurd h c
mutual
theorem chkS_len (B:List Bf):∀(s:St) (U sc:List ByteArray) (here:List Int),(chkS B U sc here s).U.length<=U.length+stN s
 |.mk o nm mn mk fo i e b,U,sc,here=>by
  rw [chkS,stN]
  split
  ·have h1:=chkL_len B b (nextU U (.mk o nm mn mk fo i e b)) (nextU sc (.mk o nm mn mk fo i e b)) here 0
   have h2:(nextU U (.mk o nm mn mk fo i e b)).length<=U.length+1:=by unfold nextU;split<;>simp
   omega
  ·simp
theorem chkL_len (B:List Bf):∀(l:List St) (U sc:List ByteArray) (way:List Int) (i:Int),(chkL B U sc way i l).U.length<=U.length+stsN l
 |[],U,sc,way,i=>by rw [chkL];simp
 |s::r,U,sc,way,i=>by
  rw [chkL,stsN]
  have h1:=chkS_len B s U sc (way++[i])
  split
  ·have h2:=chkL_len B r (chkS B U sc (way++[i]) s).U sc way (i+1)
   omega
  ·omega
end
theorem nextU_yes {U:List ByteArray} {s:St} (h:s.Op=1):nextU U s=U++[s.Name]:=by unfold nextU;rw [if_pos h]
theorem nextU_no {U:List ByteArray} {s:St} (h:¬s.Op=1):nextU U s=U:=by unfold nextU;rw [if_neg h]
theorem scAll_next {S:List ByteArray} {f:Lf} {l:List Ix} {k:Nat} {x:Ix} (h:l[k]? =some x):((inSc S f&&(l.take k).all (ixSc S))&&inSc S x.Lin&&x.At.all (inSc S))=(inSc S f&&(l.take (k+1)).all (ixSc S)):=by
 rw [yH h,List.all_append]
 simp only [List.all_cons,List.all_nil,Bool.and_true,ixSc,Bool.and_assoc]
theorem st10_t {c:Bool} {a b:Ty} (h:(c|| !litsEq [cI a.Kind,cI a.Bits,cI a.Frac,cI a.Round,cI a.Over] [cI b.Kind,cI b.Bits,cI b.Frac,cI b.Round,cI b.Over])=true):c=true∨¬a=b:=by
 rw [tyC_eq,Bool.or_eq_true] at h
 rcases h with h|h
 ·exact .inl h
 ·exact .inr (by simpa using h)
theorem st10_f {c:Bool} {a b:Ty} (h:(c|| !litsEq [cI a.Kind,cI a.Bits,cI a.Frac,cI a.Round,cI a.Over] [cI b.Kind,cI b.Bits,cI b.Frac,cI b.Round,cI b.Over])=false):¬(c=true∨¬a=b):=by
 rw [tyC_eq,Bool.or_eq_false_iff] at h
 rw [h.1]
 rintro (k|k)
 ·cases k
 ·exact k (by simpa using h.2)
theorem storeE_1 {B:List Bf} {sc:List ByteArray} {s:St} (h:¬(exprT B sc (rdE s)).2=0):storeE B sc s=(exprT B sc (rdE s)).2:=by unfold storeE;rw [if_neg h]
theorem zNt {B:List Bf} {sc:List ByteArray} {s:St} (h:(exprT B sc (rdE s)).2=0) (h2:(bufD B s.Name).Use=1∨(s.Op=3/\(s.Fold<1∨4<s.Fold))):storeE B sc s=1:=by unfold storeE;rw [if_pos h,if_pos h2]
theorem storeE_2 {B:List Bf} {sc:List ByteArray} {s:St} (h:(exprT B sc (rdE s)).2=0) (h2:¬((bufD B s.Name).Use=1∨(s.Op=3/\(s.Fold<1∨4<s.Fold)))) (h3:¬(exprT B sc s.E).2=0):storeE B sc s=(exprT B sc s.E).2:=by unfold storeE;rw [if_pos h,if_neg h2,if_neg h3]
theorem storeE_10 {B:List Bf} {sc:List ByteArray} {s:St} (h:(exprT B sc (rdE s)).2=0) (h2:¬((bufD B s.Name).Use=1∨(s.Op=3/\(s.Fold<1∨4<s.Fold)))) (h3:(exprT B sc s.E).2=0) (h4:isCond s.E=true∨¬(exprT B sc s.E).1=(bufD B s.Name).T):storeE B sc s=10:=by unfold storeE;rw [if_pos h,if_neg h2,if_pos h3,if_pos h4]
theorem storeE_0 {B:List Bf} {sc:List ByteArray} {s:St} (h:(exprT B sc (rdE s)).2=0) (h2:¬((bufD B s.Name).Use=1∨(s.Op=3/\(s.Fold<1∨4<s.Fold)))) (h3:(exprT B sc s.E).2=0) (h4:¬(isCond s.E=true∨¬(exprT B sc s.E).1=(bufD B s.Name).T)):storeE B sc s=0:=by unfold storeE;rw [if_pos h,if_neg h2,if_pos h3,if_neg h4]
theorem loopE_7 {B:List Bf} {U:List ByteArray} {s:St} (h:isNameB s.Name=false):loopE B U s=7:=by unfold loopE;rw [if_neg (by rw [h];simp)]
theorem loopE_8 {B:List Bf} {U:List ByteArray} {s:St} (h:isNameB s.Name=true) (h2:hasBf B s.Name=true∨hasB U s.Name=true):loopE B U s=8:=by unfold loopE;rw [if_pos h,if_pos h2]
theorem loopE_1 {B:List Bf} {U:List ByteArray} {s:St} (h:isNameB s.Name=true) (h2:¬(hasBf B s.Name=true∨hasB U s.Name=true)) (h3:s.Many<1∨65536<s.Many∨s.Mark<0∨3<s.Mark):loopE B U s=1:=by unfold loopE;rw [if_pos h,if_neg h2,if_pos h3]
theorem loopE_0 {B:List Bf} {U:List ByteArray} {s:St} (h:isNameB s.Name=true) (h2:¬(hasBf B s.Name=true∨hasB U s.Name=true)) (h3:¬(s.Many<1∨65536<s.Many∨s.Mark<0∨3<s.Mark)):loopE B U s=0:=by unfold loopE;rw [if_pos h,if_neg h2,if_neg h3]
theorem ifE_x {B:List Bf} {sc:List ByteArray} {s:St} (h:¬(exprT B sc s.E).2=0):ifE B sc s=(exprT B sc s.E).2:=by unfold ifE;rw [if_neg h]
theorem ifE_10 {B:List Bf} {sc:List ByteArray} {s:St} (h:(exprT B sc s.E).2=0) (h2:isCond s.E=false):ifE B sc s=10:=by unfold ifE;rw [if_pos h,if_neg (by rw [h2];simp)]
theorem ifE_0 {B:List Bf} {sc:List ByteArray} {s:St} (h:(exprT B sc s.E).2=0) (h2:isCond s.E=true):ifE B sc s=0:=by unfold ifE;rw [if_pos h,if_pos h2]
theorem stE_5 {B:List Bf} {U sc:List ByteArray} {s:St} (h:synSt s=false):stE B U sc s=5:=by unfold stE;rw [if_neg (by rw [h];simp)]
theorem stE_l {B:List Bf} {U sc:List ByteArray} {s:St} (h:synSt s=true) (h2:s.Op=1):stE B U sc s=loopE B U s:=by unfold stE;rw [if_pos h,if_pos h2]
theorem stE_i {B:List Bf} {U sc:List ByteArray} {s:St} (h:synSt s=true) (h2:s.Op=4):stE B U sc s=ifE B sc s:=by unfold stE;rw [if_pos h,if_neg (by omega),if_pos h2]
theorem stE_s {B:List Bf} {U sc:List ByteArray} {s:St} (h:synSt s=true) (h2:¬s.Op=1) (h3:¬s.Op=4):stE B U sc s=storeE B sc s:=by unfold stE;rw [if_pos h,if_neg h2,if_neg h3]
def validN (n:Ns):List Int×Int:=
 if withinT 40 n.Body=true then (if 2000<numB n.Body 2000∨128<n.Bufs.length then ([],2) else if bufsErr [] n.Bufs=0 then ((chkL n.Bufs [] [] [] 0 n.Body).W,(chkL n.Bufs [] [] [] 0 n.Body).E) else ([],bufsErr [] n.Bufs)) else ([],13)
theorem validN_13 {n:Ns} (h:withinT 40 n.Body=false):validN n=([],13):=by unfold validN;rw [if_neg (by rw [h];simp)]
theorem validN_2 {n:Ns} (h:withinT 40 n.Body=true) (h2:2000<numB n.Body 2000∨128<n.Bufs.length):validN n=([],2):=by unfold validN;rw [if_pos h,if_pos h2]
theorem validN_b {n:Ns} (h:withinT 40 n.Body=true) (h2:¬(2000<numB n.Body 2000∨128<n.Bufs.length)) (h3:¬bufsErr [] n.Bufs=0):validN n=([],bufsErr [] n.Bufs):=by unfold validN;rw [if_pos h,if_neg h2,if_neg h3]
theorem validN_c {n:Ns} (h:withinT 40 n.Body=true) (h2:¬(2000<numB n.Body 2000∨128<n.Bufs.length)) (h3:bufsErr [] n.Bufs=0):validN n=((chkL n.Bufs [] [] [] 0 n.Body).W,(chkL n.Bufs [] [] [] 0 n.Body).E):=by unfold validN;rw [if_pos h,if_neg h2,if_pos h3]
structure Ns.Ok (n:Ns):Prop where
 bufs:n.Bufs.length<=4294967296
 dims:∀b,b∈n.Bufs->b.Dims.length<=17592186044416
 body:stsWt n.Body<=536870912
end Go.Br
end
section
namespace Go.Br
open Go Go.Eng Go.L41
def idxE (i:List Ix):Ex:=.mk 0 (bs []) ⟨0,0⟩ ⟨0,0,0,0,0⟩ ⟨0,[]⟩ i []
theorem idxE_wt (i:List Ix):(idxE i).wt=1+i.length+idxWt i:=by
 rw [Ex.wt_eq];simp only [idxE,Ex.Lin,Ex.Idx,Ex.Args,argsWt,List.length_nil];omega
mutual
def weighS:St->Nat->Nat
 |.mk _ _ _ _ _ _ _ b,m=>weighSs b m b.length
def weighSs:List St->Nat->Nat->Nat
 |[],_,n=>n
 |s::r,m,n=>if n<=m then weighSs r m (n+weighE s.E m+weighE (idxE s.Idx) m+weighS s (m-n)) else n
end
def weighB (l:List St) (m:Nat):Nat:=weighSs l m l.length
theorem weighS_eq (s:St) (m:Nat):weighS s m=weighB s.Body m:=by cases s;rw [weighS];rfl
theorem weighSs_ge:∀(l:List St) (m n:Nat),n<=weighSs l m n
 |[],m,n=>by rw [weighSs];omega
 |s::r,m,n=>by
  rw [weighSs];split
  ·have:=weighSs_ge r m (n+weighE s.E m+weighE (idxE s.Idx) m+weighS s (m-n));omega
  ·omega
mutual
theorem weighS_wt:∀(s:St) (m:Nat),weighS s m<=m->stsWt s.Body<=weighS s m
 |.mk _ _ _ _ _ _ _ b,m,h=>by
  rw [weighS] at h⊢
  have:=zLl b m _ h
  have:=kP b
  simp only [St.Body];omega
theorem zLl:∀(l:List St) (m n:Nat),weighSs l m n<=m->n+(stsWt l-l.length)<=weighSs l m n
 |[],m,n,h=>by simp [weighSs,stsWt]
 |s::r,m,n,h=>by
  by_cases hn:n<=m
  ·rw [weighSs,if_pos hn] at h⊢
   have h1:=weighSs_ge r m (n+weighE s.E m+weighE (idxE s.Idx) m+weighS s (m-n))
   have h2:=zLl r m _ h
   have h3:=zOn s.E m (by omega)
   have h4:=zOn (idxE s.Idx) m (by omega)
   have h5:=weighS_wt s (m-n) (by omega)
   have h6:=kP r
   rw [idxE_wt] at h4
   rw [stsWt,List.length_cons,St.wt_eq];omega
  ·rw [weighSs,if_neg hn] at h;omega
end
theorem weighB_wt {l:List St} {m:Nat} (h:weighB l m<=m):stsWt l<=weighB l m:=by
 unfold weighB at *
 have:=zLl l m _ h
 have:=kP l
 omega
mutual
def St.fit:St->Prop
 |.mk _ _ _ _ _ i e b=>i.length<=140737488355328/\(∀x,x∈i->x.fit)/\e.fit/\b.length<=140737488355328/\fitS b
def fitS:List St->Prop
 |[]=>True
 |s::r=>s.fit/\fitS r
end
theorem zOb {l:List St} (h:fitS l):∀a,a∈l->a.fit:=by
 induction l with
 |nil=>intro a ha;cases ha
 |cons x r ih=>
  intro a ha
  rw [fitS] at h
  rcases List.mem_cons.1 ha with rfl|ha
  ·exact h.1
  ·exact ih h.2 a ha
theorem fitS_of {l:List St} (h:∀a,a∈l->a.fit):fitS l:=by
 induction l with
 |nil=>rw [fitS];trivial
 |cons x r ih=>rw [fitS];exact ⟨h x (by simp),ih fun a ha=>h a (by simp [ha])⟩
theorem St.fit_eq {s:St} (h:s.fit):s.Idx.length<=140737488355328/\(∀x,x∈s.Idx->x.fit)/\s.E.fit/\s.Body.length<=140737488355328/\fitS s.Body:=by
 cases s with
 |mk o n m k f i e b=>rw [St.fit] at h;exact h
theorem idxE_fit {i:List Ix} (h1:i.length<=140737488355328) (h2:∀x,x∈i->x.fit):(idxE i).fit:=by
 unfold idxE;rw [Ex.fit];exact ⟨by simp,h1,by simp,h2,trivial⟩
abbrev wB (m:Nat):Nat:=140737488355328+m*1125899906857624
mutual
theorem weighS_le:∀(s:St) (m:Nat),s.fit->m<=5000->weighS s m<=wB m
 |.mk o nm k f mn i e b,m,h,hm=>by
  rw [St.fit] at h
  obtain ⟨_,_,_,h1,h2⟩:=h
  rw [weighS]
  exact weighSs_le b m _ h2 hm (fun hb=>by cases b;exact absurd rfl hb;simp) (by unfold wB;omega)
theorem weighSs_le:∀(l:List St) (m n:Nat),fitS l->m<=5000->(l≠[]->1<=n)->n<=wB m->weighSs l m n<=wB m
 |[],m,n,_,_,_,h=>by rw [weighSs];exact h
 |s::r,m,n,hf,hm,h1,h=>by
  rw [fitS] at hf
  rw [weighSs]
  have h1:=h1 (by simp)
  obtain ⟨f1,f2,f3,_,_⟩:=St.fit_eq hf.1
  split
  ·rename_i hn
   have h3:=weighS_le s (m-n) hf.1 (by omega)
   have h4:=zEk s.E m f3
   have h5:=zEk (idxE s.Idx) m (idxE_fit f1 f2)
   refine weighSs_le r m _ hf.2 hm (fun _=>by omega) ?_
   unfold wB at *
   omega
  ·exact h
end
theorem weighSs_end {m n k:Nat} {l:List St} {N:Nat} {x:Int} (hp:N=weighSs (l.drop k) m n) (hx:x=m) (h:l.length<=k∨x<n):n=N:=by
 rw [hp]
 by_cases hk:k<l.length
 ·obtain ⟨a,ha⟩:=qZ l k hk
  rw [qP ha,weighSs,if_neg (by omega)]
 ·rw [kB hk,weighSs]
theorem weighSs_next {m n k:Nat} {l:List St} {N:Nat} {s:St} (hs:l[k]? =some s) (hp:N=weighSs (l.drop k) m n) (h:n<=m):N=weighSs (l.drop (k+1)) m (n+weighE s.E m+weighE (idxE s.Idx) m+weighB s.Body (m-n)):=by
 rw [hp,qP hs,weighSs,if_pos h,weighS_eq]
theorem weigh_lt {m n:Nat} {l:List St} {k:Nat} {s:St} (hs:l[k]? =some s) (hf:fitS l) (hm:m<=5000) (hn:n<=m) (h1:1<=n):n+weighE s.E m+weighE (idxE s.Idx) m+weighB s.Body (m-n)<=wB m:=by
 have hs':=zOb hf s (zZ hs)
 obtain ⟨f1,f2,f3,f4,f5⟩:=St.fit_eq hs'
 have h3:=weighS_le s (m-n) hs' (by omega)
 rw [weighS_eq] at h3
 have h4:=zEk s.E m f3
 have h5:=zEk (idxE s.Idx) m (idxE_fit f1 f2)
 unfold wB at *
 omega
/-! ## What the laws of layers 30,36 and 41 take for small -/
structure Ns.Fit (n:Ns):Prop where
 bufs:n.Bufs.length<=140737488355328
 dims:∀b,b∈n.Bufs->b.Dims.length<=17592186044416
 len:n.Body.length<=140737488355328
 body:fitS n.Body
theorem Ns.Fit.ok {n:Ns} (h:n.Fit) {m:Nat} (hm:m<=5000) (hb:n.Bufs.length<=150) (hw:weighB n.Body m<=m):n.Ok:=
 ⟨by omega,h.dims,by have:=weighB_wt hw;omega⟩
end Go.Br
end
section
namespace Go.Br
open Go Go.Eng Go.L41
/-! ## For the reference's check -/
structure Bd where
 Name:ByteArray
 Val:Int
 deriving DecidableEq
def Bd.cells (x:Bd):List C:=[cS x.Name,cI x.Val]
end Go.Br
end
section
namespace Go.Br
open Go Go.Eng Go.L41
def below (s:ByteArray) (x:ByteArray):Bool:=strLt x s
theorem zKp (x:ByteArray) (r:List ByteArray) (s:ByteArray):hasB (x::r) s=(decide (x=s)||hasB r s):=rfl
theorem hasB_mem {l:List ByteArray} {s:ByteArray}:hasB l s=true↔s∈l:=by
 unfold hasB;rw [List.any_eq_true]
 constructor
 ·rintro ⟨x,hx,h⟩;rw [decide_eq_true_eq] at h;rw [←h];exact hx
 ·intro h;exact ⟨s,h,by simp⟩
end Go.Br
end
section
namespace Go.L41
open Go Go.Eng
structure Lifetime where
 Name:ByteArray
 From:Int
 To:Int
 Size:Int
def Lifetime.cells (x:Lifetime):List C:=[cS x.Name,cI x.From,cI x.To,cI x.Size]
abbrev vL (x:Lifetime):V:=.agg x.cells
def covers (p:Int) (y:Lifetime):Bool:=decide (y.From<=p)&&decide (p<=y.To)
def cnt (l:List Lifetime) (p:Int):Int:=((l.filter (covers p)).length:Int)
theorem cnt_le (l:List Lifetime) (p:Int):0<=cnt l p/\cnt l p<=l.length:=by
 unfold cnt
 have:=List.length_filter_le (covers p) l
 omega
theorem cnt_no {l:List Lifetime} {k:Nat} {y:Lifetime} {p:Int} (h:l[k]? =some y) (c:covers p y=false):cnt (l.take (k+1)) p=cnt (l.take k) p:=by
 unfold cnt
 rw [yH h,List.filter_append]
 simp [c]
end Go.L41
end
section
namespace Go.Br
open Go Go.Eng Go.L41
theorem zAk (a b:List ByteArray) (s:ByteArray):hasB (a++b) s=(hasB a s||hasB b s):=by simp [hasB,List.any_append]
structure Sp where
 From:Int
 To:Int
end Go.Br
end
section
namespace Go.Br
open Go Go.Eng Go.L41
/-! ## Statements in preorder,with their paths -/
mutual
def preS (here:List Int):St->List (St×List Int)
 |.mk o nm mn mk fo i e b=>(.mk o nm mn mk fo i e b,here)::preL here 0 b
def preL (way:List Int):Int->List St->List (St×List Int)
 |_,[]=>[]
 |i,s::r=>preS (way++[i]) s++preL way (i+1) r
end
theorem preS_eq (here:List Int) (s:St):preS here s=(s,here)::preL here 0 s.Body:=by cases s;rw [preS];rfl
theorem zJb (way:List Int):∀(a b:List St) (i:Int),preL way i (a++b)=preL way i a++preL way (i+a.length) b
 |[],b,i=>by simp [preL]
 |x::r,b,i=>by
  rw [List.cons_append,preL,preL,zJb way r b,List.append_assoc,List.length_cons]
  rw [show i+1+(r.length:Int)=i+((r.length+1:Nat):Int) by omega]
theorem preL_next {way:List Int} {l:List St} {k:Nat} {s:St} (h:l[k]? =some s):preL way 0 (l.take (k+1))=preL way 0 (l.take k)++preS (way++[(k:Int)]) s:=by
 have hk:=(List.getElem?_eq_some_iff.1 h).1
 rw [yH h,zJb,List.length_take,Nat.min_eq_left (by omega),Int.zero_add]
 simp [preL]
theorem preL_at {way:List Int} {l:List St} {k:Nat} {s:St} (h:l[k]? =some s):preL way 0 l=preL way 0 (l.take k)++(preS (way++[(k:Int)]) s++preL way ((k:Int)+1) (l.drop (k+1))):=by
 have hk:=(List.getElem?_eq_some_iff.1 h).1
 have e:l=l.take k++s::l.drop (k+1):=by rw [←qP h,List.take_append_drop]
 have e2:=congrArg (preL way 0) e
 rw [zJb,List.length_take,Nat.min_eq_left (by omega),Int.zero_add,preL] at e2
 exact e2
theorem pre_at1 {way:List Int} {l:List St} {k:Nat} {s:St} (h:l[k]? =some s):preL way 0 l=preL way 0 (l.take k)++(s,way++[(k:Int)])::(preL (way++[(k:Int)]) 0 s.Body++preL way ((k:Int)+1) (l.drop (k+1))):=by
 rw [preL_at h,preS_eq];rfl
theorem pre_at2 {way:List Int} {l:List St} {k:Nat} {s:St} {pre suf:List (St×List Int)} {x:St×List Int} (h:l[k]? =some s) (hx:preL (way++[(k:Int)]) 0 s.Body=pre++x::suf):preL way 0 l=(preL way 0 (l.take k)++(s,way++[(k:Int)])::pre)++x::(suf++preL way ((k:Int)+1) (l.drop (k+1))):=by
 rw [pre_at1 h,hx];simp
mutual
theorem preS_len (here:List Int):∀s:St,(preS here s).length=stN s
 |.mk o nm mn mk fo i e b=>by rw [preS,stN,List.length_cons,zNx here b];omega
theorem zNx (way:List Int):∀(l:List St) (i:Int),(preL way i l).length=stsN l
 |[],i=>by rw [preL,stsN];rfl
 |s::r,i=>by rw [preL,stsN,List.length_append,preS_len,zNx way r]
end
theorem stsN_take {l:List St} {k:Nat} {s:St} (h:l[k]? =some s):stsN (l.take k)+(1+stsN s.Body)<=stsN l:=by
 have h2:stsN l=stsN (l.take k)+(stN s+stsN (l.drop (k+1))):=by
  rw [←stsN,←qP h,←zIv,List.take_append_drop]
 have:=zIl s
 omega
def loopNm (s:St):List ByteArray:=if s.Op=1 then [s.Name] else []
def loopsA (l:List (St×List Int)):List ByteArray:=l.flatMap fun x=>loopNm x.1
mutual
def loopsS:St->List ByteArray
 |.mk o nm mn mk fo i e b=>loopNm (.mk o nm mn mk fo i e b)++loopsL b
def loopsL:List St->List ByteArray
 |[]=>[]
 |s::r=>loopsS s++loopsL r
end
theorem zCa (s:St):loopsS s=loopNm s++loopsL s.Body:=by cases s;rw [loopsS];rfl
theorem loopsA_append (a b:List (St×List Int)):loopsA (a++b)=loopsA a++loopsA b:=by unfold loopsA;rw [List.flatMap_append]
mutual
theorem loopsA_S (here:List Int):∀s:St,loopsA (preS here s)=loopsS s
 |.mk o nm mn mk fo i e b=>by
  rw [preS,loopsS,←loopsA_L here b 0];rfl
theorem loopsA_L (way:List Int):∀(l:List St) (i:Int),loopsA (preL way i l)=loopsL l
 |[],i=>by rw [preL,loopsL];rfl
 |s::r,i=>by rw [preL,loopsL,loopsA_append,loopsA_S,loopsA_L way r]
end
theorem loopsL_next {l:List St} {k:Nat} {s:St} (h:l[k]? =some s):loopsL (l.take (k+1))=loopsL (l.take k)++(loopNm s++loopsL s.Body):=by
 have:∀a b:List St,loopsL (a++b)=loopsL a++loopsL b:=by
  intro a b
  induction a with
  |nil=>rw [loopsL];rfl
  |cons x r ih=>rw [List.cons_append,loopsL,loopsL,ih,List.append_assoc]
 rw [yH h,this,loopsL,loopsL,List.append_nil,zCa]
def isLoop (t:ByteArray) (s:St):Bool:=decide (s.Op=1)&&decide (s.Name=t)
def hitN (t:ByteArray) (x:St×List Int):Bool:=isLoop t x.1
def findA (t:ByteArray) (l:List (St×List Int)):Option (List Int):=(l.find? (hitN t)).map (·.2)
def findN (l:List St) (t:ByteArray):Option (List Int):=findA t (preL [] 0 l)
theorem findA_none {t:ByteArray} {l:List (St×List Int)} (h:l.any (hitN t)=false):findA t l=none:=by
 unfold findA
 rw [List.find?_eq_none.2 (fun x hx hh=>by
  rw [List.any_eq_false] at h
  exact h x hx hh)];rfl
theorem findA_some {t:ByteArray} {pre suf:List (St×List Int)} {x:St×List Int} (h:pre.any (hitN t)=false) (hx:hitN t x=true):findA t (pre++x::suf)=some x.2:=by
 unfold findA
 rw [List.find?_append,List.find?_eq_none.2 (fun y hy hh=>by
  rw [List.any_eq_false] at h
  exact h y hy hh),List.find?_cons_of_pos hx];rfl
theorem any_one {t:ByteArray} {pre:List (St×List Int)} {x:St×List Int} (h:pre.any (hitN t)=false) (hx:hitN t x=false):(pre++[x]).any (hitN t)=false:=by
 rw [List.any_append,h];simp [hx]
mutual
def fndS (t:ByteArray):St->Option (List Int)
 |.mk o nm mn mk fo i e b=>if isLoop t (.mk o nm mn mk fo i e b)=true then some [] else fndL t 0 b
def fndL (t:ByteArray):Int->List St->Option (List Int)
 |_,[]=>none
 |i,s::r=>match fndS t s with|some w=>some (i::w)|none=>fndL t (i+1) r
end
theorem zJf (t:ByteArray) (s:St):fndS t s=if isLoop t s=true then some [] else fndL t 0 s.Body:=by cases s;rw [fndS];rfl
theorem findA_append (t:ByteArray) (a b:List (St×List Int)):findA t (a++b)=match findA t a with|some w=>some w|none=>findA t b:=by
 unfold findA
 rw [List.find?_append]
 cases List.find? (hitN t) a<;>rfl
mutual
theorem fndS_find (t:ByteArray):∀(s:St) (here:List Int),findA t (preS here s)=(fndS t s).map (here++ ·)
 |.mk o nm mn mk fo i e b,here=>by
  rw [preS,fndS]
  by_cases h:isLoop t (.mk o nm mn mk fo i e b)=true
  ·rw [if_pos h,findA,List.find?_cons_of_pos (by exact h)];simp
  ·rw [if_neg h]
   have:findA t ((.mk o nm mn mk fo i e b,here)::preL here 0 b)=findA t (preL here 0 b):=by
    unfold findA;rw [List.find?_cons_of_neg (by exact h)]
   rw [this,zQk t b here 0]
theorem zQk (t:ByteArray):∀(l:List St) (way:List Int) (i:Int),findA t (preL way i l)=(fndL t i l).map (way++ ·)
 |[],way,i=>by rw [preL,fndL];rfl
 |s::r,way,i=>by
  rw [preL,fndL,findA_append,fndS_find t s,zQk t r]
  cases fndS t s<;>simp
end
theorem zEu (l:List St) (t:ByteArray):findN l t=fndL t 0 l:=by
 unfold findN;rw [zQk];cases fndL t 0 l<;>simp
theorem fndL_ne (t:ByteArray):∀(l:List St) (i:Int) (u:List Int),fndL t i l=some u->u≠[]
 |[],i,u,h=>by rw [fndL] at h;cases h
 |s::r,i,u,h=>by
  rw [fndL] at h
  cases c:fndS t s with
  |some w=>rw [c] at h;simp only [Option.some.injEq] at h;rw [←h];simp
  |none=>rw [c] at h;exact fndL_ne t r (i+1) u h
mutual
theorem fndS_len (t:ByteArray):∀(s:St) (w:List Int),fndS t s=some w->w.length+1<=stN s
 |.mk o nm mn mk fo i e b,w,h=>by
  rw [fndS] at h
  split at h
  ·simp only [Option.some.injEq] at h;rw [←h,stN];simp
  ·rw [stN];have:=fndL_len t b 0 w h;omega
theorem fndL_len (t:ByteArray):∀(l:List St) (i:Int) (w:List Int),fndL t i l=some w->w.length<=stsN l
 |[],i,w,h=>by rw [fndL] at h;cases h
 |s::r,i,w,h=>by
  rw [fndL] at h
  rw [stsN]
  cases c:fndS t s with
  |some u=>rw [c] at h;simp only [Option.some.injEq] at h;rw [←h,List.length_cons];have:=fndS_len t s u c;omega
  |none=>rw [c] at h;have:=fndL_len t r (i+1) w h;omega
end
theorem fndL_getD (t:ByteArray) (l:List St) (i:Int):((fndL t i l).getD []).length<=stsN l:=by
 cases h:fndL t i l with
 |none=>simp
 |some w=>exact fndL_len t l i w h
theorem findN_ne {t:ByteArray} {l:List St} {u:List Int} (h:findN l t=some u):u≠[]:=by rw [zEu] at h;exact fndL_ne t l 0 u h
theorem fndL_next {t:ByteArray} {l:List St} {k:Nat} {s:St} {R:Option (List Int)} (h:l[k]? =some s) (hp:R=fndL t k (l.drop k)) (hs:fndS t s=none):R=fndL t ((k+1:Nat):Int) (l.drop (k+1)):=by
 rw [hp,qP h,fndL,hs];rfl
theorem fndL_hit {t:ByteArray} {l:List St} {k:Nat} {s:St} {w:List Int} {R:Option (List Int)} (h:l[k]? =some s) (hp:R=fndL t k (l.drop k)) (hs:fndS t s=some w):R=some ((k:Int)::w):=by
 rw [hp,qP h,fndL,hs]
theorem fnd_2 {t:ByteArray} {l:List St} {k:Nat} {s:St} {R:Option (List Int)} (h:l[k]? =some s) (hp:R=fndL t k (l.drop k)) (c2:¬isLoop t s=true) (c3:(fndL t 0 s.Body).isSome=true):R=some ((k:Int)::(fndL t 0 s.Body).getD []):=by
 obtain ⟨w,hw⟩:=Option.isSome_iff_exists.1 c3
 rw [hw]
 exact fndL_hit h hp (by rw [zJf,if_neg c2,hw];rfl)
theorem fnd_0 {t:ByteArray} {l:List St} {k:Nat} {s:St} {R:Option (List Int)} (h:l[k]? =some s) (hp:R=fndL t k (l.drop k)) (c2:¬isLoop t s=true) (c3:(fndL t 0 s.Body).isSome=false):R=fndL t ((k+1:Nat):Int) (l.drop (k+1)):=
 fndL_next h hp (by rw [zJf,if_neg c2];simpa using c3)
theorem fnd_1 {t:ByteArray} {l:List St} {k:Nat} {s:St} {R:Option (List Int)} (h:l[k]? =some s) (hp:R=fndL t k (l.drop k)) (c2:isLoop t s=true):R=some [(k:Int)]:=
 fndL_hit h hp (by rw [zJf,if_pos c2])
theorem fndL_end {t:ByteArray} {l:List St} {k:Nat} {R:Option (List Int)} (hp:R=fndL t k (l.drop k)) (h:¬k<l.length):R=none:=by
 rw [hp,kB h,fndL]
/-! ## Statements with all forms mapped -/
mutual
def mSt (f:Lf->Lf×Int) (g:ByteArray->ByteArray):St->Except Int St
 |.mk o nm mn mk fo i e b=>match mIxs f i with
  |.error y=>.error y
  |.ok i'=>match mEx f e with
   |.error y=>.error y
   |.ok e'=>match mSts f g b with
    |.error y=>.error y
    |.ok b'=>.ok (.mk o (if o=1 then g nm else nm) mn mk fo i' e' b')
def mSts (f:Lf->Lf×Int) (g:ByteArray->ByteArray):List St->Except Int (List St)
 |[]=>.ok []
 |s::r=>match mSt f g s with
  |.error y=>.error y
  |.ok s'=>match mSts f g r with
   |.error y=>.error y
   |.ok r'=>.ok (s'::r')
end
theorem mSt_eq (f:Lf->Lf×Int) (g:ByteArray->ByteArray) (s:St):mSt f g s=match mIxs f s.Idx with
  |.error y=>.error y
  |.ok i'=>match mEx f s.E with
   |.error y=>.error y
   |.ok e'=>match mSts f g s.Body with
    |.error y=>.error y
    |.ok b'=>.ok (.mk s.Op (if s.Op=1 then g s.Name else s.Name) s.Many s.Mark s.Fold i' e' b'):=by cases s;rw [mSt];rfl
theorem mSt_e1 {f:Lf->Lf×Int} {g:ByteArray->ByteArray} {s:St} {c:Int} (h:mIxs f s.Idx=.error c):mSt f g s=.error c:=by rw [mSt_eq,h]
theorem mSt_e2 {f:Lf->Lf×Int} {g:ByteArray->ByteArray} {s:St} {c:Int} {i:List Ix} (h:mIxs f s.Idx=.ok i) (h2:mEx f s.E=.error c):mSt f g s=.error c:=by rw [mSt_eq,h];simp only [h2]
theorem mSt_e3 {f:Lf->Lf×Int} {g:ByteArray->ByteArray} {s:St} {c:Int} {i:List Ix} {e:Ex} (h:mIxs f s.Idx=.ok i) (h2:mEx f s.E=.ok e) (h3:mSts f g s.Body=.error c):mSt f g s=.error c:=by rw [mSt_eq,h];simp only [h2,h3]
theorem mSt_ok {f:Lf->Lf×Int} {g:ByteArray->ByteArray} {s:St} {i:List Ix} {e:Ex} {b:List St} (h:mIxs f s.Idx=.ok i) (h2:mEx f s.E=.ok e) (h3:mSts f g s.Body=.ok b):mSt f g s=.ok (.mk s.Op (if s.Op=1 then g s.Name else s.Name) s.Many s.Mark s.Fold i e b):=by rw [mSt_eq,h];simp only [h2,h3]
mutual
theorem mSt_ne {f:Lf->Lf×Int} {g:ByteArray->ByteArray}:∀s:St,mSt f g s≠ .error 0
 |.mk o nm mn mk fo i e b=>by
  rw [mSt]
  cases h1:mIxs f i with
  |error y=>intro h;cases h;exact zPq h1
  |ok a=>
   cases h2:mEx f e with
   |error y=>intro h;simp only at h;cases h;exact mEx_ne e h2
   |ok a=>
    cases h3:mSts f g b with
    |error y=>intro h;simp only at h;cases h;exact mSts_ne b h3
    |ok a=>simp
theorem mSts_ne {f:Lf->Lf×Int} {g:ByteArray->ByteArray}:∀l:List St,mSts f g l≠ .error 0
 |[]=>by simp [mSts]
 |x::r=>by
  rw [mSts]
  cases h1:mSt f g x with
  |error y=>intro h;cases h;exact mSt_ne x h1
  |ok a=>
   cases h2:mSts f g r with
   |error y=>intro h;simp only at h;cases h;exact mSts_ne r h2
   |ok a=>simp
end
def outS:Except Int (List St)->List St
 |.ok l=>l
 |.error _=>[]
theorem mSts_next {f:Lf->Lf×Int} {g:ByteArray->ByteArray} {l:List St} {k:Nat} {x y:St} {done:List St} (h:l[k]? =some x) (hp:mSts f g l=mapRest done (mSts f g (l.drop k))) (hx:mSt f g x=.ok y):mSts f g l=mapRest (done++[y]) (mSts f g (l.drop (k+1))):=by
 rw [hp,qP h,mSts,hx]
 cases mSts f g (l.drop (k+1))<;>simp [mapRest,andThenE]
theorem zMc {f:Lf->Lf×Int} {g:ByteArray->ByteArray} {l:List St} {k:Nat} {x:St} {done:List St} {c:Int} (h:l[k]? =some x) (hp:mSts f g l=mapRest done (mSts f g (l.drop k))) (hx:mSt f g x=.error c):mSts f g l=.error c:=by
 rw [hp,qP h,mSts,hx];rfl
theorem mSts_end {f:Lf->Lf×Int} {g:ByteArray->ByteArray} {l:List St} {k:Nat} {done:List St} (hp:mSts f g l=mapRest done (mSts f g (l.drop k))) (h:¬k<l.length):mSts f g l=.ok done:=by
 rw [hp,kB h];simp [mSts,mapRest,andThenE]
mutual
theorem mSt_id:∀s:St,mSt idF (fun x=>x) s=.ok s
 |.mk o nm mn mk fo i e b=>by
  rw [mSt,mIxs_id,mEx_id];simp only [mSts_id b]
  by_cases h:o=1
  ·rw [if_pos h]
  ·rw [if_neg h]
theorem mSts_id:∀l:List St,mSts idF (fun x=>x) l=.ok l
 |[]=>by rw [mSts]
 |x::r=>by rw [mSts,mSt_id x,mSts_id r]
end
def ixsAll (P:Lf->Prop) (i:List Ix):Prop:=∀x,x∈i->P x.Lin/\∀l,l∈x.At->P l
mutual
def St.allF (P:Lf->Prop):St->Prop
 |.mk _ _ _ _ _ i e b=>ixsAll P i/\e.allF P/\allSs P b
def allSs (P:Lf->Prop):List St->Prop
 |[]=>True
 |s::r=>s.allF P/\allSs P r
end
theorem St.allF_eq {P:Lf->Prop} {s:St} (h:s.allF P):ixsAll P s.Idx/\s.E.allF P/\allSs P s.Body:=by cases s;rw [St.allF] at h;exact h
theorem kJ {P:Lf->Prop}:∀{l:List St},allSs P l->∀s,s∈l->s.allF P
 |[],_,s,hs=>by cases hs
 |x::r,h,s,hs=>by
  rw [allSs] at h
  rcases List.mem_cons.1 hs with rfl|hs
  ·exact h.1
  ·exact kJ h.2 s hs
theorem zIc {P:Lf->Prop}:∀{l:List St},(∀s,s∈l->s.allF P)->allSs P l
 |[],_=>by rw [allSs];trivial
 |x::r,h=>by rw [allSs];exact ⟨h x (by simp),zIc fun s hs=>h s (by simp [hs])⟩
end Go.Br
end
section
namespace Go.Br
open Go Go.Eng Go.L41
def zSt:St:=.mk 0 (bs []) 0 0 0 [] zEx []
def trl:List Int->List St->List St->List St
 |[],_,out=>out
 |i::r,l,out=>if 0<=i/\i<l.length then trl r (l.getD i.toNat zSt).Body (out++[l.getD i.toNat zSt]) else []
def trailT (l:List St) (way:List Int):List St:=trl way l []
theorem trl_next {way:List Int} {k:Nat} {i:Int} {l:List St} {out R:List St} (h:way[k]? =some i) (hp:R=trl (way.drop k) l out) (hi:0<=i/\i<l.length):R=trl (way.drop (k+1)) (l.getD i.toNat zSt).Body (out++[l.getD i.toNat zSt]):=by
 rw [hp,qP h,trl,if_pos hi]
theorem trl_no {way:List Int} {k:Nat} {i:Int} {l:List St} {out R:List St} (h:way[k]? =some i) (hp:R=trl (way.drop k) l out) (hi:¬(0<=i/\i<l.length)):R=[]:=by
 rw [hp,qP h,trl,if_neg hi]
theorem trl_end {way:List Int} {k:Nat} {l:List St} {out R:List St} (hp:R=trl (way.drop k) l out) (h:¬k<way.length):R=out:=by
 rw [hp,kB h,trl]
theorem zLs {l:List St} {i:Int} (h:0<=i/\i<l.length):l[i.toNat]? =some (l.getD i.toNat zSt):=by
 have:i.toNat<l.length:=by omega
 rw [List.getElem?_eq_getElem this,List.getD,List.getElem?_eq_getElem this];rfl
theorem zLr {l:List St} {i:Int} (h:0<=i/\i<l.length):l.getD i.toNat zSt∈l:=zZ (zLs h)
def atF:List Int->List St->St->St×Bool
 |[],_,s=>(s,true)
 |i::r,l,_=>if 0<=i/\i<l.length then atF r (l.getD i.toNat zSt).Body (l.getD i.toNat zSt) else (zSt,false)
def atT (l:List St) (way:List Int):St×Bool:=if way=[] then (zSt,false) else atF way l zSt
theorem atF_next {way:List Int} {k:Nat} {i:Int} {l:List St} {s:St} {R:St×Bool} (h:way[k]? =some i) (hp:R=atF (way.drop k) l s) (hi:0<=i/\i<l.length):R=atF (way.drop (k+1)) (l.getD i.toNat zSt).Body (l.getD i.toNat zSt):=by
 rw [hp,qP h,atF,if_pos hi]
theorem atF_no {way:List Int} {k:Nat} {i:Int} {l:List St} {s:St} {R:St×Bool} (h:way[k]? =some i) (hp:R=atF (way.drop k) l s) (hi:¬(0<=i/\i<l.length)):R=(zSt,false):=by
 rw [hp,qP h,atF,if_neg hi]
theorem atF_end {way:List Int} {k:Nat} {l:List St} {s:St} {R:St×Bool} (hp:R=atF (way.drop k) l s) (h:¬k<way.length):R=(s,true):=by
 rw [hp,kB h,atF]
theorem trl_atF:∀(way:List Int) (l out:List St) (s:St),out≠[]->out.getLast? =some s->(trl way l out=[]/\(atF way l s).2=false/\atF way l s=(zSt,false))∨(trl way l out≠[]/\(trl way l out).getLast? =some (atF way l s).1/\(atF way l s).2=true)
 |[],l,out,s,h,h2=>.inr ⟨h,h2,rfl⟩
 |i::r,l,out,s,h,h2=>by
  rw [trl,atF]
  by_cases hi:0<=i/\i<l.length
  ·rw [if_pos hi,if_pos hi]
   exact trl_atF r _ _ _ (by simp) (by simp)
  ·rw [if_neg hi,if_neg hi];exact .inl ⟨rfl,rfl,rfl⟩
theorem trail_at (l:List St) (way:List Int):(trailT l way=[]/\atT l way=(zSt,false))∨(trailT l way≠[]/\(trailT l way).getLast? =some (atT l way).1/\(atT l way).2=true):=by
 unfold trailT atT
 cases way with
 |nil=>exact .inl ⟨rfl,if_pos rfl⟩
 |cons i r=>
  rw [if_neg (by simp),trl,atF]
  by_cases hi:0<=i/\i<l.length
  ·rw [if_pos hi,if_pos hi]
   rcases trl_atF r (l.getD i.toNat zSt).Body ([]++[l.getD i.toNat zSt]) (l.getD i.toNat zSt) (by simp) (by simp) with ⟨h1,h2,h3⟩|h
   ·exact .inl ⟨h1,h3⟩
   ·exact .inr h
  ·rw [if_neg hi,if_neg hi];exact .inl ⟨rfl,rfl⟩
theorem trl_len:∀(way:List Int) (l out:List St),(trl way l out).length<=out.length+way.length
 |[],l,out=>by simp [trl]
 |i::r,l,out=>by
  rw [trl];split
  ·have:=trl_len r (l.getD i.toNat zSt).Body (out++[l.getD i.toNat zSt])
   simp only [List.length_append,List.length_cons,List.length_nil] at this⊢;omega
  ·simp
def wayOk:List Int->List St->Prop
 |[],_=>True
 |i::r,l=>(0<=i/\i<l.length)/\wayOk r (l.getD i.toNat zSt).Body
theorem way_at {l0:List St}:∀{way:List Int} {l:List St} {s:St},(atF way l s).2=true->wayOk way l
 |[],_,_,_=>trivial
 |i::r,l,s,h=>by
  rw [atF] at h
  by_cases hi:0<=i/\i<l.length
  ·rw [if_pos hi] at h;exact ⟨hi,way_at (l0:=l0) h⟩
  ·rw [if_neg hi] at h;cases h
theorem way_of {l:List St} {way:List Int} (h:(atT l way).2=true):way≠[]/\wayOk way l:=by
 unfold atT at h
 by_cases hw:way=[]
 ·rw [if_pos hw] at h;cases h
 ·rw [if_neg hw] at h;exact ⟨hw,way_at (l0:=l) h⟩
theorem at_some {l:List St} {way:List Int} (h:trailT l way≠[]):(atT l way).2=true:=by
 rcases trail_at l way with ⟨h1,_⟩|⟨_,_,h1⟩
 ·exact absurd h1 h
 ·exact h1
theorem at_none {l:List St} {way:List Int} (h:trailT l way=[]):atT l way=(zSt,false):=by
 rcases trail_at l way with ⟨_,h1⟩|⟨h1,_⟩
 ·exact h1
 ·exact absurd h h1
theorem at_last {l:List St} {way:List Int} (h:trailT l way≠[]):(trailT l way).drop ((trailT l way).length-1)=[(atT l way).1]:=by
 rcases trail_at l way with ⟨h1,_⟩|⟨_,h2,_⟩
 ·exact absurd h1 h
 ·have hl:0<(trailT l way).length:=List.length_pos_iff.2 h
  have hg:(trailT l way)[(trailT l way).length-1]? =some (atT l way).1:=by rw [←List.getLast?_eq_getElem?];exact h2
  rw [qP hg,show (trailT l way).length-1+1=(trailT l way).length by omega,List.drop_length]
theorem atF_le:∀{way:List Int} {l:List St} {s:St} {B:Nat},stsWt l<=B->s.wt<=B->(atF way l s).1.wt<=B+2
 |[],l,s,B,_,h=>by rw [atF];show s.wt<=_;omega
 |i::r,l,s,B,h,h2=>by
  rw [atF]
  split
  ·rename_i hi
   have h1:=yG (zLr hi)
   have h2:=St.body_wt (l.getD i.toNat zSt)
   exact atF_le (by omega) (by omega)
  ·show zSt.wt<=_
   have:zSt.wt=2:=by decide
   omega
theorem atF_le' {way : List Int} {l : List St} {B : Nat} (h : stsWt l ≤ B) : (atF way l zSt).1.wt ≤ B + 2:= by
  cases way with
  | nil => show zSt.wt ≤ _; have : zSt.wt = 2:= by decide
           omega
  | cons i r =>
    rw [atF]
    split
    · rename_i hi
      have h1 := yG (zLr hi)
      have h2 := St.body_wt (l.getD i.toNat zSt)
      exact atF_le (by omega) (by omega)
    · show zSt.wt ≤ _
      have : zSt.wt = 2:= by decide
      omega
theorem zSt_wt:zSt.wt=2:=by decide
theorem atT_wt {l:List St} {way:List Int}:(atT l way).1.wt<=stsWt l+2:=by
 unfold atT
 split
 ·show zSt.wt<=_;rw [zSt_wt];omega
 ·exact atF_le' (Nat.le_refl _)
end Go.Br
end
section
namespace Go.Br
open Go Go.Eng Go.L41
/-! ## Numerals -/
def decB (n:Nat):ByteArray:=⟨(Lib.decDigits n).toArray⟩
def nmK (base:ByteArray) (k:Nat):ByteArray:=if k=0 then base else base++decB k
end Go.Br
end
section
namespace Go.Br
open Go Go.Eng Go.L41
/-! ## One form: a name for a name -/
def vrL (t:ByteArray):Lf:=⟨0,[⟨t,1⟩]⟩
mutual
def gSt (g:Lf->Lf) (r:ByteArray->ByteArray):St->St
 |.mk o nm mn mk fo i e b=>.mk o (if o=1 then r nm else nm) mn mk fo (i.map (gIx g)) (gEx g e) (gSts g r b)
def gSts (g:Lf->Lf) (r:ByteArray->ByteArray):List St->List St
 |[]=>[]
 |s::t=>gSt g r s::gSts g r t
end
theorem mIxs_sure (g:Lf->Lf) (i:List Ix):mIxs (fun l=>(g l,0)) i=.ok (i.map (gIx g)):=by
 cases h:mIxs (fun l=>(g l,0)) i with
 |error c=>
  obtain ⟨x,_,hx⟩:=mIxs_er h
  have:c=0:=hx.symm
  subst this
  exact absurd h zPq
 |ok a=>rw [(mIxs_g h).1]
theorem mEx_sure (g:Lf->Lf) (e:Ex):mEx (fun l=>(g l,0)) e=.ok (gEx g e):=by
 cases h:mEx (fun l=>(g l,0)) e with
 |error c=>
  have:c=0:=mEx_er (P:=fun c=>c=0) e (fun _ _ _ _=>rfl) c h
  subst this
  exact absurd h (mEx_ne e)
 |ok a=>rw [(mEx_g h).1]
theorem nodesN_all {B:List Bf} {sc:List ByteArray}:∀{l:List Ex},nodesN B sc l=0↔∀x,x∈l->nodeN B sc x=0
 |[]=>by simp [nodesN]
 |x::r=>by
  rw [nodesN]
  by_cases h:nodeN B sc x=0
  ·rw [if_pos h,nodesN_all (l:=r)];simp [h]
  ·rw [if_neg h];simp [h]
theorem lin_in (e:Ex):e.Lin∈formsL e:=by unfold formsL;simp
theorem ix_in {e:Ex} {x:Ix} (h:x∈e.Idx):x.Lin∈formsL e/\∀l,l∈x.At->l∈formsL e:=by
 unfold formsL
 refine ⟨List.mem_cons_of_mem _ (List.mem_flatMap.2 ⟨x,h,by simp⟩),fun l hl=>List.mem_cons_of_mem _ (List.mem_flatMap.2 ⟨x,h,by simp [hl]⟩)⟩
theorem zCq {B:List Bf} {sc:List ByteArray} {e:Ex} (h:(exprT B sc e).2=0):validE e=0/\nodesN B sc (nodes e)=0:=by
 by_cases h1:validE e=0
 ·by_cases h2:nodesN B sc (nodes e)=0
  ·exact ⟨h1,h2⟩
  ·rw [exprT_2 h1 h2] at h;exact absurd h h2
 ·rw [exprT_1 h1] at h;exact absurd h h1
theorem zFf {n:Ns} (h:(validN n).2=0):withinT 40 n.Body=true/\¬(2000<numB n.Body 2000∨128<n.Bufs.length)/\bufsErr [] n.Bufs=0/\(chkL n.Bufs [] [] [] 0 n.Body).E=0:=by
 have h1:withinT 40 n.Body=true:=by
  cases c:withinT 40 n.Body with
  |true=>rfl
  |false=>rw [validN_13 c] at h;cases h
 have h2:¬(2000<numB n.Body 2000∨128<n.Bufs.length):=fun c=>by rw [validN_2 h1 c] at h;cases h
 have h3:bufsErr [] n.Bufs=0:=by
  by_cases c:bufsErr [] n.Bufs=0
  ·exact c
  ·rw [validN_b h1 h2 c] at h;exact absurd h c
 rw [validN_c h1 h2 h3] at h
 exact ⟨h1,h2,h3,h⟩
theorem gIx_id {g:Lf->Lf} {x:Ix} (h1:g x.Lin=x.Lin) (h2:∀l,l∈x.At->g l=l):gIx g x=x:=by
 unfold gIx
 rw [h1,show x.At.map g=x.At from by
  rw [List.map_congr_left (g:=id) (fun l hl=>h2 l hl)];simp]
theorem gIxs_id {g:Lf->Lf} {l:List Ix} (h:∀x,x∈l->g x.Lin=x.Lin/\∀y,y∈x.At->g y=y):l.map (gIx g)=l:=by
 rw [show l.map (gIx g)=l.map id from List.map_congr_left fun x hx=>gIx_id (h x hx).1 (h x hx).2];simp
theorem gEx_id {g:Lf->Lf}:∀e:Ex,e.allF (fun l=>g l=l)->gEx g e=e:=by
 intro e
 induction e using Ex.ind with
 |_ e ih=>
  intro h
  have h0:∀l,l∈formsL e->g l=l:=h e (by rw [kV];simp)
  have hA:e.Args.map (gEx g)=e.Args:=by
   rw [List.map_congr_left (g:=id) (fun a ha=>ih a ha fun x hx l hl=>h x (by
    rw [kV]
    refine List.mem_cons_of_mem _ ?_
    have:∀l:List Ex,a∈l->x∈nodes a->x∈nodesL l:=by
     intro l
     induction l with
     |nil=>intro h;cases h
     |cons b r ih2=>
      intro hm hx
      rw [nodesL]
      rcases List.mem_cons.1 hm with rfl|hm
      ·exact List.mem_append_left _ hx
      ·exact List.mem_append_right _ (ih2 hm hx)
    exact this e.Args ha hx) l hl)];simp
  rw [gEx_eq,h0 _ (lin_in e),gIxs_id (fun x hx=>⟨h0 _ (ix_in hx).1,fun y hy=>h0 _ ((ix_in hx).2 y hy)⟩),hA]
  cases e;rfl
theorem gIx_gIx (g g':Lf->Lf) (x:Ix):gIx g' (gIx g x)=gIx (fun l=>g' (g l)) x:=by
 unfold gIx;simp [List.map_map,Function.comp_def]
mutual
theorem gEx_gEx (g g':Lf->Lf):∀e:Ex,gEx g' (gEx g e)=gEx (fun l=>g' (g l)) e
 |.mk o n v t l i a=>by
  rw [gEx,gEx,gEx,gExs_gExs g g' a,List.map_map]
  congr 1
  exact List.map_congr_left fun x _=>gIx_gIx g g' x
theorem gExs_gExs (g g':Lf->Lf):∀l:List Ex,gExs g' (gExs g l)=gExs (fun l=>g' (g l)) l
 |[]=>by rw [gExs,gExs,gExs]
 |a::r=>by rw [gExs,gExs,gExs,gEx_gEx g g' a,gExs_gExs g g' r]
end
theorem ixsAll_and {P Q:Lf->Prop} {i:List Ix} (h1:ixsAll P i) (h2:ixsAll Q i):ixsAll (fun l=>P l/\Q l) i:=fun x hx=>⟨⟨(h1 x hx).1,(h2 x hx).1⟩,fun l hl=>⟨(h1 x hx).2 l hl,(h2 x hx).2 l hl⟩⟩
theorem syn_parts {s:St} (h:synSt s=true):(isSto s=false->s.Idx=[])/\(s.Op=1->s.E=zEx):=by
 unfold synSt at h
 simp only [Bool.and_eq_true] at h
 obtain ⟨⟨⟨⟨⟨⟨h1,h2⟩,h3⟩,h4⟩,h5⟩,h6⟩,h7⟩:=h
 constructor
 ·intro hs
  rw [hs] at h5
  have:¬(0:Int)<s.Idx.length:=by simpa using h5
  exact List.eq_nil_of_length_eq_zero (by omega)
 ·intro ho
  rw [decide_eq_true ho] at h6
  have:emptyE s.E=true:=by simpa using h6
  unfold emptyE at this
  simpa using this
theorem zOj {P:Lf->Prop} (h:P ⟨0,[]⟩):zEx.allF P:=by
 refine nodes_allF (fun l hl=>?_) (fun a ha=>by cases ha)
 unfold formsL at hl
 rcases List.mem_cons.1 hl with rfl|hl
 ·exact h
 ·cases hl
theorem stE_lin {B:List Bf} {U sc:List ByteArray} {s:St} (h:stE B U sc s=0):ixsAll (fun l=>linOk l=true) s.Idx/\s.E.allF (fun l=>linOk l=true):=by
 have hs:synSt s=true:=by
  cases c:synSt s with
  |true=>rfl
  |false=>rw [stE_5 c] at h;cases h
 obtain ⟨s1,s2⟩:=syn_parts hs
 have nil:∀{i:List Ix},i=[]->ixsAll (fun l=>linOk l=true) i:=fun e x hx=>by rw [e] at hx;cases hx
 by_cases h1:s.Op=1
 ·refine ⟨nil (s1 ?_),by rw [s2 h1];exact zOj rfl⟩
  unfold isSto;rw [decide_eq_false (by omega),decide_eq_false (by omega)];rfl
 ·by_cases h4:s.Op=4
  ·rw [stE_i hs h4] at h
   have k1:(exprT B sc s.E).2=0:=by
    by_cases c:(exprT B sc s.E).2=0
    ·exact c
    ·rw [ifE_x c] at h;exact absurd h c
   refine ⟨nil (s1 ?_),zOr (zCq k1).1⟩
   unfold isSto;rw [decide_eq_false (by omega),decide_eq_false (by omega)];rfl
  ·rw [stE_s hs h1 h4] at h
   have k1:(exprT B sc (rdE s)).2=0:=by
    by_cases c:(exprT B sc (rdE s)).2=0
    ·exact c
    ·rw [storeE_1 c] at h;exact absurd h c
   have k2:¬((bufD B s.Name).Use=1∨(s.Op=3/\(s.Fold<1∨4<s.Fold))):=fun c=>by rw [zNt k1 c] at h;cases h
   have k3:(exprT B sc s.E).2=0:=by
    by_cases c:(exprT B sc s.E).2=0
    ·exact c
    ·rw [storeE_2 k1 k2 c] at h;exact absurd h c
   refine ⟨fun x hx=>?_,zOr (zCq k3).1⟩
   have:=zOr (zCq k1).1 (rdE s) (by rw [kV];simp)
   have hx':x∈(rdE s).Idx:=hx
   exact ⟨this _ (ix_in hx').1,fun l hl=>this _ ((ix_in hx').2 l hl)⟩
mutual
theorem chkS_lin {B:List Bf}:∀(s:St) (U sc:List ByteArray) (here:List Int),(chkS B U sc here s).E=0->s.allF (fun l=>linOk l=true)
 |.mk o nm mn mk fo i e b,U,sc,here,h=>by
  have h0:stE B U sc (.mk o nm mn mk fo i e b)=0:=by
   by_cases c:stE B U sc (.mk o nm mn mk fo i e b)=0
   ·exact c
   ·rw [chkS_no c] at h;exact absurd h c
  have h1:=stE_lin h0
  rw [chkS_in h0] at h
  rw [St.allF]
  exact ⟨h1.1,h1.2,chkL_lin b _ _ _ _ h⟩
theorem chkL_lin {B:List Bf}:∀(l:List St) (U sc:List ByteArray) (way:List Int) (i:Int),(chkL B U sc way i l).E=0->allSs (fun l=>linOk l=true) l
 |[],_,_,_,_,_=>by rw [allSs];trivial
 |s::r,U,sc,way,i,h=>by
  have h0:(chkS B U sc (way++[i]) s).E=0:=by
   by_cases c:(chkS B U sc (way++[i]) s).E=0
   ·exact c
   ·rw [chkL,if_neg c] at h;exact absurd h c
  rw [chkL,if_pos h0] at h
  rw [allSs]
  exact ⟨chkS_lin s _ _ _ h0,chkL_lin r _ _ _ _ h⟩
end
/-! ## A name that is not in use -/
mutual
theorem allF_and {P Q:Lf->Prop}:∀s:St,s.allF P->s.allF Q->s.allF (fun l=>P l/\Q l)
 |.mk o nm mn mk fo i e b,h1,h2=>by
  rw [St.allF] at h1 h2⊢
  exact ⟨ixsAll_and h1.1 h2.1,fun x hx l hl=>⟨h1.2.1 x hx l hl,h2.2.1 x hx l hl⟩,zFd b h1.2.2 h2.2.2⟩
theorem zFd {P Q:Lf->Prop}:∀l:List St,allSs P l->allSs Q l->allSs (fun l=>P l/\Q l) l
 |[],_,_=>by rw [allSs];trivial
 |s::r,h1,h2=>by
  rw [allSs] at h1 h2⊢
  exact ⟨allF_and s h1.1 h2.1,zFd r h1.2 h2.2⟩
end
def outIs:Except Int (List Ix)->List Ix
 |.ok l=>l
 |.error _=>[]
theorem mIxs_0 {f:Lf->Lf×Int} {i:List Ix} (h:errE (mIxs f i)=0):∃a,mIxs f i=.ok a:=errE_ok h zPq
theorem mEx_0 {f:Lf->Lf×Int} {e:Ex} (h:errE (mEx f e)=0):∃a,mEx f e=.ok a:=errE_ok h (mEx_ne e)
theorem mSts_0 {f:Lf->Lf×Int} {g:ByteArray->ByteArray} {l:List St} (h:errE (mSts f g l)=0):∃a,mSts f g l=.ok a:=errE_ok h (mSts_ne l)
theorem err_is {α:Type} {x:Except Int α} (h:¬errE x=0):x=.error (errE x):=by
 cases x with
 |ok a=>exact absurd rfl h
 |error c=>rfl
theorem mIxs_err {f:Lf->Lf×Int} {i:List Ix} (h:¬errE (mIxs f i)=0):mIxs f i=.error (errE (mIxs f i)):=err_is h
theorem mEx_err {f:Lf->Lf×Int} {e:Ex} (h:¬errE (mEx f e)=0):mEx f e=.error (errE (mEx f e)):=err_is h
theorem mSts_err {f:Lf->Lf×Int} {g:ByteArray->ByteArray} {l:List St} (h:¬errE (mSts f g l)=0):mSts f g l=.error (errE (mSts f g l)):=err_is h
theorem ixsAll_of {P:Lf->Prop} {e:Ex} (h:e.allF P):ixsAll P e.Idx:=fun x hx=>⟨Ex.allF_ix h hx,fun l hl=>Ex.allF_at h hx hl⟩
theorem mid_getS {A:List (List C)} {l:List St} {k:Nat} {x:St} (hA:A.length=k) (h:l[k]? =some x):(A++(l.drop k).map St.cells)[k]? =some x.cs:=by
 rw [mid_get hA h,St.cells_eq]
mutual
theorem st_short {B:Nat}:∀s:St,s.wt<=B->s.allF (fun l=>l.L.length<=B)
 |.mk o nm mn mk fo i e b,h=>by
  rw [St.allF]
  rw [St.wt] at h
  refine ⟨fun x hx=>?_,fun x hx l hl=>forms_wt (Nat.le_trans (zFq e x hx) (by omega)) hl,zLq b (by omega)⟩
  have:=zAp hx
  rw [Ix.wt] at this
  exact ⟨by omega,fun l hl=>by have:=zDo hl;omega⟩
theorem zLq {B:Nat}:∀l:List St,stsWt l<=B->allSs (fun l=>l.L.length<=B) l
 |[],_=>by rw [allSs];trivial
 |s::r,h=>by
  rw [stsWt] at h
  rw [allSs]
  exact ⟨st_short s (by omega),zLq r (by omega)⟩
end
theorem zJr {l:List St} {B:Nat} (h:stsWt l<=B):allSs (fun l=>l.L.length<=B) l:=zLq l h
/-! ## What renaming keeps -/
theorem vrL_rng (t:ByteArray):(vrL t).rng:=⟨by show r64 0;unfold r64;omega,fun m hm=>by
 simp only [vrL,List.mem_singleton] at hm;subst hm;show r64 1;unfold r64;omega⟩
end Go.Br
end
section
set_option maxRecDepth 100000
namespace Go.Br
open Go Go.Eng Go.L41
noncomputable instance:DecidableEq St:=fun _ _=>Classical.propDecidable _
noncomputable instance:DecidableEq Ns:=fun _ _=>Classical.propDecidable _
theorem St.eq_iff {a b:St}:a=b↔a.Op=b.Op/\a.Name=b.Name/\a.Many=b.Many/\a.Mark=b.Mark/\a.Fold=b.Fold/\a.Idx=b.Idx/\a.E=b.E/\a.Body=b.Body:=by
 constructor
 ·rintro rfl;exact ⟨rfl,rfl,rfl,rfl,rfl,rfl,rfl,rfl⟩
 ·rintro ⟨h1,h2,h3,h4,h5,h6,h7,h8⟩
  rw [St.eta a,St.eta b,h1,h2,h3,h4,h5,h6,h7,h8]
theorem st_eq (a b:St):(((((((decide (a.Op=b.Op)&&decide (a.Name=b.Name))&&decide (a.Many=b.Many))&&decide (a.Mark=b.Mark))&&decide (a.Fold=b.Fold))&&decide (a.Idx=b.Idx))&&decide (a.E=b.E))&&decide (a.Body=b.Body))=decide (a=b):=by
 rw [Bool.eq_iff_iff]
 simp only [Bool.and_eq_true,decide_eq_true_eq,St.eq_iff]
 constructor
 ·rintro ⟨⟨⟨⟨⟨⟨⟨h1,h2⟩,h3⟩,h4⟩,h5⟩,h6⟩,h7⟩,h8⟩;exact ⟨h1,h2,h3,h4,h5,h6,h7,h8⟩
 ·rintro ⟨h1,h2,h3,h4,h5,h6,h7,h8⟩;exact ⟨⟨⟨⟨⟨⟨⟨h1,h2⟩,h3⟩,h4⟩,h5⟩,h6⟩,h7⟩,h8⟩
theorem bf_ne (x y:Bf):(((!decide (x.Name=y.Name)|| !litsEq [cI x.T.Kind,cI x.T.Bits,cI x.T.Frac,cI x.T.Round,cI x.T.Over] [cI y.T.Kind,cI y.T.Bits,cI y.T.Frac,cI y.T.Round,cI y.T.Over])|| !decide (x.Use=y.Use))|| !decide (x.Dims=y.Dims))= !decide (x=y):=by
 rw [litsEq_ty,←Bool.not_and,←Bool.not_and,←Bool.not_and]
 congr 1
 rw [Bool.eq_iff_iff]
 simp only [Bool.and_eq_true,decide_eq_true_eq]
 cases x;cases y;simp only [Bf.mk.injEq]
 constructor
 ·rintro ⟨⟨⟨h1,h2⟩,h3⟩,h4⟩;exact ⟨h1,h2,h4,h3⟩
 ·rintro ⟨h1,h2,h3,h4⟩;exact ⟨⟨⟨h1,h2⟩,h4⟩,h3⟩
theorem Ns.eq_iff {a b:Ns}:a=b↔a.Bufs=b.Bufs/\a.Body=b.Body:=by
 constructor
 ·rintro rfl;exact ⟨rfl,rfl⟩
 ·rintro ⟨h1,h2⟩;cases a;cases b;simp_all
end Go.Br
end
section
namespace Go.Br
open Go Go.Eng Go.L41
theorem sub_zero {s:ByteArray} {u:Lf} (h:linOk u=true/\isNameB s=true):substR ⟨0,[]⟩ s u=(⟨0,[]⟩,0):=by
 unfold substR;rw [if_pos ⟨rfl,h.1,h.2⟩];rfl
abbrev sbF (s:ByteArray) (u:Lf):Lf->Lf×Int:=fun l=>substR l s u
def sbT (s:ByteArray) (u:Lf) (l:List St):Except Int (List St):=mSts (sbF s u) (fun x=>x) l
theorem zrng:Lf.rng ⟨0,[]⟩:=⟨by show r64 0;unfold r64;omega,fun m hm=>by cases hm⟩
mutual
theorem mSt_g {f:Lf->Lf×Int} {r:ByteArray->ByteArray}:∀{s s':St},mSt f r s=.ok s'->s'=gSt (fun l=>(f l).1) r s
 |.mk o nm mn mk fo i e b,s',h=>by
  rw [mSt] at h
  cases h1:mIxs f i with
  |error y=>rw [h1] at h;cases h
  |ok a=>
   cases h2:mEx f e with
   |error y=>rw [h1,h2] at h;cases h
   |ok d=>
    cases h3:mSts f r b with
    |error y=>rw [h1,h2] at h;simp only [h3] at h;cases h
    |ok t=>
     rw [h1,h2] at h;simp only [h3] at h
     injection h with h
     rw [←h,gSt,(mIxs_g h1).1,(mEx_g h2).1,zMu h3]
theorem zMu {f:Lf->Lf×Int} {r:ByteArray->ByteArray}:∀{l l':List St},mSts f r l=.ok l'->l'=gSts (fun l=>(f l).1) r l
 |[],l',h=>by rw [mSts] at h;injection h with h;rw [←h,gSts]
 |x::t,l',h=>by
  rw [mSts] at h
  cases h1:mSt f r x with
  |error y=>rw [h1] at h;cases h
  |ok a=>
   cases h2:mSts f r t with
   |error y=>rw [h1] at h;simp only [h2] at h;cases h
   |ok d=>
    rw [h1] at h;simp only [h2] at h
    injection h with h
    rw [←h,gSts,mSt_g h1,zMu h2]
end
theorem linsWt_20 {g:Lf->Lf} (hg:∀l,(g l).L.length<=l.L.length+20):∀l:List Lf,linsWt (l.map g)<=linsWt l+20*l.length
 |[]=>by simp [linsWt]
 |x::r=>by rw [List.map_cons,linsWt,linsWt,List.length_cons];have:=linsWt_20 hg r;have:=hg x;omega
theorem idxWt_20 {g:Lf->Lf} (hg:∀l,(g l).L.length<=l.L.length+20):∀l:List Ix,idxWt (l.map (gIx g))<=21*idxWt l+20*l.length
 |[]=>by simp [idxWt]
 |x::r=>by
  rw [List.map_cons,idxWt,idxWt,List.length_cons]
  have h1:=idxWt_20 hg r
  have h2:(gIx g x).wt<=21*x.wt+20:=by
   unfold gIx Ix.wt
   have h3:=linsWt_20 hg x.At
   have h4:=hg x.Lin
   simp only [List.length_map];omega
  omega
mutual
theorem gSt_20 {g:Lf->Lf} {r:ByteArray->ByteArray} (hg:∀l,(g l).L.length<=l.L.length+20):∀s:St,(gSt g r s).wt<=41*s.wt
 |.mk o nm mn mk fo i e b=>by
  rw [gSt,St.wt,St.wt,List.length_map]
  have h1:=idxWt_20 hg i
  have h2:=wt_g hg e
  have h3:=gSts_20 (r:=r) hg b
  omega
theorem gSts_20 {g:Lf->Lf} {r:ByteArray->ByteArray} (hg:∀l,(g l).L.length<=l.L.length+20):∀l:List St,stsWt (gSts g r l)<=41*stsWt l
 |[]=>by rw [gSts];simp [stsWt]
 |s::t=>by rw [gSts,stsWt,stsWt];have:=gSt_20 (r:=r) hg s;have:=gSts_20 (r:=r) hg t;omega
end
theorem sbT_wt {s:ByteArray} {u:Lf} {l:List St} (hu:u.L.length<=20):stsWt (outS (sbT s u l))<=41*stsWt l:=by
 cases h:sbT s u l with
 |error y=>show stsWt []<=_;simp [stsWt]
 |ok a=>
  show stsWt a<=_
  rw [zMu h]
  exact gSts_20 (fun l=>by have:=substR_len l u s;show (substR l s u).1.L.length<=_;omega) l
end Go.Br
end
section
namespace Go.Br
open Go Go.Eng Go.L41
def setB (s:St) (b:List St):St:=.mk s.Op s.Name s.Many s.Mark s.Fold s.Idx s.E b
theorem setB_self (s:St):setB s s.Body=s:=by cases s;rfl
def replL:List Int->List St->List St->List St
 |[],l,_=>l
 |i::p,l,q=>l.take i.toNat++(if p=[] then q else [setB (l.getD i.toNat zSt) (replL p (l.getD i.toNat zSt).Body q)])++l.drop (i.toNat+1)
theorem zBz (i:Int) (l q:List St):replL [i] l q=l.take i.toNat++q++l.drop (i.toNat+1):=by rw [replL,if_pos rfl]
theorem zDk {i:Int} {p:List Int} (h:p≠[]) (l q:List St):replL (i::p) l q=l.take i.toNat++[setB (l.getD i.toNat zSt) (replL p (l.getD i.toNat zSt).Body q)]++l.drop (i.toNat+1):=by rw [replL,if_neg h]
theorem cut_at {l:List St} {i:Int} (h:0<=i/\i<l.length):l.take i.toNat++[l.getD i.toNat zSt]++l.drop (i.toNat+1)=l:=by
 have hg:=zLs h
 rw [List.append_assoc,List.singleton_append,←qP hg,List.take_append_drop]
theorem replL_self:∀{way:List Int} {l:List St} {s:St},way≠[]->(atF way l s).2=true->replL way l [(atF way l s).1]=l
 |[],_,_,h,_=>absurd rfl h
 |i::p,l,s,_,h=>by
  rw [atF] at h⊢
  by_cases c:0<=i/\i<l.length
  ·rw [if_pos c] at h⊢
   by_cases hp:p=[]
   ·subst hp;rw [zBz,atF];exact cut_at c
   ·rw [zDk hp,replL_self hp h,setB_self];exact cut_at c
  ·rw [if_neg c] at h;cases h
theorem zJj:∀a b:List St,stsWt (a++b)=stsWt a+stsWt b
 |[],b=>by simp [stsWt]
 |x::r,b=>by rw [List.cons_append,stsWt,stsWt,zJj r b];omega
theorem setB_wt (s:St) (b:List St):(setB s b).wt+stsWt s.Body=s.wt+stsWt b:=by
 have h1:=St.wt_eq s
 have h2:=St.wt_eq (setB s b)
 simp only [setB,St.Idx,St.E,St.Body] at h1 h2⊢
 omega
theorem replL_wt:∀{way:List Int} {l q:List St},wayOk way l->stsWt (replL way l q)<=stsWt l+stsWt q
 |[],l,q,_=>by rw [replL];omega
 |i::p,l,q,h=>by
  have hc:=congrArg stsWt (cut_at h.1)
  rw [zJj,zJj,stsWt,stsWt] at hc
  by_cases hp:p=[]
  ·subst hp;rw [zBz,zJj,zJj];omega
  ·have ih:=replL_wt (q:=q) h.2
   have hb:=setB_wt (l.getD i.toNat zSt) (replL p (l.getD i.toNat zSt).Body q)
   rw [zDk hp,zJj,zJj,stsWt,stsWt]
   omega
def replN (n:Ns) (way:List Int) (q:List St):Ns:=⟨n.Bufs,replL way n.Body q⟩
def repR (n:Ns) (way:List Int) (q:List St):Ns:=if (atT n.Body way).2=true then replN n way q else ⟨[],[]⟩
end Go.Br
end
section
set_option maxRecDepth 100000
namespace Go.Br
open Go Go.Eng Go.L41
def zNs:Ns:=⟨[],[]⟩
def takN (n:Ns) (s:ByteArray):Bool:=hasBf n.Bufs s||(findN n.Body s).isSome
def wayF (n:Ns) (s:ByteArray):List Int:=(findN n.Body s).getD []
def locE (n:Ns) (s:ByteArray):Int:=if (validN n).2=0 then (if (findN n.Body s).isSome=true then 0 else 19) else (validN n).2
def locT (n:Ns) (s:ByteArray):List Int×St×Int:=if locE n s=0 then (wayF n s,(atT n.Body (wayF n s)).1,0) else ([],zSt,locE n s)
def finT (n:Ns) (way:List Int) (q:List St):Ns×Int:=if (validN (repR n way q)).2=0 then (repR n way q,0) else (zNs,(validN (repR n way q)).2)
def sFor (nm:ByteArray) (many mark:Int) (b:List St):St:=.mk 1 nm many mark 0 [] zEx b
def sIf (e:Ex) (b:List St):St:=.mk 4 (bs []) 0 0 0 [] e b
def idxL (l:Lf):Ex:=.mk 2 (bs []) ⟨0,0⟩ ⟨0,0,0,0,0⟩ l [] []
def ltE (f:Lf) (m:Int):Ex:=.mk 13 (bs []) ⟨0,0⟩ ⟨0,0,0,0,0⟩ ⟨0,[]⟩ [] [idxL f,idxL ⟨m,[]⟩]
def formT (by_:Int) (a b:ByteArray):Lf:=(addL (scaleL (varL a) by_).1 (varL b)).1
def splB (s:St) (by_:Int) (f:Lf) (b:List St):List St:=if Int.tmod s.Many by_=0 then b else [sIf (ltE f s.Many) b]
def splS (s:St) (by_:Int) (outer inner:ByteArray) (f:Lf) (b:List St):St:=sFor outer (w64 (Int.tdiv (w64 (w64 (s.Many+by_)-1)) by_)) s.Mark [sFor inner by_ 0 (splB s by_ f b)]
def dupT (n:Ns) (loop outer inner:ByteArray):Bool:=decide (outer=inner)||(!decide (outer=loop)&&takN n outer)||(!decide (inner=loop)&&takN n inner)
def splE (n:Ns) (s:St) (loop:ByteArray) (by_:Int) (outer inner:ByteArray):Int:=
 if by_<1∨s.Many<by_ then 1 else if (!isNameB outer|| !isNameB inner)=true then 7 else if dupT n loop outer inner=true then 8 else errE (sbT loop (formT by_ outer inner) s.Body)
def splitT (n:Ns) (loop:ByteArray) (by_:Int) (outer inner:ByteArray):Ns×Int:=
  if locE n loop=0 then
    (if splE n (locT n loop).2.1 loop by_ outer inner=0 then finT n (wayF n loop) [splS (locT n loop).2.1 by_ outer inner (formT by_ outer inner) (outS (sbT loop (formT by_ outer inner) (locT n loop).2.1.Body))]
     else (zNs,splE n (locT n loop).2.1 loop by_ outer inner))
  else (zNs,locE n loop)
/-! ## Peeling -/
def peelF (many:Int) (rest:ByteArray):Lf:=(addL (varL rest) ⟨many,[]⟩).1
def peelE (n:Ns) (s:St) (loop:ByteArray) (many:Int) (rest:ByteArray):Int:=
 if loopsL s.Body=[] then (if many<1∨s.Many<=many then 1 else if isNameB rest=false then 7 else if takN n rest=true then 8 else errE (sbT loop (peelF many rest) s.Body)) else 19
def cutS (s:St) (many:Int):St:=.mk s.Op s.Name many s.Mark s.Fold s.Idx s.E s.Body
def peelT (n:Ns) (loop:ByteArray) (many:Int) (rest:ByteArray):Ns×Int:=
  if locE n loop=0 then
    (if peelE n (locT n loop).2.1 loop many rest=0 then finT n (wayF n loop) [cutS (locT n loop).2.1 many,sFor rest (w64 ((locT n loop).2.1.Many-many)) (locT n loop).2.1.Mark (outS (sbT loop (peelF many rest) (locT n loop).2.1.Body))]
     else (zNs,peelE n (locT n loop).2.1 loop many rest))
  else (zNs,locE n loop)
/-! ## Collapsing -/
def ixEv (f:Lf->Bool) (i:List Ix):Bool:=i.all fun x=>f x.Lin&&x.At.all f
def exEv (f:Lf->Bool) (e:Ex):Bool:=(nodes e).all fun a=>f a.Lin&&ixEv f a.Idx
mutual
def evS (f:Lf->Bool):St->Bool
 |.mk _ _ _ _ _ i e b=>ixEv f i&&evL f b&&exEv f e
def evL (f:Lf->Bool):List St->Bool
 |[]=>true
 |s::r=>evS f s&&evL f r
end
def linC (a b:ByteArray) (many:Int) (l:Lf):Bool:=decide (Int.tmod (coeffL l.L a) many=0)&&decide (w64 (Int.tdiv (coeffL l.L a) many)=coeffL l.L b)
def colE (n:Ns) (s:St) (outer nm:ByteArray):Int:=
  if s.Body.length=1/\(s.Body.getD 0 zSt).Op=1 then
    (if isNameB nm=false then 7 else if ((!decide (nm=outer)&& !decide (nm=(s.Body.getD 0 zSt).Name))&&takN n nm)=true then 8
     else if w64 (Int.tdiv 65536 (s.Body.getD 0 zSt).Many)<s.Many then 2
     else if evL (linC outer (s.Body.getD 0 zSt).Name (s.Body.getD 0 zSt).Many) (s.Body.getD 0 zSt).Body=false then 19
     else if errE (sbT outer ⟨0,[]⟩ (s.Body.getD 0 zSt).Body)=0 then errE (sbT (s.Body.getD 0 zSt).Name (varL nm) (outS (sbT outer ⟨0,[]⟩ (s.Body.getD 0 zSt).Body))) else errE (sbT outer ⟨0,[]⟩ (s.Body.getD 0 zSt).Body)) else 19
def colS (s:St) (outer nm:ByteArray):St:=sFor nm (w64 (s.Many*(s.Body.getD 0 zSt).Many)) s.Mark (outS (sbT (s.Body.getD 0 zSt).Name (varL nm) (outS (sbT outer ⟨0,[]⟩ (s.Body.getD 0 zSt).Body))))
def colT (n:Ns) (outer nm:ByteArray):Ns×Int:=
 if locE n outer=0 then (if colE n (locT n outer).2.1 outer nm=0 then finT n (wayF n outer) [colS (locT n outer).2.1 outer nm] else (zNs,colE n (locT n outer).2.1 outer nm)) else (zNs,locE n outer)
/-! ## The examples -/
def cpI (l:Lf):Ix:=⟨l,bs [],[]⟩
def cpB (l:Lf):St:=.mk 2 (bs [99]) 0 0 0 [cpI l] (.mk 3 (bs [97]) ⟨0,0⟩ ⟨0,0,0,0,0⟩ ⟨0,[]⟩ [cpI l] []) []
def cpT:Ty:=⟨3,0,0,0,0⟩
def cpN (b:List St):Ns:=⟨[⟨bs [97],cpT,[8],1⟩,⟨bs [99],cpT,[8],2⟩],b⟩
def vI1:Lf:=⟨0,[⟨bs [105],1⟩]⟩
def cpy (many limit:Int):Ns:=cpN [sFor (bs [105]) many 0 (if 0<limit then [sIf (ltE vI1 limit) [cpB vI1]] else [cpB vI1])]
end Go.Br
end
section
namespace Go.Br
open Go Go.Eng Go.L41
def ascN (l:List ByteArray):Prop:=l.Pairwise fun x y=>strLt x y=true
theorem strLt_ne {a b:ByteArray} (h:strLt a b=true):a≠b:=by rintro rfl;rw [strLt_irr] at h;cases h
theorem zHz {q:ByteArray} {l:List Mono} (h:∀m,m∈l->strLt q m.Name=true):coeffL l q=0:=by
 induction l with
 |nil=>rfl
 |cons x r ih=>
  rw [coeffL,if_neg (fun e=>strLt_ne (h x (List.mem_cons_self ..)) e.symm)]
  exact ih fun m hm=>h m (List.mem_cons_of_mem _ hm)
theorem zDp:∀{q:ByteArray} {l:List Tr},trsOk (some q) l=true->∀t,t∈l->strLt q t.1=true
 |_,[],_,t,h=>by cases h
 |q,x::r,h,t,ht=>by
  simp only [trsOk,Bool.and_eq_true,ltO] at h
  rcases List.mem_cons.1 ht with rfl|ht
  ·exact h.1.2
  ·exact zCl h.1.2 (zDp h.2 t ht)
theorem trs_asc:∀{p:Option ByteArray} {l:List Tr},trsOk p l=true->ascN (l.map (·.1))
 |_,[],_=>List.Pairwise.nil
 |p,x::r,h=>by
  simp only [trsOk,Bool.and_eq_true] at h
  refine List.pairwise_cons.2 ⟨fun y hy=>?_,trs_asc h.2⟩
  obtain ⟨t,ht,rfl⟩:=List.mem_map.1 hy
  exact zDp h.2 t ht
theorem hd_c (x:Mono) (r:List Mono):coeffL (x::r) x.Name=x.By:=by rw [coeffL,if_pos rfl]
theorem tl_c {x:Mono} {r:List Mono} {t:ByteArray} (h:strLt x.Name t=true):coeffL (x::r) t=coeffL r t:=by rw [coeffL,if_neg (strLt_ne h)]
theorem mono_wk {p:Option ByteArray} {q:ByteArray} {y:Mono} {s:List Mono} (h:monosOk p (y::s)=true) (k:strLt q y.Name=true):monosOk (some q) (y::s)=true:=by
 simp only [monosOk,Bool.and_eq_true] at h⊢
 exact ⟨⟨h.1.1,k⟩,h.2⟩
theorem zDt {p:Option ByteArray} {y:Mono} {s:List Mono} (h:monosOk p (y::s)=true):monosOk (some y.Name) s=true:=by
 simp only [monosOk,Bool.and_eq_true] at h
 exact h.2
theorem zAo:∀(n:Nat) (p:Option ByteArray) (a b:List Mono),a.length+b.length<=n->monosOk p a=true->monosOk p b=true->∀t,t∈mergeL a b->t.2.1=coeffL a t.1/\t.2.2=coeffL b t.1
 |_,p,[],[],_,_,_,t,ht=>by rw [mergeL_nil] at ht;cases ht
 |0,_,_::_,_,h,_,_,_,_=>by simp at h
 |0,_,[],_::_,h,_,_,_,_=>by simp at h
 |n+1,p,x::r,[],h,ha,hb,t,ht=>by
  have hn:r.length+([]:List Mono).length<=n:=by simp at h⊢;omega
  rw [zHw] at ht
  rcases List.mem_cons.1 ht with rfl|ht
  ·exact ⟨(hd_c x r).symm,rfl⟩
  ·have h1:=zDp (wS n (some x.Name) r [] hn (zDt ha) rfl) t ht
   rw [tl_c h1]
   exact zAo n (some x.Name) r [] hn (zDt ha) rfl t ht
 |n+1,p,[],y::s,h,ha,hb,t,ht=>by
  have hn:([]:List Mono).length+s.length<=n:=by simp at h⊢;omega
  rw [zHv] at ht
  rcases List.mem_cons.1 ht with rfl|ht
  ·exact ⟨rfl,(hd_c y s).symm⟩
  ·have h1:=zDp (wS n (some y.Name) [] s hn rfl (zDt hb)) t ht
   rw [tl_c h1]
   exact zAo n (some y.Name) [] s hn rfl (zDt hb) t ht
 |n+1,p,x::r,y::s,h,ha,hb,t,ht=>by
  have h':r.length+1+(s.length+1)<=n+1:=by simpa using h
  rw [zEb] at ht
  cases c:strLt x.Name y.Name with
  |true=>
   rw [c,cond_true] at ht
   have hw:=mono_wk hb c
   have hn:r.length+(y::s).length<=n:=by simp;omega
   rcases List.mem_cons.1 ht with rfl|ht
   ·exact ⟨(hd_c x r).symm,(zHz (zCn hw)).symm⟩
   ·have h1:=zDp (wS n (some x.Name) r (y::s) hn (zDt ha) hw) t ht
    rw [tl_c h1]
    exact zAo n (some x.Name) r (y::s) hn (zDt ha) hw t ht
  |false=>
   rw [c,cond_false] at ht
   cases d:strLt y.Name x.Name with
   |true=>
    rw [d,cond_true] at ht
    have hw:=mono_wk ha d
    have hn:(x::r).length+s.length<=n:=by simp;omega
    rcases List.mem_cons.1 ht with rfl|ht
    ·exact ⟨(zHz (zCn hw)).symm,(hd_c y s).symm⟩
    ·have h1:=zDp (wS n (some y.Name) (x::r) s hn hw (zDt hb)) t ht
     rw [tl_c (x:=y) h1]
     exact zAo n (some y.Name) (x::r) s hn hw (zDt hb) t ht
   |false=>
    rw [d,cond_false] at ht
    have e:=zJs c d
    have hn:r.length+s.length<=n:=by omega
    rcases List.mem_cons.1 ht with rfl|ht
    ·exact ⟨(hd_c x r).symm,by show y.By=coeffL (y::s) x.Name;rw [e];exact (hd_c y s).symm⟩
    ·have hs:monosOk (some x.Name) s=true:=by rw [e];exact zDt hb
     have h1:=zDp (wS n (some x.Name) r s hn (zDt ha) hs) t ht
     rw [tl_c h1,tl_c (x:=y) (by rw [←e];exact h1)]
     exact zAo n (some x.Name) r s hn (zDt ha) hs t ht
theorem zEq:∀(n:Nat) (a b:List Mono),a.length+b.length<=n->∀m,m∈a∨m∈b->∃t,t∈mergeL a b/\t.1=m.Name
 |_,[],[],_,m,hm=>by rcases hm with hm|hm<;>cases hm
 |0,_::_,_,h,_,_=>by simp at h
 |0,[],_::_,h,_,_=>by simp at h
 |n+1,x::r,[],h,m,hm=>by
  rw [zHw]
  rcases hm with hm|hm
  ·rcases List.mem_cons.1 hm with rfl|hm
   ·exact ⟨_,List.mem_cons_self ..,rfl⟩
   ·obtain ⟨t,h1,h2⟩:=zEq n r [] (by simp at h⊢;omega) m (.inl hm)
    exact ⟨t,List.mem_cons_of_mem _ h1,h2⟩
  ·cases hm
 |n+1,[],y::s,h,m,hm=>by
  rw [zHv]
  rcases hm with hm|hm
  ·cases hm
  ·rcases List.mem_cons.1 hm with rfl|hm
   ·exact ⟨_,List.mem_cons_self ..,rfl⟩
   ·obtain ⟨t,h1,h2⟩:=zEq n [] s (by simp at h⊢;omega) m (.inr hm)
    exact ⟨t,List.mem_cons_of_mem _ h1,h2⟩
 |n+1,x::r,y::s,h,m,hm=>by
  have h':r.length+1+(s.length+1)<=n+1:=by simpa using h
  rw [zEb]
  cases c:strLt x.Name y.Name with
  |true=>
   rw [cond_true]
   have go:(m∈r∨m∈y::s)->∃t,t∈(x.Name,x.By,(0:Int))::mergeL r (y::s)/\t.1=m.Name:=fun hq=>by
    obtain ⟨t,h1,h2⟩:=zEq n r (y::s) (by simp;omega) m hq
    exact ⟨t,List.mem_cons_of_mem _ h1,h2⟩
   rcases hm with hm|hm
   ·rcases List.mem_cons.1 hm with rfl|hm
    ·exact ⟨_,List.mem_cons_self ..,rfl⟩
    ·exact go (.inl hm)
   ·exact go (.inr hm)
  |false=>
   rw [cond_false]
   cases d:strLt y.Name x.Name with
   |true=>
    rw [cond_true]
    have go:(m∈x::r∨m∈s)->∃t,t∈(y.Name,(0:Int),y.By)::mergeL (x::r) s/\t.1=m.Name:=fun hq=>by
     obtain ⟨t,h1,h2⟩:=zEq n (x::r) s (by simp;omega) m hq
     exact ⟨t,List.mem_cons_of_mem _ h1,h2⟩
    rcases hm with hm|hm
    ·exact go (.inl hm)
    ·rcases List.mem_cons.1 hm with rfl|hm
     ·exact ⟨_,List.mem_cons_self ..,rfl⟩
     ·exact go (.inr hm)
   |false=>
    rw [cond_false]
    have e:=zJs c d
    have go:(m∈r∨m∈s)->∃t,t∈(x.Name,x.By,y.By)::mergeL r s/\t.1=m.Name:=fun hq=>by
     obtain ⟨t,h1,h2⟩:=zEq n r s (by omega) m hq
     exact ⟨t,List.mem_cons_of_mem _ h1,h2⟩
    rcases hm with hm|hm
    ·rcases List.mem_cons.1 hm with rfl|hm
     ·exact ⟨_,List.mem_cons_self ..,rfl⟩
     ·exact go (.inl hm)
    ·rcases List.mem_cons.1 hm with rfl|hm
     ·exact ⟨_,List.mem_cons_self ..,e⟩
     ·exact go (.inr hm)
end Go.Br
end
section
namespace Go.Br
open Go Go.Eng Go.L41
mutual
def stAll (P:St->Prop):St->Prop
 |.mk o nm mn mk fo i e b=>P (.mk o nm mn mk fo i e b)/\stsAll P b
def stsAll (P:St->Prop):List St->Prop
 |[]=>True
 |s::r=>stAll P s/\stsAll P r
end
theorem zJu {P:St->Prop} {s:St} (h:stAll P s):P s/\stsAll P s.Body:=by cases s;rw [stAll] at h;exact h
theorem zHu {P:St->Prop}:∀{l:List St},stsAll P l->∀s,s∈l->stAll P s
 |[],_,s,hs=>by cases hs
 |x::r,h,s,hs=>by
  rw [stsAll] at h
  rcases List.mem_cons.1 hs with rfl|hs
  ·exact h.1
  ·exact zHu h.2 s hs
mutual
theorem chkS_all (B:List Bf):∀(s:St) (U sc:List ByteArray) (here:List Int),(chkS B U sc here s).E=0->stAll (fun s=>∃U sc,stE B U sc s=0) s
 |.mk o nm mn mk fo i e b,U,sc,here,h=>by
  rw [chkS] at h
  rw [stAll]
  split at h
  ·next c=>exact ⟨⟨U,sc,c⟩,chkL_all B b _ _ _ _ h⟩
  ·next c=>exact absurd h c
theorem chkL_all (B:List Bf):∀(l:List St) (U sc:List ByteArray) (way:List Int) (i:Int),(chkL B U sc way i l).E=0->stsAll (fun s=>∃U sc,stE B U sc s=0) l
 |[],_,_,_,_,_=>by rw [stsAll];trivial
 |s::r,U,sc,way,i,h=>by
  rw [chkL] at h
  rw [stsAll]
  split at h
  ·next c=>exact ⟨chkS_all B s _ _ _ c,chkL_all B r _ _ _ _ h⟩
  ·next c=>exact absurd h c
end
theorem valid_all {n:Ns} (h:(validN n).2=0):stsAll (fun s=>∃U sc,stE n.Bufs U sc s=0) n.Body:=chkL_all n.Bufs n.Body [] [] [] 0 (zFf h).2.2.2
theorem atF_stAll {P:St->Prop}:∀{way:List Int} {l:List St} {s:St},stsAll P l->stAll P s->(atF way l s).2=true->stAll P (atF way l s).1
 |[],_,_,_,h,_=>by rw [atF];exact h
 |i::r,l,s,hl,hs,h=>by
  rw [atF] at h⊢
  by_cases c:0<=i/\i<l.length
  ·rw [if_pos c] at h⊢
   have h1:=zHu hl _ (zLr c)
   exact atF_stAll (zJu h1).2 h1 h
  ·rw [if_neg c] at h;cases h
theorem atT_stAll {P:St->Prop} {l:List St} {way:List Int} (hl:stsAll P l) (h:(atT l way).2=true):stAll P (atT l way).1:=by
 unfold atT at h⊢
 by_cases hw:way=[]
 ·rw [if_pos hw] at h;cases h
 ·rw [if_neg hw] at h⊢
  cases way with
  |nil=>exact absurd rfl hw
  |cons i r=>
   rw [atF] at h⊢
   by_cases c:0<=i/\i<l.length
   ·rw [if_pos c] at h⊢
    have h1:=zHu hl _ (zLr c)
    exact atF_stAll (zJu h1).2 h1 h
   ·rw [if_neg c] at h;cases h
/-! ## The loop that is found -/
mutual
theorem fndS_at (t:ByteArray):∀(s:St) (w:List Int),fndS t s=some w->(w=[]/\isLoop t s=true)∨(w≠[]/\∀s0,(atF w s.Body s0).2=true/\isLoop t (atF w s.Body s0).1=true)
 |.mk o nm mn mk fo i e b,w,h=>by
  rw [fndS] at h
  split at h
  ·next c=>injection h with h;exact .inl ⟨h.symm,c⟩
  ·next c=>
   obtain ⟨j,rest,rfl,hj,h1,h2⟩:=fndL_at t b 0 w h
   refine .inr ⟨by simp,fun s0=>?_⟩
   show (atF ((0+(j:Int))::rest) b s0).2=true/\isLoop t (atF ((0+(j:Int))::rest) b s0).1=true
   rw [atF,if_pos ⟨by omega,by omega⟩,show (0+(j:Int)).toNat=j by omega]
   exact ⟨h1,h2⟩
theorem fndL_at (t:ByteArray):∀(l:List St) (i:Int) (w:List Int),fndL t i l=some w->∃(j:Nat) (rest:List Int),w=(i+(j:Int))::rest/\j<l.length/\(atF rest (l.getD j zSt).Body (l.getD j zSt)).2=true/\isLoop t (atF rest (l.getD j zSt).Body (l.getD j zSt)).1=true
 |[],i,w,h=>by rw [fndL] at h;cases h
 |s::r,i,w,h=>by
  rw [fndL] at h
  cases c:fndS t s with
  |some u=>
   rw [c] at h
   injection h with h
   refine ⟨0,u,by rw [←h];simp,by simp,?_⟩
   show (atF u s.Body s).2=true/\isLoop t (atF u s.Body s).1=true
   rcases fndS_at t s u c with ⟨rfl,h1⟩|⟨_,h1⟩
   ·rw [atF];exact ⟨rfl,h1⟩
   ·exact h1 s
  |none=>
   rw [c] at h
   obtain ⟨j,rest,h1,h2,h3⟩:=fndL_at t r (i+1) w h
   refine ⟨j+1,rest,?_,by simp;omega,h3⟩
   rw [h1]
   congr 1
   omega
end
theorem found_at {l:List St} {t:ByteArray} {w:List Int} (h:findN l t=some w):(atT l w).2=true/\isLoop t (atT l w).1=true:=by
 rw [zEu] at h
 obtain ⟨j,rest,rfl,hj,h1,h2⟩:=fndL_at t l 0 w h
 unfold atT
 rw [if_neg (by simp),atF,if_pos ⟨by omega,by omega⟩,show (0+(j:Int)).toNat=j by omega]
 exact ⟨h1,h2⟩
theorem any_hit (t:ByteArray):∀L:List (St×List Int),L.any (hitN t)=hasB (loopsA L) t
 |[]=>rfl
 |x::r=>by
  rw [List.any_cons,any_hit t r]
  unfold loopsA
  rw [List.flatMap_cons,zAk]
  congr 1
  unfold hitN isLoop loopNm
  by_cases c:x.1.Op=1
  ·rw [if_pos c,zKp];simp [c,hasB]
  ·rw [if_neg c];simp [c,hasB]
theorem find_has (l:List St) (t:ByteArray):(findN l t).isSome=hasB (loopsL l) t:=by
 rw [←loopsA_L [] l 0,←any_hit]
 unfold findN findA
 rw [Option.isSome_map,Bool.eq_iff_iff,List.find?_isSome,List.any_eq_true]
/-! ## What it is -/
theorem loop_facts {B:List Bf} {U sc:List ByteArray} {s:St} (h:stE B U sc s=0) (ho:s.Op=1):isNameB s.Name=true/\hasBf B s.Name=false/\1<=s.Many/\s.Many<=65536/\s.Fold=0/\s.Idx=[]/\s.E=zEx:=by
 have hs:synSt s=true:=by
  cases c:synSt s with
  |true=>rfl
  |false=>rw [stE_5 c] at h;cases h
 rw [stE_l hs ho] at h
 unfold loopE at h
 by_cases c1:isNameB s.Name=true
 ·rw [if_pos c1] at h
  by_cases c2:hasBf B s.Name=true∨hasB U s.Name=true
  ·rw [if_pos c2] at h;cases h
  ·rw [if_neg c2] at h
   by_cases c3:s.Many<1∨65536<s.Many∨s.Mark<0∨3<s.Mark
   ·rw [if_pos c3] at h;cases h
   ·have c4:hasBf B s.Name=false:=by
     cases k:hasBf B s.Name with
     |false=>rfl
     |true=>exact absurd (.inl k) c2
    unfold synSt isSto at hs
    simp only [ho,Bool.and_eq_true,Bool.or_eq_true,Bool.not_eq_true',Bool.and_eq_false_iff,decide_eq_true_eq,decide_eq_false_iff_not,Bool.or_eq_false_iff,Bool.not_eq_false',emptyE] at hs
    obtain ⟨⟨⟨⟨⟨_,_⟩,h4⟩,h5⟩,h6⟩,_⟩:=hs
    refine ⟨c1,c4,by omega,by omega,?_,?_,?_⟩
    ·rcases h4 with h4|h4
     ·exact absurd h4 (by decide)
     ·exact h4
    ·rcases h5 with h5|h5
     ·exact absurd h5 (by decide)
     ·exact List.eq_nil_of_length_eq_zero (by omega)
    ·rcases h6 with h6|h6
     ·exact absurd trivial h6
     ·exact h6
 ·rw [if_neg c1] at h;cases h
theorem found_loop {n:Ns} {t:ByteArray} (h:(validN n).2=0) (hf:(findN n.Body t).isSome=true):(atT n.Body (wayF n t)).2=true/\(atT n.Body (wayF n t)).1.Op=1/\(atT n.Body (wayF n t)).1.Name=t/\hasBf n.Bufs t=false/\isNameB t=true/\1<=(atT n.Body (wayF n t)).1.Many/\(atT n.Body (wayF n t)).1.Many<=65536/\(atT n.Body (wayF n t)).1.Fold=0/\(atT n.Body (wayF n t)).1.Idx=[]/\(atT n.Body (wayF n t)).1.E=zEx:=by
 obtain ⟨w,hw⟩:=Option.isSome_iff_exists.1 hf
 have e:wayF n t=w:=by unfold wayF;rw [hw];rfl
 rw [e]
 obtain ⟨h1,h2⟩:=found_at hw
 unfold isLoop at h2
 simp only [Bool.and_eq_true,decide_eq_true_eq] at h2
 obtain ⟨U,sc,h3⟩:=(zJu (atT_stAll (valid_all h) h1)).1
 obtain ⟨k1,k2,k3,k4,k5,k6,k7⟩:=loop_facts h3 h2.1
 rw [h2.2] at k1 k2
 exact ⟨h1,h2.1,h2.2,k2,k1,k3,k4,k5,k6,k7⟩
/-! ## Names that are taken -/
theorem scale_var {a:ByteArray} {by_:Int} (h:isNameB a=true) (hb:r64 by_) (h0:by_≠0):scaleL (varL a) by_=(⟨0,[⟨a,by_⟩]⟩,0):=by
 have hv:varL a=⟨0,[⟨a,1⟩]⟩:=by unfold varL;rw [h];rfl
 have hl:linOk (varL a)=true:=by rw [hv];unfold linOk;simp [monosOk,h,ltO]
 unfold scaleL
 rw [if_pos hl,if_neg h0,hv]
 have:r64 ((⟨0,[⟨a,1⟩]⟩:Lf).K*by_)/\scaleOk by_ (⟨0,[⟨a,1⟩]⟩:Lf).L=true:=by
  refine ⟨by show r64 (0*by_);rw [Int.zero_mul];unfold r64;omega,?_⟩
  simp [scaleOk,hb]
 rw [if_pos this]
 simp [scaleM]
end Go.Br
end
