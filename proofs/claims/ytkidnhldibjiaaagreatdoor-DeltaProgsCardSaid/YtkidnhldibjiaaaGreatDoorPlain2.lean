/-
  Sorting and thinning of lists of strings that are the call's own: slices.Sort and slices.Compact,by the shelf's contracts.
  The names that an expression reads,in plain Lean.
  Layer 17 in plain Lean: a valid program without its last definitions; what a definition reads.
  Sums of linear forms,exactly,in plain Lean: numbers of 64 and of 128 bits,merges of ascending lists,substitution.
  The reference's substitution of forms,in plain Lean: the sum,and the mapping of all forms of an expression.
  What the substitution of a form keeps,in plain Lean: valid forms stay valid,the name is gone,the shape of an expression stays.
  The comparison of expressions is a total order,in plain Lean.
  Layer 14 in plain Lean: short names,replacing,the names in forms,the example that every statement checks.
  Layer 14 in plain Lean: what the statement on elimination asks of a substitution.
  Layer 14 in plain Lean: what the statement on walks asks; and four pieces of memory at once.
  Layer 22,the conjuncts of a condition,in plain Lean.
  Layer 22,the replacing of a reduction axis,in plain Lean.
  Layer 22,the replacing of a reduction axis,in plain Lean: the whole chain,and what it needs of what it meets.
  Ascending lists of names,one name added at a time,in plain Lean.
  Names of index variables: both ways to list them give the same names.
  Forward differentiation in plain Lean: the tangent of an expression,what is read,what is lost.
  Forward differentiation of programs in plain Lean; a program with tangents keeps what the original one has.
  Conditions: none.
-/
import Derived.Test.YtkidnhldibjiaaaGreatDoorCfg
import Derived.Test.YtkidnhldibjiaaaGreatDoorEngZ
import Derived.Test.YtkidnhldibjiaaaGreatDoorShelfX
import Derived.Sort.OwnSorted
import Derived.Lib.OwnBridge
import Derived.Test.YtkidnhldibjiaaaGreatDoorPlain
set_option linter.unusedSimpArgs false
set_option linter.unusedVariables false
section
namespace Go.Br
open Go Go.Eng Go.RowKit Go.Proofs Go.L41
end Go.Br
end
section
namespace Go.Br
open Go Go.Eng Go.L41
end Go.Br
end
section
namespace Go.Br
open Go Go.Eng Go.L41
/-! ## rI definitions -/
def rI (a b:En):Prop:=∀s,(a.find s).ok=true->b.find s=a.find s
theorem indexK_more {a b:En} (h:rI a b) {k:ByteArray->Bool} {x:Ix} (hx:dD a k x=0):dD b k x=0:=by
 unfold dD at hx⊢
 by_cases c:x.From=bs []
 ·rw [decide_eq_true c] at hx⊢;exact hx
 ·rw [decide_eq_false c] at hx⊢
  cases c2:(a.find x.From).ok with
  |false=>rw [c2] at hx;simp at hx
  |true=>rw [h _ c2];exact hx
theorem zRs {a b:En} (h:rI a b) {k:ByteArray->Bool}:∀l:List Ix,dU a k l=0->dU b k l=0
 |[],_=>rfl
 |x::r,hx=>by
  unfold dU at hx⊢
  by_cases c:dD a k x=0
  ·rw [decide_eq_true c] at hx
   rw [decide_eq_true (indexK_more h c)]
   exact zRs h r hx
  ·rw [decide_eq_false c] at hx
   exact absurd hx c
theorem readK_of {a:En} {k:ByteArray->Bool} {e:Ex} (hx:(gF a k e).2=0):(a.find e.Name).ok=true/\e.Idx.length=(a.find e.Name).dims.length/\dU a k e.Idx=0:=by
 unfold gF at hx
 cases c:(a.find e.Name).ok with
 |false=>rw [c] at hx;simp at hx
 |true=>
  rw [c] at hx
  by_cases c2:e.Idx.length=(a.find e.Name).dims.length
  ·rw [decide_eq_true c2] at hx
   by_cases c3:dU a k e.Idx=0
   ·exact ⟨rfl,c2,c3⟩
   ·rw [decide_eq_false c3] at hx;exact absurd hx c3
  ·rw [decide_eq_false c2] at hx;simp at hx
theorem readK_more {a b:En} (h:rI a b) {k:ByteArray->Bool} {e:Ex} (hx:(gF a k e).2=0):gF b k e=gF a k e:=by
 obtain ⟨h1,h2,h3⟩:=readK_of hx
 have e1:=h _ h1
 rw [zMu h1 h2 h3,zMu (by rw [e1];exact h1) (by rw [e1];exact h2) (zRs h _ h3),e1]
theorem ofN_more {a b:En} (h:rI a b) {k:ByteArray->Bool} {e:Ex} {l:List Ty} (hx:(ofN a k e l).2=0):ofN b k e l=ofN a k e l:=by
 unfold ofN at hx⊢
 by_cases c1:e.Op=1∨e.Op=12
 ·rw [if_pos c1,if_pos c1]
 rw [if_neg c1] at hx⊢
 rw [if_neg c1]
 by_cases c2:e.Op=2
 ·rw [if_pos c2,if_pos c2]
 rw [if_neg c2] at hx⊢
 rw [if_neg c2]
 by_cases c3:e.Op=3
 ·rw [if_pos c3] at hx⊢
  rw [if_pos c3]
  exact readK_more h hx
 ·rw [if_neg c3,if_neg c3]
mutual
theorem nodeT_more {a b:En} (h:rI a b) (k:ByteArray->Bool):∀e:Ex,(bE (ofN a k) e).2=0->bE (ofN b k) e=bE (ofN a k) e
 |.mk o nm v t l i xs,hx=>by
  rw [bE] at hx⊢
  rw [bE]
  by_cases c:(bF (ofN a k) xs).2=0
  ·rw [if_pos c] at hx⊢
   rw [nodeL_more h k xs c,if_pos c]
   exact ofN_more h hx
  ·rw [if_neg c] at hx;exact absurd hx c
theorem nodeL_more {a b:En} (h:rI a b) (k:ByteArray->Bool):∀l:List Ex,(bF (ofN a k) l).2=0->bF (ofN b k) l=bF (ofN a k) l
 |[],_=>rfl
 |x::r,hx=>by
  rw [bF] at hx⊢
  rw [bF]
  by_cases c:(bE (ofN a k) x).2=0
  ·rw [if_pos c] at hx⊢
   by_cases d:(bF (ofN a k) r).2=0
   ·rw [nodeT_more h k x c,nodeL_more h k r d,if_pos c]
   ·rw [if_neg d] at hx;exact absurd hx d
  ·rw [if_neg c] at hx;exact absurd hx c
end
theorem zKs {n:En} {vars:List ByteArray} {e:Ex} (h:(fM n vars e).2=0):bP e=0/\gE e=false/\(bE (ofN n (knB n.sz vars)) e).2=0:=by
 unfold fM lF at h
 by_cases c:bP e=0
 ·rw [if_pos c] at h
  by_cases d:gE e=true
  ·rw [if_pos d] at h;cases h
  ·rw [if_neg d] at h
   by_cases f:(bE (ofN n (knB n.sz vars)) e).2=0
   ·exact ⟨c,by simpa using d,f⟩
   ·rw [if_neg f] at h;exact absurd h f
 ·rw [if_neg c] at h;exact absurd h c
theorem typeT_more {a b:En} (h:rI a b) (hs:b.sz=a.sz) {vars:List ByteArray} {e:Ex} (hx:(fM a vars e).2=0):fM b vars e=fM a vars e:=by
 obtain ⟨h1,h2,h3⟩:=zKs hx
 rw [typeT_of rfl h1 h2,typeT_of rfl h1 h2,hs,nodeT_more h _ e h3]
/-! ## What an expression reads is found -/
theorem defsR_at (p:Pg):∀(l:List Df) (a:Int) (t:List ByteArray) (b:List Df),(jB p a t b l).2=0->∀(i:Nat) (d:Df),l[i]? =some d->gX ⟨p.Sizes,p.Params,b++l.take i⟩ d (t++(l.take i).map Df.Name)=0
 |[],a,t,b,_,i,d,hd=>by simp at hd
 |x::r,a,t,b,h,i,d,hd=>by
  rw [jB] at h
  by_cases c:gX ⟨p.Sizes,p.Params,b⟩ x t=0
  ·rw [if_pos c] at h
   cases i with
   |zero=>simp at hd;subst hd;simpa using c
   |succ i=>
    have:=defsR_at p r _ _ _ h i d (by simpa using hd)
    simpa [List.append_assoc] using this
  ·rw [if_neg c] at h;exact absurd h c
theorem zNa (p q:Pg) (hs:q.Sizes=p.Sizes):∀(l:List Pm) (a:Int) (t:List ByteArray),(fG p a t l).2=0->∃a',(jB p a' (t++l.map Pm.Name) [] p.Defs).2=0/\fG q a t l=jB q a' (t++l.map Pm.Name) [] q.Defs
 |[],a,t,h=>⟨a,by rw [fG] at h;simpa using h,by rw [fG];simp⟩
 |x::r,a,t,h=>by
  rw [fG] at h
  by_cases c:gL x p.Sizes t=0
  ·rw [if_pos c] at h
   obtain ⟨a',h1,h2⟩:=zNa p q hs r _ _ h
   exact ⟨a',by simpa [List.append_assoc] using h1,by rw [fG,hs,if_pos c,h2];simp [List.append_assoc]⟩
  ·rw [if_neg c] at h;exact absurd h c
theorem validR_of {p:Pg} (h:(jE p).2=0):dG p/\gU [] p.Sizes=0/\gS p.Sizes p.Where=0/\(fG p 2 p.Sizes p.Params).2=0:=by
 unfold jE at h
 by_cases c1:dG p
 ·rw [if_pos c1] at h
  by_cases c2:gU [] p.Sizes=0
  ·rw [if_pos c2] at h
   by_cases c3:gS p.Sizes p.Where=0
   ·rw [if_pos c3] at h;exact ⟨c1,c2,c3,h⟩
   ·rw [if_neg c3] at h;exact absurd h c3
  ·rw [if_neg c2] at h;exact absurd h c2
 ·rw [if_neg c1] at h;cases h
theorem hasB_mem17 {l:List ByteArray} {s:ByteArray} (h:bR l s=false):s ∉ l:=fun k=>by
 unfold bR at h
 rw [List.any_eq_false] at h
 exact h s k (by simp)
theorem defR_of {n:En} {d:Df} {t:List ByteArray} (h:gX n d t=0):d.Name ∉ t/\fM n (bQ d) d.Body=(d.T,0):=by
 have h1:dH d.Name t=0:=Decidable.byContradiction fun c=>by rw [zSs c] at h;exact c h
 have h2:dW d.T=true:=by
  cases c:dW d.T with
  |true=>rfl
  |false=>rw [zKh h1 c] at h;cases h
 have h3:¬(6<d.Dims.length∨6<d.Red.length):=fun c=>by rw [zKg h1 h2 c] at h;cases h
 rw [zSr h1 h2 h3] at h
 have h4:gI n.sz n.sz (d.Dims++d.Red)=0:=Decidable.byContradiction fun c=>by rw [if_neg c] at h;exact c h
 rw [if_pos h4] at h
 have h5:lZ d=0:=Decidable.byContradiction fun c=>by rw [if_neg c] at h;exact c h
 rw [if_pos h5,←typeT_R] at h
 unfold mJ at h
 have h6:(fM n (bQ d) d.Body).2=0:=Decidable.byContradiction fun c=>by rw [if_neg c] at h;exact c h
 rw [if_pos h6] at h
 have h7:(fM n (bQ d) d.Body).1=d.T:=Decidable.byContradiction fun c=>by rw [if_neg c] at h;cases h
 refine ⟨hasB_mem17 ?_,Prod.ext h7 h6⟩
 cases c:bR t d.Name with
 |false=>rfl
 |true=>
  unfold dH at h1
  by_cases c2:bD d.Name=true
  ·rw [if_pos c2,if_pos c] at h1;cases h1
  ·rw [if_neg c2] at h1;cases h1
end Go.Br
end
section
namespace Go.Br
open Go Go.Eng Go.L41
/-! ## The order of names -/
theorem bl_cons (a b:UInt8) (x y:List UInt8):Op.bytesLess (a::x) (b::y)=true↔a<b∨(a=b/\Op.bytesLess x y=true):=by
 rw [Op.bytesLess]
 by_cases h1:a<b<;>by_cases h2:a=b<;>simp [h1,h2]
theorem bl_trans:∀(x y z:List UInt8),Op.bytesLess x y=true->Op.bytesLess y z=true->Op.bytesLess x z=true
 |[],[],_,h,_=>by simp [Op.bytesLess] at h
 |[],_::_,[],_,h=>by simp [Op.bytesLess] at h
 |[],_::_,_::_,_,_=>by simp [Op.bytesLess]
 |_::_,[],_,h,_=>by simp [Op.bytesLess] at h
 |_::_,_::_,[],_,h=>by simp [Op.bytesLess] at h
 |a::x,b::y,c::z,h,k=>by
  rw [bl_cons] at h k⊢
  rcases h with h|⟨rfl,h⟩
  ·rcases k with k|⟨rfl,k⟩
   ·exact .inl (UInt8.lt_trans h k)
   ·exact .inl h
  ·rcases k with k|⟨rfl,k⟩
   ·exact .inl k
   ·exact .inr ⟨rfl,bl_trans x y z h k⟩
theorem bl_tri:∀(x y:List UInt8),Op.bytesLess x y=false->Op.bytesLess y x=false->x=y
 |[],[],_,_=>rfl
 |[],_::_,h,_=>by simp [Op.bytesLess] at h
 |_::_,[],_,h=>by simp [Op.bytesLess] at h
 |a::x,b::y,h,k=>by
  have h1:¬Op.bytesLess (a::x) (b::y)=true:=by rw [h];simp
  have k1:¬Op.bytesLess (b::y) (a::x)=true:=by rw [k];simp
  rw [bl_cons] at h1 k1
  have e:a=b:=UInt8.le_antisymm (UInt8.not_lt.1 fun c=>k1 (.inl c)) (UInt8.not_lt.1 fun c=>h1 (.inl c))
  subst e
  have h2:Op.bytesLess x y=false:=by
   cases c:Op.bytesLess x y with
   |false=>rfl
   |true=>exact absurd (.inr ⟨rfl,c⟩) h1
  have k2:Op.bytesLess y x=false:=by
   cases c:Op.bytesLess y x with
   |false=>rfl
   |true=>exact absurd (.inr ⟨rfl,c⟩) k1
  rw [bl_tri x y h2 k2]
theorem bl_irr:∀(x:List UInt8),Op.bytesLess x x=false
 |[]=>by simp [Op.bytesLess]
 |a::x=>by
  cases c:Op.bytesLess (a::x) (a::x) with
  |false=>rfl
  |true=>
   rw [bl_cons] at c
   rcases c with c|⟨_,c⟩
   ·exact absurd c (UInt8.lt_irrefl a)
   ·rw [bl_irr x] at c;cases c
theorem strLt_tri {a b:ByteArray} (h:bY a b=false) (k:bY b a=false):a=b:=by
 have h1:=bl_tri _ _ h k
 rw [ByteArray.toList_eq,ByteArray.toList_eq] at h1
 exact ByteArray.ext (Array.toList_inj.1 h1)
theorem zHm (a:ByteArray):bY a a=false:=bl_irr _
theorem zGq {a b c:ByteArray} (h:bY a b=true) (k:bY b c=true):bY a c=true:=bl_trans _ _ _ h k
/-! ## Numbers -/
def r64 (n:Int):Prop:= -9223372036854775808<=n/\n<=9223372036854775807
instance (n:Int):Decidable (r64 n):=by unfold r64;infer_instance
def w64 (n:Int):Int:=IntKind.i64.wrap n
theorem w64_in {n:Int} (h:r64 n):w64 n=n:=IntWalk.i64_in n h
theorem zKo (n:Int):w64 n=(n+9223372036854775808)%18446744073709551616-9223372036854775808:=by unfold w64;rw [IntKind.wrap_i64]
theorem w64_r (n:Int):r64 (w64 n):=by rw [zKo];unfold r64;omega
theorem u64_eq (n:Int):IntKind.u64.wrap n=n%18446744073709551616:=by rw [IntKind.wrap_u64]
theorem plus_ok {a b:Int} (ha:r64 a) (hb:r64 b):decide (decide (a<w64 (a+b))=decide (0<b))=decide (r64 (a+b)):=by
 refine decide_eq_decide.2 ?_
 rw [zKo,decide_eq_decide]
 unfold r64 at *
 omega
theorem sq_le {a b:Nat} (ha:a<=4294967295) (hb:b<=4294967295):a*b<=18446744065119617025:=Nat.mul_le_mul ha hb
def hiN (a b:Nat):Nat:=
 (a/4294967296)*(b/4294967296)+((a/4294967296)*(b%4294967296)+((a%4294967296)*(b%4294967296))/4294967296)/4294967296+
  ((a%4294967296)*(b/4294967296)+((a/4294967296)*(b%4294967296)+((a%4294967296)*(b%4294967296))/4294967296)%4294967296)/4294967296
theorem mul_parts (a b:Nat):a*b=(a/4294967296)*(b/4294967296)*18446744073709551616+((a/4294967296)*(b%4294967296)+(a%4294967296)*(b/4294967296))*4294967296+(a%4294967296)*(b%4294967296):=by
 have ea:a=(a/4294967296)*4294967296+a%4294967296:=by omega
 have eb:b=(b/4294967296)*4294967296+b%4294967296:=by omega
 generalize a/4294967296=a1 at *
 generalize a%4294967296=a0 at *
 generalize b/4294967296=b1 at *
 generalize b%4294967296=b0 at *
 subst ea eb
 rw [Nat.add_mul,Nat.mul_add,Nat.mul_add,Nat.add_mul]
 have e1:a1*4294967296*(b1*4294967296)=a1*b1*18446744073709551616:=by
  rw [Nat.mul_mul_mul_comm]
 have e2:a1*4294967296*b0=a1*b0*4294967296:=by rw [Nat.mul_right_comm]
 have e3:a0*(b1*4294967296)=a0*b1*4294967296:=by rw [Nat.mul_assoc]
 rw [e1,e2,e3]
 omega
theorem hi_lo (a b:Nat):hiN a b*18446744073709551616+(a*b)%18446744073709551616=a*b:=by
 have h:=mul_parts a b
 unfold hiN
 generalize a*b=n at *
 generalize (a/4294967296)*(b/4294967296)=p11 at *
 generalize (a/4294967296)*(b%4294967296)=p10 at *
 generalize (a%4294967296)*(b/4294967296)=p01 at *
 generalize (a%4294967296)*(b%4294967296)=p00 at *
 omega
theorem part_le {a b:Nat} (ha:a<18446744073709551616) (hb:b<18446744073709551616):
  (a/4294967296)*(b/4294967296)<=18446744065119617025/\(a/4294967296)*(b%4294967296)<=18446744065119617025/\(a%4294967296)*(b/4294967296)<=18446744065119617025/\(a%4294967296)*(b%4294967296)<=18446744065119617025:=
 ⟨sq_le (by omega) (by omega),sq_le (by omega) (by omega),sq_le (by omega) (by omega),sq_le (by omega) (by omega)⟩
theorem hi_zero {a b:Nat}:hiN a b=0↔a*b<18446744073709551616:=by
 have h:=hi_lo a b
 constructor
 ·intro e;rw [e] at h;omega
 ·intro e
  by_cases c:hiN a b=0
  ·exact c
  ·exfalso;generalize a*b=n at *;generalize hiN a b=m at *;omega
theorem hi_bounds {a b:Nat} (ha:a<18446744073709551616) (hb:b<18446744073709551616):
  (a/4294967296)*(b%4294967296)+((a%4294967296)*(b%4294967296))/4294967296<18446744073709551616/\
  (a%4294967296)*(b/4294967296)+((a/4294967296)*(b%4294967296)+((a%4294967296)*(b%4294967296))/4294967296)%4294967296<18446744073709551616/\
  (a/4294967296)*(b/4294967296)+((a/4294967296)*(b%4294967296)+((a%4294967296)*(b%4294967296))/4294967296)/4294967296<18446744073709551616/\hiN a b<18446744073709551616:=by
 obtain ⟨h1,h2,h3,h4⟩:=part_le ha hb
 have h5:=hi_lo a b
 have h6:a*b<=18446744073709551615*18446744073709551615:=Nat.mul_le_mul (by omega) (by omega)
 refine ⟨?_,?_,?_,?_⟩
 ·generalize (a/4294967296)*(b%4294967296)=p10 at *
  generalize (a%4294967296)*(b%4294967296)=p00 at *
  omega
 ·generalize (a/4294967296)*(b%4294967296)=p10 at *
  generalize (a%4294967296)*(b/4294967296)=p01 at *
  generalize (a%4294967296)*(b%4294967296)=p00 at *
  omega
 ·generalize (a/4294967296)*(b/4294967296)=p11 at *
  generalize (a/4294967296)*(b%4294967296)=p10 at *
  generalize (a%4294967296)*(b%4294967296)=p00 at *
  omega
 ·generalize a*b=n at *
  generalize hiN a b=m at *
  omega
def dZ (x y:Int):Int×Bool:=if r64 (x*y) then (x*y,true) else (0,false)
theorem zPf {x:Int} (h:r64 x) (hn:x<0):IntKind.u64.wrap (-(IntKind.u64.wrap x))=(x.natAbs:Int):=by
 unfold r64 at h;rw [u64_eq,u64_eq];omega
theorem zPe {x:Int} (h:r64 x) (hn:¬x<0):IntKind.u64.wrap x=(x.natAbs:Int):=by
 unfold r64 at h;rw [u64_eq];omega
theorem zNi {x:Int} (h:r64 x):x.natAbs<=9223372036854775808:=by unfold r64 at h;omega
theorem zIg (x y:Int):(x*y).natAbs=x.natAbs*y.natAbs:=Int.natAbs_mul x y
theorem sign_mul {x y:Int} (hx:x<0) (hy:¬y<0):x*y<=0:=Int.mul_nonpos_of_nonpos_of_nonneg (by omega) (by omega)
theorem sign_mul2 {x y:Int} (hx:¬x<0) (hy:y<0):x*y<=0:=Int.mul_nonpos_of_nonneg_of_nonpos (by omega) (by omega)
theorem sign_mul3 {x y:Int} (hx:x<0) (hy:y<0):0<=x*y:=Int.mul_nonneg_of_nonpos_of_nonpos (by omega) (by omega)
theorem sign_mul4 {x y:Int} (hx:¬x<0) (hy:¬y<0):0<=x*y:=Int.mul_nonneg (by omega) (by omega)
theorem neg_mul {x y:Int} (h:(decide (x<0)==decide (y<0))=false):x*y<=0:=by
 by_cases hx:x<0<;>by_cases hy:y<0
 ·simp [hx,hy] at h
 ·exact sign_mul hx hy
 ·exact sign_mul2 hx hy
 ·simp [hx,hy] at h
theorem pos_mul {x y:Int} (h:(decide (x<0)==decide (y<0))=true):0<=x*y:=by
 by_cases hx:x<0<;>by_cases hy:y<0
 ·exact sign_mul3 hx hy
 ·simp [hx,hy] at h
 ·simp [hx,hy] at h
 ·exact sign_mul4 hx hy
theorem times_big {x y:Int} (hx:r64 x) (hy:r64 y) (h:hiN x.natAbs y.natAbs≠0∨9223372036854775808<x.natAbs*y.natAbs%18446744073709551616):dZ x y=(0,false):=by
 unfold dZ
 refine if_neg fun k=>?_
 have h1:=zIg x y
 unfold r64 at k
 have h2:x.natAbs*y.natAbs<18446744073709551616:=by rw [←h1];omega
 rcases h with h|h
 ·exact h (hi_zero.2 h2)
 ·rw [Nat.mod_eq_of_lt h2,←h1] at h;omega
theorem times_edge {x y:Int} (h:(decide (x<0)==decide (y<0))=true) (h2:x.natAbs*y.natAbs%18446744073709551616=9223372036854775808):dZ x y=(0,false):=by
 unfold dZ
 refine if_neg fun k=>?_
 have h1:=zIg x y
 have h3:=pos_mul h
 unfold r64 at k
 rw [←h1] at h2
 omega
theorem times_neg {x y:Int} (h:(decide (x<0)==decide (y<0))=false) (h0:hiN x.natAbs y.natAbs=0) (hl:x.natAbs*y.natAbs%18446744073709551616<=9223372036854775808):dZ x y=(IntKind.i64.wrap (IntKind.u64.wrap (-((x.natAbs*y.natAbs%18446744073709551616:Nat):Int))),true):=by
 have h1:=zIg x y
 have h3:=neg_mul h
 have h4:=hi_zero.1 h0
 rw [Nat.mod_eq_of_lt h4] at hl⊢
 rw [←h1] at hl⊢
 unfold dZ
 rw [if_pos (by unfold r64;omega),u64_eq]
 congr 1
 show _=w64 _
 rw [zKo];omega
theorem times_pos {x y:Int} (h:(decide (x<0)==decide (y<0))=true) (h0:hiN x.natAbs y.natAbs=0) (hl:x.natAbs*y.natAbs%18446744073709551616<9223372036854775808):dZ x y=(IntKind.i64.wrap ((x.natAbs*y.natAbs%18446744073709551616:Nat):Int),true):=by
 have h1:=zIg x y
 have h3:=pos_mul h
 have h4:=hi_zero.1 h0
 rw [Nat.mod_eq_of_lt h4] at hl⊢
 rw [←h1] at hl⊢
 unfold dZ
 rw [if_pos (by unfold r64;omega)]
 congr 1
 show _=w64 _
 rw [zKo];omega
theorem times_f {x y:Int} (hx:r64 x) (hy:r64 y) (c:(¬((hiN x.natAbs y.natAbs:Nat):Int)=0∨9223372036854775808<((x.natAbs*y.natAbs%18446744073709551616:Nat):Int))∨((x.natAbs*y.natAbs%18446744073709551616:Nat):Int)=9223372036854775808/\(decide (x<0)==decide (y<0))=true):dZ x y=(0,false):=by
 rcases c with (c|c)|⟨c,d⟩
 ·exact times_big hx hy (.inl (by omega))
 ·exact times_big hx hy (.inr (by omega))
 ·exact times_edge d (by omega)
def rV (a b:Nat):Nat:=(a%4294967296)*(b%4294967296)/4294967296+(a/4294967296)*(b%4294967296)%4294967296+(a%4294967296)*(b/4294967296)%4294967296
def wHi (a b:Nat):Nat:=(a/4294967296)*(b/4294967296)+(a/4294967296)*(b%4294967296)/4294967296+(a%4294967296)*(b/4294967296)/4294967296+rV a b/4294967296
def wLo (a b:Nat):Nat:=rV a b%4294967296*4294967296+(a%4294967296)*(b%4294967296)%4294967296
theorem wide_eq (a b:Nat):wHi a b=a*b/18446744073709551616/\wLo a b=a*b%18446744073709551616:=by
 have h:=mul_parts a b
 unfold wHi wLo rV
 generalize a*b=n at *
 generalize (a/4294967296)*(b/4294967296)=p11 at *
 generalize (a/4294967296)*(b%4294967296)=p10 at *
 generalize (a%4294967296)*(b/4294967296)=p01 at *
 generalize (a%4294967296)*(b%4294967296)=p00 at *
 omega
theorem zPs {x y:Int} (hx:r64 x) (hy:r64 y):x.natAbs*y.natAbs<=85070591730234615865843651857942052864:=Nat.mul_le_mul (zNi hx) (zNi hy)
theorem wide_lt {x y:Int} (hx:r64 x) (hy:r64 y):wHi x.natAbs y.natAbs<18446744073709551616/\wLo x.natAbs y.natAbs<18446744073709551616:=by
 obtain ⟨h1,h2⟩:=wide_eq x.natAbs y.natAbs
 have:=zPs hx hy
 rw [h1,h2];omega
theorem zOw {x y:Int} (hx:r64 x) (hy:r64 y) (h:(decide (x<0)==decide (y<0))=true):IntKind.i64.wrap ((wHi x.natAbs y.natAbs:Nat):Int)=(x*y)/18446744073709551616/\wLo x.natAbs y.natAbs=((x*y)%18446744073709551616).toNat:=by
 obtain ⟨h1,h2⟩:=wide_eq x.natAbs y.natAbs
 have h3:=pos_mul h
 have h4:=zIg x y
 have h5:=zPs hx hy
 show w64 _=_/\_
 rw [h1,h2,zKo,←h4] at *
 generalize x*y=z at *
 omega
theorem zKn {x y:Int} (hx:r64 x) (hy:r64 y) (h:(decide (x<0)==decide (y<0))=false) (h0:(18446744073709551616-wLo x.natAbs y.natAbs)%18446744073709551616=0):IntKind.i64.wrap (((18446744073709551615-wHi x.natAbs y.natAbs+1)%18446744073709551616:Nat):Int)=(x*y)/18446744073709551616/\(18446744073709551616-wLo x.natAbs y.natAbs)%18446744073709551616=((x*y)%18446744073709551616).toNat:=by
 obtain ⟨h1,h2⟩:=wide_eq x.natAbs y.natAbs
 have h3:=neg_mul h
 have h4:=zIg x y
 have h5:=zPs hx hy
 show w64 _=_/\_
 rw [h2,←h4] at h0
 rw [←h4] at h5
 rw [h1,h2,zKo,←h4]
 clear h1 h2 h4 h
 generalize x*y=z at *
 omega
theorem zKm {x y:Int} (hx:r64 x) (hy:r64 y) (h:(decide (x<0)==decide (y<0))=false) (h0:¬(18446744073709551616-wLo x.natAbs y.natAbs)%18446744073709551616=0):IntKind.i64.wrap ((18446744073709551615-wHi x.natAbs y.natAbs:Nat):Int)=(x*y)/18446744073709551616/\(18446744073709551616-wLo x.natAbs y.natAbs)%18446744073709551616=((x*y)%18446744073709551616).toNat:=by
 obtain ⟨h1,h2⟩:=wide_eq x.natAbs y.natAbs
 have h3:=neg_mul h
 have h4:=zIg x y
 have h5:=zPs hx hy
 show w64 _=_/\_
 rw [h2,←h4] at h0
 rw [←h4] at h5
 rw [h1,h2,zKo,←h4]
 clear h1 h2 h4 h
 generalize x*y=z at *
 omega
theorem prod_bd {x y:Int} (hx:r64 x) (hy:r64 y): -4611686018427387904<=x*y/18446744073709551616/\x*y/18446744073709551616<=4611686018427387904:=by
 have h5:=zPs hx hy
 have h4:=zIg x y
 rw [←h4] at h5
 generalize x*y=z at *
 omega
theorem zPp {a z k S:Int} (h0:0<=S) (h1:S<18446744073709551616) (h:k*18446744073709551616+S=a+z):
  V.tup [vI (IntKind.i64.wrap S),vB (decide (k=0)&&decide (0<=IntKind.i64.wrap S)||decide (k= -1)&&decide (IntKind.i64.wrap S<0))]=V.tup [vI (w64 (a+z)),vB (decide (r64 (a+z)))]:=by
 have e:IntKind.i64.wrap S=(S+9223372036854775808)%18446744073709551616-9223372036854775808:=zKo S
 have e1:w64 (a+z)=IntKind.i64.wrap S:=by rw [zKo,e];omega
 have e2:(decide (k=0)&&decide (0<=IntKind.i64.wrap S)||decide (k= -1)&&decide (IntKind.i64.wrap S<0))=decide (r64 (a+z)):=by
  rw [e]
  by_cases c:r64 (a+z)
  ·rw [decide_eq_true c]
   unfold r64 at c
   by_cases d:k=0
   ·rw [decide_eq_true d,decide_eq_true (by omega)];rfl
   ·rw [decide_eq_false d,decide_eq_true (show k= -1 by omega),decide_eq_true (show (S+9223372036854775808)%18446744073709551616-9223372036854775808<0 by omega)];rfl
  ·rw [decide_eq_false c]
   unfold r64 at c
   by_cases d:k=0
   ·rw [decide_eq_true d,decide_eq_false (show ¬k= -1 by omega),decide_eq_false (by omega)];rfl
   ·rw [decide_eq_false d]
    by_cases f:k= -1
    ·rw [decide_eq_true f,decide_eq_false (show ¬(S+9223372036854775808)%18446744073709551616-9223372036854775808<0 by omega)];rfl
    ·rw [decide_eq_false f];rfl
 rw [e1,e2]
theorem zPo {a z:Int} (ha:r64 a):∃S,S=IntKind.u64.wrap (((z%18446744073709551616).toNat:Int)+IntKind.u64.wrap a)/\0<=S/\S<18446744073709551616/\S=((z%18446744073709551616)+a%18446744073709551616)%18446744073709551616/\((z%18446744073709551616).toNat:Int)=z%18446744073709551616:=by
 refine ⟨_,rfl,?_⟩
 rw [u64_eq,u64_eq]
 omega
/-! ## Merges -/
abbrev Tr:=ByteArray×Int×Int
def dT:Nat->List Mono->List Mono->List Tr
 |0,_,_=>[]
 |_+1,[],[]=>[]
 |n+1,a::ar,[]=>(a.Name,a.By,0)::dT n ar []
 |n+1,[],b::bs=>(b.Name,0,b.By)::dT n [] bs
 |n+1,a::ar,b::bs=>
  bif bY a.Name b.Name then (a.Name,a.By,0)::dT n ar (b::bs)
  else bif bY b.Name a.Name then (b.Name,0,b.By)::dT n (a::ar) bs
  else (a.Name,a.By,b.By)::dT n ar bs
theorem zAf:∀(n:Nat) (a b:List Mono),a.length+b.length<=n->dT n a b=dT (a.length+b.length) a b
 |0,a,b,h=>by rw [show a.length+b.length=0 by omega]
 |n+1,[],[],_=>rfl
 |n+1,a::ar,[],h=>by
  have ih:=zAf n ar [] (by simp at h⊢;omega)
  show (a.Name,a.By,0)::dT n ar []=(a.Name,a.By,0)::dT (ar.length) ar []
  rw [ih];rfl
 |n+1,[],b::bs,h=>by
  have ih:=zAf n [] bs (by simp at h⊢;omega)
  have e:([]:List Mono).length+(b::bs).length=bs.length+1:=by simp
  rw [e,dT,dT,ih];simp
 |n+1,a::ar,b::bs,h=>by
  have h':ar.length+1+(bs.length+1)<=n+1:=by simpa using h
  have i1:=zAf n ar (b::bs) (by simp;omega)
  have i2:=zAf n (a::ar) bs (by simp;omega)
  have i3:=zAf n ar bs (by omega)
  have j1:=zAf (ar.length+bs.length+1) ar (b::bs) (by simp;omega)
  have j2:=zAf (ar.length+bs.length+1) (a::ar) bs (by simp;omega)
  have j3:=zAf (ar.length+bs.length+1) ar bs (by omega)
  have e:(a::ar).length+(b::bs).length=(ar.length+bs.length+1)+1:=by simp;omega
  rw [e,dT,dT,i1,i2,i3,j1,j2,j3]
def bH (a b:List Mono):List Tr:=dT (a.length+b.length) a b
theorem zNh:bH [] []=[]:=rfl
theorem zLi (a:Mono) (ar:List Mono):bH (a::ar) []=(a.Name,a.By,0)::bH ar []:=rfl
theorem zLh (b:Mono) (bs:List Mono):bH [] (b::bs)=(b.Name,0,b.By)::bH [] bs:=by
 unfold bH;rw [show ([]:List Mono).length+(b::bs).length=bs.length+1 by simp,dT];simp
theorem zEb (a b:Mono) (ar bs:List Mono):bH (a::ar) (b::bs)=bif bY a.Name b.Name then (a.Name,a.By,0)::bH ar (b::bs) else bif bY b.Name a.Name then (b.Name,0,b.By)::bH (a::ar) bs else (a.Name,a.By,b.By)::bH ar bs:=by
 unfold bH
 rw [show (a::ar).length+(b::bs).length=(ar.length+bs.length+1)+1 by simp;omega,dT]
 rw [zAf _ ar (b::bs) (by simp;omega),zAf _ (a::ar) bs (by simp;omega),zAf _ ar bs (by omega)]
theorem zCh (a b:List Mono):(bH a b).length<=a.length+b.length:=by
 have:∀(n:Nat) (a b:List Mono),(dT n a b).length<=n:=by
  intro n
  induction n with
  |zero=>intro a b;simp [dT]
  |succ n ih=>
   intro a b
   cases a with
   |nil=>
    cases b with
    |nil=>simp [dT]
    |cons b bs=>simp only [dT,List.length_cons];have:=ih [] bs;omega
   |cons a ar=>
    cases b with
    |nil=>simp only [dT,List.length_cons];have:=ih ar [];omega
    |cons b bs=>
     have h1:=ih ar (b::bs)
     have h2:=ih (a::ar) bs
     have h3:=ih ar bs
     simp only [dT]
     cases bY a.Name b.Name<;>cases bY b.Name a.Name<;>simp only [cond_true,cond_false,List.length_cons]<;>omega
 exact this _ a b
def hdM (l:List Mono):Mono:=l.headD ⟨bs [],0⟩
theorem zIb {l:List Mono} (h:0<l.length):l[0]? =some (hdM l):=by
 cases l with
 |nil=>simp at h
 |cons x r=>rfl
def mC2 (a b:List Mono):Bool:=decide ((b.length:Int)=0)||(decide ((0:Int)<a.length)&&bY (hdM a).Name (hdM b).Name)
def mC3 (a b:List Mono):Bool:=decide ((a.length:Int)=0)||bY (hdM b).Name (hdM a).Name
theorem mC2_b {a b:List Mono} (c:mC2 a b=false):0<b.length:=by
 unfold mC2 at c
 cases b with
 |nil=>simp at c
 |cons y s=>simp
theorem merge_left {a b:List Mono} (h:0<a.length∨0<b.length) (c:mC2 a b=true):0<a.length/\bH a b=((hdM a).Name,(hdM a).By,0)::bH (a.drop 1) b:=by
 unfold mC2 at c
 cases a with
 |nil=>
  cases b with
  |nil=>simp at h
  |cons y s=>simp at c;omega
 |cons x r=>
  refine ⟨by simp,?_⟩
  cases b with
  |nil=>rw [zLi];rfl
  |cons y s=>
   have c2:bY x.Name y.Name=true:=by
    rw [Bool.or_eq_true,Bool.and_eq_true,decide_eq_true_eq] at c
    rcases c with c|c
    ·simp at c;omega
    ·exact c.2
   rw [zEb,c2];rfl
theorem merge_right {a b:List Mono} (h:0<a.length∨0<b.length) (c:mC2 a b=false) (c3:mC3 a b=true):0<b.length/\bH a b=((hdM b).Name,0,(hdM b).By)::bH a (b.drop 1):=by
 unfold mC2 at c
 unfold mC3 at c3
 cases b with
 |nil=>simp at c
 |cons y s=>
  refine ⟨by simp,?_⟩
  cases a with
  |nil=>rw [zLh];rfl
  |cons x r=>
   have c2:bY x.Name y.Name=false:=by
    rw [Bool.or_eq_false_iff,Bool.and_eq_false_iff] at c
    rcases c.2 with c|c
    ·simp at c
    ·exact c
   have c4:bY y.Name x.Name=true:=by
    rw [Bool.or_eq_true,decide_eq_true_eq] at c3
    rcases c3 with c|c
    ·simp at c;omega
    ·exact c
   rw [zEb,c2,c4];rfl
theorem merge_both {a b:List Mono} (c:mC2 a b=false) (c3:mC3 a b=false):0<a.length/\0<b.length/\bH a b=((hdM a).Name,(hdM a).By,(hdM b).By)::bH (a.drop 1) (b.drop 1):=by
 unfold mC2 at c
 unfold mC3 at c3
 cases b with
 |nil=>simp at c
 |cons y s=>
  cases a with
  |nil=>simp at c3
  |cons x r=>
   refine ⟨by simp,by simp,?_⟩
   have c2:bY x.Name y.Name=false:=by
    rw [Bool.or_eq_false_iff,Bool.and_eq_false_iff] at c
    rcases c.2 with c|c
    ·simp at c
    ·exact c
   have c4:bY y.Name x.Name=false:=by
    rw [Bool.or_eq_false_iff] at c3
    exact c3.2
   rw [zEb,c2,c4];rfl
/-! ## Sums -/
def trV (t:Tr):Int:=t.2.1+t.2.2
def tR (t:Tr):Bool:=decide (r64 (trV t))
def mK (ts:List Tr):List Mono:=ts.filterMap fun t=>if w64 (trV t)=0 then none else some ⟨t.1,w64 (trV t)⟩
theorem zDp (d:List Tr) (t:Tr):mK (d++[t])=mK d++(if w64 (trV t)=0 then [] else [⟨t.1,w64 (trV t)⟩]):=by
 unfold mK;rw [List.filterMap_append];congr 1
 by_cases h:w64 (trV t)=0<;>simp [h]
theorem sumW_len (d:List Tr):(mK d).length<=d.length:=List.length_filterMap_le _ _
def okF (ok:Bool) (d:List Tr):Bool:=d.foldl (fun b t=>b&&decide (r64 (t.2.1+t.2.2))) ok
theorem zFc (ok:Bool) (d:List Tr) (t:Tr):okF ok (d++[t])=(okF ok d&&decide (r64 (t.2.1+t.2.2))):=by unfold okF;rw [List.foldl_append];rfl
theorem okF_all (ok:Bool) (d:List Tr):okF ok d=(ok&&d.all tR):=by
 induction d generalizing ok with
 |nil=>simp [okF]
 |cons t r ih=>
  show okF (ok&&tR t) r=_
  rw [ih,List.all_cons,Bool.and_assoc]
theorem zEk:∀(n:Nat) (a b:List Mono),(∀m,m∈a->r64 m.By)->(∀m,m∈b->r64 m.By)->∀t,t∈dT n a b->r64 t.2.1/\r64 t.2.2
 |0,_,_,_,_,t,ht=>by simp [dT] at ht
 |_+1,[],[],_,_,t,ht=>by simp [dT] at ht
 |n+1,x::r,[],h1,h2,t,ht=>by
  simp only [dT] at ht
  rcases List.mem_cons.1 ht with rfl|ht
  ·exact ⟨h1 x (by simp),by show r64 0;unfold r64;omega⟩
  ·exact zEk n r [] (fun m hm=>h1 m (by simp [hm])) h2 t ht
 |n+1,[],y::s,h1,h2,t,ht=>by
  simp only [dT] at ht
  rcases List.mem_cons.1 ht with rfl|ht
  ·exact ⟨by show r64 0;unfold r64;omega,h2 y (by simp)⟩
  ·exact zEk n [] s h1 (fun m hm=>h2 m (by simp [hm])) t ht
 |n+1,x::r,y::s,h1,h2,t,ht=>by
  have g1:=zEk n r (y::s) (fun m hm=>h1 m (by simp [hm])) h2 t
  have g2:=zEk n (x::r) s h1 (fun m hm=>h2 m (by simp [hm])) t
  have g3:=zEk n r s (fun m hm=>h1 m (by simp [hm])) (fun m hm=>h2 m (by simp [hm])) t
  have z0:r64 0:=by unfold r64;omega
  simp only [dT] at ht
  cases c1:bY x.Name y.Name with
  |true=>
   rw [c1,cond_true] at ht
   rcases List.mem_cons.1 ht with rfl|ht
   ·exact ⟨h1 x (by simp),z0⟩
   ·exact g1 ht
  |false=>
   rw [c1,cond_false] at ht
   cases c2:bY y.Name x.Name with
   |true=>
    rw [c2,cond_true] at ht
    rcases List.mem_cons.1 ht with rfl|ht
    ·exact ⟨z0,h2 y (by simp)⟩
    ·exact g2 ht
   |false=>
    rw [c2,cond_false] at ht
    rcases List.mem_cons.1 ht with rfl|ht
    ·exact ⟨h1 x (by simp),h2 y (by simp)⟩
    ·exact g3 ht
theorem merge_rng {a b:List Mono} (h1:∀m,m∈a->r64 m.By) (h2:∀m,m∈b->r64 m.By) {d s:List Tr} {t:Tr} (h:bH a b=d++t::s):r64 t.2.1/\r64 t.2.2/\d.length<=a.length+b.length:=by
 have h3:=zCh a b
 rw [h] at h3
 simp only [List.length_append,List.length_cons] at h3
 obtain ⟨k1,k2⟩:=zEk _ a b h1 h2 t (by rw [show dT (a.length+b.length) a b=bH a b from rfl,h];simp)
 exact ⟨k1,k2,by omega⟩
def mZ (k:Int) (ts:List Tr):Lf×Int:=if r64 k/\ts.all tR=true then (⟨k,mK ts⟩,0) else (zL,3)
def pG (a b:Lf):Lf×Int:=if bJ a=true/\bJ b=true then mZ (a.K+b.K) (bH a.L b.L) else (zL,1)
theorem add_bad {a b:Lf} (h:¬(bJ a=true/\bJ b=true)):pG a b=(zL,1):=by unfold pG;rw [if_neg h]
theorem add_c1 {a b:Lf} (c:¬fZ a=0∨¬fZ b=0):pG a b=(zL,1):=add_bad fun h=>by
 rcases c with c|c
 ·have:=zHz c;rw [h.1] at this;cases this
 ·have:=zHz c;rw [h.2] at this;cases this
theorem add_no {a b:Lf} (h1:bJ a=true) (h2:bJ b=true) (h:okF (decide (r64 (a.K+b.K))) (bH a.L b.L)=false):pG a b=(zL,3):=by
 unfold pG mZ
 rw [if_pos ⟨h1,h2⟩,if_neg fun k=>?_]
 rw [okF_all,decide_eq_true k.1,k.2] at h
 cases h
theorem add_ok {a b:Lf} (h1:bJ a=true) (h2:bJ b=true) (h:okF (decide (r64 (a.K+b.K))) (bH a.L b.L)=true):pG a b=(⟨w64 (a.K+b.K),mK (bH a.L b.L)⟩,0):=by
 rw [okF_all,Bool.and_eq_true,decide_eq_true_eq] at h
 unfold pG mZ
 rw [if_pos ⟨h1,h2⟩,if_pos h,w64_in h.1]
def lH (by_:Int) (l:List Mono):List Mono:=l.map fun m=>⟨m.Name,m.By*by_⟩
def fQ (by_:Int) (l:List Mono):Bool:=l.all fun m=>decide (r64 (m.By*by_))
def fA (a:Lf) (by_:Int):Lf×Int:=if bJ a=true then (if by_=0 then (zL,0) else if r64 (a.K*by_)/\fQ by_ a.L=true then (⟨a.K*by_,lH by_ a.L⟩,0) else (zL,3)) else (zL,1)
def lU (l:Lf) (s:ByteArray):Lf:=⟨l.K,l.L.filter fun m=> !decide (m.Name=s)⟩
def bU (l:List Mono) (s:ByteArray):Int:=l.foldl (fun by_ m=>if m.Name=s then m.By else by_) 0
def jH (l:Lf) (s:ByteArray) (to_:Lf):Lf×Int:=
 if bJ l=true/\bD s=true/\bJ to_=true then (if (fA to_ (bU l.L s)).2=0 then pG (lU l s) (fA to_ (bU l.L s)).1 else (zL,(fA to_ (bU l.L s)).2)) else (zL,1)
def mN (by_:Int) (ts:List Tr):List Tr:=ts.map fun t=>(t.1,t.2.1,t.2.2*by_)
def bO (l:Lf) (s:ByteArray) (to_:Lf):Lf×Int:=
 if bJ l=true/\bJ to_=true/\bD s=true then
  (if bU l.L s=0 then (l,0) else if r64 (to_.K*bU l.L s)/\fQ (bU l.L s) to_.L=true then mZ (l.K+to_.K*bU l.L s) (mN (bU l.L s) (bH (lU l s).L to_.L)) else (zL,3))
 else (zL,1)
def lM (by_:Int) (l:List Mono):List Mono:=l.map fun m=>⟨m.Name,(dZ m.By by_).1⟩
def mC (by_:Int) (l:List Mono):Bool:=l.all fun m=>(dZ m.By by_).2
theorem scaleW_len (by_:Int) (l:List Mono):(lM by_ l).length=l.length:=by simp [lM]
theorem scaleW_next {by_:Int} {l:List Mono} {k:Nat} {x:Mono} (h:l[k]? =some x):lM by_ (l.take (k+1))=lM by_ (l.take k)++[⟨x.Name,(dZ x.By by_).1⟩]:=by unfold lM;rw [qT h,List.map_append];rfl
theorem scaleB_next {by_:Int} {l:List Mono} {k:Nat} {x:Mono} (h:l[k]? =some x):mC by_ (l.take (k+1))=(mC by_ (l.take k)&&(dZ x.By by_).2):=by unfold mC;rw [qT h,List.all_append];simp
theorem timesT_2 (x y:Int):(dZ x y).2=decide (r64 (x*y)):=by unfold dZ;by_cases h:r64 (x*y)<;>simp [h]
theorem timesT_1 {x y:Int} (h:r64 (x*y)):(dZ x y).1=x*y:=by unfold dZ;rw [if_pos h]
theorem scaleOk_next {by_:Int} {l:List Mono} {k:Nat} {x:Mono} (h:l[k]? =some x) (hp:fQ by_ (l.take k)=true) (hx:r64 (x.By*by_)):fQ by_ (l.take (k+1))=true:=by
 unfold fQ at *;rw [qT h,List.all_append,hp];simp [hx]
theorem scaleOk_no {by_:Int} {l:List Mono} {k:Nat} {x:Mono} (h:l[k]? =some x) (hx:¬r64 (x.By*by_)):fQ by_ l=false:=by
 unfold fQ;rw [List.all_eq_false];exact ⟨x,zX h,by simp [hx]⟩
theorem scaleB_ok (by_:Int) (l:List Mono):mC by_ l=fQ by_ l:=by unfold mC fQ;congr 1;funext m;exact timesT_2 _ _
theorem scaleW_ok {by_:Int} {l:List Mono} (h:fQ by_ l=true):lM by_ l=lH by_ l:=by
 unfold fQ at h
 rw [List.all_eq_true] at h
 unfold lM lH
 refine List.map_congr_left fun m hm=>?_
 rw [timesT_1 (by simpa using h m hm)]
theorem scale_ok {l:Lf} {by_:Int} (h1:bJ l=true) (h2:¬by_=0) (h3:(dZ l.K by_).2=true/\mC by_ l.L=true):fA l by_=(⟨(dZ l.K by_).1,lM by_ l.L⟩,0):=by
 rw [timesT_2,decide_eq_true_eq,scaleB_ok] at h3
 unfold fA
 rw [if_pos h1,if_neg h2,if_pos h3,timesT_1 h3.1,scaleW_ok h3.2]
theorem scale_no {l:Lf} {by_:Int} (h1:bJ l=true) (h2:¬by_=0) (h3:(dZ l.K by_).2=false∨mC by_ l.L=false):fA l by_=(zL,3):=by
 unfold fA
 rw [if_pos h1,if_neg h2,if_neg fun h=>?_]
 rw [timesT_2,scaleB_ok,decide_eq_true h.1,h.2] at h3
 rcases h3 with h3|h3<;>cases h3
theorem scale_zero {l:Lf} {by_:Int} (h1:bJ l=true) (h2:by_=0):fA l by_=(zL,0):=by unfold fA;rw [if_pos h1,if_pos h2]
theorem scale_bad {l:Lf} {by_:Int} (h1:bJ l=false):fA l by_=(zL,1):=by unfold fA;rw [if_neg (by rw [h1];simp)]
theorem zCg (by_:Int):∀(n:Nat) (a b:List Mono),a.length+b.length<=n->bH a (lH by_ b)=mN by_ (bH a b)
 |_,[],[],_=>rfl
 |0,_::_,_,h=>by simp at h
 |0,[],_::_,h=>by simp at h
 |n+1,a::ar,[],h=>by
  have ih:=zCg by_ n ar [] (by simp at h⊢;omega)
  show bH (a::ar) []=_
  rw [zLi]
  show _=(a.Name,a.By,0*by_)::mN by_ (bH ar [])
  rw [←ih,Int.zero_mul];rfl
 |n+1,[],b::bs,h=>by
  have ih:=zCg by_ n [] bs (by simp at h⊢;omega)
  show bH [] (⟨b.Name,b.By*by_⟩::lH by_ bs)=_
  rw [zLh,zLh,ih];rfl
 |n+1,a::ar,b::bs,h=>by
  have h':ar.length+1+(bs.length+1)<=n+1:=by simpa using h
  have i1:=zCg by_ n ar (b::bs) (by simp;omega)
  have i2:=zCg by_ n (a::ar) bs (by simp;omega)
  have i3:=zCg by_ n ar bs (by omega)
  have e:lH by_ (b::bs)=⟨b.Name,b.By*by_⟩::lH by_ bs:=rfl
  rw [e] at i1⊢
  rw [zEb,zEb,i1,i2,i3]
  cases bY a.Name b.Name<;>cases bY b.Name a.Name<;>simp [mN]
theorem zGu {l:List Mono} {k:Nat} {x:Mono} {s:ByteArray} (h:l[k]? =some x):bU (l.take (k+1)) s=if x.Name=s then x.By else bU (l.take k) s:=by
 unfold bU;rw [qT h,List.foldl_append];rfl
theorem zLb {l:List Mono} {k:Nat} {x:Mono} {s:ByteArray} (h:l[k]? =some x):(l.take (k+1)).filter (fun m=> !decide (m.Name=s))=(l.take k).filter (fun m=> !decide (m.Name=s))++(if x.Name=s then [] else [x]):=by
 rw [qT h,List.filter_append];by_cases e:x.Name=s<;>simp [e]
theorem zIo:∀{p:Option ByteArray} {l:List Mono},dC p l=true->∀m,m∈l->m.By≠0/\bD m.Name=true
 |_,[],_,m,hm=>by cases hm
 |p,x::r,h,m,hm=>by
  simp only [dC,Bool.and_eq_true,Bool.not_eq_true',decide_eq_false_iff_not] at h
  rcases List.mem_cons.1 hm with rfl|hm
  ·exact ⟨h.1.1.2,h.1.1.1⟩
  ·exact zIo h.2 m hm
theorem last_none {l:List Mono} {s:ByteArray} (h:∀m,m∈l->m.Name≠s):bU l s=0/\l.filter (fun m=> !decide (m.Name=s))=l:=by
 constructor
 ·have:∀(l:List Mono) (b:Int),(∀m,m∈l->m.Name≠s)->l.foldl (fun by_ m=>if m.Name=s then m.By else by_) b=b:=by
   intro l
   induction l with
   |nil=>intro b _;rfl
   |cons x r ih=>intro b hl;rw [List.foldl_cons,if_neg (hl x (by simp)),ih b fun m hm=>hl m (by simp [hm])]
  exact this l 0 h
 ·rw [List.filter_eq_self];intro m hm;simp [h m hm]
theorem last_zero {p:Option ByteArray} {l:List Mono} {s:ByteArray} (h:dC p l=true) (hz:bU l s=0):∀m,m∈l->m.Name≠s:=by
 have key:∀(l:List Mono) (b:Int),(∀m,m∈l->m.By≠0)->l.foldl (fun by_ m=>if m.Name=s then m.By else by_) b=0->∀m,m∈l->m.Name≠s:=by
  intro l
  induction l with
  |nil=>intro b _ _ m hm;cases hm
  |cons x r ih=>
   intro b hl h m hm
   rw [List.foldl_cons] at h
   rcases List.mem_cons.1 hm with rfl|hm
   ·intro e
    rw [if_pos e] at h
    by_cases c:∀y,y∈r->y.Name≠s
    ·have:r.foldl (fun by_ m=>if m.Name=s then m.By else by_) m.By=m.By:=by
      clear ih h hl hm
      generalize m.By=z
      induction r generalizing z with
      |nil=>rfl
      |cons y r ih2=>rw [List.foldl_cons,if_neg (c y (by simp)),ih2 (fun q hq=>c q (by simp [hq]))]
     rw [this] at h
     exact hl m (by simp) h
    ·exact c (ih _ (fun y hy=>hl y (by simp [hy])) h)
   ·exact ih _ (fun y hy=>hl y (by simp [hy])) h m hm
 exact key l 0 (fun m hm=>(zIo h m hm).1) hz
def Lf.rng (l:Lf):Prop:=r64 l.K/\∀m,m∈l.L->r64 m.By
theorem zLg:∀{l:List Mono},(∀m,m∈l->r64 m.By/\m.By≠0)->(bH l []).all tR=true/\mK (bH l [])=l
 |[],_=>⟨rfl,rfl⟩
 |a::ar,h=>by
  obtain ⟨h1,h2⟩:=zLg (l:=ar) fun m hm=>h m (by simp [hm])
  obtain ⟨h3,h4⟩:=h a (by simp)
  rw [zLi]
  have e:trV (a.Name,a.By,0)=a.By:=by simp [trV]
  constructor
  ·rw [List.all_cons,h1,tR,e,decide_eq_true h3];rfl
  ·show List.filterMap _ _=_
   rw [List.filterMap_cons]
   simp only [e,w64_in h3,if_neg h4]
   exact congrArg (a:: ·) h2
theorem last_rng {l:Lf} (h:l.rng) (s:ByteArray):r64 (bU l.L s):=by
 have key:∀(l:List Mono) (b:Int),(∀m,m∈l->r64 m.By)->r64 b->r64 (l.foldl (fun by_ m=>if m.Name=s then m.By else by_) b):=by
  intro l
  induction l with
  |nil=>intro b _ h;exact h
  |cons x r ih=>
   intro b hl hb
   rw [List.foldl_cons]
   refine ih _ (fun m hm=>hl m (by simp [hm])) ?_
   split
   ·exact hl x (by simp)
   ·exact hb
 exact key l.L 0 h.2 (by unfold r64;omega)
theorem zDx:zL.rng:=⟨by show r64 0;unfold r64;omega,fun m hm=>by cases hm⟩
theorem scale_rng (l:Lf) (b:Int):(fA l b).1.rng/\(fA l b).1.L.length<=l.L.length:=by
 unfold fA
 split
 ·split
  ·exact ⟨zDx,by simp [zL]⟩
  ·split
   ·rename_i h
    refine ⟨⟨h.1,fun m hm=>?_⟩,by simp [lH]⟩
    obtain ⟨x,hx,rfl⟩:=List.mem_map.1 hm
    have:=h.2
    unfold fQ at this
    rw [List.all_eq_true] at this
    simpa using this x hx
   ·exact ⟨zDx,by simp [zL]⟩
 ·exact ⟨zDx,by simp [zL]⟩
theorem rest_rng {l:Lf} (h:l.rng) (s:ByteArray):(lU l s).rng/\(lU l s).L.length<=l.L.length:=
 ⟨⟨h.1,fun m hm=>h.2 m (List.mem_filter.1 hm).1⟩,List.length_filter_le _ _⟩
theorem subst_c1 {l to_:Lf} {s:ByteArray} (c:(¬fZ l=0∨bD s=false)∨¬fZ to_=0):jH l s to_=(zL,1):=by
 unfold jH
 refine if_neg fun h=>?_
 rcases c with (c|c)|c
 ·have:=zHz c;rw [h.1] at this;cases this
 ·rw [h.2.1] at c;cases c
 ·have:=zHz c;rw [h.2.2] at this;cases this
theorem subst_c4 {l to_:Lf} {s:ByteArray} (c:(fZ l=0/\bD s=true)/\fZ to_=0) (c4:¬(fA to_ (bU l.L s)).2=0):jH l s to_=(zL,(fA to_ (bU l.L s)).2):=by
 unfold jH
 rw [if_pos ⟨zIa c.1.1,c.1.2,zIa c.2⟩,if_neg c4]
theorem subst_ok {l to_:Lf} {s:ByteArray} (c:(fZ l=0/\bD s=true)/\fZ to_=0) (c4:(fA to_ (bU l.L s)).2=0):jH l s to_=pG (lU l s) (fA to_ (bU l.L s)).1:=by
 unfold jH
 rw [if_pos ⟨zIa c.1.1,c.1.2,zIa c.2⟩,if_pos c4]
theorem strLt_trans' {a b c:ByteArray} (h:bY a b=true) (k:bY b c=true):bY a c=true:=zGq h k
theorem monos_weak {p q:Option ByteArray} {l:List Mono} (h:dC p l=true) (hpq:∀n,ltO p n=true->ltO q n=true):dC q l=true:=by
 cases l with
 |nil=>rfl
 |cons x r=>
  simp only [dC,Bool.and_eq_true] at h⊢
  exact ⟨⟨h.1.1,hpq _ h.1.2⟩,h.2⟩
theorem zNy (f:Mono->Bool):∀{p:Option ByteArray} {l:List Mono},dC p l=true->dC p (l.filter f)=true
 |_,[],_=>rfl
 |p,x::r,h=>by
  simp only [dC,Bool.and_eq_true] at h
  have ih:=zNy f h.2
  rw [List.filter_cons]
  by_cases c:f x=true
  ·rw [if_pos c];simp only [dC,Bool.and_eq_true];exact ⟨h.1,ih⟩
  ·rw [if_neg c]
   refine monos_weak ih fun n hn=>?_
   cases p with
   |none=>rfl
   |some q=>exact strLt_trans' h.1.2 hn
theorem zRi {b:Int} (hb:b≠0):∀{p:Option ByteArray} {l:List Mono},dC p l=true->dC p (lH b l)=true
 |_,[],_=>rfl
 |p,x::r,h=>by
  simp only [dC,Bool.and_eq_true,Bool.not_eq_true',decide_eq_false_iff_not] at h
  have ih:=zRi hb h.2
  show dC p (⟨x.Name,x.By*b⟩::lH b r)=true
  simp only [dC,Bool.and_eq_true,Bool.not_eq_true',decide_eq_false_iff_not]
  exact ⟨⟨⟨h.1.1.1,Int.mul_ne_zero h.1.1.2 hb⟩,h.1.2⟩,ih⟩
theorem subst_eq {l to_:Lf} {s:ByteArray} (hl:l.rng):jH l s to_=bO l s to_:=by
 unfold jH bO
 by_cases h:bJ l=true/\bD s=true/\bJ to_=true
 ·obtain ⟨h1,h2,h3⟩:=h
  rw [if_pos (⟨h1,h2,h3⟩:bJ l=true/\bD s=true/\bJ to_=true),if_pos (⟨h1,h3,h2⟩:bJ l=true/\bJ to_=true/\bD s=true)]
  by_cases c:bU l.L s=0
  ·rw [if_pos c]
   have hn:=last_zero h1 c
   have e:fA to_ (bU l.L s)=(zL,0):=by unfold fA;rw [if_pos h3,if_pos c]
   rw [e,if_pos rfl]
   have er:lU l s=l:=by unfold lU;rw [(last_none hn).2]
   rw [er]
   unfold pG
   rw [if_pos ⟨h1,rfl⟩]
   obtain ⟨g1,g2⟩:=zLg (l:=l.L) fun m hm=>⟨hl.2 m hm,(zIo h1 m hm).1⟩
   show mZ (l.K+0) (bH l.L [])=_
   unfold mZ
   rw [Int.add_zero,if_pos ⟨hl.1,g1⟩,g2]
  ·rw [if_neg c]
   by_cases d:r64 (to_.K*bU l.L s)/\fQ (bU l.L s) to_.L=true
   ·rw [if_pos d]
    have e:fA to_ (bU l.L s)=(⟨to_.K*bU l.L s,lH (bU l.L s) to_.L⟩,0):=by unfold fA;rw [if_pos h3,if_neg c,if_pos d]
    rw [e,if_pos rfl]
    unfold pG
    rw [if_pos ⟨zNy _ h1,zRi c h3⟩]
    show mZ (l.K+to_.K*bU l.L s) (bH (lU l s).L (lH (bU l.L s) to_.L))=_
    rw [zCg _ _ _ _ (Nat.le_refl _)]
   ·rw [if_neg d]
    have e:fA to_ (bU l.L s)=(zL,3):=by unfold fA;rw [if_pos h3,if_neg c,if_neg d]
    rw [e,if_neg (by decide)]
 ·rw [if_neg h,if_neg fun k=>h ⟨k.1,k.2.2,k.2.1⟩]
end Go.Br
end
section
namespace Go.Br
open Go Go.Eng Go.L41
theorem sum_both {a b:List Mono} {i n:Nat} {x y:Mono} (hx:a[i]? =some x) (hy:b[n]? =some y) (h:y.Name=x.Name):bH (a.drop i) (b.drop n)=(x.Name,x.By,y.By)::bH (a.drop (i+1)) (b.drop (n+1)):=by
 rw [qR hx,qR hy,zEb,h,zHm,cond_false,cond_false]
theorem sum_left1 {a b:List Mono} {i n:Nat} {x:Mono} (hx:a[i]? =some x) (hn:¬n<b.length):bH (a.drop i) (b.drop n)=(x.Name,x.By,0)::bH (a.drop (i+1)) (b.drop n):=by
 rw [qR hx,wB hn,zLi]
theorem sum_left2 {a b:List Mono} {i n:Nat} {x y:Mono} (hx:a[i]? =some x) (hy:b[n]? =some y) (h:bY y.Name x.Name=false) (hne:¬y.Name=x.Name):bH (a.drop i) (b.drop n)=(x.Name,x.By,0)::bH (a.drop (i+1)) (b.drop n):=by
 rw [qR hx,qR hy,zEb]
 have:bY x.Name y.Name=true:=by
  cases h2:bY x.Name y.Name with
  |true=>rfl
  |false=>exact absurd (strLt_tri h h2) hne
 rw [this,cond_true]
theorem sum_right1 {a b:List Mono} {i n:Nat} {y:Mono} (hi:¬i<a.length) (hy:b[n]? =some y):bH (a.drop i) (b.drop n)=(y.Name,0,y.By)::bH (a.drop i) (b.drop (n+1)):=by
 rw [wB hi,qR hy,zLh]
theorem sum_right2 {a b:List Mono} {i n:Nat} {x y:Mono} (hx:a[i]? =some x) (hy:b[n]? =some y) (h:bY y.Name x.Name=true):bH (a.drop i) (b.drop n)=(y.Name,0,y.By)::bH (a.drop i) (b.drop (n+1)):=by
 rw [qR hx,qR hy,zEb]
 have:bY x.Name y.Name=false:=by
  cases h2:bY x.Name y.Name with
  |false=>rfl
  |true=>have:=zGq h h2;rw [zHm] at this;cases this
 rw [this,cond_false,h,cond_true]
theorem sum_end {a b:List Mono} {i n:Nat} (hi:¬i<a.length) (hn:¬n<b.length):bH (a.drop i) (b.drop n)=[]:=by
 rw [wB hi,wB hn,zNh]
/-! the tests of the reference's loop -/
def atM (l:List Mono) (k:Nat):Mono:=l.getD k ⟨bs [],0⟩
theorem zCx {l:List Mono} {k:Nat} (h:k<l.length):l[k]? =some (atM l k):=by
 unfold atM;rw [List.getD_eq_getElem?_getD,List.getElem?_eq_getElem h];rfl
theorem zOl {l:List Mono} {k:Nat} (h:k<l.length):atM l k∈l:=zX (zCx h)
def sC2 (a b:List Mono) (i n:Nat):Bool:=decide ((n:Int)=b.length)||(decide ((i:Int)<a.length)&&(bY (atM a i).Name (atM b n).Name||decide ((atM a i).Name=(atM b n).Name)))
def sC3 (b:List Mono) (n:Nat) (s:ByteArray):Bool:=decide ((n:Int)<b.length)&&decide ((atM b n).Name=s)
theorem le_t {x y:ByteArray} (h:(bY x y||decide (x=y))=true):bY y x=false:=by
 rw [Bool.or_eq_true,decide_eq_true_eq] at h
 rcases h with h|rfl
 ·cases k:bY y x with
  |false=>rfl
  |true=>have:=zGq h k;rw [zHm] at this;cases this
 ·exact zHm _
theorem le_f {x y:ByteArray} (h:(bY x y||decide (x=y))=false):bY y x=true:=by
 rw [Bool.or_eq_false_iff,decide_eq_false_iff_not] at h
 cases k:bY y x with
 |true=>rfl
 |false=>exact absurd (strLt_tri h.1 k) h.2
theorem sum_t {a b:List Mono} {i n:Nat} (h:i<a.length∨n<b.length) (hn:n<=b.length) (c2:sC2 a b i n=true):i<a.length:=by
 unfold sC2 at c2
 rw [Bool.or_eq_true,Bool.and_eq_true,decide_eq_true_eq,decide_eq_true_eq] at c2
 rcases c2 with c2|⟨c2,_⟩<;>omega
theorem sum_tt {a b:List Mono} {i n:Nat} (hi:i<a.length) (c3:sC3 b n (atM a i).Name=true):n<b.length/\bH (a.drop i) (b.drop n)=((atM a i).Name,(atM a i).By,(atM b n).By)::bH (a.drop (i+1)) (b.drop (n+1)):=by
 unfold sC3 at c3
 simp only [Bool.and_eq_true,decide_eq_true_eq] at c3
 have hn:n<b.length:=by omega
 exact ⟨hn,sum_both (zCx hi) (zCx hn) c3.2⟩
theorem sum_tf {a b:List Mono} {i n:Nat} (hi:i<a.length) (hn:n<=b.length) (c2:sC2 a b i n=true) (c3:sC3 b n (atM a i).Name=false):bH (a.drop i) (b.drop n)=((atM a i).Name,(atM a i).By,0)::bH (a.drop (i+1)) (b.drop n):=by
 by_cases h:n<b.length
 ·unfold sC2 at c2
  unfold sC3 at c3
  rw [Bool.or_eq_true,Bool.and_eq_true,decide_eq_true_eq] at c2
  simp only [Bool.and_eq_false_iff,decide_eq_false_iff_not] at c3
  have h2:bY (atM b n).Name (atM a i).Name=false:=by
   rcases c2 with c2|c2
   ·omega
   ·exact le_t c2.2
  have h3:¬(atM b n).Name=(atM a i).Name:=by
   rcases c3 with c3|c3
   ·omega
   ·exact c3
  exact sum_left2 (zCx hi) (zCx h) h2 h3
 ·exact sum_left1 (zCx hi) h
theorem sum_f {a b:List Mono} {i n:Nat} (hn:n<=b.length) (c2:sC2 a b i n=false):n<b.length:=by
 unfold sC2 at c2
 rw [Bool.or_eq_false_iff,decide_eq_false_iff_not] at c2
 omega
theorem sum_fx {a b:List Mono} {i n:Nat} (hn:n<b.length) (c2:sC2 a b i n=false):bH (a.drop i) (b.drop n)=((atM b n).Name,0,(atM b n).By)::bH (a.drop i) (b.drop (n+1))/\sC3 b n (atM b n).Name=true:=by
 refine ⟨?_,by unfold sC3;rw [decide_eq_true (by omega:(n:Int)<b.length),decide_eq_true rfl];rfl⟩
 unfold sC2 at c2
 rw [Bool.or_eq_false_iff,Bool.and_eq_false_iff,decide_eq_false_iff_not] at c2
 by_cases h:i<a.length
 ·have h2:bY (atM b n).Name (atM a i).Name=true:=by
   rcases c2.2 with k|k
   ·rw [decide_eq_false_iff_not] at k;omega
   ·exact le_f k
  exact sum_right2 (zCx h) (zCx hn) h2
 ·exact sum_right1 h (zCx hn)
theorem add_no' {k:Int} {ts:List Tr} (h:okF (decide (r64 k)) ts=false):mZ k ts=(zL,3):=by
 rw [okF_all,Bool.and_eq_false_iff,decide_eq_false_iff_not] at h
 unfold mZ
 refine if_neg fun hh=>?_
 rcases h with h|h
 ·exact h hh.1
 ·rw [hh.2] at h;cases h
theorem add_ok' {k:Int} {ts:List Tr} (h:okF (decide (r64 k)) ts=true):mZ k ts=(⟨w64 k,mK ts⟩,0):=by
 rw [okF_all,Bool.and_eq_true,decide_eq_true_eq] at h
 unfold mZ
 rw [if_pos h,w64_in h.1]
theorem zCa (by_:Int) (d:List Tr) (t:Tr):mN by_ (d++[t])=mN by_ d++[(t.1,t.2.1,t.2.2*by_)]:=by simp [mN]
theorem zGp (by_:Int) (d:List Tr):(mK (mN by_ d)).length<=d.length:=by
 have:=sumW_len (mN by_ d);simpa [mN] using this
theorem substR_bad {l to_:Lf} {s:ByteArray} (c:(bJ l=false∨bJ to_=false)∨bD s=false):bO l s to_=(zL,1):=by
 unfold bO
 refine if_neg fun h=>?_
 rcases c with (c|c)|c
 ·rw [h.1] at c;cases c
 ·rw [h.2.1] at c;cases c
 ·rw [h.2.2] at c;cases c
theorem substR_c1 {l to_:Lf} {s:ByteArray} (c:(bJ l=true/\bJ to_=true)/\bD s=true):bJ l=true/\bJ to_=true/\bD s=true:=⟨c.1.1,c.1.2,c.2⟩
theorem substR_same {l to_:Lf} {s:ByteArray} (c:bJ l=true/\bJ to_=true/\bD s=true) (c4:bU l.L s=0):bO l s to_=(l,0):=by
 unfold bO;rw [if_pos c,if_pos c4]
theorem substR_no {l to_:Lf} {s:ByteArray} (c:bJ l=true/\bJ to_=true/\bD s=true) (c4:¬bU l.L s=0) (c5:¬r64 (to_.K*bU l.L s)∨fQ (bU l.L s) to_.L=false):bO l s to_=(zL,3):=by
 unfold bO;rw [if_pos c,if_neg c4,if_neg fun h=>by rcases c5 with c5|c5;exact c5 h.1;rw [h.2] at c5;cases c5]
theorem substR_yes {l to_:Lf} {s:ByteArray} (c:bJ l=true/\bJ to_=true/\bD s=true) (c4:¬bU l.L s=0) (c5:r64 (to_.K*bU l.L s)/\fQ (bU l.L s) to_.L=true):bO l s to_=mZ (l.K+to_.K*bU l.L s) (mN (bU l.L s) (bH (lU l s).L to_.L)):=by
 unfold bO;rw [if_pos c,if_neg c4,if_pos c5]
def zI:Ix:=⟨zL,bs [],[]⟩
def vU:Except Int Ix->Ix
 |.ok e=>e
 |.error _=>zI
theorem mIxs_next' {f:Lf->Lf×Int} {l:List Ix} {k:Nat} {x:Ix} {done:List Ix} (h:l[k]? =some x) (hp:fO f l=dF done (fO f (l.drop k))) (hx:lT (mIx f x)=0):fO f l=dF (done++[vU (mIx f x)]) (fO f (l.drop (k+1))):=by
 obtain ⟨y,hy⟩:=zSh hx mIx_ne
 rw [hy];exact mIxs_next h hp hy
theorem mIxs_no' {f:Lf->Lf×Int} {l:List Ix} {k:Nat} {x:Ix} {done:List Ix} (h:l[k]? =some x) (hp:fO f l=dF done (fO f (l.drop k))) (hx:¬lT (mIx f x)=0):fO f l=.error (lT (mIx f x)):=by
 cases hm:mIx f x with
 |error y=>exact mIxs_no h hp hm
 |ok y=>rw [hm] at hx;exact absurd rfl hx
/-! ## What mapping keeps -/
theorem fE_congr {f g:Lf->Lf×Int} {l:Lf} (h:f l=g l):fE f l=fE g l:=by unfold fE;rw [h]
theorem zRm {f g:Lf->Lf×Int}:∀{l:List Lf},(∀x,x∈l->f x=g x)->dV f l=dV g l
 |[],_=>rfl
 |x::r,h=>by rw [dV,dV,fE_congr (h x (by simp)),zRm fun y hy=>h y (by simp [hy])]
theorem mIx_congr {f g:Lf->Lf×Int} {x:Ix} (h1:f x.Lin=g x.Lin) (h2:∀l,l∈x.At->f l=g l):mIx f x=mIx g x:=by
 rw [mIx,mIx,fE_congr h1,zRm h2]
theorem mIxs_congr {f g:Lf->Lf×Int}:∀{l:List Ix},(∀x,x∈l->f x.Lin=g x.Lin/\∀y,y∈x.At->f y=g y)->fO f l=fO g l
 |[],_=>rfl
 |x::r,h=>by rw [fO,fO,mIx_congr (h x (by simp)).1 (h x (by simp)).2,mIxs_congr fun y hy=>h y (by simp [hy])]
theorem mExs_congr {f g:Lf->Lf×Int}:∀{l:List Ex},(∀a,a∈l->mEx f a=mEx g a)->fV f l=fV g l
 |[],_=>by rw [fV,fV]
 |x::r,h=>by rw [fV,fV,h x (by simp),mExs_congr fun y hy=>h y (by simp [hy])]
theorem mEx_congr {f g:Lf->Lf×Int} {P:Lf->Prop} (hfg:∀l,P l->f l=g l) (e:Ex) (h:e.allF P):mEx f e=mEx g e:=by
 induction e using Ex.ind with
 |_ e ih=>
  rw [mEx_eq,mEx_eq,fE_congr (hfg _ (Ex.allF_lin h)),mIxs_congr fun x hx=>⟨hfg _ (Ex.allF_ix h hx),fun y hy=>hfg _ (Ex.allF_at h hx hy)⟩,mExs_congr fun a ha=>ih a ha (Ex.allF_arg h ha)]
end Go.Br
end
section
namespace Go.Br
open Go Go.Eng Go.L41
/-! ## Ascending triples -/
theorem sum_rng {l:List Tr} {m:Mono} (h:m∈mK l):r64 m.By:=by
 unfold mK at h
 obtain ⟨t,ht,e⟩:=List.mem_filterMap.1 h
 by_cases c:w64 (trV t)=0
 ·rw [if_pos c] at e;cases e
 ·rw [if_neg c] at e;injection e with e;subst e;exact w64_r _
/-! ## One form -/
theorem substR_len (l to_:Lf) (s:ByteArray):(bO l s to_).1.L.length<=l.L.length+to_.L.length:=by
 unfold bO
 split
 ·split
  ·exact Nat.le_add_right _ _
  ·split
   ·unfold mZ
    split
    ·show (mK (mN _ _)).length<=_
     have h1:=zGp (bU l.L s) (bH (lU l s).L to_.L)
     have h2:=zCh (lU l s).L to_.L
     have h3:(lU l s).L.length<=l.L.length:=List.length_filter_le _ _
     omega
    ·exact Nat.zero_le _
   ·exact Nat.zero_le _
 ·exact Nat.zero_le _
theorem substR_rng {l to_:Lf} (s:ByteArray) (hl:l.rng):(bO l s to_).1.rng:=by
 unfold bO
 split
 ·split
  ·exact hl
  ·split
   ·unfold mZ
    split
    ·rename_i h;exact ⟨h.1,fun m hm=>sum_rng hm⟩
    ·exact zDx
   ·exact zDx
 ·exact zDx
theorem zRj:∀{q:ByteArray} {l:List Mono},dC (some q) l=true->∀m,m∈l->bY q m.Name=true
 |_,[],_,m,hm=>by cases hm
 |q,x::r,h,m,hm=>by
  simp only [dC,Bool.and_eq_true] at h
  rcases List.mem_cons.1 hm with rfl|hm
  ·exact h.1.2
  ·exact zGq h.1.2 (zRj h.2 m hm)
def gIx (g:Lf->Lf) (x:Ix):Ix:=⟨g x.Lin,x.From,x.At.map g⟩
mutual
def gEx (g:Lf->Lf):Ex->Ex
 |.mk o n v t l i arg_=>.mk o n v t (g l) (i.map (gIx g)) (sW g arg_)
def sW (g:Lf->Lf):List Ex->List Ex
 |[]=>[]
 |a::r=>gEx g a::sW g r
end
theorem gExs_map (g:Lf->Lf) (l:List Ex):sW g l=l.map (gEx g):=by
 induction l with
 |nil=>rfl
 |cons a r ih=>rw [sW,ih];rfl
theorem zOd (g:Lf->Lf) (e:Ex):gEx g e=.mk e.Op e.Name e.Val e.Ty (g e.Lin) (e.Idx.map (gIx g)) (e.Args.map (gEx g)):=by
 cases e;rw [gEx,gExs_map];rfl
theorem mLins_g {f:Lf->Lf×Int}:∀{l r:List Lf},dV f l=.ok r->r=l.map (fun x=>(f x).1)/\∀x,x∈l->(f x).2=0
 |[],r,h=>by rw [dV] at h;injection h with h;subst h;exact ⟨rfl,fun x hx=>by cases hx⟩
 |a::t,r,h=>by
  rw [dV] at h
  by_cases c:(f a).2=0
  ·rw [zOs c] at h
   cases hm:dV f t with
   |error y=>rw [hm] at h;cases h
   |ok u=>
    rw [hm] at h
    injection h with h
    subst h
    obtain ⟨h1,h2⟩:=mLins_g hm
    exact ⟨by rw [h1];rfl,fun x hx=>by rcases List.mem_cons.1 hx with rfl|hx;exact c;exact h2 x hx⟩
  ·rw [fE_err c] at h;cases h
theorem mIx_g {f:Lf->Lf×Int} {x y:Ix} (h:mIx f x=.ok y):y=gIx (fun l=>(f l).1) x/\(f x.Lin).2=0/\∀l,l∈x.At->(f l).2=0:=by
 rw [mIx] at h
 by_cases c:(f x.Lin).2=0
 ·rw [zOs c] at h
  cases hm:dV f x.At with
  |error y=>rw [hm] at h;cases h
  |ok u=>
   rw [hm] at h
   injection h with h
   subst h
   obtain ⟨h1,h2⟩:=mLins_g hm
   exact ⟨by rw [h1];rfl,c,h2⟩
 ·rw [fE_err c] at h;cases h
theorem mIxs_g {f:Lf->Lf×Int}:∀{l r:List Ix},fO f l=.ok r->r=l.map (gIx fun x=>(f x).1)/\∀x,x∈l->(f x.Lin).2=0/\∀y,y∈x.At->(f y).2=0
 |[],r,h=>by rw [fO] at h;injection h with h;subst h;exact ⟨rfl,fun x hx=>by cases hx⟩
 |a::t,r,h=>by
  rw [fO] at h
  cases h1:mIx f a with
  |error y=>rw [h1] at h;cases h
  |ok a'=>
   rw [h1] at h
   cases hm:fO f t with
   |error y=>rw [hm] at h;cases h
   |ok u=>
    rw [hm] at h
    injection h with h
    subst h
    obtain ⟨k1,k2⟩:=mIx_g h1
    obtain ⟨k3,k4⟩:=mIxs_g hm
    exact ⟨by rw [k1,k3];rfl,fun x hx=>by rcases List.mem_cons.1 hx with rfl|hx;exact k2;exact k4 x hx⟩
theorem zGc {P:Lf->Prop} {e:Ex} (h1:∀l,l∈dL e->P l) (h2:∀a,a∈e.Args->a.allF P):e.allF P:=by
 intro x hx
 rw [kZ] at hx
 rcases List.mem_cons.1 hx with rfl|hx
 ·exact h1
 ·have:∀l:List Ex,(∀a,a∈l->a.allF P)->x∈bK l->∀y,y∈dL x->P y:=by
   intro l
   induction l with
   |nil=>intro _ h;simp [bK] at h
   |cons a r ih=>
    intro h hm
    rw [bK] at hm
    rcases List.mem_append.1 hm with k|k
    ·exact h a (by simp) x k
    ·exact ih (fun b hb=>h b (by simp [hb])) k
  exact this e.Args h2 hx
mutual
theorem mEx_g {f:Lf->Lf×Int}:∀{e e':Ex},mEx f e=.ok e'->e'=gEx (fun l=>(f l).1) e/\e.allF fun l=>(f l).2=0
 |.mk o n v t l i arg_,e',h=>by
  rw [mEx] at h
  by_cases c:(f l).2=0
  ·rw [zOs c] at h
   cases h1:fO f i with
   |error y=>rw [h1] at h;cases h
   |ok i'=>
    rw [h1] at h
    cases h2:fV f arg_ with
    |error y=>rw [h2] at h;cases h
    |ok as'=>
     rw [h2] at h
     injection h with h
     subst h
     obtain ⟨k1,k2⟩:=mIxs_g h1
     obtain ⟨k3,k4⟩:=mExs_g h2
     refine ⟨by rw [gEx,k1,k3,gExs_map],zGc ?_ k4⟩
     intro y hy
     unfold dL at hy
     rcases List.mem_cons.1 hy with rfl|hy
     ·exact c
     ·obtain ⟨x,hx,hy⟩:=List.mem_flatMap.1 hy
      rcases List.mem_cons.1 hy with rfl|hy
      ·exact (k2 x hx).1
      ·exact (k2 x hx).2 y hy
  ·rw [fE_err c] at h;cases h
theorem mExs_g {f:Lf->Lf×Int}:∀{l r:List Ex},fV f l=.ok r->r=l.map (gEx fun l=>(f l).1)/\∀a,a∈l->a.allF fun l=>(f l).2=0
 |[],r,h=>by rw [fV] at h;injection h with h;subst h;exact ⟨rfl,fun x hx=>by cases hx⟩
 |a::t,r,h=>by
  rw [fV] at h
  cases h1:mEx f a with
  |error y=>rw [h1] at h;cases h
  |ok a'=>
   rw [h1] at h
   cases hm:fV f t with
   |error y=>rw [hm] at h;cases h
   |ok u=>
    rw [hm] at h
    injection h with h
    subst h
    obtain ⟨k1,k2⟩:=mEx_g h1
    obtain ⟨k3,k4⟩:=mExs_g hm
    exact ⟨by rw [k1,k3];rfl,fun x hx=>by rcases List.mem_cons.1 hx with rfl|hx;exact k2;exact k4 x hx⟩
end
theorem forms_g (g:Lf->Lf) (e:Ex):dL (gEx g e)=(dL e).map g:=by
 rw [zOd]
 show g e.Lin::(e.Idx.map (gIx g)).flatMap (fun x=>x.Lin::x.At)=(e.Lin::e.Idx.flatMap fun x=>x.Lin::x.At).map g
 rw [List.map_cons]
 congr 1
 induction e.Idx with
 |nil=>rfl
 |cons x r ih=>rw [List.map_cons,List.flatMap_cons,List.flatMap_cons,List.map_append,ih];rfl
mutual
theorem nodes_g (g:Lf->Lf):∀e:Ex,dE (gEx g e)=(dE e).map (gEx g)
 |.mk o n v t l i arg_=>by rw [gEx,dE,dE,nodesL_g g arg_,List.map_cons,gEx]
theorem nodesL_g (g:Lf->Lf):∀l:List Ex,bK (sW g l)=(bK l).map (gEx g)
 |[]=>by rw [sW,bK];rfl
 |a::r=>by rw [sW,bK,bK,nodes_g g a,nodesL_g g r,List.map_append]
end
theorem allF_g {g:Lf->Lf} {P:Lf->Prop} {e:Ex} (h:e.allF fun l=>P (g l)):(gEx g e).allF P:=by
 intro x hx l hl
 rw [nodes_g] at hx
 obtain ⟨y,hy,rfl⟩:=List.mem_map.1 hx
 rw [forms_g] at hl
 obtain ⟨k,hk,rfl⟩:=List.mem_map.1 hl
 exact h y hy k hk
theorem valid_lin {e:Ex} (h:bP e=0):e.allF fun l=>bJ l=true:=by
 intro x hx l hl
 have:=(zDl (zGi (wS h) x hx)).2.2.2.2
 unfold jF at this
 rw [Bool.and_eq_true] at this
 exact List.all_eq_true.1 this.2 l hl
/-! ## Weights -/
theorem linsWt_g {g:Lf->Lf} {c:Nat} (hg:∀l,(g l).L.length<=l.L.length+c):∀l:List Lf,dS (l.map g)<=dS l+c*l.length
 |[]=>by simp [dS]
 |x::r=>by
  rw [List.map_cons,dS,dS,List.length_cons,Nat.mul_succ]
  have:=linsWt_g hg r;have:=hg x;omega
theorem idxWt_g {g:Lf->Lf} {c:Nat} (hg:∀l,(g l).L.length<=l.L.length+c):∀l:List Ix,fH (l.map (gIx g))<=(c+1)*fH l+c*l.length
 |[]=>by simp [fH]
 |x::r=>by
  rw [List.map_cons,fH,fH,List.length_cons,Nat.mul_succ,Nat.mul_add]
  have h1:=idxWt_g hg r
  have h2:=linsWt_g hg x.At
  have h3:=hg x.Lin
  have h4:(gIx g x).wt<=(c+1)*x.wt+c:=by
   show (g x.Lin).L.length+(x.At.map g).length+dS (x.At.map g)<=(c+1)*(x.Lin.L.length+x.At.length+dS x.At)+c
   rw [List.length_map]
   have e:(c+1)*(x.Lin.L.length+x.At.length+dS x.At)=(c*x.Lin.L.length+c*x.At.length+c*dS x.At)+(x.Lin.L.length+x.At.length+dS x.At):=by
    rw [Nat.add_mul,Nat.one_mul,Nat.mul_add,Nat.mul_add]
   omega
  omega
theorem wt_g {g:Lf->Lf} {c:Nat} (hg:∀l,(g l).L.length<=l.L.length+c) (e:Ex):(gEx g e).wt<=(c+1)*e.wt:=by
 induction e using Ex.ind with
 |_ e ih=>
  have key:∀l:List Ex,(∀a,a∈l->(gEx g a).wt<=(c+1)*a.wt)->bL (l.map (gEx g))<=(c+1)*bL l:=by
   intro l
   induction l with
   |nil=>intro _;simp [bL]
   |cons a r ihr=>
    intro h
    rw [List.map_cons,bL,bL,Nat.mul_add]
    have:=h a (by simp)
    have:=ihr fun b hb=>h b (by simp [hb])
    omega
  have h1:=key e.Args ih
  have h2:=idxWt_g hg e.Idx
  have h3:=hg e.Lin
  rw [Ex.wt_eq,Ex.wt_eq,zOd]
  show 1+(g e.Lin).L.length+(e.Idx.map (gIx g)).length+fH (e.Idx.map (gIx g))+bL (e.Args.map (gEx g))<=(c+1)*(1+e.Lin.L.length+e.Idx.length+fH e.Idx+bL e.Args)
  rw [List.length_map]
  have e1:(c+1)*(1+e.Lin.L.length+e.Idx.length+fH e.Idx+bL e.Args)=(c+1)*1+(c+1)*e.Lin.L.length+(c+1)*e.Idx.length+(c+1)*fH e.Idx+(c+1)*bL e.Args:=by
   rw [Nat.mul_add,Nat.mul_add,Nat.mul_add,Nat.mul_add]
  have e2:(c+1)*e.Lin.L.length=c*e.Lin.L.length+e.Lin.L.length:=by rw [Nat.add_mul,Nat.one_mul]
  have e3:(c+1)*e.Idx.length=c*e.Idx.length+e.Idx.length:=by rw [Nat.add_mul,Nat.one_mul]
  omega
theorem out_wt {f:Lf->Lf×Int} {c:Nat} (hg:∀l,(f l).1.L.length<=l.L.length+c) (e:Ex):(lD (mEx f e)).wt<=(c+1)*e.wt+1:=by
 cases h:mEx f e with
 |error y=>show zEx.wt<=_;simp [zEx,Ex.wt,fH,bL]
 |ok e'=>
  obtain ⟨rfl,_⟩:=mEx_g h
  exact Nat.le_succ_of_le (wt_g hg e)
end Go.Br
end
section
namespace Go.Br
open Go Go.Eng Go.Proofs Go.L41
structure PO {α:Type} (f:α->α->Int) (a:α):Prop where
 anti:∀b,f b a= -f a b
 rng:∀b,-1<=f a b/\f a b<=1
 cong:∀b,f a b=0->∀c,f a c=f b c
 cong':∀b c,f b c=0->f a b=f a c
 trans:∀b c,f a b<0->f b c<0->f a c<0
theorem PO.zero {α:Type} (a:α):PO (fun _ _=>0) a:=
 ⟨fun _=>rfl,fun _=>⟨by show (-1:Int)<=0;omega,by show (0:Int)<=1;omega⟩,fun _ _ _=>rfl,fun _ _ _=>rfl,fun _ _ h _=>h⟩
end Go.Br
end
section
namespace Go.Br
open Go Go.Eng Go.L41
/-! ## Short names -/
def vY (l:Lf):List ByteArray:=l.L.map Mono.Name
def vX (x:Ex):List ByteArray:=(dL x).flatMap vY
def vZ (l:List Ex):List ByteArray:=l.flatMap vX
end Go.Br
end
section
namespace Go.Br
open Go Go.Eng Go.L41
abbrev SR (s:ByteArray) (u:Lf) (l:Lf):Lf×Int:=bO l s u
end Go.Br
end
section
namespace Go.Br
open Go Go.Eng Go.L41
theorem mem4_eq {e1 e2:E} {sv:Value} {t u:TypeId} {n b:Nat} {rows rows':List (List C)} {cs:List C} {bμ:List E} (h:rows=rows'):e1::e2::E.vec sv t n rows::E.row b u cs::bμ=[e1,e2,E.vec sv t n rows',E.row b u cs]++bμ:=by rw [h];rfl
end Go.Br
end
section
namespace Go.Br
open Go Go.Eng Go.L41
mutual
def gA:Ex->List Ex
 |.mk o n v t l i arg_=>bif decide (o=16) then lP arg_ else [.mk o n v t l i arg_]
def lP:List Ex->List Ex
 |[]=>[]
 |a::r=>gA a++lP r
end
theorem conj_one {e:Ex} (h:¬e.Op=16):gA e=[e]:=by
 cases e with
 |mk o n v t l i arg_=>
  have h:¬o=16:=h
  rw [gA,yD h,cond_false]
theorem conj_two {e a b:Ex} (h:e.Op=16) (ha:e.Args=[a,b]):gA e=gA a++gA b:=by
 cases e with
 |mk o n v t l i arg_=>
  have ha:arg_=[a,b]:=ha
  subst ha
  have h:o=16:=h
  rw [gA,kR h,cond_true,lP,lP,lP,List.append_nil]
theorem argsWt_append (a b:List Ex):bL (a++b)=bL a+bL b:=by
 induction a with
 |nil=>rw [List.nil_append,bL];omega
 |cons x r ih=>rw [List.cons_append,bL,bL,ih];omega
mutual
theorem conj_wt:∀e:Ex,bL (gA e)<=e.wt
 |.mk o n v t l i arg_=>by
  have h:=conjL_wt arg_
  rw [gA]
  cases decide (o=16)
  ·rw [cond_false,bL,bL];omega
  ·rw [cond_true,Ex.wt];omega
theorem conjL_wt:∀l:List Ex,bL (lP l)<=bL l
 |[]=>by rw [lP];exact Nat.le_refl _
 |a::r=>by
  have h1:=conj_wt a
  have h2:=conjL_wt r
  rw [lP,argsWt_append,bL];omega
end
theorem conj_len (e:Ex):(gA e).length<=e.wt:=Nat.le_trans (argsWt_len _) (conj_wt e)
theorem zLw (e:Ex):((gA e).map Ex.cells).length<=e.wt:=by rw [List.length_map];exact conj_len e
structure Gd where
 conds:List Ex
 val:Ex
 ok:Bool
def zG:Gd:=⟨[],zEx,false⟩
def lN (a b z:Ex):Gd:=bif decide (z.Op=1)&&decide (z.Val=lC z.Ty) then ⟨gA a,b,true⟩ else zG
def bC (e:Ex):Gd:=bif decide (bP e=0)&&decide (e.Op=11) then lN (bT e 0) (bT e 1) (bT e 2) else zG
theorem guard_c1 {c:Ex} (h:¬bP c=0∨¬c.Op=11):(decide (bP c=0)&&decide (c.Op=11))=false:=by
 rcases h with h|h<;>simp [h]
theorem argN_wt (c:Ex) (i:Nat):(bT c i).wt<=c.wt:=by
 unfold bT
 rw [List.getD_eq_getElem?_getD]
 cases h:c.Args[i]? with
 |none=>have:=Ex.wt_eq c;simp [zEx,Ex.wt,fH,bL];omega
 |some a=>exact Nat.le_of_lt (Ex.arg_wt (zX h))
theorem val_lits (a b:Vl):dA [cI a.N,cI a.D] [cI b.N,cI b.D]=decide (a=b):=by
 cases a with
 |mk n d=>cases b with
  |mk n' d'=>simp only [dA,cEq,Vl.mk.injEq,Bool.decide_and,Bool.and_true]
theorem guard_no {z:Ex} (h:(!decide (z.Op=1)|| !dA [cI z.Val.N,cI z.Val.D] [cI (lC z.Ty).N,cI (lC z.Ty).D])=true):(decide (z.Op=1)&&decide (z.Val=lC z.Ty))=false:=by
 rw [val_lits] at h
 revert h;cases decide (z.Op=1)<;>simp
theorem guard_yes {z:Ex} (h:(!decide (z.Op=1)|| !dA [cI z.Val.N,cI z.Val.D] [cI (lC z.Ty).N,cI (lC z.Ty).D])=false):(decide (z.Op=1)&&decide (z.Val=lC z.Ty))=true:=by
 rw [val_lits] at h
 revert h;cases decide (z.Op=1)<;>simp
end Go.Br
end
section
namespace Go.Br
open Go Go.Eng Go.L41
def bV (op:Int) (l:List Ex):Ex:=.mk op (bs []) ⟨0,0⟩ ⟨0,0,0,0,0⟩ ⟨0,[]⟩ [] l
def gR (f:Lf):Ex:=.mk 2 (bs []) ⟨0,0⟩ ⟨0,0,0,0,0⟩ f [] []
def zeroE:Ex:=.mk 1 (bs []) ⟨0,1⟩ ⟨3,0,0,0,0⟩ ⟨0,[]⟩ [] []
def dO (g n:Lf):Ex:=bV 16 [bV 14 [zeroE,gR g],bV 13 [gR g,gR n]]
theorem node_two (op:Int) (a b:Ex):(bV op [a,b]).cs=[cI op,cS (bs []),cI 0,cI 0,cI 0,cI 0,cI 0,cI 0,cI 0,cI 0,.sl 2 [],.sl 4 [],.sl 13 [a.cs,b.cs]]:=by
 rw [←Ex.cells_eq a,←Ex.cells_eq b];rfl
theorem node_three (op:Int) (a b c:Ex):(bV op [a,b,c]).cs=[cI op,cS (bs []),cI 0,cI 0,cI 0,cI 0,cI 0,cI 0,cI 0,cI 0,.sl 2 [],.sl 4 [],.sl 13 [a.cs,b.cs,c.cs]]:=by
 rw [←Ex.cells_eq a,←Ex.cells_eq b,←Ex.cells_eq c];rfl
def jW (f:Lf) (l:List Ax):Bool:=l.all fun a=> !gM f.L a.Name
theorem free_any (f:Lf) (l:List Ax):(!l.any fun a=>gM f.L a.Name)=jW f l:=by
 unfold jW
 induction l with
 |nil=>rfl
 |cons a r ih=>rw [List.any_cons,List.all_cons,←ih,Bool.not_or]
def axN (s:ByteArray) (l:List Ax):Int:=dI (fun a=>decide (a.Name=s)) l
def lL (d:Df) (n:Nat) (s:ByteArray) (c:Ex):Bool:=(bX c s).2&&jW (bX c s).1 (d.Red.drop (n+1))
theorem sel_t {d:Df} {n:Nat} {s:ByteArray} {c:Ex} (h:(bX c s).2=true/\jW (bX c s).1 (d.Red.drop (n+1))=true):lL d n s c=true:=by unfold lL;rw [h.1,h.2];rfl
theorem sel_f {d:Df} {n:Nat} {s:ByteArray} {c:Ex} (h:(bX c s).2=false∨jW (bX c s).1 (d.Red.drop (n+1))=false):lL d n s c=false:=by
 unfold lL;rcases h with h|h<;>rw [h];rfl;exact Bool.and_false _
def Df.okC (d:Df):Prop:=d.Dims.length<=1073741824/\d.Red.length<=1073741824/\(∀a,a∈d.Dims->a.Size.L.length<=5864062014805)/\(∀a,a∈d.Red->a.Size.L.length<=5864062014805)/\d.Body.allF (fun l=>l.L.length<=5864062014805)/\d.Body.cnt<=4294967296
structure Pg.OkC (p:Pg):Prop where
 sizes:p.Sizes.length<=4294967296
 wh:p.Where.length<=4294967296
 params:p.Params.length<=4294967296
 defs:p.Defs.length<=4294967296
 outs:p.Outs.length<=4294967296
 whs:∀c,c∈p.Where->c.Lin.L.length<=5864062014805
 ps:∀x,x∈p.Params->x.Dims.length<=4294967296/\∀l,l∈x.Dims->l.L.length<=5864062014805
 ds:∀d,d∈p.Defs->d.okC
theorem one_ok {d:Df} (hd:d.okC):Pg.OkC ⟨[],[],[],[d],[]⟩:=
 ⟨by simp,by simp,by simp,by simp,by simp,fun c hc=>by simp at hc,fun x hx=>by simp at hx,fun x hx=>by simp only [List.mem_singleton] at hx;subst hx;exact hd⟩
theorem allF_wt {e:Ex} {B:Nat} (h:e.wt<=B):e.allF fun l=>l.L.length<=B:=fun x hx l hl=>zPi (Nat.le_trans (zDc e x hx) h) hl
theorem zIf {P Q:Lf->Prop} {e:Ex} (h:e.allF P) (k:∀l,P l->Q l):e.allF Q:=fun x hx l hl=>k l (h x hx l hl)
theorem zGm {P:Lf->Prop} {op:Int} {l:List Ex} (h0:P ⟨0,[]⟩) (h:∀a,a∈l->a.allF P):(bV op l).allF P:=
 zGc (fun f hf=>by
  have:dL (bV op l)=[⟨0,[]⟩]:=rfl
  rw [this,List.mem_singleton] at hf;rw [hf];exact h0) h
theorem zTc {P:Lf->Prop} {f:Lf} (h:P f):(gR f).allF P:=
 zGc (fun g hg=>by
  have:dL (gR f)=[f]:=rfl
  rw [this,List.mem_singleton] at hg;rw [hg];exact h) (fun a ha=>by cases ha)
theorem allF_zeroE {P:Lf->Prop} (h0:P ⟨0,[]⟩):zeroE.allF P:=
 zGc (fun g hg=>by
  have:dL zeroE=[⟨0,[]⟩]:=rfl
  rw [this,List.mem_singleton] at hg;rw [hg];exact h0) (fun a ha=>by cases ha)
theorem allF_two {P:Lf->Prop} {a b:Ex} (h1:a.allF P) (h2:b.allF P):∀x,x∈[a,b]->x.allF P:=fun x hx=>by
 simp only [List.mem_cons,List.not_mem_nil,or_false] at hx
 rcases hx with rfl|rfl
 ·exact h1
 ·exact h2
theorem allF_three {P:Lf->Prop} {a b c:Ex} (h1:a.allF P) (h2:b.allF P) (h3:c.allF P):∀x,x∈[a,b,c]->x.allF P:=fun x hx=>by
 simp only [List.mem_cons,List.not_mem_nil,or_false] at hx
 rcases hx with rfl|rfl|rfl
 ·exact h1
 ·exact h2
 ·exact h3
theorem allF_body {P:Lf->Prop} {g n:Lf} {w z:Ex} (h0:P ⟨0,[]⟩) (hg:P g) (hn:P n) (hw:w.allF P) (hz:z.allF P):(bV 11 [dO g n,w,z]).allF P:=
 zGm h0 (allF_three (zGm h0 (allF_two (zGm h0 (allF_two (allF_zeroE h0) (zTc hg))) (zGm h0 (allF_two (zTc hg) (zTc hn))))) hw hz)
theorem cnt_body (g n:Lf) (w z:Ex):(bV 11 [dO g n,w,z]).cnt=8+w.cnt+z.cnt:=by
 unfold dO bV gR zeroE;simp only [Ex.cnt,fX,hY,List.length_nil];omega
end Go.Br
end
section
namespace Go.Br
open Go Go.Eng Go.L41
def axA (l:List Ax) (i:Nat):Ax:=l.getD i ⟨bs [],zL⟩
theorem zKk {l:List Ax} {i:Nat} (h:i<l.length):l[i]? =some (axA l i):=by
 unfold axA;rw [List.getD_eq_getElem?_getD,List.getElem?_eq_getElem h];rfl
def nG (l:List Ex) (i:Nat):Ex:=l.getD i zEx
theorem zLn {l:List Ex} {i:Nat} (h:i<l.length):l[i]? =some (nG l i):=by
 unfold nG;rw [List.getD_eq_getElem?_getD,List.getElem?_eq_getElem h];rfl
def jZ (f:Lf->Lf×Int) (l:List Ex) (c:Int) (z:Ex):Nat->Ex->Option Ex
 |0,w=>some w
 |k+1,w=>if (k:Int)=c then jZ f l c z k w else match mEx f (nG l k) with
  |.error _=>none
  |.ok x=>jZ f l c z k (bV 11 [x,w,z])
theorem putW_skip {f:Lf->Lf×Int} {l:List Ex} {c:Int} {z w:Ex} {k:Nat} (hk:0<k) (h:(k:Int)-1=c):jZ f l c z k w=jZ f l c z (k-1) w:=by
 obtain ⟨k,rfl⟩:∃j,k=j+1:=⟨k-1,by omega⟩
 rw [jZ,if_pos (by omega)];rfl
theorem putW_no {f:Lf->Lf×Int} {l:List Ex} {c:Int} {z w:Ex} {k:Nat} (hk:0<k) (h:¬(k:Int)-1=c) (he:¬lT (mEx f (nG l (k-1)))=0):jZ f l c z k w=none:=by
 obtain ⟨k,rfl⟩:∃j,k=j+1:=⟨k-1,by omega⟩
 rw [jZ,if_neg (by omega)]
 show (match mEx f (nG l k) with|.error _=>none|.ok x=>_)=none
 cases hm:mEx f (nG l k) with
 |error y=>rfl
 |ok x=>rw [show k+1-1=k from rfl,hm] at he;exact absurd rfl he
theorem putW_yes {f:Lf->Lf×Int} {l:List Ex} {c:Int} {z w:Ex} {k:Nat} (hk:0<k) (h:¬(k:Int)-1=c) (he:lT (mEx f (nG l (k-1)))=0):jZ f l c z k w=jZ f l c z (k-1) (bV 11 [lD (mEx f (nG l (k-1))),w,z]):=by
 obtain ⟨k,rfl⟩:∃j,k=j+1:=⟨k-1,by omega⟩
 rw [jZ,if_neg (by omega)]
 show (match mEx f (nG l k) with|.error _=>none|.ok x=>_)=jZ f l c z k (bV 11 [lD (mEx f (nG l k)),w,z])
 obtain ⟨x,hx⟩:=zSh he (mEx_ne _)
 rw [show k+1-1=k from rfl] at hx
 rw [hx];rfl
theorem putW_end {f:Lf->Lf×Int} {l:List Ex} {c:Int} {z w:Ex} {k:Nat} (h:¬0<k):jZ f l c z k w=some w:=by
 obtain rfl:k=0:=by omega
 rfl
def nC (d:Df) (n:Nat) (g:Lf) (w z:Ex):Df:=⟨d.Name,d.T,d.Dims,d.Red.take n++d.Red.drop (n+1),if d.Red.take n++d.Red.drop (n+1)=[] then 0 else d.Fold,bV 11 [dO g (axA d.Red n).Size,w,z]⟩
def gG (d:Df) (n:Nat) (s:ByteArray) (l:List Ex):Lf:=match l.find? (lL d n s) with
 |some x=>(bX x s).1
 |none=>zL
def mI (d:Df):Ex:=bT d.Body 2
def nW (d:Df) (n:Nat) (s:ByteArray) (l:List Ex) (c:Int) (v:Ex) (g:Lf):Option Df:=
 match mEx (SR s g) v with
 |.error _=>none
 |.ok w=>(jZ (SR s g) l c (mI d) l.length w).map fun w'=>nC d n g w' (mI d)
def dN (d:Df) (s:ByteArray):Option Df:=
 if d.Fold=1/\0<=axN s d.Red/\(bC d.Body).ok=true/\0<=dI (lL d (axN s d.Red).toNat s) (bC d.Body).conds then
  nW d (axN s d.Red).toNat s (bC d.Body).conds (dI (lL d (axN s d.Red).toNat s) (bC d.Body).conds) (bC d.Body).val (gG d (axN s d.Red).toNat s (bC d.Body).conds)
 else none
def zD:Df:=⟨bs [],⟨0,0,0,0,0⟩,[],[],0,zEx⟩
def dfD (d:Df) (s:ByteArray):Df×Bool:=match dN d s with
 |none=>(zD,false)
 |some x=>if bP x.Body=0 then (x,true) else (zD,false)
def vF (o:Option Df):Df×Bool:=match o with
 |none=>(zD,false)
 |some x=>(x,decide (bP x.Body=0))
def dfR (d:Df) (s:ByteArray):Df×Bool:=vF (dN d s)
theorem def_eq {d:Df} {s:ByteArray}:(dfD d s).2=(dfR d s).2/\((dfR d s).2=true->dfD d s=dfR d s)/\((dfR d s).2=false->dfD d s=(zD,false)):=by
 unfold dfD dfR vF
 cases dN d s with
 |none=>exact ⟨rfl,(fun h=>by cases h),fun _=>rfl⟩
 |some x=>
  by_cases h:bP x.Body=0
  ·simp [h]
  ·simp [h]
/-! ## The conjuncts are parts of the expression -/
mutual
theorem zNq:∀(e x:Ex),x∈gA e->x∈dE e
 |.mk o n v t l i r,x,h=>by
  rw [gA] at h
  cases hd:decide (o=16) with
  |true=>rw [hd,cond_true] at h;rw [dE];exact List.mem_cons_of_mem _ (zSt r x h)
  |false=>rw [hd,cond_false,List.mem_singleton] at h;rw [h,dE];exact List.mem_cons_self
theorem zSt:∀(l:List Ex) (x:Ex),x∈lP l->x∈bK l
 |[],x,h=>by rw [lP] at h;cases h
 |a::r,x,h=>by
  rw [lP] at h
  rw [bK]
  rcases List.mem_append.1 h with h|h
  ·exact List.mem_append_left _ (zNq a x h)
  ·exact List.mem_append_right _ (zSt r x h)
end
theorem zRf {e x:Ex} (hx:x∈dE e):∀y,y∈dE x->y∈dE e:=by
 induction e using Ex.ind with
 |_ e ih=>
  intro y hy
  rw [kZ] at hx
  rcases List.mem_cons.1 hx with rfl|hx
  ·exact hy
  ·rw [kZ]
   refine List.mem_cons_of_mem _ ?_
   have:∀l:List Ex,(∀a,a∈l->a∈e.Args)->x∈bK l->y∈bK l:=by
    intro l hl hm
    induction l with
    |nil=>rw [bK] at hm;cases hm
    |cons a r ihr=>
     rw [bK] at hm⊢
     rcases List.mem_append.1 hm with h|h
     ·exact List.mem_append_left _ (ih a (hl a (by simp)) h y hy)
     ·exact List.mem_append_right _ (ihr (fun b hb=>hl b (by simp [hb])) h)
   exact this e.Args (fun a h=>h) hx
theorem allF_node {P:Lf->Prop} {e x:Ex} (h:e.allF P) (hx:x∈dE e):x.allF P:=fun y hy=>h y (zRf hx y hy)
theorem zPq {e a:Ex} (h:a∈e.Args):a∈dE e:=by
 rw [kZ];exact List.mem_cons_of_mem _ (zHu h (by rw [kZ];simp))
theorem argN_rng {e:Ex} (h:e.allF Lf.rng) (i:Nat):(bT e i).Lin.rng:=by
 unfold bT
 rw [List.getD_eq_getElem?_getD]
 cases hi:e.Args[i]? with
 |none=>exact zDx
 |some a=>exact Ex.allF_lin (Ex.allF_arg h (zX hi))
theorem num_rng {x:Ex} (h:bS x=0) (h1:x.Op=1) (h3:x.Ty.Kind=3):r64 x.Val.N:=by
 have h5:=(zDl h).2.2.2.2
 unfold jF at h5
 rw [Bool.and_eq_true] at h5
 have h6:=h5.1
 rw [h1] at h6
 simp only [decide_true,Bool.true_and,Bool.not_not] at h6
 unfold jT at h6
 rw [h3] at h6
 simp only [show decide ((3:Int)=2)=false from rfl,decide_true,cond_false,cond_true,Bool.and_eq_true,nD,decide_eq_true_eq] at h6
 unfold r64;omega
theorem fin_ok {b:Ex} {s:ByteArray} (hl:bJ b.Lin=true) (hr:b.Lin.rng) (hn:b.Op=1->b.Ty.Kind=3->r64 b.Val.N):bJ (lE b s).1=true/\(lE b s).1.rng:=by
 have key:bJ (dJ b).1=true/\(dJ b).1.rng:=by
  unfold dJ
  by_cases h2:b.Op=2
  ·rw [decide_eq_true h2,cond_true];exact ⟨hl,hr⟩
  ·rw [decide_eq_false h2,cond_false]
   by_cases h1:b.Op=1
   ·by_cases h3:b.Ty.Kind=3
    ·rw [decide_eq_true h1,decide_eq_true h3];exact ⟨rfl,hn h1 h3,fun m hm=>by cases hm⟩
    ·rw [decide_eq_false h3,Bool.and_false];exact ⟨rfl,zDx⟩
   ·rw [decide_eq_false h1,Bool.false_and];exact ⟨rfl,zDx⟩
 unfold lE
 cases (!(dJ b).2||gM (dJ b).1.L s)
 ·exact key
 ·exact ⟨rfl,zDx⟩
theorem solve_ok {c:Ex} (s:ByteArray) (hP:c.allF Lf.rng):bJ (bX c s).1=true/\(bX c s).1.rng:=by
 unfold bX
 by_cases h:bP c=0/\c.Op=15
 ·rw [decide_eq_true h.1,decide_eq_true h.2,Bool.and_self,cond_true]
  have hp:=wS h.1
  obtain ⟨a,b,hab,hPa,hPb⟩:=zKt hp (by rw [h.2];rfl)
  have ea:bT c 0=a:=by unfold bT;rw [hab];rfl
  have eb:bT c 1=b:=by unfold bT;rw [hab];rfl
  rw [ea,eb]
  have ra:a.Lin.rng:=by have:=argN_rng hP 0;rwa [ea] at this
  have rb:b.Lin.rng:=by have:=argN_rng hP 1;rwa [eb] at this
  have fa:=fin_ok (s:=s) (zPd (zAo hPa)) ra (num_rng (zAo hPa))
  have fb:=fin_ok (s:=s) (zPd (zAo hPb)) rb (num_rng (zAo hPb))
  unfold fK
  cases bD s
  ·exact ⟨rfl,zDx⟩
  ·cases isV a s
   ·cases isV b s
    ·exact ⟨rfl,zDx⟩
    ·exact fa
   ·exact fb
 ·have:(decide (bP c=0)&&decide (c.Op=15))=false:=by
   rw [Bool.and_eq_false_iff,decide_eq_false_iff_not,decide_eq_false_iff_not]
   by_cases h1:bP c=0
   ·exact .inr fun h2=>h ⟨h1,h2⟩
   ·exact .inl h1
  rw [this];exact ⟨rfl,zDx⟩
theorem zQk {p:Ex->Bool}:∀{l:List Ex} {k:Nat} {x:Ex},l[k]? =some x->p x=true->(l.take k).any p=false->l.find? p=some x
 |[],_,_,h,_,_=>by simp at h
 |y::r,0,x,h,hp,_=>by simp at h;subst h;rw [List.find?_cons,hp]
 |y::r,k+1,x,h,hp,hn=>by
  rw [List.take_succ_cons,List.any_cons,Bool.or_eq_false_iff] at hn
  rw [List.find?_cons,hn.1]
  exact zQk (by simpa using h) hp hn.2
theorem sel_none {p:Ex->Bool} {l:List Ex} (h:l.any p=false):l.find? p=none:=by
 rw [List.find?_eq_none]
 intro x hx hp
 rw [List.any_eq_false] at h
 exact h x hx hp
theorem gSel_ok {d:Df} {n:Nat} {s:ByteArray} {l:List Ex} {B:Nat} (h:∀x,x∈l->x.allF Lf.rng/\x.wt<=B):bJ (gG d n s l)=true/\(gG d n s l).rng/\(gG d n s l).L.length<=B:=by
 unfold gG
 cases hf:l.find? (lL d n s) with
 |none=>exact ⟨rfl,zDx,Nat.zero_le _⟩
 |some x=>
  have hx:=List.mem_of_find?_eq_some hf
  obtain ⟨h1,h2⟩:=h x hx
  obtain ⟨k1,k2⟩:=solve_ok s h1
  exact ⟨k1,k2,Nat.le_trans (zQd x s) h2⟩
theorem guard_ok {e:Ex} (h:(bC e).ok=true):∃a b z,e.Args=[a,b,z]/\(bC e).conds=gA a/\(bC e).val=b/\bT e 2=z/\e.Args[2]? =some z:=by
 unfold bC at h⊢
 cases hv:(decide (bP e=0)&&decide (e.Op=11)) with
 |false=>rw [hv] at h;cases h
 |true=>
  rw [hv,cond_true] at h
  simp only [Bool.and_eq_true,decide_eq_true_eq] at hv
  obtain ⟨a,b,z,habc,_⟩:=zMk (wS hv.1) (by rw [hv.2];rfl)
  have e0:bT e 0=a:=by unfold bT;rw [habc];rfl
  have e1:bT e 1=b:=by unfold bT;rw [habc];rfl
  have e2:bT e 2=z:=by unfold bT;rw [habc];rfl
  rw [e0,e1,e2] at h
  rw [cond_true,e0,e1,e2]
  unfold lN at h⊢
  cases hz:(decide (z.Op=1)&&decide (z.Val=lC z.Ty)) with
  |false=>rw [hz] at h;cases h
  |true=>exact ⟨a,b,z,habc,rfl,rfl,rfl,by rw [habc];rfl⟩
theorem zKb {e:Ex} {B:Nat} (h:(bC e).ok=true) (hP:e.allF Lf.rng) (hw:e.wt<=B):
  (∀x,x∈(bC e).conds->x.allF Lf.rng/\x.wt<=B)/\((bC e).val.allF Lf.rng/\(bC e).val.wt<=B)/\(zEx.wt<=B/\(bT e 2).wt<=B)/\(bC e).conds.length<=B/\e.Args[2]? =some (bT e 2):=by
 obtain ⟨a,b,z,habc,h1,h2,h3,h4⟩:=guard_ok h
 have ha:a∈e.Args:=by rw [habc];simp
 have hb:b∈e.Args:=by rw [habc];simp
 have wa:=Ex.arg_wt ha
 have wb:=Ex.arg_wt hb
 rw [h1,h2]
 refine ⟨fun x hx=>?_,⟨Ex.allF_arg hP hb,by omega⟩,⟨by have:=e.wt_pos;simp [zEx,Ex.wt,fH,bL];omega,Nat.le_trans (argN_wt e 2) hw⟩,?_,by rw [h3];exact h4⟩
 ·have hn:=zNq a x hx
  exact ⟨allF_node (Ex.allF_arg hP ha) hn,by have:=zDc a x hn;omega⟩
 ·have:=conj_len a;omega
theorem zLf (op:Int) (a b c:Ex):(bV op [a,b,c]).wt=1+a.wt+b.wt+c.wt:=by
 unfold bV;rw [Ex.wt];simp only [bL,fH,List.length_nil];omega
theorem zRq (g n:Lf):(dO g n).wt=7+2*g.L.length+n.L.length:=by
 unfold dO bV gR zeroE;simp only [Ex.wt,bL,fH,List.length_nil];omega
theorem SR_wt {s:ByteArray} {g:Lf} {B:Nat} (hg:g.L.length<=B) (x:Ex):(lD (mEx (SR s g) x)).wt<=(B+1)*x.wt+1:=
 out_wt (fun l=>by have:=substR_len l g s;show (bO l s g).1.L.length<=_;omega) x
/-! ## The chain,arm by arm -/
theorem chain_no1 {d:Df} {s:ByteArray} (h:¬d.Fold=1∨axN s d.Red<0):dN d s=none:=by
 unfold dN;refine if_neg fun k=>?_
 rcases h with h|h
 ·exact h k.1
 ·have:=k.2.1;omega
theorem chain_no2 {d:Df} {s:ByteArray} (h:(bC d.Body).ok=false):dN d s=none:=by
 unfold dN;refine if_neg fun k=>?_
 rw [h] at k;cases k.2.2.1
theorem chain_no3 {d:Df} {s:ByteArray} {n:Nat} (hn:axN s d.Red=n) (h:dI (lL d n s) (bC d.Body).conds<0):dN d s=none:=by
 unfold dN;refine if_neg fun k=>?_
 rw [hn] at k
 have:=k.2.2.2
 rw [Int.toNat_natCast] at this
 omega
theorem chain_put {d:Df} {s:ByteArray} {n:Nat} (hf:d.Fold=1) (hn:axN s d.Red=n) (hg:(bC d.Body).ok=true) (h:¬dI (lL d n s) (bC d.Body).conds<0):
  dN d s=nW d n s (bC d.Body).conds (dI (lL d n s) (bC d.Body).conds) (bC d.Body).val (gG d n s (bC d.Body).conds):=by
 unfold dN
 rw [hn,Int.toNat_natCast,if_pos ⟨hf,by omega,hg,by omega⟩]
theorem put_no {d:Df} {n:Nat} {s:ByteArray} {l:List Ex} {c:Int} {v:Ex} {g:Lf} (h:¬lT (mEx (SR s g) v)=0):nW d n s l c v g=none:=by
 unfold nW
 cases hm:mEx (SR s g) v with
 |error y=>rfl
 |ok w=>rw [hm] at h;exact absurd rfl h
theorem put_on {d:Df} {n:Nat} {s:ByteArray} {l:List Ex} {c:Int} {v:Ex} {g:Lf} (h:lT (mEx (SR s g) v)=0):nW d n s l c v g=(jZ (SR s g) l c (mI d) l.length (lD (mEx (SR s g) v))).map fun w'=>nC d n g w' (mI d):=by
 unfold nW
 obtain ⟨w,hw⟩:=zSh h (mEx_ne v)
 rw [hw];rfl
theorem zLv {d:Df} {s:ByteArray} (h:dN d s=none):dfD d s=(zD,false):=by unfold dfD;rw [h]
theorem def_bad {d x:Df} {s:ByteArray} (h:dN d s=some x) (hv:¬bP x.Body=0):dfD d s=(zD,false):=by unfold dfD;rw [h];exact if_neg hv
theorem def_good {d x:Df} {s:ByteArray} (h:dN d s=some x) (hv:bP x.Body=0):dfD d s=(x,true):=by unfold dfD;rw [h];exact if_pos hv
theorem axN_lt {s:ByteArray} {l:List Ax} {n:Nat} (h:axN s l=n):n<l.length/\(axA l n).Name=s:=by
 unfold axN at h
 have key:∀(l:List Ax) (n:Nat),dI (fun a:Ax=>decide (a.Name=s)) l=n->n<l.length/\(axA l n).Name=s:=by
  intro l
  induction l with
  |nil=>intro n h;simp only [dI] at h;omega
  |cons a r ih=>
   intro n h
   rw [dI] at h
   by_cases ha:a.Name=s
   ·rw [decide_eq_true ha,cond_true] at h
    obtain rfl:n=0:=by omega
    exact ⟨by simp,ha⟩
   ·rw [decide_eq_false ha,cond_false] at h
    by_cases hr:dI (fun a:Ax=>decide (a.Name=s)) r= -1
    ·rw [decide_eq_true hr,cond_true] at h;omega
    ·rw [decide_eq_false hr,cond_false] at h
     have hge:=zPg (fun a:Ax=>decide (a.Name=s)) r
     obtain ⟨m,rfl⟩:∃m,n=m+1:=⟨n-1,by omega⟩
     obtain ⟨h1,h2⟩:=ih m (by omega)
     exact ⟨by simpa using h1,h2⟩
 exact key l n h
/-! ## The reference's walk over the axes behind -/
theorem free_take {f:Lf} {l:List Ax} {j:Nat} {x:Ax} (h:l[j]? =some x):jW f (l.take (j+1))=(jW f (l.take j)&& !gM f.L x.Name):=by
 unfold jW;rw [qT h,List.all_append];simp
theorem free_stop {f:Lf} {l:List Ax} {j:Nat} {b:Bool} (h:¬(j<l.length/\(b&&jW f (l.take j))=true)):(b&&jW f (l.take j))=(b&&jW f l):=by
 by_cases hj:j<l.length
 ·have h0:(b&&jW f (l.take j))=false:=by
   cases hh:(b&&jW f (l.take j)) with
   |false=>rfl
   |true=>exact absurd ⟨hj,hh⟩ h
  rw [h0]
  rw [Bool.and_eq_false_iff] at h0
  rcases h0 with h0|h0
  ·rw [h0];rfl
  ·have:jW f l=false:=by
    unfold jW at h0⊢
    rw [List.all_eq_false] at h0⊢
    obtain ⟨x,hx,hh⟩:=h0
    exact ⟨x,List.mem_of_mem_take hx,hh⟩
   rw [this,Bool.and_false]
 ·rw [List.take_of_length_le (by omega)]
theorem rem_next {l:List Ax} {n k:Nat} {x:Ax} (h:l[k]? =some x):(l.take (k+1)).eraseIdx n=(l.take k).eraseIdx n++(if k=n then [] else [x]):=by
 have hk:k<l.length:=(List.getElem?_eq_some_iff.1 h).1
 have hl:(l.take k).length=k:=by rw [List.length_take];omega
 rw [qT h]
 by_cases h1:n<k
 ·rw [List.eraseIdx_append_of_lt_length (by omega),if_neg (by omega)]
 ·rw [List.eraseIdx_append_of_length_le (by omega),hl,List.eraseIdx_of_length_le (l:=l.take k) (by omega)]
  by_cases h2:k=n
  ·rw [if_pos h2,h2,Nat.sub_self];rfl
  ·rw [if_neg h2,List.eraseIdx_of_length_le (by simp;omega)]
theorem rem_all {l:List Ax} {n:Nat}:l.eraseIdx n=l.take n++l.drop (n+1):=List.eraseIdx_eq_take_drop_succ l n
theorem chain_r1 {d:Df} {s:ByteArray} (h:(¬d.Fold=1∨axN s d.Red<0)∨(bC d.Body).ok=false):dN d s=none:=by
 rcases h with h|h
 ·exact chain_no1 h
 ·exact chain_no2 h
theorem mem_rem {l:List Ax} {n:Nat} {a:Ax} (h:a∈l.take n++l.drop (n+1)):a∈l:=by
 rcases List.mem_append.1 h with h|h
 ·exact List.mem_of_mem_take h
 ·exact List.mem_of_mem_drop h
theorem rem_len (l:List Ax) (n:Nat):(l.take n++l.drop (n+1)).length<=l.length:=by
 rw [List.length_append,List.length_take,List.length_drop];omega
theorem out_t {d:Df} {n:Nat} {g:Lf} {w z:Ex} (h:((d.Red.take n++d.Red.drop (n+1)).length:Int)=0):nC d n g w z=⟨d.Name,d.T,d.Dims,d.Red.take n++d.Red.drop (n+1),0,bV 11 [dO g (axA d.Red n).Size,w,z]⟩:=by
 unfold nC;rw [if_pos (List.eq_nil_of_length_eq_zero (by omega))]
theorem out_f {d:Df} {n:Nat} {g:Lf} {w z:Ex} (h:¬((d.Red.take n++d.Red.drop (n+1)).length:Int)=0):nC d n g w z=⟨d.Name,d.T,d.Dims,d.Red.take n++d.Red.drop (n+1),d.Fold,bV 11 [dO g (axA d.Red n).Size,w,z]⟩:=by
 unfold nC;rw [if_neg fun k=>h (by rw [k];rfl)]
end Go.Br
end
section
namespace Go.Br
open Go Go.Eng Go.L41
def xJ:List ByteArray->ByteArray->List ByteArray
 |[],s=>[s]
 |x::r,s=>if bY x s=true then x::xJ r s else if x=s then x::r else s::x::r
def xI (l:List ByteArray) (m:List ByteArray):List ByteArray:=m.foldl xJ l
def below (s:ByteArray) (x:ByteArray):Bool:=bY x s
theorem zIq {l:List ByteArray} {s:ByteArray}:bR l s=true↔s∈l:=by
 unfold bR;rw [List.any_eq_true]
 constructor
 ·rintro ⟨x,hx,h⟩;rw [decide_eq_true_eq] at h;rw [←h];exact hx
 ·intro h;exact ⟨s,h,by simp⟩
end Go.Br
end
section
namespace Go.Br
open Go Go.Eng Go.L41
def xD (e:Ex):List ByteArray:=xI [] (vZ (dE e))
end Go.Br
end
section
namespace Go.Br
open Go Go.Eng Go.L41
theorem zEj {N:Ex->List Ty->Ty×Int} {e:Ex} (h:(bE N e).2=0):(bF N e.Args).2=0/\bE N e=N e (bF N e.Args).1:=by
 rw [zEa] at h⊢
 by_cases c:(bF N e.Args).2=0
 ·rw [if_pos c] at h⊢;exact ⟨c,rfl⟩
 ·rw [if_neg c] at h;exact absurd h c
theorem zGd {N:Ex->List Ty->Ty×Int} {a:Ex} {r:List Ex} (h:(bF N (a::r)).2=0):(bE N a).2=0/\(bF N r).2=0/\(bF N (a::r)).1=(bE N a).1::(bF N r).1:=by
 rw [bF] at h⊢
 by_cases c:(bE N a).2=0
 ·rw [if_pos c] at h⊢
  by_cases d:(bF N r).2=0
  ·rw [if_pos d];exact ⟨c,d,rfl⟩
  ·rw [if_neg d] at h;exact absurd h d
 ·rw [if_neg c] at h;exact absurd h c
section
variable {fr:Ex->Bool} {o_:List ByteArray} {e a b c:Ex}
end
/-! ## Weights -/
section
variable {n:En} {o_:List ByteArray} {e:Ex} {t:Ty×Int}
end
end Go.Br
end
section
namespace Go.Br
open Go Go.Eng Go.L41
section
variable {p:Pg} {o_:List ByteArray} {R:List Df×List ByteArray×Int}
end
section
variable {n:En} {d:Df} {A:List ByteArray} {X:Ex×Int}
end
end Go.Br
end
