/-
  Sorting and thinning of lists of strings that are the call's own: slices.Sort and slices.Compact,by the shelf's contracts.
  The names that an expression reads,in plain Lean.
  Sums of linear forms,exactly,in plain Lean: numbers of 64 and of 128 bits,merges of ascending lists,substitution.
  The reference's substitution of forms,in plain Lean: the sum,and the mapping of all forms of an expression.
  What the substitution of a form keeps,in plain Lean: valid forms stay valid,the name is gone,the shape of an expression stays.
  The comparison of expressions is a total order,in plain Lean.
  Layer 14 in plain Lean: short names,replacing,the names in forms,the example that every statement checks.
  Loop nests,in plain Lean: buffers,statements,and the cells that hold them.
  What the check of a nest says (30.1),in plain Lean.
  Weights of nests,in plain Lean.
  For the reference's check of nests,in plain Lean.
  Ascending lists of names,one name added at a time,in plain Lean.
  Lifetimes as plain data,and what the functions of the layer compute.
  Layer 41 in plain Lean: what statements touch; the spans of buffers.
  Nests walked and mapped,in plain Lean (30.2,30.3).
  Paths in nests,in plain Lean (30.2).
  Names that are not in use,in plain Lean (30.2): numerals,and the first number that is free.
  A loop renamed to a name that is not in use,in plain Lean (30.3,30.5).
  The example of the laws of layer 30; lengths of paths. In plain Lean.
  Conditions: none.
-/
import Derived.Test.YtdbflnlalkfeeaaGreatDoorCfg
import Derived.Test.YtdbflnlalkfeeaaGreatDoorEngZ
import Derived.Test.YtdbflnlalkfeeaaGreatDoorShelfB
import Derived.Sort.OwnSorted
import Derived.Lib.OwnBridge
import Derived.Test.YtdbflnlalkfeeaaGreatDoorPlain
import Derived.Test.YtdbflnlalkfeeaaGreatDoorNames
import Derived.Lib.ItoaNum
section
namespace Go.Br
open Go Go.Eng Go.RowKit Go.Proofs Go.L41
abbrev strRows (l : List ByteArray) : List (List C) := l.map fun s => [cS s]
def toB (l : List (List UInt8)) : List ByteArray := l.map fun x => ⟨x.toArray⟩
def ofB (l : List ByteArray) : List (List UInt8) := l.map (·.data.toList)
def sortB (l : List ByteArray) : List ByteArray := toB ((ofB l).mergeSort fun x y => decide (x ≤ y))
def thinB (l : List ByteArray) : List ByteArray := toB (Lib.compact (ofB l))
theorem ofB_enc (l : List ByteArray) : (ofB l).map encStr = l.map Value.string := Lib.map_encStr l
theorem toB_enc (l : List (List UInt8)) : l.map encStr = (toB l).map Value.string:= by
  unfold toB; rw [List.map_map]; rfl
theorem zPa (l : List ByteArray) : (sortB l).length = l.length:= by simp [sortB,toB,ofB,List.length_mergeSort]
theorem flat_str (l : List ByteArray) : (strRows l).flatten = l.map fun s => cS s:= by
  induction l with
  | nil => rfl
  | cons x r ih => show cS x :: (strRows r).flatten = _; rw [ih]; rfl
theorem reps_str {w : World} {I : Nat → Prop} : ∀ {l : List ByteArray} {xs : List Value},CReps w I (l.map fun s => cS s) xs → xs = l.map Value.string
  | [],_,.nil => rfl
  | x :: l,_,.cons h t => by
    have e := reps_str t
    cases h with
    | lit _ _ => rw [e]; rfl
theorem str_reps {w : World} {I : Nat → Prop} : ∀ l : List ByteArray,CReps w I (l.map fun s => cS s) (l.map Value.string)
  | [] => .nil
  | x :: l => .cons (.lit _ rfl) (str_reps l)
theorem rep_str {w : World} {I : Nat → Prop} {sv : Value} {t : TypeId} {l : List ByteArray} (h : w.ownsRow 0 t 1 sv l.length (l.map Value.string)) (hb : svB sv ≠ []) : ERep w I (.vec sv t 1 (strRows l)):= by
  refine .inr ⟨hb,l.map Value.string,?_,?_,fun r hr => ?_⟩
  · rw [show (strRows l).length = l.length by simp]; exact h
  · rw [flat_str]; exact str_reps l
  · obtain ⟨x,_,rfl⟩ := List.mem_map.1 hr; rfl
theorem zPn {w : World} {I : Nat → Prop} {sv : Value} {t : TypeId} {l : List ByteArray} (h : ERep w I (.vec sv t 1 (strRows l))) : (∃ a,sv = .slice a 0 0 ∧ l = []) ∨ (svB sv ≠ [] ∧ w.ownsRow 0 t 1 sv l.length (l.map Value.string)):= by
  rcases h with ⟨a,h1,h2⟩ | ⟨h1,xs,h2,h3,h4⟩
  · exact .inl ⟨a,h1,by simpa using h2⟩
  · rw [flat_str] at h3
    rw [reps_str h3,show (strRows l).length = l.length by simp] at h2
    exact .inr ⟨h1,h2⟩
theorem sort_con (sv : Value) (l : List ByteArray) (hl : l.length ≤ 4294967296) : Con cfg 170 [.c (.lit sv)] [.vec sv 9 1 (strRows l)] fun r μ' => r = .tup [] ∧ μ' = [.vec sv 9 1 (strRows (sortB l))]:= by
  intro w I vs hH ha
  match vs,ha with
  | [v],ha =>
    have e : v = sv:= by cases (ha.1 : CRep w I (.lit sv) v) with | lit _ _ => rfl
    subst e
    have hrep := hH.rep _ (List.mem_singleton.2 rfl)
    rcases zPn hrep with ⟨a,rfl,rfl⟩ | ⟨hb,hown⟩
    · refine (Tryz.slices_Sort_string_none a 0 w).mono ?_
      rintro en w' ⟨rfl,rfl⟩
      have e2 : sortB [] = []:= by simp [sortB,ofB,toB]
      refine ⟨_,_,_,I,rfl,⟨rfl,by rw [e2]⟩,⟨[],rfl,trivial⟩,hH,Ext.refl _ _ _⟩
    · have hne : v ≠ .slice none 0 0:= by rintro rfl; exact hb rfl
      have hown' := hown
      rw [← ofB_enc] at hown'
      obtain ⟨g,cap,rfl,hbg,hgl,hncap,hcm,hlen,hHo⟩ := Lib.holds_of_ownsRow hown' hne
      obtain ⟨_,hcase⟩ := hown
      rcases hcase with ⟨h0,_⟩ | ⟨g',cap',cur,hv,_,hcur,hn2,hm2,hcs,htk⟩
      · exact absurd h0 hne
      · injection hv with e1 e2 e3
        injection e1 with e1
        injection e1 with e1 _ _
        subst e1 e3
        have hss : (ofB l).length = l.length:= by simp [ofB]
        have hcall := Tryz.slices_Sort_string g 0 cap (ofB l) w hHo hgl (by omega)
        rw [hss] at hcall
        refine hcall.mono ?_
        rintro en w' ⟨rfl,n,os,rfl⟩
        have hts : ((ofB l).mergeSort fun x y => decide (x ≤ y)).length = (ofB l).length := List.length_mergeSort _
        have hs := ownsRow_sorted (n := n) (os := os) (ts := (ofB l).mergeSort fun x y => decide (x ≤ y)) hts (Nat.zero_le g) hcur (by omega) hm2 hcs
        rw [toB_enc,hss] at hs
        have hlen2 : (sortB l).length = l.length:= by simp [sortB,toB,hts,hss]
        have hgr := grownBy_sorted (w := w) (g := g) (n := n) (os := os) ((ofB l).mergeSort fun x y => decide (x ≤ y)).toArray
        have hrep2 : ERep (Sort.grow (Sort.putRow encStr (Sort.ahead w n) g 0 ((ofB l).mergeSort fun x y => decide (x ≤ y)).toArray) os) I (.vec (.slice (some ⟨g,0,none⟩) l.length cap) 9 1 (strRows (sortB l))):= by
          refine rep_str ?_ hb
          rw [hlen2]; exact hs
        obtain ⟨hH',hx'⟩ := Heap.write (w' := Sort.grow (Sort.putRow encStr (Sort.ahead w n) g 0 ((ofB l).mergeSort fun x y => decide (x ≤ y)).toArray) os) hH (p := 0) (en := .vec (.slice (some ⟨g,0,none⟩) l.length cap) 9 1 (strRows l)) (en' := .vec (.slice (some ⟨g,0,none⟩) l.length cap) 9 1 (strRows (sortB l))) rfl hgr.os hgr.tape hgr.output hgr.size
          (fun b hb1 hb2 => hgr.block b hb1 (fun e => by
            injection e with e
            apply hb2
            have hin : svB (.slice (some ⟨g,0,none⟩) l.length cap) ≠ [] := hb
            subst e
            exact zOx hin rfl)) (by have h := hH.nodup; simp only [blocksOf,List.flatMap_cons,List.flatMap_nil,List.append_nil] at h; exact h) (fun b h => .inl h) trivial hrep2
        exact ⟨_,_,_,I,rfl,⟨rfl,rfl⟩,⟨[],rfl,trivial⟩,hH',hx'⟩
theorem thin_con (sv : Value) (l : List ByteArray) (hl : l.length ≤ 4294967296) : Con cfg 171 [.c (.lit sv)] [.vec sv 9 1 (strRows l)] fun r μ' => ∃ sv',r = .c (.lit sv') ∧ μ' = [.vec sv' 9 1 (strRows (thinB l))]:= by
  intro w I vs hH ha
  match vs,ha with
  | [v],ha =>
    have e : v = sv:= by cases (ha.1 : CRep w I (.lit sv) v) with | lit _ _ => rfl
    subst e
    have hrep := hH.rep _ (List.mem_singleton.2 rfl)
    rcases zPn hrep with ⟨a,rfl,rfl⟩ | ⟨hb,hown⟩
    · refine (Tryz.slices_Compact_string_empty a 0 w).mono ?_
      rintro en w' ⟨rfl,rfl⟩
      have e2 : thinB [] = []:= by simp [thinB,ofB,toB,Lib.compact,Lib.compactUpTo]
      exact ⟨_,_,_,I,rfl,⟨_,rfl,by rw [e2]⟩,CRep.lit _ rfl,hH,Ext.refl _ _ _⟩
    · have hne : v ≠ .slice none 0 0:= by rintro rfl; exact hb rfl
      have hown' := hown
      rw [← ofB_enc] at hown'
      obtain ⟨g,cap,rfl,hbg,hgl,hncap,hcm,hlen,hHo⟩ := Lib.holds_of_ownsRow hown' hne
      have hss : (ofB l).length = l.length:= by simp [ofB]
      have hcall := Tryz.slices_Compact_string g 0 cap (ofB l) w hHo (by omega) (by omega)
      rw [hss] at hcall
      refine hcall.mono ?_
      rintro en w' ⟨rfl,q,hw'⟩
      have hcl := Lib.compact_length_le (ofB l)
      have hs := Lib.ownsRow_putRow (q := q) (k := (Lib.compact (ofB l)).length) (ys := Lib.compact (ofB l) ++ List.replicate (l.length - (Lib.compact (ofB l)).length) []) hown' (by simp; omega) (by omega)
      rw [List.take_left' rfl,toB_enc,← hw'] at hs
      have hlen2 : (thinB l).length = (Lib.compact (ofB l)).length:= by simp [thinB,toB]
      have hgr := grownBy_sorted (w := w) (g := g) (n := q) (os := #[]) (Lib.compact (ofB l) ++ List.replicate (l.length - (Lib.compact (ofB l)).length) []).toArray
      rw [Sort.grow_empty,← hw'] at hgr
      clear hw' hown' hHo hcall
      obtain ⟨c,hc⟩ : ∃ c,cap = c + 1:= by
        cases cap with
        | zero => exact absurd rfl hb
        | succ c => exact ⟨c,rfl⟩
      subst hc
      have hrep2 : ERep w' I (.vec (.slice (some ⟨g,0,none⟩) (Lib.compact (ofB l)).length (c + 1)) 9 1 (strRows (thinB l))):= by
        refine rep_str ?_ (by simp [svB])
        rw [hlen2]; exact hs
      obtain ⟨hH',hx'⟩ := Heap.write (w' := w') hH (p := 0) (en := .vec (.slice (some ⟨g,0,none⟩) l.length (c + 1)) 9 1 (strRows l)) (en' := .vec (.slice (some ⟨g,0,none⟩) (Lib.compact (ofB l)).length (c + 1)) 9 1 (strRows (thinB l))) rfl hgr.os hgr.tape hgr.output hgr.size
        (fun b hb1 hb2 => hgr.block b hb1 (fun e => by
          injection e with e
          apply hb2
          have hin : svB (.slice (some ⟨g,0,none⟩) l.length (c + 1)) ≠ [] := hb
          subst e
          exact zOx hin rfl)) (by simp [E.blocks,svB]) (fun b h => .inl h) trivial hrep2
      exact ⟨_,_,_,I,rfl,⟨_,rfl,rfl⟩,CRep.lit _ rfl,hH',hx'⟩
end Go.Br
end
section
namespace Go.Br
open Go Go.Eng Go.L41
def fromX (x : Ix) : List ByteArray := if x.From = bs [] then [] else [x.From]
def readsI (l : List Ix) : List ByteArray := l.flatMap fromX
def opRead (x : Ex) : List ByteArray := if x.Op = 3 then [x.Name] else []
def readsN (x : Ex) : List ByteArray := opRead x ++ readsI x.Idx
def readsA (l : List Ex) : List ByteArray := l.flatMap readsN
def readsT (e : Ex) : List ByteArray := thinB (sortB (readsA (nodes e)))
theorem mem_toB {s : ByteArray} {l : List (List UInt8)} : s ∈ toB l ↔ s.data.toList ∈ l:= by
  unfold toB
  rw [List.mem_map]
  constructor
  · rintro ⟨x,hx,rfl⟩; simpa using hx
  · intro h; exact ⟨_,h,by cases s; simp⟩
theorem mem_ofB {s : ByteArray} {l : List ByteArray} : s.data.toList ∈ ofB l ↔ s ∈ l:= by
  unfold ofB
  rw [List.mem_map]
  constructor
  · rintro ⟨x,hx,e⟩
    have : x = s:= by cases x; cases s; congr 1; exact Array.toList_inj.1 e
    rw [← this]; exact hx
  · intro h; exact ⟨s,h,rfl⟩
theorem zKa {s : ByteArray} {l : List ByteArray} : s ∈ sortB l ↔ s ∈ l:= by
  unfold sortB; rw [mem_toB,List.mem_mergeSort,mem_ofB]
theorem mem_thinB {s : ByteArray} {l : List ByteArray} (h : s ∈ thinB l) : s ∈ l:= by
  unfold thinB at h
  rw [mem_toB] at h
  rw [← mem_ofB]
  unfold Lib.compact Lib.compactUpTo at h
  obtain ⟨i,hi,e⟩ := List.mem_map.1 h
  have hi2 := (List.mem_filter.1 hi).1
  have hlt := List.mem_range.1 hi2
  rw [← e,getElem!_pos _ i (by simpa using hlt)]
  simp
end Go.Br
end
section
namespace Go.Br
open Go Go.Eng Go.L41
/-! ## The order of names -/
theorem bl_cons (a b : UInt8) (x y : List UInt8) : Op.bytesLess (a :: x) (b :: y) = true ↔ a < b ∨ (a = b ∧ Op.bytesLess x y = true):= by
  rw [Op.bytesLess]
  by_cases h1 : a < b <;> by_cases h2 : a = b <;> simp [h1,h2]
theorem bl_trans : ∀ (x y z : List UInt8),Op.bytesLess x y = true → Op.bytesLess y z = true → Op.bytesLess x z = true
  | [],[],_,h,_ => by simp [Op.bytesLess] at h
  | [],_ :: _,[],_,h => by simp [Op.bytesLess] at h
  | [],_ :: _,_ :: _,_,_ => by simp [Op.bytesLess]
  | _ :: _,[],_,h,_ => by simp [Op.bytesLess] at h
  | _ :: _,_ :: _,[],_,h => by simp [Op.bytesLess] at h
  | a :: x,b :: y,c :: z,h,k => by
    rw [bl_cons] at h k ⊢
    rcases h with h | ⟨rfl,h⟩
    · rcases k with k | ⟨rfl,k⟩
      · exact .inl (UInt8.lt_trans h k)
      · exact .inl h
    · rcases k with k | ⟨rfl,k⟩
      · exact .inl k
      · exact .inr ⟨rfl,bl_trans x y z h k⟩
theorem bl_tri : ∀ (x y : List UInt8),Op.bytesLess x y = false → Op.bytesLess y x = false → x = y
  | [],[],_,_ => rfl
  | [],_ :: _,h,_ => by simp [Op.bytesLess] at h
  | _ :: _,[],_,h => by simp [Op.bytesLess] at h
  | a :: x,b :: y,h,k => by
    have h1 : ¬ Op.bytesLess (a :: x) (b :: y) = true:= by rw [h]; simp
    have k1 : ¬ Op.bytesLess (b :: y) (a :: x) = true:= by rw [k]; simp
    rw [bl_cons] at h1 k1
    have e : a = b := UInt8.le_antisymm (UInt8.not_lt.1 fun c => k1 (.inl c)) (UInt8.not_lt.1 fun c => h1 (.inl c))
    subst e
    have h2 : Op.bytesLess x y = false:= by
      cases c : Op.bytesLess x y with
      | false => rfl
      | true => exact absurd (.inr ⟨rfl,c⟩) h1
    have k2 : Op.bytesLess y x = false:= by
      cases c : Op.bytesLess y x with
      | false => rfl
      | true => exact absurd (.inr ⟨rfl,c⟩) k1
    rw [bl_tri x y h2 k2]
theorem bl_irr : ∀ (x : List UInt8),Op.bytesLess x x = false
  | [] => by simp [Op.bytesLess]
  | a :: x => by
    cases c : Op.bytesLess (a :: x) (a :: x) with
    | false => rfl
    | true =>
      rw [bl_cons] at c
      rcases c with c | ⟨_,c⟩
      · exact absurd c (UInt8.lt_irrefl a)
      · rw [bl_irr x] at c; cases c
theorem strLt_tri {a b : ByteArray} (h : strLt a b = false) (k : strLt b a = false) : a = b:= by
  have h1 := bl_tri _ _ h k
  rw [ByteArray.toList_eq,ByteArray.toList_eq] at h1
  exact ByteArray.ext (Array.toList_inj.1 h1)
theorem zFx (a : ByteArray) : strLt a a = false := bl_irr _
theorem zEi {a b c : ByteArray} (h : strLt a b = true) (k : strLt b c = true) : strLt a c = true := bl_trans _ _ _ h k
/-! ## Numbers -/
def r64 (n : Int) : Prop := -9223372036854775808 ≤ n ∧ n ≤ 9223372036854775807
instance (n : Int) : Decidable (r64 n):= by unfold r64; infer_instance
def w64 (n : Int) : Int := IntKind.i64.wrap n
theorem zMp {n : Int} (h : r64 n) : w64 n = n := IntWalk.i64_in n h
theorem w64_eq (n : Int) : w64 n = (n + 9223372036854775808) % 18446744073709551616 - 9223372036854775808:= by unfold w64; rw [IntKind.wrap_i64]
theorem w64_r (n : Int) : r64 (w64 n):= by rw [w64_eq]; unfold r64; omega
theorem u64_eq (n : Int) : IntKind.u64.wrap n = n % 18446744073709551616:= by rw [IntKind.wrap_u64]
theorem plus_ok {a b : Int} (ha : r64 a) (hb : r64 b) : decide (decide (a < w64 (a + b)) = decide (0 < b)) = decide (r64 (a + b)):= by
  refine decide_eq_decide.2 ?_
  rw [w64_eq,decide_eq_decide]
  unfold r64 at *
  omega
theorem sq_le {a b : Nat} (ha : a ≤ 4294967295) (hb : b ≤ 4294967295) : a * b ≤ 18446744065119617025 := Nat.mul_le_mul ha hb
def hiN (a b : Nat) : Nat :=
  (a / 4294967296) * (b / 4294967296) + ((a / 4294967296) * (b % 4294967296) + ((a % 4294967296) * (b % 4294967296)) / 4294967296) / 4294967296 +
    ((a % 4294967296) * (b / 4294967296) + ((a / 4294967296) * (b % 4294967296) + ((a % 4294967296) * (b % 4294967296)) / 4294967296) % 4294967296) / 4294967296
theorem mul_parts (a b : Nat) : a * b = (a / 4294967296) * (b / 4294967296) * 18446744073709551616 + ((a / 4294967296) * (b % 4294967296) + (a % 4294967296) * (b / 4294967296)) * 4294967296 + (a % 4294967296) * (b % 4294967296):= by
  have ea : a = (a / 4294967296) * 4294967296 + a % 4294967296:= by omega
  have eb : b = (b / 4294967296) * 4294967296 + b % 4294967296:= by omega
  generalize a / 4294967296 = a1 at *
  generalize a % 4294967296 = a0 at *
  generalize b / 4294967296 = b1 at *
  generalize b % 4294967296 = b0 at *
  subst ea eb
  rw [Nat.add_mul,Nat.mul_add,Nat.mul_add,Nat.add_mul]
  have e1 : a1 * 4294967296 * (b1 * 4294967296) = a1 * b1 * 18446744073709551616:= by
    rw [Nat.mul_mul_mul_comm]
  have e2 : a1 * 4294967296 * b0 = a1 * b0 * 4294967296:= by rw [Nat.mul_right_comm]
  have e3 : a0 * (b1 * 4294967296) = a0 * b1 * 4294967296:= by rw [Nat.mul_assoc]
  rw [e1,e2,e3]
  omega
theorem hi_lo (a b : Nat) : hiN a b * 18446744073709551616 + (a * b) % 18446744073709551616 = a * b:= by
  have h := mul_parts a b
  unfold hiN
  generalize a * b = n at *
  generalize (a / 4294967296) * (b / 4294967296) = p11 at *
  generalize (a / 4294967296) * (b % 4294967296) = p10 at *
  generalize (a % 4294967296) * (b / 4294967296) = p01 at *
  generalize (a % 4294967296) * (b % 4294967296) = p00 at *
  omega
theorem part_le {a b : Nat} (ha : a < 18446744073709551616) (hb : b < 18446744073709551616) :
    (a / 4294967296) * (b / 4294967296) ≤ 18446744065119617025 ∧ (a / 4294967296) * (b % 4294967296) ≤ 18446744065119617025 ∧ (a % 4294967296) * (b / 4294967296) ≤ 18446744065119617025 ∧ (a % 4294967296) * (b % 4294967296) ≤ 18446744065119617025 :=
  ⟨sq_le (by omega) (by omega),sq_le (by omega) (by omega),sq_le (by omega) (by omega),sq_le (by omega) (by omega)⟩
theorem hi_zero {a b : Nat} : hiN a b = 0 ↔ a * b < 18446744073709551616:= by
  have h := hi_lo a b
  constructor
  · intro e; rw [e] at h; omega
  · intro e
    by_cases c : hiN a b = 0
    · exact c
    · exfalso; generalize a * b = n at *; generalize hiN a b = m at *; omega
theorem hi_bounds {a b : Nat} (ha : a < 18446744073709551616) (hb : b < 18446744073709551616) :
    (a / 4294967296) * (b % 4294967296) + ((a % 4294967296) * (b % 4294967296)) / 4294967296 < 18446744073709551616 ∧
    (a % 4294967296) * (b / 4294967296) + ((a / 4294967296) * (b % 4294967296) + ((a % 4294967296) * (b % 4294967296)) / 4294967296) % 4294967296 < 18446744073709551616 ∧
    (a / 4294967296) * (b / 4294967296) + ((a / 4294967296) * (b % 4294967296) + ((a % 4294967296) * (b % 4294967296)) / 4294967296) / 4294967296 < 18446744073709551616 ∧ hiN a b < 18446744073709551616:= by
  obtain ⟨h1,h2,h3,h4⟩ := part_le ha hb
  have h5 := hi_lo a b
  have h6 : a * b ≤ 18446744073709551615 * 18446744073709551615 := Nat.mul_le_mul (by omega) (by omega)
  refine ⟨?_,?_,?_,?_⟩
  · generalize (a / 4294967296) * (b % 4294967296) = p10 at *
    generalize (a % 4294967296) * (b % 4294967296) = p00 at *
    omega
  · generalize (a / 4294967296) * (b % 4294967296) = p10 at *
    generalize (a % 4294967296) * (b / 4294967296) = p01 at *
    generalize (a % 4294967296) * (b % 4294967296) = p00 at *
    omega
  · generalize (a / 4294967296) * (b / 4294967296) = p11 at *
    generalize (a / 4294967296) * (b % 4294967296) = p10 at *
    generalize (a % 4294967296) * (b % 4294967296) = p00 at *
    omega
  · generalize a * b = n at *
    generalize hiN a b = m at *
    omega
def timesT (x y : Int) : Int × Bool := if r64 (x * y) then (x * y,true) else (0,false)
theorem magn_neg {x : Int} (h : r64 x) (hn : x < 0) : IntKind.u64.wrap (-(IntKind.u64.wrap x)) = (x.natAbs : Int):= by
  unfold r64 at h; rw [u64_eq,u64_eq]; omega
theorem magn_pos {x : Int} (h : r64 x) (hn : ¬ x < 0) : IntKind.u64.wrap x = (x.natAbs : Int):= by
  unfold r64 at h; rw [u64_eq]; omega
theorem magn_le {x : Int} (h : r64 x) : x.natAbs ≤ 9223372036854775808:= by unfold r64 at h; omega
theorem abs_mul (x y : Int) : (x * y).natAbs = x.natAbs * y.natAbs := Int.natAbs_mul x y
theorem sign_mul {x y : Int} (hx : x < 0) (hy : ¬ y < 0) : x * y ≤ 0 := Int.mul_nonpos_of_nonpos_of_nonneg (by omega) (by omega)
theorem sign_mul2 {x y : Int} (hx : ¬ x < 0) (hy : y < 0) : x * y ≤ 0 := Int.mul_nonpos_of_nonneg_of_nonpos (by omega) (by omega)
theorem sign_mul3 {x y : Int} (hx : x < 0) (hy : y < 0) : 0 ≤ x * y := Int.mul_nonneg_of_nonpos_of_nonpos (by omega) (by omega)
theorem sign_mul4 {x y : Int} (hx : ¬ x < 0) (hy : ¬ y < 0) : 0 ≤ x * y := Int.mul_nonneg (by omega) (by omega)
theorem neg_mul {x y : Int} (h : (decide (x < 0) == decide (y < 0)) = false) : x * y ≤ 0:= by
  by_cases hx : x < 0 <;> by_cases hy : y < 0
  · simp [hx,hy] at h
  · exact sign_mul hx hy
  · exact sign_mul2 hx hy
  · simp [hx,hy] at h
theorem pos_mul {x y : Int} (h : (decide (x < 0) == decide (y < 0)) = true) : 0 ≤ x * y:= by
  by_cases hx : x < 0 <;> by_cases hy : y < 0
  · exact sign_mul3 hx hy
  · simp [hx,hy] at h
  · simp [hx,hy] at h
  · exact sign_mul4 hx hy
theorem times_big {x y : Int} (hx : r64 x) (hy : r64 y) (h : hiN x.natAbs y.natAbs ≠ 0 ∨ 9223372036854775808 < x.natAbs * y.natAbs % 18446744073709551616) : timesT x y = (0,false):= by
  unfold timesT
  refine if_neg fun k => ?_
  have h1 := abs_mul x y
  unfold r64 at k
  have h2 : x.natAbs * y.natAbs < 18446744073709551616:= by rw [← h1]; omega
  rcases h with h | h
  · exact h (hi_zero.2 h2)
  · rw [Nat.mod_eq_of_lt h2,← h1] at h; omega
theorem times_edge {x y : Int} (h : (decide (x < 0) == decide (y < 0)) = true) (h2 : x.natAbs * y.natAbs % 18446744073709551616 = 9223372036854775808) : timesT x y = (0,false):= by
  unfold timesT
  refine if_neg fun k => ?_
  have h1 := abs_mul x y
  have h3 := pos_mul h
  unfold r64 at k
  rw [← h1] at h2
  omega
theorem times_neg {x y : Int} (h : (decide (x < 0) == decide (y < 0)) = false) (h0 : hiN x.natAbs y.natAbs = 0) (hl : x.natAbs * y.natAbs % 18446744073709551616 ≤ 9223372036854775808) : timesT x y = (IntKind.i64.wrap (IntKind.u64.wrap (-((x.natAbs * y.natAbs % 18446744073709551616 : Nat) : Int))),true):= by
  have h1 := abs_mul x y
  have h3 := neg_mul h
  have h4 := hi_zero.1 h0
  rw [Nat.mod_eq_of_lt h4] at hl ⊢
  rw [← h1] at hl ⊢
  unfold timesT
  rw [if_pos (by unfold r64; omega),u64_eq]
  congr 1
  show _ = w64 _
  rw [w64_eq]; omega
theorem times_pos {x y : Int} (h : (decide (x < 0) == decide (y < 0)) = true) (h0 : hiN x.natAbs y.natAbs = 0) (hl : x.natAbs * y.natAbs % 18446744073709551616 < 9223372036854775808) : timesT x y = (IntKind.i64.wrap ((x.natAbs * y.natAbs % 18446744073709551616 : Nat) : Int),true):= by
  have h1 := abs_mul x y
  have h3 := pos_mul h
  have h4 := hi_zero.1 h0
  rw [Nat.mod_eq_of_lt h4] at hl ⊢
  rw [← h1] at hl ⊢
  unfold timesT
  rw [if_pos (by unfold r64; omega)]
  congr 1
  show _ = w64 _
  rw [w64_eq]; omega
theorem times_f {x y : Int} (hx : r64 x) (hy : r64 y) (c : (¬((hiN x.natAbs y.natAbs : Nat) : Int) = 0 ∨ 9223372036854775808 < ((x.natAbs * y.natAbs % 18446744073709551616 : Nat) : Int)) ∨ ((x.natAbs * y.natAbs % 18446744073709551616 : Nat) : Int) = 9223372036854775808 ∧ (decide (x < 0) == decide (y < 0)) = true) : timesT x y = (0,false):= by
  rcases c with (c | c) | ⟨c,d⟩
  · exact times_big hx hy (.inl (by omega))
  · exact times_big hx hy (.inr (by omega))
  · exact times_edge d (by omega)
abbrev Tr := ByteArray × Int × Int
def mergeN : Nat → List Mono → List Mono → List Tr
  | 0,_,_ => []
  | _ + 1,[],[] => []
  | n + 1,a :: ar,[] => (a.Name,a.By,0) :: mergeN n ar []
  | n + 1,[],b :: bs => (b.Name,0,b.By) :: mergeN n [] bs
  | n + 1,a :: ar,b :: bs =>
    bif strLt a.Name b.Name then (a.Name,a.By,0) :: mergeN n ar (b :: bs)
    else bif strLt b.Name a.Name then (b.Name,0,b.By) :: mergeN n (a :: ar) bs
    else (a.Name,a.By,b.By) :: mergeN n ar bs
theorem wF : ∀ (n : Nat) (a b : List Mono),a.length + b.length ≤ n → mergeN n a b = mergeN (a.length + b.length) a b
  | 0,a,b,h => by rw [show a.length + b.length = 0 by omega]
  | n + 1,[],[],_ => rfl
  | n + 1,a :: ar,[],h => by
    have ih := wF n ar [] (by simp at h ⊢; omega)
    show (a.Name,a.By,0) :: mergeN n ar [] = (a.Name,a.By,0) :: mergeN (ar.length) ar []
    rw [ih]; rfl
  | n + 1,[],b :: bs,h => by
    have ih := wF n [] bs (by simp at h ⊢; omega)
    have e : ([] : List Mono).length + (b :: bs).length = bs.length + 1:= by simp
    rw [e,mergeN,mergeN,ih]; simp
  | n + 1,a :: ar,b :: bs,h => by
    have h' : ar.length + 1 + (bs.length + 1) ≤ n + 1:= by simpa using h
    have i1 := wF n ar (b :: bs) (by simp; omega)
    have i2 := wF n (a :: ar) bs (by simp; omega)
    have i3 := wF n ar bs (by omega)
    have j1 := wF (ar.length + bs.length + 1) ar (b :: bs) (by simp; omega)
    have j2 := wF (ar.length + bs.length + 1) (a :: ar) bs (by simp; omega)
    have j3 := wF (ar.length + bs.length + 1) ar bs (by omega)
    have e : (a :: ar).length + (b :: bs).length = (ar.length + bs.length + 1) + 1:= by simp; omega
    rw [e,mergeN,mergeN,i1,i2,i3,j1,j2,j3]
def mergeL (a b : List Mono) : List Tr := mergeN (a.length + b.length) a b
theorem mergeL_nil : mergeL [] [] = [] := rfl
theorem zJz (a : Mono) (ar : List Mono) : mergeL (a :: ar) [] = (a.Name,a.By,0) :: mergeL ar [] := rfl
theorem zJy (b : Mono) (bs : List Mono) : mergeL [] (b :: bs) = (b.Name,0,b.By) :: mergeL [] bs:= by
  unfold mergeL; rw [show ([] : List Mono).length + (b :: bs).length = bs.length + 1 by simp,mergeN]; simp
theorem zEr (a b : Mono) (ar bs : List Mono) : mergeL (a :: ar) (b :: bs) = bif strLt a.Name b.Name then (a.Name,a.By,0) :: mergeL ar (b :: bs) else bif strLt b.Name a.Name then (b.Name,0,b.By) :: mergeL (a :: ar) bs else (a.Name,a.By,b.By) :: mergeL ar bs:= by
  unfold mergeL
  rw [show (a :: ar).length + (b :: bs).length = (ar.length + bs.length + 1) + 1 by simp; omega,mergeN]
  rw [wF _ ar (b :: bs) (by simp; omega),wF _ (a :: ar) bs (by simp; omega),wF _ ar bs (by omega)]
theorem mergeL_len (a b : List Mono) : (mergeL a b).length ≤ a.length + b.length:= by
  have : ∀ (n : Nat) (a b : List Mono),(mergeN n a b).length ≤ n:= by
    intro n
    induction n with
    | zero => intro a b; simp [mergeN]
    | succ n ih =>
      intro a b
      cases a with
      | nil =>
        cases b with
        | nil => simp [mergeN]
        | cons b bs => simp only [mergeN,List.length_cons]; have := ih [] bs; omega
      | cons a ar =>
        cases b with
        | nil => simp only [mergeN,List.length_cons]; have := ih ar []; omega
        | cons b bs =>
          have h1 := ih ar (b :: bs)
          have h2 := ih (a :: ar) bs
          have h3 := ih ar bs
          simp only [mergeN]
          cases strLt a.Name b.Name <;> cases strLt b.Name a.Name <;> simp only [cond_true,cond_false,List.length_cons] <;> omega
  exact this _ a b
def hdM (l : List Mono) : Mono := l.headD ⟨bs [],0⟩
theorem zGw {l : List Mono} (h : 0 < l.length) : l[0]? = some (hdM l):= by
  cases l with
  | nil => simp at h
  | cons x r => rfl
def mC2 (a b : List Mono) : Bool := decide ((b.length : Int) = 0) || (decide ((0 : Int) < a.length) && strLt (hdM a).Name (hdM b).Name)
def mC3 (a b : List Mono) : Bool := decide ((a.length : Int) = 0) || strLt (hdM b).Name (hdM a).Name
theorem mC2_b {a b : List Mono} (c : mC2 a b = false) : 0 < b.length:= by
  unfold mC2 at c
  cases b with
  | nil => simp at c
  | cons y s => simp
theorem merge_left {a b : List Mono} (h : 0 < a.length ∨ 0 < b.length) (c : mC2 a b = true) : 0 < a.length ∧ mergeL a b = ((hdM a).Name,(hdM a).By,0) :: mergeL (a.drop 1) b:= by
  unfold mC2 at c
  cases a with
  | nil =>
    cases b with
    | nil => simp at h
    | cons y s => simp at c; omega
  | cons x r =>
    refine ⟨by simp,?_⟩
    cases b with
    | nil => rw [zJz]; rfl
    | cons y s =>
      have c2 : strLt x.Name y.Name = true:= by
        rw [Bool.or_eq_true,Bool.and_eq_true,decide_eq_true_eq] at c
        rcases c with c | c
        · simp at c; omega
        · exact c.2
      rw [zEr,c2]; rfl
theorem merge_right {a b : List Mono} (h : 0 < a.length ∨ 0 < b.length) (c : mC2 a b = false) (c3 : mC3 a b = true) : 0 < b.length ∧ mergeL a b = ((hdM b).Name,0,(hdM b).By) :: mergeL a (b.drop 1):= by
  unfold mC2 at c
  unfold mC3 at c3
  cases b with
  | nil => simp at c
  | cons y s =>
    refine ⟨by simp,?_⟩
    cases a with
    | nil => rw [zJy]; rfl
    | cons x r =>
      have c2 : strLt x.Name y.Name = false:= by
        rw [Bool.or_eq_false_iff,Bool.and_eq_false_iff] at c
        rcases c.2 with c | c
        · simp at c
        · exact c
      have c4 : strLt y.Name x.Name = true:= by
        rw [Bool.or_eq_true,decide_eq_true_eq] at c3
        rcases c3 with c | c
        · simp at c; omega
        · exact c
      rw [zEr,c2,c4]; rfl
theorem merge_both {a b : List Mono} (c : mC2 a b = false) (c3 : mC3 a b = false) : 0 < a.length ∧ 0 < b.length ∧ mergeL a b = ((hdM a).Name,(hdM a).By,(hdM b).By) :: mergeL (a.drop 1) (b.drop 1):= by
  unfold mC2 at c
  unfold mC3 at c3
  cases b with
  | nil => simp at c
  | cons y s =>
    cases a with
    | nil => simp at c3
    | cons x r =>
      refine ⟨by simp,by simp,?_⟩
      have c2 : strLt x.Name y.Name = false:= by
        rw [Bool.or_eq_false_iff,Bool.and_eq_false_iff] at c
        rcases c.2 with c | c
        · simp at c
        · exact c
      have c4 : strLt y.Name x.Name = false:= by
        rw [Bool.or_eq_false_iff] at c3
        exact c3.2
      rw [zEr,c2,c4]; rfl
/-! ## Sums -/
def trV (t : Tr) : Int := t.2.1 + t.2.2
def trOk (t : Tr) : Bool := decide (r64 (trV t))
def sumW (ts : List Tr) : List Mono := ts.filterMap fun t => if w64 (trV t) = 0 then none else some ⟨t.1,w64 (trV t)⟩
theorem sumW_next (d : List Tr) (t : Tr) : sumW (d ++ [t]) = sumW d ++ (if w64 (trV t) = 0 then [] else [⟨t.1,w64 (trV t)⟩]):= by
  unfold sumW; rw [List.filterMap_append]; congr 1
  by_cases h : w64 (trV t) = 0 <;> simp [h]
theorem sumW_len (d : List Tr) : (sumW d).length ≤ d.length := List.length_filterMap_le _ _
def okF (ok : Bool) (d : List Tr) : Bool := d.foldl (fun b t => b && decide (r64 (t.2.1 + t.2.2))) ok
theorem okF_next (ok : Bool) (d : List Tr) (t : Tr) : okF ok (d ++ [t]) = (okF ok d && decide (r64 (t.2.1 + t.2.2))):= by unfold okF; rw [List.foldl_append]; rfl
theorem okF_all (ok : Bool) (d : List Tr) : okF ok d = (ok && d.all trOk):= by
  induction d generalizing ok with
  | nil => simp [okF]
  | cons t r ih =>
    show okF (ok && trOk t) r = _
    rw [ih,List.all_cons,Bool.and_assoc]
theorem zCg : ∀ (n : Nat) (a b : List Mono),(∀ m,m ∈ a → r64 m.By) → (∀ m,m ∈ b → r64 m.By) → ∀ t,t ∈ mergeN n a b → r64 t.2.1 ∧ r64 t.2.2
  | 0,_,_,_,_,t,ht => by simp [mergeN] at ht
  | _ + 1,[],[],_,_,t,ht => by simp [mergeN] at ht
  | n + 1,x :: r,[],h1,h2,t,ht => by
    simp only [mergeN] at ht
    rcases List.mem_cons.1 ht with rfl | ht
    · exact ⟨h1 x (by simp),by show r64 0; unfold r64; omega⟩
    · exact zCg n r [] (fun m hm => h1 m (by simp [hm])) h2 t ht
  | n + 1,[],y :: s,h1,h2,t,ht => by
    simp only [mergeN] at ht
    rcases List.mem_cons.1 ht with rfl | ht
    · exact ⟨by show r64 0; unfold r64; omega,h2 y (by simp)⟩
    · exact zCg n [] s h1 (fun m hm => h2 m (by simp [hm])) t ht
  | n + 1,x :: r,y :: s,h1,h2,t,ht => by
    have g1 := zCg n r (y :: s) (fun m hm => h1 m (by simp [hm])) h2 t
    have g2 := zCg n (x :: r) s h1 (fun m hm => h2 m (by simp [hm])) t
    have g3 := zCg n r s (fun m hm => h1 m (by simp [hm])) (fun m hm => h2 m (by simp [hm])) t
    have z0 : r64 0:= by unfold r64; omega
    simp only [mergeN] at ht
    cases c1 : strLt x.Name y.Name with
    | true =>
      rw [c1,cond_true] at ht
      rcases List.mem_cons.1 ht with rfl | ht
      · exact ⟨h1 x (by simp),z0⟩
      · exact g1 ht
    | false =>
      rw [c1,cond_false] at ht
      cases c2 : strLt y.Name x.Name with
      | true =>
        rw [c2,cond_true] at ht
        rcases List.mem_cons.1 ht with rfl | ht
        · exact ⟨z0,h2 y (by simp)⟩
        · exact g2 ht
      | false =>
        rw [c2,cond_false] at ht
        rcases List.mem_cons.1 ht with rfl | ht
        · exact ⟨h1 x (by simp),h2 y (by simp)⟩
        · exact g3 ht
theorem merge_rng {a b : List Mono} (h1 : ∀ m,m ∈ a → r64 m.By) (h2 : ∀ m,m ∈ b → r64 m.By) {d s : List Tr} {t : Tr} (h : mergeL a b = d ++ t :: s) : r64 t.2.1 ∧ r64 t.2.2 ∧ d.length ≤ a.length + b.length:= by
  have h3 := mergeL_len a b
  rw [h] at h3
  simp only [List.length_append,List.length_cons] at h3
  obtain ⟨k1,k2⟩ := zCg _ a b h1 h2 t (by rw [show mergeN (a.length + b.length) a b = mergeL a b from rfl,h]; simp)
  exact ⟨k1,k2,by omega⟩
def addT (k : Int) (ts : List Tr) : Lf × Int := if r64 k ∧ ts.all trOk = true then (⟨k,sumW ts⟩,0) else (zL,3)
def addL (a b : Lf) : Lf × Int := if linOk a = true ∧ linOk b = true then addT (a.K + b.K) (mergeL a.L b.L) else (zL,1)
theorem add_bad {a b : Lf} (h : ¬ (linOk a = true ∧ linOk b = true)) : addL a b = (zL,1):= by unfold addL; rw [if_neg h]
theorem add_c1 {a b : Lf} (c : ¬ linErr a = 0 ∨ ¬ linErr b = 0) : addL a b = (zL,1) := add_bad fun h => by
  rcases c with c | c
  · have := zGu c; rw [h.1] at this; cases this
  · have := zGu c; rw [h.2] at this; cases this
theorem add_no {a b : Lf} (h1 : linOk a = true) (h2 : linOk b = true) (h : okF (decide (r64 (a.K + b.K))) (mergeL a.L b.L) = false) : addL a b = (zL,3):= by
  unfold addL addT
  rw [if_pos ⟨h1,h2⟩,if_neg fun k => ?_]
  rw [okF_all,decide_eq_true k.1,k.2] at h
  cases h
theorem add_ok {a b : Lf} (h1 : linOk a = true) (h2 : linOk b = true) (h : okF (decide (r64 (a.K + b.K))) (mergeL a.L b.L) = true) : addL a b = (⟨w64 (a.K + b.K),sumW (mergeL a.L b.L)⟩,0):= by
  rw [okF_all,Bool.and_eq_true,decide_eq_true_eq] at h
  unfold addL addT
  rw [if_pos ⟨h1,h2⟩,if_pos h,zMp h.1]
def scaleM (by_ : Int) (l : List Mono) : List Mono := l.map fun m => ⟨m.Name,m.By * by_⟩
def scaleOk (by_ : Int) (l : List Mono) : Bool := l.all fun m => decide (r64 (m.By * by_))
def scaleL (a : Lf) (by_ : Int) : Lf × Int := if linOk a = true then (if by_ = 0 then (zL,0) else if r64 (a.K * by_) ∧ scaleOk by_ a.L = true then (⟨a.K * by_,scaleM by_ a.L⟩,0) else (zL,3)) else (zL,1)
def restL (l : Lf) (s : ByteArray) : Lf := ⟨l.K,l.L.filter fun m => !decide (m.Name = s)⟩
def lastBy (l : List Mono) (s : ByteArray) : Int := l.foldl (fun by_ m => if m.Name = s then m.By else by_) 0
def substP (l : Lf) (s : ByteArray) (to_ : Lf) : Lf × Int :=
  if linOk l = true ∧ isNameB s = true ∧ linOk to_ = true then (if (scaleL to_ (lastBy l.L s)).2 = 0 then addL (restL l s) (scaleL to_ (lastBy l.L s)).1 else (zL,(scaleL to_ (lastBy l.L s)).2)) else (zL,1)
def mulT (by_ : Int) (ts : List Tr) : List Tr := ts.map fun t => (t.1,t.2.1,t.2.2 * by_)
def substR (l : Lf) (s : ByteArray) (to_ : Lf) : Lf × Int :=
  if linOk l = true ∧ linOk to_ = true ∧ isNameB s = true then
    (if lastBy l.L s = 0 then (l,0) else if r64 (to_.K * lastBy l.L s) ∧ scaleOk (lastBy l.L s) to_.L = true then addT (l.K + to_.K * lastBy l.L s) (mulT (lastBy l.L s) (mergeL (restL l s).L to_.L)) else (zL,3))
  else (zL,1)
def scaleW (by_ : Int) (l : List Mono) : List Mono := l.map fun m => ⟨m.Name,(timesT m.By by_).1⟩
def scaleB (by_ : Int) (l : List Mono) : Bool := l.all fun m => (timesT m.By by_).2
theorem scaleW_len (by_ : Int) (l : List Mono) : (scaleW by_ l).length = l.length:= by simp [scaleW]
theorem scaleW_next {by_ : Int} {l : List Mono} {k : Nat} {x : Mono} (h : l[k]? = some x) : scaleW by_ (l.take (k + 1)) = scaleW by_ (l.take k) ++ [⟨x.Name,(timesT x.By by_).1⟩]:= by unfold scaleW; rw [yE h,List.map_append]; rfl
theorem scaleB_next {by_ : Int} {l : List Mono} {k : Nat} {x : Mono} (h : l[k]? = some x) : scaleB by_ (l.take (k + 1)) = (scaleB by_ (l.take k) && (timesT x.By by_).2):= by unfold scaleB; rw [yE h,List.all_append]; simp
theorem timesT_2 (x y : Int) : (timesT x y).2 = decide (r64 (x * y)):= by unfold timesT; by_cases h : r64 (x * y) <;> simp [h]
theorem timesT_1 {x y : Int} (h : r64 (x * y)) : (timesT x y).1 = x * y:= by unfold timesT; rw [if_pos h]
theorem scaleB_ok (by_ : Int) (l : List Mono) : scaleB by_ l = scaleOk by_ l:= by unfold scaleB scaleOk; congr 1; funext m; exact timesT_2 _ _
theorem scaleW_ok {by_ : Int} {l : List Mono} (h : scaleOk by_ l = true) : scaleW by_ l = scaleM by_ l:= by
  unfold scaleOk at h
  rw [List.all_eq_true] at h
  unfold scaleW scaleM
  refine List.map_congr_left fun m hm => ?_
  rw [timesT_1 (by simpa using h m hm)]
theorem scale_ok {l : Lf} {by_ : Int} (h1 : linOk l = true) (h2 : ¬ by_ = 0) (h3 : (timesT l.K by_).2 = true ∧ scaleB by_ l.L = true) : scaleL l by_ = (⟨(timesT l.K by_).1,scaleW by_ l.L⟩,0):= by
  rw [timesT_2,decide_eq_true_eq,scaleB_ok] at h3
  unfold scaleL
  rw [if_pos h1,if_neg h2,if_pos h3,timesT_1 h3.1,scaleW_ok h3.2]
theorem scale_no {l : Lf} {by_ : Int} (h1 : linOk l = true) (h2 : ¬ by_ = 0) (h3 : (timesT l.K by_).2 = false ∨ scaleB by_ l.L = false) : scaleL l by_ = (zL,3):= by
  unfold scaleL
  rw [if_pos h1,if_neg h2,if_neg fun h => ?_]
  rw [timesT_2,scaleB_ok,decide_eq_true h.1,h.2] at h3
  rcases h3 with h3 | h3 <;> cases h3
theorem scale_zero {l : Lf} {by_ : Int} (h1 : linOk l = true) (h2 : by_ = 0) : scaleL l by_ = (zL,0):= by unfold scaleL; rw [if_pos h1,if_pos h2]
theorem scale_bad {l : Lf} {by_ : Int} (h1 : linOk l = false) : scaleL l by_ = (zL,1):= by unfold scaleL; rw [if_neg (by rw [h1]; simp)]
theorem zBe (by_ : Int) : ∀ (n : Nat) (a b : List Mono),a.length + b.length ≤ n → mergeL a (scaleM by_ b) = mulT by_ (mergeL a b)
  | _,[],[],_ => rfl
  | 0,_ :: _,_,h => by simp at h
  | 0,[],_ :: _,h => by simp at h
  | n + 1,a :: ar,[],h => by
    have ih := zBe by_ n ar [] (by simp at h ⊢; omega)
    show mergeL (a :: ar) [] = _
    rw [zJz]
    show _ = (a.Name,a.By,0 * by_) :: mulT by_ (mergeL ar [])
    rw [← ih,Int.zero_mul]; rfl
  | n + 1,[],b :: bs,h => by
    have ih := zBe by_ n [] bs (by simp at h ⊢; omega)
    show mergeL [] (⟨b.Name,b.By * by_⟩ :: scaleM by_ bs) = _
    rw [zJy,zJy,ih]; rfl
  | n + 1,a :: ar,b :: bs,h => by
    have h' : ar.length + 1 + (bs.length + 1) ≤ n + 1:= by simpa using h
    have i1 := zBe by_ n ar (b :: bs) (by simp; omega)
    have i2 := zBe by_ n (a :: ar) bs (by simp; omega)
    have i3 := zBe by_ n ar bs (by omega)
    have e : scaleM by_ (b :: bs) = ⟨b.Name,b.By * by_⟩ :: scaleM by_ bs := rfl
    rw [e] at i1 ⊢
    rw [zEr,zEr,i1,i2,i3]
    cases strLt a.Name b.Name <;> cases strLt b.Name a.Name <;> simp [mulT]
theorem zQu {l : List Mono} {k : Nat} {x : Mono} {s : ByteArray} (h : l[k]? = some x) : lastBy (l.take (k + 1)) s = if x.Name = s then x.By else lastBy (l.take k) s:= by
  unfold lastBy; rw [yE h,List.foldl_append]; rfl
theorem rest_next {l : List Mono} {k : Nat} {x : Mono} {s : ByteArray} (h : l[k]? = some x) : (l.take (k + 1)).filter (fun m => !decide (m.Name = s)) = (l.take k).filter (fun m => !decide (m.Name = s)) ++ (if x.Name = s then [] else [x]):= by
  rw [yE h,List.filter_append]; by_cases e : x.Name = s <;> simp [e]
theorem zHp : ∀ {p : Option ByteArray} {l : List Mono},monosOk p l = true → ∀ m,m ∈ l → m.By ≠ 0 ∧ isNameB m.Name = true
  | _,[],_,m,hm => by cases hm
  | p,x :: r,h,m,hm => by
    simp only [monosOk,Bool.and_eq_true,Bool.not_eq_true',decide_eq_false_iff_not] at h
    rcases List.mem_cons.1 hm with rfl | hm
    · exact ⟨h.1.1.2,h.1.1.1⟩
    · exact zHp h.2 m hm
theorem last_none {l : List Mono} {s : ByteArray} (h : ∀ m,m ∈ l → m.Name ≠ s) : lastBy l s = 0 ∧ l.filter (fun m => !decide (m.Name = s)) = l:= by
  constructor
  · have : ∀ (l : List Mono) (b : Int),(∀ m,m ∈ l → m.Name ≠ s) → l.foldl (fun by_ m => if m.Name = s then m.By else by_) b = b:= by
      intro l
      induction l with
      | nil => intro b _; rfl
      | cons x r ih => intro b hl; rw [List.foldl_cons,if_neg (hl x (by simp)),ih b fun m hm => hl m (by simp [hm])]
    exact this l 0 h
  · rw [List.filter_eq_self]; intro m hm; simp [h m hm]
theorem zQt {p : Option ByteArray} {l : List Mono} {s : ByteArray} (h : monosOk p l = true) (hz : lastBy l s = 0) : ∀ m,m ∈ l → m.Name ≠ s:= by
  have key : ∀ (l : List Mono) (b : Int),(∀ m,m ∈ l → m.By ≠ 0) → l.foldl (fun by_ m => if m.Name = s then m.By else by_) b = 0 → ∀ m,m ∈ l → m.Name ≠ s:= by
    intro l
    induction l with
    | nil => intro b _ _ m hm; cases hm
    | cons x r ih =>
      intro b hl h m hm
      rw [List.foldl_cons] at h
      rcases List.mem_cons.1 hm with rfl | hm
      · intro e
        rw [if_pos e] at h
        by_cases c : ∀ y,y ∈ r → y.Name ≠ s
        · have : r.foldl (fun by_ m => if m.Name = s then m.By else by_) m.By = m.By:= by
            clear ih h hl hm
            generalize m.By = z
            induction r generalizing z with
            | nil => rfl
            | cons y r ih2 => rw [List.foldl_cons,if_neg (c y (by simp)),ih2 (fun q hq => c q (by simp [hq]))]
          rw [this] at h
          exact hl m (by simp) h
        · exact c (ih _ (fun y hy => hl y (by simp [hy])) h)
      · exact ih _ (fun y hy => hl y (by simp [hy])) h m hm
  exact key l 0 (fun m hm => (zHp h m hm).1) hz
def Lf.rng (l : Lf) : Prop := r64 l.K ∧ ∀ m,m ∈ l.L → r64 m.By
theorem zJx : ∀ {l : List Mono},(∀ m,m ∈ l → r64 m.By ∧ m.By ≠ 0) → (mergeL l []).all trOk = true ∧ sumW (mergeL l []) = l
  | [],_ => ⟨rfl,rfl⟩
  | a :: ar,h => by
    obtain ⟨h1,h2⟩ := zJx (l := ar) fun m hm => h m (by simp [hm])
    obtain ⟨h3,h4⟩ := h a (by simp)
    rw [zJz]
    have e : trV (a.Name,a.By,0) = a.By:= by simp [trV]
    constructor
    · rw [List.all_cons,h1,trOk,e,decide_eq_true h3]; rfl
    · show List.filterMap _ _ = _
      rw [List.filterMap_cons]
      simp only [e,zMp h3,if_neg h4]
      exact congrArg (a :: ·) h2
theorem last_rng {l : Lf} (h : l.rng) (s : ByteArray) : r64 (lastBy l.L s):= by
  have key : ∀ (l : List Mono) (b : Int),(∀ m,m ∈ l → r64 m.By) → r64 b → r64 (l.foldl (fun by_ m => if m.Name = s then m.By else by_) b):= by
    intro l
    induction l with
    | nil => intro b _ h; exact h
    | cons x r ih =>
      intro b hl hb
      rw [List.foldl_cons]
      refine ih _ (fun m hm => hl m (by simp [hm])) ?_
      split
      · exact hl x (by simp)
      · exact hb
  exact key l.L 0 h.2 (by unfold r64; omega)
theorem zOn : zL.rng := ⟨by show r64 0; unfold r64; omega,fun m hm => by cases hm⟩
theorem scale_rng (l : Lf) (b : Int) : (scaleL l b).1.rng ∧ (scaleL l b).1.L.length ≤ l.L.length:= by
  unfold scaleL
  split
  · split
    · exact ⟨zOn,by simp [zL]⟩
    · split
      · rename_i h
        refine ⟨⟨h.1,fun m hm => ?_⟩,by simp [scaleM]⟩
        obtain ⟨x,hx,rfl⟩ := List.mem_map.1 hm
        have := h.2
        unfold scaleOk at this
        rw [List.all_eq_true] at this
        simpa using this x hx
      · exact ⟨zOn,by simp [zL]⟩
  · exact ⟨zOn,by simp [zL]⟩
theorem rest_rng {l : Lf} (h : l.rng) (s : ByteArray) : (restL l s).rng ∧ (restL l s).L.length ≤ l.L.length :=
  ⟨⟨h.1,fun m hm => h.2 m (List.mem_filter.1 hm).1⟩,List.length_filter_le _ _⟩
theorem subst_c1 {l to_ : Lf} {s : ByteArray} (c : (¬ linErr l = 0 ∨ isNameB s = false) ∨ ¬ linErr to_ = 0) : substP l s to_ = (zL,1):= by
  unfold substP
  refine if_neg fun h => ?_
  rcases c with (c | c) | c
  · have := zGu c; rw [h.1] at this; cases this
  · rw [h.2.1] at c; cases c
  · have := zGu c; rw [h.2.2] at this; cases this
theorem subst_c4 {l to_ : Lf} {s : ByteArray} (c : (linErr l = 0 ∧ isNameB s = true) ∧ linErr to_ = 0) (c4 : ¬ (scaleL to_ (lastBy l.L s)).2 = 0) : substP l s to_ = (zL,(scaleL to_ (lastBy l.L s)).2):= by
  unfold substP
  rw [if_pos ⟨zGv c.1.1,c.1.2,zGv c.2⟩,if_neg c4]
theorem subst_ok {l to_ : Lf} {s : ByteArray} (c : (linErr l = 0 ∧ isNameB s = true) ∧ linErr to_ = 0) (c4 : (scaleL to_ (lastBy l.L s)).2 = 0) : substP l s to_ = addL (restL l s) (scaleL to_ (lastBy l.L s)).1:= by
  unfold substP
  rw [if_pos ⟨zGv c.1.1,c.1.2,zGv c.2⟩,if_pos c4]
theorem strLt_trans' {a b c : ByteArray} (h : strLt a b = true) (k : strLt b c = true) : strLt a c = true := zEi h k
theorem monos_weak {p q : Option ByteArray} {l : List Mono} (h : monosOk p l = true) (hpq : ∀ n,ltO p n = true → ltO q n = true) : monosOk q l = true:= by
  cases l with
  | nil => rfl
  | cons x r =>
    simp only [monosOk,Bool.and_eq_true] at h ⊢
    exact ⟨⟨h.1.1,hpq _ h.1.2⟩,h.2⟩
theorem zGn (f : Mono → Bool) : ∀ {p : Option ByteArray} {l : List Mono},monosOk p l = true → monosOk p (l.filter f) = true
  | _,[],_ => rfl
  | p,x :: r,h => by
    simp only [monosOk,Bool.and_eq_true] at h
    have ih := zGn f h.2
    rw [List.filter_cons]
    by_cases c : f x = true
    · rw [if_pos c]; simp only [monosOk,Bool.and_eq_true]; exact ⟨h.1,ih⟩
    · rw [if_neg c]
      refine monos_weak ih fun n hn => ?_
      cases p with
      | none => rfl
      | some q => exact strLt_trans' h.1.2 hn
theorem zQe {b : Int} (hb : b ≠ 0) : ∀ {p : Option ByteArray} {l : List Mono},monosOk p l = true → monosOk p (scaleM b l) = true
  | _,[],_ => rfl
  | p,x :: r,h => by
    simp only [monosOk,Bool.and_eq_true,Bool.not_eq_true',decide_eq_false_iff_not] at h
    have ih := zQe hb h.2
    show monosOk p (⟨x.Name,x.By * b⟩ :: scaleM b r) = true
    simp only [monosOk,Bool.and_eq_true,Bool.not_eq_true',decide_eq_false_iff_not]
    exact ⟨⟨⟨h.1.1.1,Int.mul_ne_zero h.1.1.2 hb⟩,h.1.2⟩,ih⟩
theorem subst_eq {l to_ : Lf} {s : ByteArray} (hl : l.rng) : substP l s to_ = substR l s to_:= by
  unfold substP substR
  by_cases h : linOk l = true ∧ isNameB s = true ∧ linOk to_ = true
  · obtain ⟨h1,h2,h3⟩ := h
    rw [if_pos (⟨h1,h2,h3⟩ : linOk l = true ∧ isNameB s = true ∧ linOk to_ = true),if_pos (⟨h1,h3,h2⟩ : linOk l = true ∧ linOk to_ = true ∧ isNameB s = true)]
    by_cases c : lastBy l.L s = 0
    · rw [if_pos c]
      have hn := zQt h1 c
      have e : scaleL to_ (lastBy l.L s) = (zL,0):= by unfold scaleL; rw [if_pos h3,if_pos c]
      rw [e,if_pos rfl]
      have er : restL l s = l:= by unfold restL; rw [(last_none hn).2]
      rw [er]
      unfold addL
      rw [if_pos ⟨h1,rfl⟩]
      obtain ⟨g1,g2⟩ := zJx (l := l.L) fun m hm => ⟨hl.2 m hm,(zHp h1 m hm).1⟩
      show addT (l.K + 0) (mergeL l.L []) = _
      unfold addT
      rw [Int.add_zero,if_pos ⟨hl.1,g1⟩,g2]
    · rw [if_neg c]
      by_cases d : r64 (to_.K * lastBy l.L s) ∧ scaleOk (lastBy l.L s) to_.L = true
      · rw [if_pos d]
        have e : scaleL to_ (lastBy l.L s) = (⟨to_.K * lastBy l.L s,scaleM (lastBy l.L s) to_.L⟩,0):= by unfold scaleL; rw [if_pos h3,if_neg c,if_pos d]
        rw [e,if_pos rfl]
        unfold addL
        rw [if_pos ⟨zGn _ h1,zQe c h3⟩]
        show addT (l.K + to_.K * lastBy l.L s) (mergeL (restL l s).L (scaleM (lastBy l.L s) to_.L)) = _
        rw [zBe _ _ _ _ (Nat.le_refl _)]
      · rw [if_neg d]
        have e : scaleL to_ (lastBy l.L s) = (zL,3):= by unfold scaleL; rw [if_pos h3,if_neg c,if_neg d]
        rw [e,if_neg (by decide)]
  · rw [if_neg h,if_neg fun k => h ⟨k.1,k.2.2,k.2.1⟩]
end Go.Br
end
section
namespace Go.Br
open Go Go.Eng Go.L41
theorem sumM_len (by_ : Int) (d : List Tr) : (sumW (mulT by_ d)).length ≤ d.length:= by
  have := sumW_len (mulT by_ d); simpa [mulT] using this
end Go.Br
end
section
namespace Go.Br
open Go Go.Eng Go.L41
/-! ## Ascending triples -/
def trsOk : Option ByteArray → List Tr → Bool
  | _,[] => true
  | p,t :: r => isNameB t.1 && ltO p t.1 && trsOk (some t.1) r
theorem ltO_trans {p : Option ByteArray} {a b : ByteArray} (h : ltO p a = true) (k : strLt a b = true) : ltO p b = true:= by
  cases p with
  | none => rfl
  | some q => exact zEi h k
theorem zDt : ∀ (n : Nat) (p : Option ByteArray) (a b : List Mono),a.length + b.length ≤ n → monosOk p a = true → monosOk p b = true → trsOk p (mergeL a b) = true
  | _,p,[],[],_,_,_ => rfl
  | 0,_,_ :: _,_,h,_,_ => by simp at h
  | 0,_,[],_ :: _,h,_,_ => by simp at h
  | n + 1,p,x :: r,[],h,ha,hb => by
    simp only [monosOk,Bool.and_eq_true] at ha
    rw [zJz,trsOk,Bool.and_eq_true,Bool.and_eq_true]
    exact ⟨⟨ha.1.1.1,ha.1.2⟩,zDt n _ r [] (by simp at h ⊢; omega) ha.2 rfl⟩
  | n + 1,p,[],y :: s,h,ha,hb => by
    simp only [monosOk,Bool.and_eq_true] at hb
    rw [zJy,trsOk,Bool.and_eq_true,Bool.and_eq_true]
    exact ⟨⟨hb.1.1.1,hb.1.2⟩,zDt n _ [] s (by simp at h ⊢; omega) rfl hb.2⟩
  | n + 1,p,x :: r,y :: s,h,ha,hb => by
    have ha0 := ha
    have hb0 := hb
    simp only [monosOk,Bool.and_eq_true] at ha hb
    rw [zEr]
    cases h1 : strLt x.Name y.Name with
    | true =>
      rw [cond_true,trsOk,Bool.and_eq_true,Bool.and_eq_true]
      refine ⟨⟨ha.1.1.1,ha.1.2⟩,zDt n _ r (y :: s) (by simp at h ⊢; omega) ha.2 ?_⟩
      simp only [monosOk,Bool.and_eq_true]
      exact ⟨⟨hb.1.1,h1⟩,hb.2⟩
    | false =>
      rw [cond_false]
      cases h2 : strLt y.Name x.Name with
      | true =>
        rw [cond_true,trsOk,Bool.and_eq_true,Bool.and_eq_true]
        refine ⟨⟨hb.1.1.1,hb.1.2⟩,zDt n _ (x :: r) s (by simp at h ⊢; omega) ?_ hb.2⟩
        simp only [monosOk,Bool.and_eq_true]
        exact ⟨⟨ha.1.1,h2⟩,ha.2⟩
      | false =>
        rw [cond_false,trsOk,Bool.and_eq_true,Bool.and_eq_true]
        have e : x.Name = y.Name := strLt_tri h1 h2
        refine ⟨⟨ha.1.1.1,ha.1.2⟩,zDt n _ r s (by simp at h ⊢; omega) ha.2 ?_⟩
        show monosOk (some x.Name) s = true
        rw [e]; exact hb.2
theorem mul_asc (b : Int) : ∀ {p : Option ByteArray} {l : List Tr},trsOk p l = true → trsOk p (mulT b l) = true
  | _,[],_ => rfl
  | p,t :: r,h => by
    simp only [trsOk,Bool.and_eq_true] at h
    show trsOk p ((t.1,t.2.1,t.2.2 * b) :: mulT b r) = true
    simp only [trsOk,Bool.and_eq_true]
    exact ⟨h.1,mul_asc b h.2⟩
theorem sum_asc : ∀ {p : Option ByteArray} {l : List Tr},trsOk p l = true → monosOk p (sumW l) = true
  | _,[],_ => rfl
  | p,t :: r,h => by
    simp only [trsOk,Bool.and_eq_true] at h
    have ih := sum_asc h.2
    unfold sumW at ih ⊢
    rw [List.filterMap_cons]
    by_cases c : w64 (trV t) = 0
    · rw [if_pos c]
      exact monos_weak ih fun n hn => ltO_trans h.1.2 hn
    · rw [if_neg c]
      simp only [monosOk,Bool.and_eq_true,Bool.not_eq_true',decide_eq_false_iff_not]
      exact ⟨⟨⟨h.1.1,c⟩,h.1.2⟩,ih⟩
theorem sum_rng {l : List Tr} {m : Mono} (h : m ∈ sumW l) : r64 m.By:= by
  unfold sumW at h
  obtain ⟨t,ht,e⟩ := List.mem_filterMap.1 h
  by_cases c : w64 (trV t) = 0
  · rw [if_pos c] at e; cases e
  · rw [if_neg c] at e; injection e with e; subst e; exact w64_r _
/-! ## One form -/
def hasN (l : Lf) (s : ByteArray) : Prop := ∃ m,m ∈ l.L ∧ m.Name = s
theorem substR_len (l to_ : Lf) (s : ByteArray) : (substR l s to_).1.L.length ≤ l.L.length + to_.L.length:= by
  unfold substR
  split
  · split
    · exact Nat.le_add_right _ _
    · split
      · unfold addT
        split
        · show (sumW (mulT _ _)).length ≤ _
          have h1 := sumM_len (lastBy l.L s) (mergeL (restL l s).L to_.L)
          have h2 := mergeL_len (restL l s).L to_.L
          have h3 : (restL l s).L.length ≤ l.L.length := List.length_filter_le _ _
          omega
        · exact Nat.zero_le _
      · exact Nat.zero_le _
  · exact Nat.zero_le _
theorem substR_rng {l to_ : Lf} (s : ByteArray) (hl : l.rng) : (substR l s to_).1.rng:= by
  unfold substR
  split
  · split
    · exact hl
    · split
      · unfold addT
        split
        · rename_i h; exact ⟨h.1,fun m hm => sum_rng hm⟩
        · exact zOn
      · exact zOn
  · exact zOn
theorem substR_ok {l to_ : Lf} {s : ByteArray} (h1 : linOk l = true) (h2 : linOk to_ = true) (h3 : isNameB s = true) (h : (substR l s to_).2 = 0) : linOk (substR l s to_).1 = true:= by
  unfold substR at h ⊢
  rw [if_pos ⟨h1,h2,h3⟩] at h ⊢
  by_cases c : lastBy l.L s = 0
  · rw [if_pos c] at h ⊢; exact h1
  · rw [if_neg c] at h ⊢
    by_cases d : r64 (to_.K * lastBy l.L s) ∧ scaleOk (lastBy l.L s) to_.L = true
    · rw [if_pos d] at h ⊢
      unfold addT at h ⊢
      split
      · exact sum_asc (mul_asc _ (zDt _ none _ _ (Nat.le_refl _) (zGn _ h1) h2))
      · rfl
    · rw [if_neg d] at h ⊢; rfl
theorem substR_zero {to_ : Lf} {s : ByteArray} (h2 : linOk to_ = true) (h3 : isNameB s = true) : substR ⟨0,[]⟩ s to_ = (⟨0,[]⟩,0):= by
  unfold substR
  rw [if_pos ⟨rfl,h2,h3⟩]
  exact if_pos rfl
theorem zEq : ∀ {q : ByteArray} {l : List Mono},monosOk (some q) l = true → ∀ m,m ∈ l → strLt q m.Name = true
  | _,[],_,m,hm => by cases hm
  | q,x :: r,h,m,hm => by
    simp only [monosOk,Bool.and_eq_true] at h
    rcases List.mem_cons.1 hm with rfl | hm
    · exact h.1.2
    · exact zEi h.1.2 (zEq h.2 m hm)
theorem lastBy_mem {l : List Mono} {s : ByteArray} (h : lastBy l s ≠ 0) : ∃ m,m ∈ l ∧ m.Name = s ∧ m.By = lastBy l s:= by
  have key : ∀ (l : List Mono) (b : Int),l.foldl (fun by_ m => if m.Name = s then m.By else by_) b = b ∨ ∃ m,m ∈ l ∧ m.Name = s ∧ m.By = l.foldl (fun by_ m => if m.Name = s then m.By else by_) b:= by
    intro l
    induction l with
    | nil => intro b; exact .inl rfl
    | cons x r ih =>
      intro b
      rw [List.foldl_cons]
      by_cases c : x.Name = s
      · rw [if_pos c]
        rcases ih x.By with e | ⟨m,hm,e1,e2⟩
        · exact .inr ⟨x,by simp,c,e.symm⟩
        · exact .inr ⟨m,by simp [hm],e1,e2⟩
      · rw [if_neg c]
        rcases ih b with e | ⟨m,hm,e1,e2⟩
        · exact .inl e
        · exact .inr ⟨m,by simp [hm],e1,e2⟩
  rcases key l 0 with e | h2
  · exact absurd e h
  · exact h2
def gIx (g : Lf → Lf) (x : Ix) : Ix := ⟨g x.Lin,x.From,x.At.map g⟩
mutual
def gEx (g : Lf → Lf) : Ex → Ex
  | .mk o n v t l i arg_ => .mk o n v t (g l) (i.map (gIx g)) (gExs g arg_)
def gExs (g : Lf → Lf) : List Ex → List Ex
  | [] => []
  | a :: r => gEx g a :: gExs g r
end
theorem gExs_map (g : Lf → Lf) (l : List Ex) : gExs g l = l.map (gEx g):= by
  induction l with
  | nil => rfl
  | cons a r ih => rw [gExs,ih]; rfl
theorem zBy (g : Lf → Lf) (e : Ex) : gEx g e = .mk e.Op e.Name e.Val e.Ty (g e.Lin) (e.Idx.map (gIx g)) (e.Args.map (gEx g)):= by
  cases e; rw [gEx,gExs_map]; rfl
theorem mLins_g {f : Lf → Lf × Int} : ∀ {l r : List Lf},mLins f l = .ok r → r = l.map (fun x => (f x).1) ∧ ∀ x,x ∈ l → (f x).2 = 0
  | [],r,h => by rw [mLins] at h; injection h with h; subst h; exact ⟨rfl,fun x hx => by cases hx⟩
  | a :: t,r,h => by
    rw [mLins] at h
    by_cases c : (f a).2 = 0
    · rw [zJa c] at h
      cases hm : mLins f t with
      | error y => rw [hm] at h; cases h
      | ok u =>
        rw [hm] at h
        injection h with h
        subst h
        obtain ⟨h1,h2⟩ := mLins_g hm
        exact ⟨by rw [h1]; rfl,fun x hx => by rcases List.mem_cons.1 hx with rfl | hx; exact c; exact h2 x hx⟩
    · rw [zKm c] at h; cases h
theorem mIx_g {f : Lf → Lf × Int} {x y : Ix} (h : mIx f x = .ok y) : y = gIx (fun l => (f l).1) x ∧ (f x.Lin).2 = 0 ∧ ∀ l,l ∈ x.At → (f l).2 = 0:= by
  rw [mIx] at h
  by_cases c : (f x.Lin).2 = 0
  · rw [zJa c] at h
    cases hm : mLins f x.At with
    | error y => rw [hm] at h; cases h
    | ok u =>
      rw [hm] at h
      injection h with h
      subst h
      obtain ⟨h1,h2⟩ := mLins_g hm
      exact ⟨by rw [h1]; rfl,c,h2⟩
  · rw [zKm c] at h; cases h
theorem mIxs_g {f : Lf → Lf × Int} : ∀ {l r : List Ix},mIxs f l = .ok r → r = l.map (gIx fun x => (f x).1) ∧ ∀ x,x ∈ l → (f x.Lin).2 = 0 ∧ ∀ y,y ∈ x.At → (f y).2 = 0
  | [],r,h => by rw [mIxs] at h; injection h with h; subst h; exact ⟨rfl,fun x hx => by cases hx⟩
  | a :: t,r,h => by
    rw [mIxs] at h
    cases h1 : mIx f a with
    | error y => rw [h1] at h; cases h
    | ok a' =>
      rw [h1] at h
      cases hm : mIxs f t with
      | error y => rw [hm] at h; cases h
      | ok u =>
        rw [hm] at h
        injection h with h
        subst h
        obtain ⟨k1,k2⟩ := mIx_g h1
        obtain ⟨k3,k4⟩ := mIxs_g hm
        exact ⟨by rw [k1,k3]; rfl,fun x hx => by rcases List.mem_cons.1 hx with rfl | hx; exact k2; exact k4 x hx⟩
theorem zLp {P : Lf → Prop} {e : Ex} (h1 : ∀ l,l ∈ formsL e → P l) (h2 : ∀ a,a ∈ e.Args → a.allF P) : e.allF P:= by
  intro x hx
  rw [kK] at hx
  rcases List.mem_cons.1 hx with rfl | hx
  · exact h1
  · have : ∀ l : List Ex,(∀ a,a ∈ l → a.allF P) → x ∈ nodesL l → ∀ y,y ∈ formsL x → P y:= by
      intro l
      induction l with
      | nil => intro _ h; simp [nodesL] at h
      | cons a r ih =>
        intro h hm
        rw [nodesL] at hm
        rcases List.mem_append.1 hm with k | k
        · exact h a (by simp) x k
        · exact ih (fun b hb => h b (by simp [hb])) k
    exact this e.Args h2 hx
mutual
theorem mEx_g {f : Lf → Lf × Int} : ∀ {e e' : Ex},mEx f e = .ok e' → e' = gEx (fun l => (f l).1) e ∧ e.allF fun l => (f l).2 = 0
  | .mk o n v t l i arg_,e',h => by
    rw [mEx] at h
    by_cases c : (f l).2 = 0
    · rw [zJa c] at h
      cases h1 : mIxs f i with
      | error y => rw [h1] at h; cases h
      | ok i' =>
        rw [h1] at h
        cases h2 : mExs f arg_ with
        | error y => rw [h2] at h; cases h
        | ok as' =>
          rw [h2] at h
          injection h with h
          subst h
          obtain ⟨k1,k2⟩ := mIxs_g h1
          obtain ⟨k3,k4⟩ := mExs_g h2
          refine ⟨by rw [gEx,k1,k3,gExs_map],zLp ?_ k4⟩
          intro y hy
          unfold formsL at hy
          rcases List.mem_cons.1 hy with rfl | hy
          · exact c
          · obtain ⟨x,hx,hy⟩ := List.mem_flatMap.1 hy
            rcases List.mem_cons.1 hy with rfl | hy
            · exact (k2 x hx).1
            · exact (k2 x hx).2 y hy
    · rw [zKm c] at h; cases h
theorem mExs_g {f : Lf → Lf × Int} : ∀ {l r : List Ex},mExs f l = .ok r → r = l.map (gEx fun l => (f l).1) ∧ ∀ a,a ∈ l → a.allF fun l => (f l).2 = 0
  | [],r,h => by rw [mExs] at h; injection h with h; subst h; exact ⟨rfl,fun x hx => by cases hx⟩
  | a :: t,r,h => by
    rw [mExs] at h
    cases h1 : mEx f a with
    | error y => rw [h1] at h; cases h
    | ok a' =>
      rw [h1] at h
      cases hm : mExs f t with
      | error y => rw [hm] at h; cases h
      | ok u =>
        rw [hm] at h
        injection h with h
        subst h
        obtain ⟨k1,k2⟩ := mEx_g h1
        obtain ⟨k3,k4⟩ := mExs_g hm
        exact ⟨by rw [k1,k3]; rfl,fun x hx => by rcases List.mem_cons.1 hx with rfl | hx; exact k2; exact k4 x hx⟩
end
theorem mLins_er {f : Lf → Lf × Int} {c : Int} : ∀ {l : List Lf},mLins f l = .error c → ∃ x,x ∈ l ∧ (f x).2 = c
  | [],h => by rw [mLins] at h; cases h
  | a :: t,h => by
    rw [mLins] at h
    by_cases k : (f a).2 = 0
    · rw [zJa k] at h
      cases hm : mLins f t with
      | error y => rw [hm] at h; injection h with h; subst h; obtain ⟨x,hx,e⟩ := mLins_er hm; exact ⟨x,by simp [hx],e⟩
      | ok u => rw [hm] at h; cases h
    · rw [zKm k] at h; injection h with h; exact ⟨a,by simp,h⟩
theorem mIx_er {f : Lf → Lf × Int} {c : Int} {x : Ix} (h : mIx f x = .error c) : ∃ l,l ∈ ixF x ∧ (f l).2 = c:= by
  rw [mIx] at h
  by_cases k : (f x.Lin).2 = 0
  · rw [zJa k] at h
    cases hm : mLins f x.At with
    | error y => rw [hm] at h; injection h with h; subst h; obtain ⟨l,hl,e⟩ := mLins_er hm; exact ⟨l,by simp [ixF,hl],e⟩
    | ok u => rw [hm] at h; cases h
  · rw [zKm k] at h; injection h with h; exact ⟨x.Lin,by simp [ixF],h⟩
theorem mIxs_er {f : Lf → Lf × Int} {c : Int} : ∀ {l : List Ix},mIxs f l = .error c → ∃ x,x ∈ l.flatMap ixF ∧ (f x).2 = c
  | [],h => by rw [mIxs] at h; cases h
  | a :: t,h => by
    rw [mIxs] at h
    cases k : mIx f a with
    | error y => rw [k] at h; injection h with h; subst h; obtain ⟨l,hl,e⟩ := mIx_er k; exact ⟨l,by rw [List.flatMap_cons]; exact List.mem_append_left _ hl,e⟩
    | ok a' =>
      rw [k] at h
      cases hm : mIxs f t with
      | error y => rw [hm] at h; injection h with h; subst h; obtain ⟨x,hx,e⟩ := mIxs_er hm; exact ⟨x,by rw [List.flatMap_cons]; exact List.mem_append_right _ hx,e⟩
      | ok u => rw [hm] at h; cases h
theorem mEx_er {f : Lf → Lf × Int} {P : Int → Prop} (e : Ex) (hP : e.allF fun l => P (f l).2) : ∀ c,mEx f e = .error c → P c:= by
  induction e using Ex.ind with
  | _ e ih =>
    intro c h
    rw [mEx_eq] at h
    by_cases k : (f e.Lin).2 = 0
    · rw [zJa k] at h
      cases h1 : mIxs f e.Idx with
      | error y =>
        rw [h1] at h; injection h with h; subst h
        obtain ⟨x,hx,e2⟩ := mIxs_er h1
        have := hP e (by rw [kK]; simp) x (by unfold formsL; exact List.mem_cons_of_mem _ hx)
        have this : P (f x).2 := this
        rw [e2] at this; exact this
      | ok i' =>
        rw [h1] at h
        cases h2 : mExs f e.Args with
        | error y =>
          rw [h2] at h; injection h with h; subst h
          have key : ∀ l : List Ex,(∀ a,a ∈ l → a ∈ e.Args) → mExs f l = .error y → P y:= by
            intro l
            induction l with
            | nil => intro _ h; rw [mExs] at h; cases h
            | cons a t iht =>
              intro hl h
              rw [mExs] at h
              cases k2 : mEx f a with
              | error z => rw [k2] at h; injection h with h; subst h; exact ih a (hl a (by simp)) (Ex.allF_arg hP (hl a (by simp))) _ k2
              | ok a' =>
                rw [k2] at h
                cases hm : mExs f t with
                | error z => rw [hm] at h; injection h with h; subst h; exact iht (fun b hb => hl b (by simp [hb])) hm
                | ok u => rw [hm] at h; cases h
          exact key e.Args (fun a h => h) h2
        | ok as' => rw [h2] at h; cases h
    · rw [zKm k] at h; injection h with h; subst h
      exact hP e (by rw [kK]; simp) _ (by unfold formsL; simp)
/-! ## What stays -/
theorem forms_g (g : Lf → Lf) (e : Ex) : formsL (gEx g e) = (formsL e).map g:= by
  rw [zBy]
  show g e.Lin :: (e.Idx.map (gIx g)).flatMap (fun x => x.Lin :: x.At) = (e.Lin :: e.Idx.flatMap fun x => x.Lin :: x.At).map g
  rw [List.map_cons]
  congr 1
  induction e.Idx with
  | nil => rfl
  | cons x r ih => rw [List.map_cons,List.flatMap_cons,List.flatMap_cons,List.map_append,ih]; rfl
mutual
theorem zQb (g : Lf → Lf) : ∀ e : Ex,nodes (gEx g e) = (nodes e).map (gEx g)
  | .mk o n v t l i arg_ => by rw [gEx,nodes,nodes,nodesL_g g arg_,List.map_cons,gEx]
theorem nodesL_g (g : Lf → Lf) : ∀ l : List Ex,nodesL (gExs g l) = (nodesL l).map (gEx g)
  | [] => by rw [gExs,nodesL]; rfl
  | a :: r => by rw [gExs,nodesL,nodesL,zQb g a,nodesL_g g r,List.map_append]
end
theorem allF_g {g : Lf → Lf} {P : Lf → Prop} {e : Ex} (h : e.allF fun l => P (g l)) : (gEx g e).allF P:= by
  intro x hx l hl
  rw [zQb] at hx
  obtain ⟨y,hy,rfl⟩ := List.mem_map.1 hx
  rw [forms_g] at hl
  obtain ⟨k,hk,rfl⟩ := List.mem_map.1 hl
  exact h y hy k hk
theorem dep_g (g : Lf → Lf) : ∀ (n : Nat) (e : Ex),depT n (gEx g e) = depT n e
  | 0,e => rfl
  | n + 1,e => by
    rw [depT,depT,zBy]
    show depF (depT n) 1 (e.Args.map (gEx g)) = _
    have : ∀ (l : List Ex) (d : Int),depF (depT n) d (l.map (gEx g)) = depF (depT n) d l:= by
      intro l
      induction l with
      | nil => intro d; rfl
      | cons a r ih => intro d; rw [List.map_cons,depF,depF,dep_g g n a,ih]
    exact this _ _
theorem conds_g (g : Lf → Lf) (op : Int) : ∀ (l : List Ex) (i : Int),condsOk op i (l.map (gEx g)) = condsOk op i l
  | [],_ => rfl
  | a :: r,i => by
    rw [List.map_cons,condsOk,condsOk,conds_g g op r]
    have : isCond (gEx g a) = isCond a:= by rw [zBy]; rfl
    rw [this]
theorem nodeErr_g {g : Lf → Lf} {e : Ex} (hz : g ⟨0,[]⟩ = ⟨0,[]⟩) (hf : ∀ l,l ∈ formsL e → linOk (g l) = true) (h : nodeErr e = 0) : nodeErr (gEx g e) = 0:= by
  obtain ⟨h1,h2,h3,h4,h5⟩ := zJv h
  have zero : ∀ l : Lf,zeroL l = true → zeroL (g l) = true:= by
    intro l hl
    have : l = ⟨0,[]⟩:= by
      cases l with
      | mk K L =>
        unfold zeroL at hl
        simp only [Bool.and_eq_true,decide_eq_true_eq] at hl
        obtain ⟨rfl,hL⟩ := hl
        have : L = [] := List.eq_nil_of_length_eq_zero (by omega)
        rw [this]
    rw [this,hz]; rfl
  have k1 : synOk (gEx g e) = true:= by
    rw [zBy]
    unfold synOk at h1 ⊢
    simp only [Bool.and_eq_true] at h1 ⊢
    obtain ⟨⟨⟨⟨⟨a1,a2⟩,a3⟩,a4⟩,a5⟩,a6⟩ := h1
    refine ⟨⟨⟨⟨⟨a1,a2⟩,a3⟩,?_⟩,?_⟩,?_⟩
    · show (!(!decide (e.Op = 2) && !zeroL (g e.Lin))) = true
      cases c : decide (e.Op = 2)
      · rw [c] at a4
        have : zeroL e.Lin = true:= by simpa using a4
        rw [zero _ this]; rfl
      · rfl
    · show (!(!decide (e.Op = 3) && (!decide (e.Name = bs []) || decide ((0 : Int) < (e.Idx.map (gIx g)).length)))) = true
      rw [List.length_map]; exact a5
    · show (e.Idx.map (gIx g)).all wellIx = true
      rw [List.all_map]
      refine List.all_eq_true.2 fun x hx => ?_
      have := List.all_eq_true.1 a6 x hx
      show wellIx (gIx g x) = true
      unfold wellIx gIx at *
      show (bif decide (x.From = bs []) then decide (((x.At.map g).length : Int) = 0) else zeroL (g x.Lin)) = true
      rw [List.length_map]
      cases c : decide (x.From = bs [])
      · rw [c,cond_false] at this; rw [cond_false]; exact zero _ this
      · rw [c,cond_true] at this; rw [cond_true]; exact this
  have k2 : namesE (gEx g e) = true:= by
    rw [zBy]
    unfold namesE at h2 ⊢
    rw [Bool.and_eq_true] at h2 ⊢
    refine ⟨h2.1,?_⟩
    show (e.Idx.map (gIx g)).all nmIx = true
    rw [List.all_map]; exact h2.2
  have k3 : rankE (gEx g e) = true:= by
    rw [zBy]
    unfold rankE at h3 ⊢
    rw [Bool.and_eq_true] at h3 ⊢
    refine ⟨?_,?_⟩
    · show (!(!decide (((e.Args.map (gEx g)).length : Int) = nArgs e.Op) || decide ((6 : Int) < (e.Idx.map (gIx g)).length))) = true
      rw [List.length_map,List.length_map]; exact h3.1
    · show (e.Idx.map (gIx g)).all rkIx = true
      rw [List.all_map]
      refine List.all_eq_true.2 fun x hx => ?_
      have := List.all_eq_true.1 h3.2 x hx
      show (!decide ((6 : Int) < (x.At.map g).length)) = true
      rw [List.length_map]; exact this
  have k4 : typesE (gEx g e) = true:= by
    rw [zBy]
    unfold typesE at h4 ⊢
    rw [Bool.and_eq_true] at h4 ⊢
    refine ⟨h4.1,?_⟩
    show condsOk e.Op 0 (e.Args.map (gEx g)) = true
    rw [conds_g]; exact h4.2
  have k5 : formOk (gEx g e) = true:= by
    unfold formOk at h5 ⊢
    rw [Bool.and_eq_true] at h5 ⊢
    refine ⟨by rw [zBy]; exact h5.1,?_⟩
    rw [forms_g,List.all_map]
    exact List.all_eq_true.2 hf
  unfold nodeErr
  rw [k1,k2,k3,k4,k5]; rfl
theorem errsL_zero {l : List Ex} (h : ∀ x,x ∈ l → nodeErr x = 0) : errsL l = 0:= by
  induction l with
  | nil => rfl
  | cons a r ih => rw [errsL,kX (h a (by simp)),cond_true]; exact ih fun x hx => h x (by simp [hx])
theorem valid_g {g : Lf → Lf} {e : Ex} (hz : g ⟨0,[]⟩ = ⟨0,[]⟩) (hf : e.allF fun l => linOk (g l) = true) (h : validE e = 0) : validE (gEx g e) = 0:= by
  have hp := zDl h
  have hp2 : partE (gEx g e) = 0:= by
    unfold partE at hp ⊢
    rw [zQb]
    refine errsL_zero fun x hx => ?_
    obtain ⟨y,hy,rfl⟩ := List.mem_map.1 hx
    exact nodeErr_g hz (hf y hy) (zRi hp y hy)
  unfold validE at h ⊢
  have e1 : szT (gEx g e) = szT e:= by unfold szT; rw [zQb,List.length_map]
  rw [dep_g,e1,hp2]
  rw [hp] at h
  exact h
theorem zJh {e : Ex} (h : validE e = 0) : e.allF fun l => linOk l = true:= by
  intro x hx l hl
  have := (zJv (zRi (zDl h) x hx)).2.2.2.2
  unfold formOk at this
  rw [Bool.and_eq_true] at this
  exact List.all_eq_true.1 this.2 l hl
/-! ## Weights -/
theorem linsWt_g {g : Lf → Lf} {c : Nat} (hg : ∀ l,(g l).L.length ≤ l.L.length + c) : ∀ l : List Lf,linsWt (l.map g) ≤ linsWt l + c * l.length
  | [] => by simp [linsWt]
  | x :: r => by
    rw [List.map_cons,linsWt,linsWt,List.length_cons,Nat.mul_succ]
    have := linsWt_g hg r; have := hg x; omega
theorem idxWt_g {g : Lf → Lf} {c : Nat} (hg : ∀ l,(g l).L.length ≤ l.L.length + c) : ∀ l : List Ix,idxWt (l.map (gIx g)) ≤ (c + 1) * idxWt l + c * l.length
  | [] => by simp [idxWt]
  | x :: r => by
    rw [List.map_cons,idxWt,idxWt,List.length_cons,Nat.mul_succ,Nat.mul_add]
    have h1 := idxWt_g hg r
    have h2 := linsWt_g hg x.At
    have h3 := hg x.Lin
    have h4 : (gIx g x).wt ≤ (c + 1) * x.wt + c:= by
      show (g x.Lin).L.length + (x.At.map g).length + linsWt (x.At.map g) ≤ (c + 1) * (x.Lin.L.length + x.At.length + linsWt x.At) + c
      rw [List.length_map]
      have e : (c + 1) * (x.Lin.L.length + x.At.length + linsWt x.At) = (c * x.Lin.L.length + c * x.At.length + c * linsWt x.At) + (x.Lin.L.length + x.At.length + linsWt x.At):= by
        rw [Nat.add_mul,Nat.one_mul,Nat.mul_add,Nat.mul_add]
      omega
    omega
theorem wt_g {g : Lf → Lf} {c : Nat} (hg : ∀ l,(g l).L.length ≤ l.L.length + c) (e : Ex) : (gEx g e).wt ≤ (c + 1) * e.wt:= by
  induction e using Ex.ind with
  | _ e ih =>
    have key : ∀ l : List Ex,(∀ a,a ∈ l → (gEx g a).wt ≤ (c + 1) * a.wt) → argsWt (l.map (gEx g)) ≤ (c + 1) * argsWt l:= by
      intro l
      induction l with
      | nil => intro _; simp [argsWt]
      | cons a r ihr =>
        intro h
        rw [List.map_cons,argsWt,argsWt,Nat.mul_add]
        have := h a (by simp)
        have := ihr fun b hb => h b (by simp [hb])
        omega
    have h1 := key e.Args ih
    have h2 := idxWt_g hg e.Idx
    have h3 := hg e.Lin
    rw [Ex.wt_eq,Ex.wt_eq,zBy]
    show 1 + (g e.Lin).L.length + (e.Idx.map (gIx g)).length + idxWt (e.Idx.map (gIx g)) + argsWt (e.Args.map (gEx g)) ≤ (c + 1) * (1 + e.Lin.L.length + e.Idx.length + idxWt e.Idx + argsWt e.Args)
    rw [List.length_map]
    have e1 : (c + 1) * (1 + e.Lin.L.length + e.Idx.length + idxWt e.Idx + argsWt e.Args) = (c + 1) * 1 + (c + 1) * e.Lin.L.length + (c + 1) * e.Idx.length + (c + 1) * idxWt e.Idx + (c + 1) * argsWt e.Args:= by
      rw [Nat.mul_add,Nat.mul_add,Nat.mul_add,Nat.mul_add]
    have e2 : (c + 1) * e.Lin.L.length = c * e.Lin.L.length + e.Lin.L.length:= by rw [Nat.add_mul,Nat.one_mul]
    have e3 : (c + 1) * e.Idx.length = c * e.Idx.length + e.Idx.length:= by rw [Nat.add_mul,Nat.one_mul]
    omega
end Go.Br
end
section
namespace Go.Br
open Go Go.Eng Go.Proofs Go.L41
structure PO {α : Type} (f : α → α → Int) (a : α) : Prop where
  anti : ∀ b,f b a = - f a b
  rng : ∀ b,-1 ≤ f a b ∧ f a b ≤ 1
  cong : ∀ b,f a b = 0 → ∀ c,f a c = f b c
  cong' : ∀ b c,f b c = 0 → f a b = f a c
  trans : ∀ b c,f a b < 0 → f b c < 0 → f a c < 0
theorem PO.zero {α : Type} (a : α) : PO (fun _ _ => 0) a :=
  ⟨fun _ => rfl,fun _ => ⟨by show (-1 : Int) ≤ 0; omega,by show (0 : Int) ≤ 1; omega⟩,fun _ _ _ => rfl,fun _ _ _ => rfl,fun _ _ h _ => h⟩
end Go.Br
end
section
namespace Go.Br
open Go Go.Eng Go.L41
/-! ## Short names -/
theorem nodes_take {e x : Ex} {k : Nat} (h : e.Args[k]? = some x) : (nodesL (e.Args.take k)).length + (nodes x).length + 1 ≤ (nodes e).length:= by
  have := congrArg List.length (nodes_at h (x := x) (pre := []) (suf := nodesL x.Args) (by rw [kK]; rfl))
  rw [kK x]
  simp only [List.length_append,List.length_cons,List.length_nil] at this ⊢
  omega
/-! ## Replacing -/
def namesF (l : Lf) : List ByteArray := l.L.map Mono.Name
def namesN (x : Ex) : List ByteArray := (formsL x).flatMap namesF
def namesA (l : List Ex) : List ByteArray := l.flatMap namesN
def indexT (e : Ex) : List ByteArray := thinB (sortB (namesA (nodes e)))
theorem namesF_one (pre : List Lf) (x : Lf) : (pre ++ [x]).flatMap namesF = pre.flatMap namesF ++ namesF x:= by rw [List.flatMap_append]; simp
theorem namesA_one (pre : List Ex) (x : Ex) : namesA (pre ++ [x]) = namesA pre ++ namesN x:= by unfold namesA; rw [List.flatMap_append]; simp
theorem zQd {l : List Mono} {k : Nat} {x : Mono} (h : l[k]? = some x) : (l.take (k + 1)).map Mono.Name = (l.take k).map Mono.Name ++ [x.Name]:= by rw [yE h,List.map_append]; rfl
theorem namesN_len (x : Ex) : (namesN x).length ≤ x.Lin.L.length + idxWt x.Idx:= by
  unfold namesN formsL
  rw [List.flatMap_cons,List.length_append]
  have h1 : ∀ l : List Lf,(l.flatMap namesF).length = linsWt l:= by
    intro l
    induction l with
    | nil => rfl
    | cons a r ih => rw [List.flatMap_cons,List.length_append,ih,linsWt]; unfold namesF; rw [List.length_map]
  have h2 : ∀ l : List Ix,((l.flatMap fun x => x.Lin :: x.At).flatMap namesF).length ≤ idxWt l:= by
    intro l
    induction l with
    | nil => simp [idxWt]
    | cons a r ih =>
      rw [List.flatMap_cons,List.flatMap_append,List.length_append,idxWt,h1,linsWt,Ix.wt]
      omega
  have := h2 x.Idx
  have e : (namesF x.Lin).length = x.Lin.L.length:= by unfold namesF; rw [List.length_map]
  omega
theorem zDs (e : Ex) : (namesA (nodes e)).length ≤ e.wt:= by
  induction e using Ex.ind with
  | _ e ih =>
    rw [kK,Ex.wt_eq]
    have e1 : namesA (e :: nodesL e.Args) = namesN e ++ namesA (nodesL e.Args) := rfl
    rw [e1,List.length_append]
    have h2 : ∀ l : List Ex,(∀ a,a ∈ l → (namesA (nodes a)).length ≤ a.wt) → (namesA (nodesL l)).length ≤ argsWt l:= by
      intro l
      induction l with
      | nil => intro _; simp [namesA,nodesL,argsWt]
      | cons a r ih2 =>
        intro h
        have h3 := h a (by simp)
        have h4 := ih2 fun b hb => h b (by simp [hb])
        have e2 : namesA (nodesL (a :: r)) = namesA (nodes a) ++ namesA (nodesL r):= by rw [nodesL]; unfold namesA; rw [List.flatMap_append]
        rw [e2,List.length_append,argsWt]; omega
    have h5 := h2 e.Args ih
    have h6 := namesN_len e
    omega
theorem namesP_len {e : Ex} {pre suf : List Ex} (h : nodes e = pre ++ suf) : (namesA pre).length ≤ e.wt:= by
  have h1 := zDs e
  have e1 : namesA (nodes e) = namesA pre ++ namesA suf:= by rw [h]; unfold namesA; rw [List.flatMap_append]
  rw [e1,List.length_append] at h1; omega
theorem namesX_len {x : Ex} {pre suf : List Lf} (h : formsL x = pre ++ suf) : (pre.flatMap namesF).length ≤ (namesN x).length:= by
  unfold namesN
  rw [h,List.flatMap_append,List.length_append]; omega
end Go.Br
end
section
namespace Go.Br
open Go Go.Eng Go.L41
structure Bf where
  Name : ByteArray
  T : Ty
  Dims : List Int
  Use : Int
  deriving DecidableEq
inductive St where
  | mk (op : Int) (name : ByteArray) (many mark fold : Int) (idx : List Ix) (ex : Ex) (body : List St)
namespace St
def Op : St → Int | mk x _ _ _ _ _ _ _ => x
def Name : St → ByteArray | mk _ x _ _ _ _ _ _ => x
def Many : St → Int | mk _ _ x _ _ _ _ _ => x
def Mark : St → Int | mk _ _ _ x _ _ _ _ => x
def Fold : St → Int | mk _ _ _ _ x _ _ _ => x
def Idx : St → List Ix | mk _ _ _ _ _ x _ _ => x
def E : St → Ex | mk _ _ _ _ _ _ x _ => x
def Body : St → List St | mk _ _ _ _ _ _ _ x => x
theorem eta (s : St) : s = mk s.Op s.Name s.Many s.Mark s.Fold s.Idx s.E s.Body:= by cases s; rfl
theorem ind {P : St → Prop} (h : ∀ s : St,(∀ a,a ∈ s.Body → P a) → P s) (s : St) : P s :=
  St.rec (motive_1 := P) (motive_2 := fun l => ∀ a,a ∈ l → P a) (fun o n m k f i e b ih => h (mk o n m k f i e b) ih) (fun a h => by cases h)
    (fun x l hx hl a ha => by rcases List.mem_cons.1 ha with rfl | ha; exact hx; exact hl a ha) s
end St
structure Ns where
  Bufs : List Bf
  Body : List St
def Bf.cells (b : Bf) : List C := [cS b.Name,cI b.T.Kind,cI b.T.Bits,cI b.T.Frac,cI b.T.Round,cI b.T.Over,.sl 1 (b.Dims.map fun n => [cI n]),cI b.Use]
mutual
def St.cells : St → List C
  | .mk o n m k f i e b => [cI o,cS n,cI m,cI k,cI f,.sl 4 (i.map Ix.cells)] ++ e.cs ++ [.sl 20 (stCellsL b)]
def stCellsL : List St → List (List C)
  | [] => []
  | s :: r => s.cells :: stCellsL r
end
theorem zOz (l : List St) : stCellsL l = l.map St.cells:= by
  induction l with
  | nil => rfl
  | cons s r ih => rw [stCellsL,ih]; rfl
def St.cs (s : St) : List C := [cI s.Op,cS s.Name,cI s.Many,cI s.Mark,cI s.Fold,.sl 4 (s.Idx.map Ix.cells),
  cI s.E.Op,cS s.E.Name,cI s.E.Val.N,cI s.E.Val.D,cI s.E.Ty.Kind,cI s.E.Ty.Bits,cI s.E.Ty.Frac,cI s.E.Ty.Round,cI s.E.Ty.Over,cI s.E.Lin.K,.sl 2 (s.E.Lin.L.map Mono.cells),.sl 4 (s.E.Idx.map Ix.cells),.sl 13 (s.E.Args.map Ex.cells),.sl 20 (s.Body.map St.cells)]
theorem St.cells_eq (s : St) : s.cells = s.cs:= by
  cases s; rw [St.cells,zOz]; rfl
def Ns.cells (n : Ns) : List C := [.sl 8 (n.Bufs.map Bf.cells),.sl 20 (n.Body.map St.cells)]
abbrev vBf (b : Bf) : V := .agg b.cells
abbrev vSt (s : St) : V := .agg s.cs
abbrev vSts (l : List St) : V := .c (.sl 20 (l.map St.cells))
abbrev vNs (n : Ns) : V := .agg n.cells
abbrev vIs (l : List Int) : V := .c (.sl 1 (l.map fun n => [cI n]))
abbrev vBfs (l : List Bf) : V := .c (.sl 8 (l.map Bf.cells))
theorem zCu {α : Type} {p : α → Bool} {l : List α} {k : Nat} {x : α} (h : l[k]? = some x) (hp : (l.take k).all p = true) (hx : p x = true) : (l.take (k + 1)).all p = true:= by
  rw [yE h,List.all_append,hp]; simp [hx]
theorem wW {l : List St} {k : Nat} {x : St} (h : l[k]? = some x) : (l.map St.cells)[k]? = some x.cs:= by
  rw [getm h,St.cells_eq]
/-! ## Sizes -/
mutual
def St.wt : St → Nat
  | .mk _ _ _ _ _ i e b => 1 + e.wt + i.length + idxWt i + stsWt b
def stsWt : List St → Nat
  | [] => 0
  | s :: r => s.wt + stsWt r
end
theorem St.wt_eq (s : St) : s.wt = 1 + s.E.wt + s.Idx.length + idxWt s.Idx + stsWt s.Body:= by cases s; rw [St.wt]; rfl
theorem wA (l : List St) : l.length ≤ stsWt l:= by
  induction l with
  | nil => simp [stsWt]
  | cons y r ih => rw [stsWt,List.length_cons]; have := y.wt_eq; omega
theorem yY {l : List St} {a : St} (h : a ∈ l) : a.wt ≤ stsWt l:= by
  induction l with
  | nil => cases h
  | cons x r ih =>
    rw [stsWt]
    rcases List.mem_cons.1 h with rfl | h
    · omega
    · have := ih h; omega
theorem St.wt_pos (s : St) : 1 ≤ s.wt:= by rw [St.wt_eq]; omega
theorem St.body_wt (s : St) : stsWt s.Body < s.wt:= by rw [St.wt_eq s]; omega
theorem St.parts {s : St} {B : Nat} (h : s.wt ≤ B) : s.E.wt ≤ B ∧ s.Idx.length ≤ B ∧ idxWt s.Idx ≤ B ∧ s.Body.length ≤ B ∧ stsWt s.Body ≤ B:= by
  rw [St.wt_eq] at h
  have := wA s.Body
  omega
def rdE (s : St) : Ex := .mk 3 s.Name ⟨0,0⟩ ⟨0,0,0,0,0⟩ ⟨0,[]⟩ s.Idx []
theorem rdE_wt (s : St) : (rdE s).wt ≤ s.wt + 1:= by
  rw [Ex.wt_eq,St.wt_eq]; simp only [rdE,Ex.Lin,Ex.Idx,Ex.Args,argsWt,List.length_nil]; omega
/-! ## Shapes (11.1) -/
def posI (n : Int) : Bool := decide (1 ≤ n)
def sizeFrom : Int → List Int → Option Int
  | s,[] => some s
  | s,n :: r => if 4096 < s * n then none else sizeFrom (s * n) r
def dimsErr (d : List Int) : Int := if 6 < d.length then 2 else if d.all posI = true then (if (sizeFrom 1 d).isSome = true then 0 else 2) else 1
def dimsSize (d : List Int) : Int := if dimsErr d = 0 then (sizeFrom 1 d).getD 0 else 0
theorem dims_long {d : List Int} (h : 6 < d.length) : dimsErr d = 2:= by unfold dimsErr; rw [if_pos h]
theorem dims_neg {d : List Int} {k : Nat} {n : Int} (h : ¬ 6 < d.length) (hn : d[k]? = some n) (h2 : n < 1) : dimsErr d = 1:= by
  unfold dimsErr
  rw [if_neg h,if_neg (by rw [zIk hn (p := posI) (by unfold posI; exact decide_eq_false (by omega))]; simp)]
theorem zRk {d : List Int} (h : ¬ 6 < d.length) (h1 : d.all posI = true) (h2 : sizeFrom 1 d = none) : dimsErr d = 2:= by
  unfold dimsErr; rw [if_neg h,if_pos h1,h2]; rfl
theorem dims_ok {d : List Int} {s : Int} (h : ¬ 6 < d.length) (h1 : d.all posI = true) (h2 : sizeFrom 1 d = some s) : dimsErr d = 0:= by
  unfold dimsErr; rw [if_neg h,if_pos h1,h2]; rfl
theorem size_next {d : List Int} {k : Nat} {n s : Int} (h : d[k]? = some n) (hs : sizeFrom 1 d = sizeFrom s (d.drop k)) (h2 : ¬ 4096 < s * n) : sizeFrom 1 d = sizeFrom (s * n) (d.drop (k + 1)):= by
  rw [hs,qS h,sizeFrom,if_neg h2]
theorem zPi {d : List Int} {k : Nat} {n s : Int} (h : d[k]? = some n) (hs : sizeFrom 1 d = sizeFrom s (d.drop k)) (h2 : 4096 < s * n) : sizeFrom 1 d = none:= by
  rw [hs,qS h,sizeFrom,if_pos h2]
theorem size_done {d : List Int} {k : Nat} {s : Int} (hs : sizeFrom 1 d = sizeFrom s (d.drop k)) (h : ¬ k < d.length) : sizeFrom 1 d = some s:= by
  rw [hs,yT h]; rfl
theorem quo_lt {s n : Int} (h : 1 ≤ s) : Int.tdiv 4096 s < n ↔ 4096 < s * n:= by
  rw [Int.tdiv_eq_ediv_of_nonneg (by omega),Int.ediv_lt_iff_lt_mul (by omega),Int.mul_comm]
theorem quo_wrap {s : Int} (h : 1 ≤ s) : IntKind.i64.wrap (Int.tdiv 4096 s) = Int.tdiv 4096 s:= by
  have h1 : Int.tdiv 4096 s = 4096 / s := Int.tdiv_eq_ediv_of_nonneg (by omega)
  have h2 : 0 ≤ (4096 : Int) / s := Int.ediv_nonneg (by omega) (by omega)
  have h3 : (4096 : Int) / s ≤ 4096 := Int.ediv_le_self _ (by omega)
  exact zFv ⟨by omega,by omega⟩
theorem quo_t {s n : Int} (h : 1 ≤ s) (c : IntKind.i64.wrap (Int.tdiv 4096 s) < n) : 4096 < s * n:= by rw [quo_wrap h] at c; exact (quo_lt h).1 c
theorem quo_f {s n : Int} (h : 1 ≤ s) (c : ¬ IntKind.i64.wrap (Int.tdiv 4096 s) < n) : ¬ 4096 < s * n:= by rw [quo_wrap h] at c; exact fun k => c ((quo_lt h).2 k)
theorem zHm {d : List Int} {k : Nat} {n : Int} (h : d.all posI = true) (hn : d[k]? = some n) : 1 ≤ n:= by
  have := (List.all_eq_true.1 h) n (qE hn)
  simpa [posI] using this
theorem zHn {s n : Int} (h : 1 ≤ s) (h2 : 1 ≤ n) : 1 ≤ s * n ∧ n ≤ s * n:= by
  have h3 : 1 * n ≤ s * n := Int.mul_le_mul_of_nonneg_right h (by omega)
  omega
theorem zPj : ∀ {d : List Int} {s t : Int},1 ≤ s → s ≤ 4096 → d.all posI = true → sizeFrom s d = some t → 1 ≤ t ∧ t ≤ 4096
  | [],s,t,h,h2,_,h3 => by simp only [sizeFrom,Option.some.injEq] at h3; omega
  | n :: r,s,t,h,h2,hp,h3 => by
    rw [sizeFrom] at h3
    simp only [List.all_cons,Bool.and_eq_true] at hp
    have hn : 1 ≤ n:= by simpa [posI] using hp.1
    split at h3
    · cases h3
    · rename_i h4
      exact zPj (zHn h hn).1 (by omega) hp.2 h3
theorem dimsErr_0 {d : List Int} (h : dimsErr d = 0) : d.length ≤ 6 ∧ d.all posI = true ∧ ∃ s,sizeFrom 1 d = some s ∧ 1 ≤ s ∧ s ≤ 4096:= by
  unfold dimsErr at h
  split at h
  · cases h
  · rename_i h6
    split at h
    · rename_i hp
      split at h
      · rename_i hs
        obtain ⟨s,hs⟩ := Option.isSome_iff_exists.1 hs
        have := zPj (by omega) (by omega) hp hs
        exact ⟨by omega,hp,s,hs,this.1,this.2⟩
      · cases h
    · cases h
theorem dimsSize_ok {d : List Int} {s : Int} (h : dimsErr d = 0) (hs : sizeFrom 1 d = some s) : dimsSize d = s:= by unfold dimsSize; rw [if_pos h,hs]; rfl
def zBf : Bf := ⟨bs [],zTy,[],0⟩
def hasBf (l : List Bf) (s : ByteArray) : Bool := l.any fun b => decide (b.Name = s)
def bufD : List Bf → ByteArray → Bf
  | [],_ => zBf
  | b :: r,s => if b.Name = s then b else bufD r s
theorem bufD_at {l : List Bf} {k : Nat} {b : Bf} {s : ByteArray} (h : l[k]? = some b) (hb : b.Name = s) : bufD (l.drop k) s = b:= by rw [qS h,bufD,if_pos hb]
theorem bufD_next {l : List Bf} {k : Nat} {b : Bf} {s : ByteArray} (h : l[k]? = some b) (hb : ¬ b.Name = s) : bufD (l.drop k) s = bufD (l.drop (k + 1)) s:= by rw [qS h,bufD,if_neg hb]
theorem hasBf_at {l : List Bf} {k : Nat} {b : Bf} {s : ByteArray} (h : l[k]? = some b) (hb : b.Name = s) : hasBf l s = true:= by
  unfold hasBf; rw [List.any_eq_true]; exact ⟨b,qE h,decide_eq_true hb⟩
theorem zMb {l : List Bf} {k : Nat} {b : Bf} {s : ByteArray} (h : l[k]? = some b) (hp : hasBf (l.take k) s = false) (hb : ¬ b.Name = s) : hasBf (l.take (k + 1)) s = false:= by
  unfold hasBf at *; rw [yE h,List.any_append,hp]; simp [hb]
theorem hasBf_lt {l : List Bf} {j k : Nat} {b : Bf} {s : ByteArray} (h : l[j]? = some b) (hj : j < k) (hb : b.Name = s) : hasBf (l.take k) s = true:= by
  have : (l.take k)[j]? = some b:= by rw [List.getElem?_take]; simp [hj,h]
  exact hasBf_at this hb
theorem bufD_no : ∀ {l : List Bf} {s : ByteArray},hasBf l s = false → bufD l s = zBf
  | [],_,_ => rfl
  | b :: r,s,h => by
    simp only [hasBf,List.any_cons,Bool.or_eq_false_iff,decide_eq_false_iff_not] at h
    rw [bufD,if_neg h.1]; exact bufD_no h.2
theorem bufD_mem : ∀ {l : List Bf} {s : ByteArray},hasBf l s = true → bufD l s ∈ l ∧ (bufD l s).Name = s
  | [],s,h => by simp [hasBf] at h
  | b :: r,s,h => by
    rw [bufD]
    by_cases hb : b.Name = s
    · rw [if_pos hb]; exact ⟨by simp,hb⟩
    · rw [if_neg hb]
      simp only [hasBf,List.any_cons,decide_eq_false hb,Bool.false_or] at h
      obtain ⟨h1,h2⟩ := bufD_mem (l := r) h
      exact ⟨by simp [h1],h2⟩
def bfErr (seen : List Bf) (b : Bf) : Int :=
  if isNameB b.Name = true then (if hasBf seen b.Name = true then 8 else if tyOk b.T = true then (if dimsErr b.Dims = 0 then (if b.Use < 1 ∨ 3 < b.Use then 1 else 0) else dimsErr b.Dims) else 10) else 7
def bufsErr : List Bf → List Bf → Int
  | _,[] => 0
  | seen,b :: r => if bfErr seen b = 0 then bufsErr (seen ++ [b]) r else bfErr seen b
theorem bfErr_7 {seen : List Bf} {b : Bf} (h : isNameB b.Name = false) : bfErr seen b = 7:= by unfold bfErr; rw [if_neg (by rw [h]; simp)]
theorem bfErr_8 {seen : List Bf} {b : Bf} (h : isNameB b.Name = true) (h2 : hasBf seen b.Name = true) : bfErr seen b = 8:= by unfold bfErr; rw [if_pos h,if_pos h2]
theorem zOj {seen : List Bf} {b : Bf} (h : isNameB b.Name = true) (h2 : hasBf seen b.Name = false) (h3 : tyOk b.T = false) : bfErr seen b = 10:= by unfold bfErr; rw [if_pos h,if_neg (by rw [h2]; simp),if_neg (by rw [h3]; simp)]
theorem bfErr_d {seen : List Bf} {b : Bf} (h : isNameB b.Name = true) (h2 : hasBf seen b.Name = false) (h3 : tyOk b.T = true) (h4 : ¬ dimsErr b.Dims = 0) : bfErr seen b = dimsErr b.Dims:= by unfold bfErr; rw [if_pos h,if_neg (by rw [h2]; simp),if_pos h3,if_neg h4]
theorem bfErr_u {seen : List Bf} {b : Bf} (h : isNameB b.Name = true) (h2 : hasBf seen b.Name = false) (h3 : tyOk b.T = true) (h4 : dimsErr b.Dims = 0) (h5 : b.Use < 1 ∨ 3 < b.Use) : bfErr seen b = 1:= by unfold bfErr; rw [if_pos h,if_neg (by rw [h2]; simp),if_pos h3,if_pos h4,if_pos h5]
theorem bfErr_0 {seen : List Bf} {b : Bf} (h : isNameB b.Name = true) (h2 : hasBf seen b.Name = false) (h3 : tyOk b.T = true) (h4 : dimsErr b.Dims = 0) (h5 : ¬ (b.Use < 1 ∨ 3 < b.Use)) : bfErr seen b = 0:= by unfold bfErr; rw [if_pos h,if_neg (by rw [h2]; simp),if_pos h3,if_pos h4,if_neg h5]
theorem zNb {l : List Bf} {k : Nat} {b : Bf} (h : l[k]? = some b) (hp : bufsErr [] l = bufsErr (l.take k) (l.drop k)) (hb : bfErr (l.take k) b = 0) : bufsErr [] l = bufsErr (l.take (k + 1)) (l.drop (k + 1)):= by
  rw [hp,qS h,bufsErr,if_pos hb,yE h]
theorem wR {l : List Bf} {k : Nat} {b : Bf} (h : l[k]? = some b) (hp : bufsErr [] l = bufsErr (l.take k) (l.drop k)) (hb : ¬ bfErr (l.take k) b = 0) : bufsErr [] l = bfErr (l.take k) b:= by
  rw [hp,qS h,bufsErr,if_neg hb]
theorem zRu {l : List Bf} {k : Nat} (hp : bufsErr [] l = bufsErr (l.take k) (l.drop k)) (h : ¬ k < l.length) : bufsErr [] l = 0:= by
  rw [hp,yT h]; rfl
/-! ## Depth and number of statements -/
def withinT : Nat → List St → Bool
  | 0,l => l.isEmpty
  | n + 1,l => l.all fun s => withinT n s.Body
def depS : Nat → List St → Int
  | 0,_ => 0
  | n + 1,l => l.foldl (fun d s => max d (1 + depS n s.Body)) 0
theorem depF_ge {f : St → Int} : ∀ (l : List St) (d : Int),d ≤ l.foldl (fun d s => max d (1 + f s)) d
  | [],d => Int.le_refl _
  | x :: r,d => by have := depF_ge (f := f) r (max d (1 + f x)); rw [List.foldl_cons]; omega
theorem zOd {f : St → Int} {m : Int} : ∀ (l : List St) (d : Int),l.foldl (fun d s => max d (1 + f s)) d ≤ m ↔ d ≤ m ∧ ∀ s,s ∈ l → 1 + f s ≤ m
  | [],d => by simp
  | x :: r,d => by
    rw [List.foldl_cons,zOd r]
    constructor
    · rintro ⟨h1,h2⟩
      refine ⟨by omega,fun s hs => ?_⟩
      rcases List.mem_cons.1 hs with rfl | hs
      · omega
      · exact h2 s hs
    · rintro ⟨h1,h2⟩
      have := h2 x (by simp)
      exact ⟨by omega,fun s hs => h2 s (by simp [hs])⟩
theorem zFe : ∀ (n : Nat) (l : List St),depS (n + 1) l ≤ n ↔ withinT n l = true
  | 0,l => by
    rw [depS,zOd]
    cases l with
    | nil => simp [withinT]
    | cons x r =>
      simp only [withinT,List.isEmpty_cons,Bool.false_eq_true,iff_false,not_and]
      intro _ h
      have := h x (by simp)
      simp only [depS] at this; omega
  | n + 1,l => by
    rw [depS,zOd,withinT,List.all_eq_true]
    constructor
    · rintro ⟨_,h⟩ s hs
      have := h s hs
      exact (zFe n s.Body).1 (by omega)
    · intro h
      refine ⟨by omega,fun s hs => ?_⟩
      have := (zFe n s.Body).2 (h s hs)
      omega
theorem depS_le : ∀ (n : Nat) (l : List St),0 ≤ depS n l ∧ depS n l ≤ n
  | 0,l => by simp [depS]
  | n + 1,l => by
    rw [depS]
    refine ⟨depF_ge l 0,(zOd l 0).2 ⟨by omega,fun s _ => ?_⟩⟩
    have := depS_le n s.Body; omega
mutual
def stN : St → Nat
  | .mk _ _ _ _ _ _ _ b => 1 + stsN b
def stsN : List St → Nat
  | [] => 0
  | s :: r => stN s + stsN r
end
def withinG (n : Nat) (l : List St) : Bool := withinT n l
theorem withinG_eq (n : Nat) (l : List St) : withinG n l = withinT n l := rfl
theorem withinG_next {n : Nat} {l : List St} {k : Nat} {s : St} (h : l[k]? = some s) (hp : withinG n (l.take k) = true) (hn : 1 ≤ n) (hs : withinT (n - 1) s.Body = true) : withinG n (l.take (k + 1)) = true:= by
  obtain ⟨m,rfl⟩ : ∃ m,n = m + 1 := ⟨n - 1,by omega⟩
  exact zCu h hp hs
theorem within_no {n : Nat} {l : List St} {k : Nat} {s : St} {x : Int} (h : l[k]? = some s) (hx : x = n) (c : (decide (x < 1) || !withinT (n - 1) s.Body) = true) : withinT n l = false:= by
  cases n with
  | zero => cases l with
    | nil => simp at h
    | cons a r => rfl
  | succ n =>
    have : withinT n s.Body = false:= by
      rw [Bool.or_eq_true] at c
      rcases c with c | c
      · rw [decide_eq_true_eq] at c; omega
      · simpa using c
    exact zIk h this
theorem within_yes {n : Nat} {s : St} {x : Int} (hx : x = n) (c : (decide (x < 1) || !withinT (n - 1) s.Body) = false) : 1 ≤ n ∧ withinT (n - 1) s.Body = true:= by
  rw [Bool.or_eq_false_iff] at c
  refine ⟨?_,by simpa using c.2⟩
  have := c.1; rw [decide_eq_false_iff_not] at this; omega
theorem depS_next {n : Nat} {l : List St} {k : Nat} {s : St} (h : l[k]? = some s) (hn : 1 ≤ n) : depS n (l.take (k + 1)) = max (depS n (l.take k)) (1 + depS (n - 1) s.Body):= by
  obtain ⟨m,rfl⟩ : ∃ m,n = m + 1 := ⟨n - 1,by omega⟩
  rw [yE h,depS,List.foldl_append]; rfl
theorem depS_stop {n : Nat} {l : List St} {k : Nat} {x d : Int} (hx : x = n) (hd : d = depS n (l.take k)) (c : l.length ≤ k ∨ x ≤ 0) : d = depS n l:= by
  by_cases h0 : n = 0
  · subst h0; rw [hd]; rfl
  · rw [hd,yO (by omega)]
theorem zIc (s : St) : stN s = 1 + stsN s.Body:= by cases s; rw [stN]; rfl
theorem zIo : ∀ (a b : List St),stsN (a ++ b) = stsN a + stsN b
  | [],b => by simp [stsN]
  | x :: r,b => by rw [List.cons_append,stsN,stsN,zIo r b]; omega
theorem zBt : ∀ l : List St,l.length ≤ stsN l
  | [] => by simp [stsN]
  | x :: r => by have := zBt r; have := zIc x; rw [stsN,List.length_cons]; omega
mutual
theorem stN_wt : ∀ s : St,stN s ≤ s.wt
  | .mk o n m k f i e b => by rw [stN,St.wt]; have := zEh b; omega
theorem zEh : ∀ l : List St,stsN l ≤ stsWt l
  | [] => by simp [stsN,stsWt]
  | s :: r => by rw [stsN,stsWt]; have := stN_wt s; have := zEh r; omega
end
mutual
def numS : St → Nat → Nat
  | .mk _ _ _ _ _ _ _ b,m => numL b m b.length
def numL : List St → Nat → Nat → Nat
  | [],_,n => n
  | s :: r,m,n => if n ≤ m then numL r m (n + numS s (m - n)) else n
end
def numB (l : List St) (m : Nat) : Nat := numL l m l.length
theorem numS_eq (s : St) (m : Nat) : numS s m = numB s.Body m:= by cases s; rw [numS]; rfl
mutual
theorem numS_le : ∀ (s : St) (m : Nat),numS s m ≤ stN s - 1
  | .mk _ _ _ _ _ _ _ b,m => by
    rw [numS,stN]
    have h1 := numL_le b m b.length
    have h2 := zBt b
    omega
theorem numL_le : ∀ (l : List St) (m n : Nat),numL l m n ≤ n + (stsN l - l.length)
  | [],m,n => by simp [numL]
  | s :: r,m,n => by
    rw [numL]
    have h3 := zBt r
    have h4 := zIc s
    split
    · have h1 := numL_le r m (n + numS s (m - n))
      have h2 := numS_le s (m - n)
      rw [stsN,List.length_cons]; omega
    · rw [stsN,List.length_cons]; omega
end
theorem numB_le (l : List St) (m : Nat) : numB l m ≤ stsN l:= by
  have h1 := numL_le l m l.length
  have h2 := zBt l
  unfold numB; omega
theorem numL_ge : ∀ (l : List St) (m n : Nat),n ≤ numL l m n
  | [],m,n => by rw [numL]; omega
  | s :: r,m,n => by
    rw [numL]; split
    · have := numL_ge r m (n + numS s (m - n)); omega
    · omega
mutual
theorem numS_ok : ∀ (s : St) (m : Nat),numS s m ≤ m → numS s m = stN s - 1
  | .mk _ _ _ _ _ _ _ b,m,h => by
    rw [numS] at h ⊢
    rw [stN,numL_ok b m _ h]
    have := zBt b; omega
theorem numL_ok : ∀ (l : List St) (m n : Nat),numL l m n ≤ m → numL l m n = n + (stsN l - l.length)
  | [],m,n,h => by simp [numL,stsN]
  | s :: r,m,n,h => by
    have h3 := zBt r
    have h4 := zIc s
    by_cases hn : n ≤ m
    · rw [numL,if_pos hn] at h ⊢
      have h5 := numL_ge r m (n + numS s (m - n))
      have h6 := numS_ok s (m - n) (by omega)
      rw [numL_ok r m _ h,h6,stsN,List.length_cons]; omega
    · rw [numL,if_neg hn] at h; omega
end
theorem numB_ok {l : List St} {m : Nat} (h : numB l m ≤ m) : stsN l = numB l m:= by
  have h2 := zBt l
  unfold numB at *
  rw [numL_ok l m _ h]; omega
theorem num_next {l : List St} {k m n N : Nat} {s : St} (h : l[k]? = some s) (hp : N = numL (l.drop k) m n) (hn : n ≤ m) : N = numL (l.drop (k + 1)) m (n + numB s.Body (m - n)):= by
  rw [hp,qS h,numL,if_pos hn,numS_eq]
theorem num_end {l : List St} {k m n N : Nat} (hp : N = numL (l.drop k) m n) (h : l.length ≤ k ∨ m < n) : n = N:= by
  rw [hp]
  by_cases hk : k < l.length
  · obtain ⟨a,ha⟩ := qX l k hk
    rw [qS ha,numL,if_neg (by omega)]
  · rw [yT hk,numL]
theorem zJm {l : List St} {s : St} (h : s ∈ l) : stN s ≤ stsN l:= by
  induction l with
  | nil => cases h
  | cons x r ih =>
    rw [stsN]
    rcases List.mem_cons.1 h with rfl | h
    · omega
    · have := ih h; omega
theorem stsN_drop {l : List St} {k : Nat} {s : St} (h : l[k]? = some s) : stsN (l.drop k) = stN s + stsN (l.drop (k + 1)):= by rw [qS h,stsN]
theorem num_sum {l : List St} {k m n : Nat} {s : St} (h : l[k]? = some s) (hp : numB l m = numL (l.drop k) m n) (hn : n ≤ m) : n + numB s.Body (m - n) ≤ n + stsN l:= by
  have h1 := numB_le s.Body (m - n)
  have h2 : stsN l = stsN (l.take k) + (stN s + stsN (l.drop (k + 1))):= by
    rw [← stsN,← qS h,← zIo,List.take_append_drop]
  have := zIc s
  omega
end Go.Br
end
section
namespace Go.Br
open Go Go.Eng Go.L41
/-! ## Names of a node -/
def inSc (sc : List ByteArray) (l : Lf) : Bool := l.L.all fun m => hasB sc m.Name
def ixSc (sc : List ByteArray) (x : Ix) : Bool := inSc sc x.Lin && x.At.all (inSc sc)
def nodeSc (sc : List ByteArray) (e : Ex) : Bool := inSc sc e.Lin && e.Idx.all (ixSc sc)
def gathE (B : List Bf) (x : Ix) : Int :=
  if x.From = bs [] then 0 else if hasBf B x.From = true then (if (bufD B x.From).T.Kind = 3 then (if (bufD B x.From).Dims.length = x.At.length then 0 else 11) else 10) else 9
def gathL (B : List Bf) : List Ix → Int
  | [] => 0
  | x :: r => if gathE B x = 0 then gathL B r else gathE B x
def nodeN (B : List Bf) (sc : List ByteArray) (e : Ex) : Int :=
  if nodeSc sc e = true then (if e.Op = 3 then (if hasBf B e.Name = true then (if (bufD B e.Name).Dims.length = e.Idx.length then gathL B e.Idx else 11) else 9) else 0) else 9
def nodesN (B : List Bf) (sc : List ByteArray) : List Ex → Int
  | [] => 0
  | e :: r => if nodeN B sc e = 0 then nodesN B sc r else nodeN B sc e
theorem gathE_0 {B : List Bf} {x : Ix} (h : x.From = bs []) : gathE B x = 0:= by unfold gathE; rw [if_pos h]
theorem gathE_9 {B : List Bf} {x : Ix} (h : ¬ x.From = bs []) (h1 : hasBf B x.From = false) : gathE B x = 9:= by unfold gathE; rw [if_neg h,if_neg (by rw [h1]; simp)]
theorem zNx {B : List Bf} {x : Ix} (h : ¬ x.From = bs []) (h1 : hasBf B x.From = true) (h2 : ¬ (bufD B x.From).T.Kind = 3) : gathE B x = 10:= by unfold gathE; rw [if_neg h,if_pos h1,if_neg h2]
theorem zNw {B : List Bf} {x : Ix} (h : ¬ x.From = bs []) (h1 : hasBf B x.From = true) (h2 : (bufD B x.From).T.Kind = 3) (h3 : ¬ (bufD B x.From).Dims.length = x.At.length) : gathE B x = 11:= by unfold gathE; rw [if_neg h,if_pos h1,if_pos h2,if_neg h3]
theorem zNv {B : List Bf} {x : Ix} (h : ¬ x.From = bs []) (h1 : hasBf B x.From = true) (h2 : (bufD B x.From).T.Kind = 3) (h3 : (bufD B x.From).Dims.length = x.At.length) : gathE B x = 0:= by unfold gathE; rw [if_neg h,if_pos h1,if_pos h2,if_pos h3]
theorem zHu {B : List Bf} {l : List Ix} {k : Nat} {x : Ix} (h : l[k]? = some x) (hx : gathE B x = 0) : gathL B (l.drop k) = gathL B (l.drop (k + 1)):= by rw [qS h,gathL,if_pos hx]
theorem zHt {B : List Bf} {l : List Ix} {k : Nat} {x : Ix} (h : l[k]? = some x) (hx : ¬ gathE B x = 0) : gathL B (l.drop k) = gathE B x:= by rw [qS h,gathL,if_neg hx]
theorem nodeN_9 {B : List Bf} {sc : List ByteArray} {e : Ex} (h : nodeSc sc e = false) : nodeN B sc e = 9:= by unfold nodeN; rw [if_neg (by rw [h]; simp)]
theorem nodeN_o {B : List Bf} {sc : List ByteArray} {e : Ex} (h : nodeSc sc e = true) (h1 : ¬ e.Op = 3) : nodeN B sc e = 0:= by unfold nodeN; rw [if_pos h,if_neg h1]
theorem nodeN_n {B : List Bf} {sc : List ByteArray} {e : Ex} (h : nodeSc sc e = true) (h1 : e.Op = 3) (h2 : hasBf B e.Name = false) : nodeN B sc e = 9:= by unfold nodeN; rw [if_pos h,if_pos h1,if_neg (by rw [h2]; simp)]
theorem nodeN_r {B : List Bf} {sc : List ByteArray} {e : Ex} (h : nodeSc sc e = true) (h1 : e.Op = 3) (h2 : hasBf B e.Name = true) (h3 : ¬ (bufD B e.Name).Dims.length = e.Idx.length) : nodeN B sc e = 11:= by unfold nodeN; rw [if_pos h,if_pos h1,if_pos h2,if_neg h3]
theorem zGk {B : List Bf} {sc : List ByteArray} {e : Ex} (h : nodeSc sc e = true) (h1 : e.Op = 3) (h2 : hasBf B e.Name = true) (h3 : (bufD B e.Name).Dims.length = e.Idx.length) : nodeN B sc e = gathL B e.Idx:= by unfold nodeN; rw [if_pos h,if_pos h1,if_pos h2,if_pos h3]
theorem zEp (B : List Bf) (sc : List ByteArray) : ∀ (a b : List Ex),nodesN B sc (a ++ b) = if nodesN B sc a = 0 then nodesN B sc b else nodesN B sc a
  | [],b => by simp [nodesN]
  | x :: r,b => by
    rw [List.cons_append,nodesN,nodesN,zEp B sc r b]
    by_cases h : nodeN B sc x = 0
    · rw [if_pos h,if_pos h]
    · rw [if_neg h,if_neg h,if_neg h]
theorem zLq {B : List Bf} {sc : List ByteArray} {pre : List Ex} {x : Ex} (h : nodesN B sc pre = 0) : nodesN B sc (pre ++ [x]) = nodeN B sc x:= by
  rw [zEp,if_pos h,nodesN,nodesN]
  by_cases hx : nodeN B sc x = 0
  · rw [if_pos hx,hx]
  · rw [if_neg hx]
theorem nodesN_pre {B : List Bf} {sc : List ByteArray} {pre suf : List Ex} {x : Ex} (h : ¬ nodesN B sc (pre ++ [x]) = 0) : nodesN B sc (pre ++ x :: suf) = nodesN B sc (pre ++ [x]):= by
  rw [show pre ++ x :: suf = (pre ++ [x]) ++ suf by simp,zEp,if_neg h]
theorem nodesN_at {B : List Bf} {sc : List ByteArray} {l : List Ex} {k : Nat} {x : Ex} (h : l[k]? = some x) (hx : nodeN B sc x = 0) : nodesN B sc (l.drop k) = nodesN B sc (l.drop (k + 1)):= by rw [qS h,nodesN,if_pos hx]
theorem nodesN_no {B : List Bf} {sc : List ByteArray} {l : List Ex} {k : Nat} {x : Ex} (h : l[k]? = some x) (hx : ¬ nodeN B sc x = 0) : nodesN B sc (l.drop k) = nodeN B sc x:= by rw [qS h,nodesN,if_neg hx]
/-! ## Types -/
def tyF (B : List Bf) (e : Ex) (l : List Ty) : Ty × Int :=
  if e.Op = 1 ∨ e.Op = 12 then (e.Ty,0) else
  if e.Op = 2 then (iTy,0) else
  if e.Op = 3 then ((bufD B e.Name).T,0) else
  if e.Op = 8 then (tyAt l 0,0) else
  if e.Op = 16 ∨ e.Op = 17 ∨ e.Op = 18 then (zTy,0) else
  if tyAt l (l.length - 2) = tyAt l (l.length - 1) then (if isCond e = true then (zTy,0) else (tyAt l (l.length - 1),0)) else (zTy,10)
theorem zAg {B : List Bf} {e : Ex} {l : List Ty} (h : e.Op = 1 ∨ e.Op = 12) : tyF B e l = (e.Ty,0):= by unfold tyF; rw [if_pos h]
theorem zAq {B : List Bf} {e : Ex} {l : List Ty} (h : e.Op = 2) : tyF B e l = (iTy,0):= by unfold tyF; rw [if_neg (by omega),if_pos h]
theorem zAf {B : List Bf} {e : Ex} {l : List Ty} (h : e.Op = 3) : tyF B e l = ((bufD B e.Name).T,0):= by unfold tyF; rw [if_neg (by omega),if_neg (by omega),if_pos h]
theorem zAp {B : List Bf} {e : Ex} {l : List Ty} (h : e.Op = 8) : tyF B e l = (tyAt l 0,0):= by unfold tyF; rw [if_neg (by omega),if_neg (by omega),if_neg (by omega),if_pos h]
theorem kU {B : List Bf} {e : Ex} {l : List Ty} (h : e.Op = 16 ∨ e.Op = 17 ∨ e.Op = 18) : tyF B e l = (zTy,0):= by unfold tyF; rw [if_neg (by omega),if_neg (by omega),if_neg (by omega),if_neg (by omega),if_pos h]
abbrev opLow (o : Int) : Prop := o = 1 ∨ o = 12 ∨ o = 2 ∨ o = 3 ∨ o = 8 ∨ o = 16 ∨ o = 17 ∨ o = 18
theorem tyF_o {B : List Bf} {e : Ex} {l : List Ty} (h : ¬ opLow e.Op) : tyF B e l = if tyAt l (l.length - 2) = tyAt l (l.length - 1) then (if isCond e = true then (zTy,0) else (tyAt l (l.length - 1),0)) else (zTy,10):= by
  unfold opLow at h; unfold tyF; rw [if_neg (by omega),if_neg (by omega),if_neg (by omega),if_neg (by omega),if_neg (by omega)]
theorem kV {B : List Bf} {e : Ex} {l : List Ty} (h : ¬ opLow e.Op) (h2 : ¬ tyAt l (l.length - 2) = tyAt l (l.length - 1)) : tyF B e l = (zTy,10):= by rw [tyF_o h,if_neg h2]
theorem zAo {B : List Bf} {e : Ex} {l : List Ty} (h : ¬ opLow e.Op) (h2 : tyAt l (l.length - 2) = tyAt l (l.length - 1)) (h3 : isCond e = true) : tyF B e l = (zTy,0):= by rw [tyF_o h,if_pos h2,if_pos h3]
theorem zAe {B : List Bf} {e : Ex} {l : List Ty} (h : ¬ opLow e.Op) (h2 : tyAt l (l.length - 2) = tyAt l (l.length - 1)) (h3 : isCond e = false) : tyF B e l = (tyAt l (l.length - 1),0):= by rw [tyF_o h,if_pos h2,if_neg (by rw [h3]; simp)]
theorem tyF_zero {B : List Bf} {e : Ex} {l : List Ty} (h : ¬ (tyF B e l).2 = 0) : (tyF B e l).1 = zTy:= by
  unfold tyF at h ⊢
  repeat' split at h <;> first | exact absurd rfl h | skip
  all_goals simp_all
theorem nodeT_zero {B : List Bf} {e : Ex} (h : ¬ (nodeT (tyF B) e).2 = 0) : (nodeT (tyF B) e).1 = zTy:= by
  rw [zNt] at h ⊢
  split
  · rename_i c
    rw [if_pos c] at h
    exact tyF_zero h
  · rfl
def nonC : List Ex → List Ty → List Ty
  | [],_ => []
  | _ :: _,[] => []
  | a :: r,t :: ts => if isCond a = true then nonC r ts else t :: nonC r ts
def kiF (B : List Bf) (e : Ex) (l : List Ty) : Ty × Int :=
  if l.length = 2 ∧ ¬ tyAt l 0 = tyAt l 1 then (zTy,10) else
  if e.Op = 1 ∨ e.Op = 12 then (e.Ty,0) else
  if e.Op = 2 then (iTy,0) else
  if e.Op = 3 then ((bufD B e.Name).T,0) else
  if isCond e = true then (zTy,0) else (tyAt l 0,0)
def kiN (B : List Bf) (e : Ex) (l : List Ty) : Ty × Int := kiF B e (nonC e.Args l)
theorem zDv {B : List Bf} {e : Ex} {l : List Ty} (h : l.length = 2) (h2 : ¬ tyAt l 0 = tyAt l 1) : kiF B e l = (zTy,10):= by unfold kiF; rw [if_pos ⟨h,h2⟩]
theorem zMa {B : List Bf} {e : Ex} {l : List Ty} (h : ¬ (l.length = 2 ∧ ¬ tyAt l 0 = tyAt l 1)) (h1 : e.Op = 1 ∨ e.Op = 12) : kiF B e l = (e.Ty,0):= by unfold kiF; rw [if_neg h,if_pos h1]
theorem zNj {B : List Bf} {e : Ex} {l : List Ty} (h : ¬ (l.length = 2 ∧ ¬ tyAt l 0 = tyAt l 1)) (h1 : e.Op = 2) : kiF B e l = (iTy,0):= by unfold kiF; rw [if_neg h,if_neg (by omega),if_pos h1]
theorem zNi {B : List Bf} {e : Ex} {l : List Ty} (h : ¬ (l.length = 2 ∧ ¬ tyAt l 0 = tyAt l 1)) (h1 : e.Op = 3) : kiF B e l = ((bufD B e.Name).T,0):= by unfold kiF; rw [if_neg h,if_neg (by omega),if_neg (by omega),if_pos h1]
theorem zKg {B : List Bf} {e : Ex} {l : List Ty} (h : ¬ (l.length = 2 ∧ ¬ tyAt l 0 = tyAt l 1)) (h1 : isCond e = true) : kiF B e l = (zTy,0):= by
  have : 13 ≤ e.Op:= by unfold isCond at h1; simp at h1; omega
  unfold kiF
  by_cases h12 : e.Op = 1 ∨ e.Op = 12
  · omega
  · rw [if_neg h,if_neg h12,if_neg (by omega),if_neg (by omega),if_pos h1]
theorem zKf {B : List Bf} {e : Ex} {l : List Ty} (h : ¬ (l.length = 2 ∧ ¬ tyAt l 0 = tyAt l 1)) (h1 : ¬ (e.Op = 1 ∨ e.Op = 12 ∨ e.Op = 2 ∨ e.Op = 3)) (h2 : isCond e = false) : kiF B e l = (tyAt l 0,0):= by
  unfold kiF; rw [if_neg h,if_neg (by omega),if_neg (by omega),if_neg (by omega),if_neg (by rw [h2]; simp)]
theorem zPz : ∀ {arg_ : List Ex} {ts : List Ty} {a : Ex} {t : Ty},arg_.length = ts.length → nonC (arg_ ++ [a]) (ts ++ [t]) = nonC arg_ ts ++ (if isCond a = true then [] else [t])
  | [],[],a,t,_ => by simp only [List.nil_append,nonC]
  | x :: r,y :: s,a,t,h => by
    simp only [List.cons_append,nonC]
    rw [zPz (arg_ := r) (ts := s) (by simpa using h)]
    split <;> rfl
  | [],_ :: _,_,_,h => by simp at h
  | _ :: _,[],_,_,h => by simp at h
theorem conds_ok {e : Ex} (h : partE e = 0) : condsOk e.Op 0 e.Args = true:= by
  have := (zJv (zDn h)).2.2.2.1
  simp only [typesE,Bool.and_eq_true] at this
  exact this.2
theorem ty_ki {B : List Bf} {e : Ex} {l : List Ty} (h : partE e = 0) (hl : l.length = e.Args.length) : tyF B e l = kiN B e l:= by
  have hr := zNs h
  have hc := conds_ok h
  obtain ⟨o1,o2⟩ := node_op (zDn h)
  have hle : l.length = (nArgs e.Op).toNat:= by omega
  unfold kiN
  generalize hA : e.Args = A at hr hc hl
  have hcond : isCond e = true ↔ 13 ≤ e.Op:= by unfold isCond; simp; omega
  unfold nArgs at hr
  by_cases c0 : e.Op = 1 ∨ e.Op = 2 ∨ e.Op = 3
  · rw [if_pos c0] at hr
    match A,l,hr,hl with
    | [],[],_,_ =>
      have hn : ¬ (([] : List Ty).length = 2 ∧ ¬ tyAt [] 0 = tyAt [] 1):= by simp
      rcases c0 with c | c | c
      · rw [zAg (.inl c)]; exact (zMa hn (.inl c)).symm
      · rw [zAq c]; exact (zNj hn c).symm
      · rw [zAf c]; exact (zNi hn c).symm
    | _ :: _,_,hr,_ => simp at hr; omega
  rw [if_neg c0] at hr
  by_cases c1 : e.Op = 8 ∨ e.Op = 12 ∨ e.Op = 18
  · rw [if_pos c1] at hr
    match A,l,hr,hl with
    | [a],[t],_,_ =>
      simp only [condsOk,Bool.and_true,beq_iff_eq] at hc
      rcases c1 with c | c | c
      · have ha : isCond a = false:= by rw [hc]; simp [wantC,c]
        rw [zAp c,nonC,if_neg (by rw [ha]; simp),nonC,zKf (by simp) (by omega) (by cases hx : isCond e; rfl; exact absurd (hcond.1 hx) (by omega))]
      · have ha : isCond a = false:= by rw [hc]; simp [wantC,c]
        rw [zAg (.inr c),nonC,if_neg (by rw [ha]; simp),nonC,zMa (by simp) (.inr c)]
      · have ha : isCond a = true:= by rw [hc]; simp [wantC,c]
        rw [kU (by omega),nonC,if_pos ha,nonC,zKg (by simp) (hcond.2 (by omega))]
    | [],_,hr,_ => simp at hr
    | _ :: _ :: _,_,hr,_ => simp at hr; omega
  rw [if_neg c1] at hr
  by_cases c11 : e.Op = 11
  · rw [if_pos c11] at hr
    match A,l,hr,hl with
    | [a,b,c],[s,t,u],_,_ =>
      simp only [condsOk,Bool.and_true,Bool.and_eq_true,beq_iff_eq] at hc
      have ha : isCond a = true:= by rw [hc.1]; simp [wantC,c11]
      have hb : isCond b = false:= by rw [hc.2.1]; simp [wantC,c11]
      have hd : isCond c = false:= by rw [hc.2.2]; simp [wantC,c11]
      have hec : isCond e = false:= by cases hx : isCond e; rfl; exact absurd (hcond.1 hx) (by omega)
      rw [nonC,if_pos ha,nonC,if_neg (by rw [hb]; simp),nonC,if_neg (by rw [hd]; simp),nonC]
      by_cases q : t = u
      · subst q
        rw [zAe (by unfold opLow; omega) rfl hec,zKf (by simp [tyAt]) (by omega) hec]; rfl
      · rw [kV (e := e) (l := [s,t,u]) (by unfold opLow; omega) q,zDv (l := [t,u]) rfl q]
    | [],_,hr,_ => simp at hr
    | [_],_,hr,_ => simp at hr
    | [_,_],_,hr,_ => simp at hr
    | _ :: _ :: _ :: _ :: _,_,hr,_ => simp at hr; omega
  rw [if_neg c11] at hr
  match A,l,hr,hl with
  | [a,b],[t,u],_,_ =>
    simp only [condsOk,Bool.and_true,Bool.and_eq_true,beq_iff_eq] at hc
    by_cases c16 : e.Op = 16 ∨ e.Op = 17
    · have ha : isCond a = true:= by rw [hc.1]; rcases c16 with c | c <;> simp [wantC,c]
      have hb : isCond b = true:= by rw [hc.2]; rcases c16 with c | c <;> simp [wantC,c]
      rw [kU (by omega),nonC,if_pos ha,nonC,if_pos hb,nonC,zKg (by simp) (hcond.2 (by omega))]
    · have w : ∀ i,wantC e.Op i = false := fun i => by unfold wantC; simp; omega
      have ha : isCond a = false:= by rw [hc.1,w]
      have hb : isCond b = false:= by rw [hc.2,w]
      rw [nonC,if_neg (by rw [ha]; simp),nonC,if_neg (by rw [hb]; simp),nonC]
      by_cases q : t = u
      · subst q
        by_cases ce : isCond e = true
        · rw [zAo (by unfold opLow; omega) rfl ce,zKg (by simp [tyAt]) ce]
        · have ce' : isCond e = false:= by simpa using ce
          rw [zAe (by unfold opLow; omega) rfl ce',zKf (by simp [tyAt]) (by omega) ce']; rfl
      · rw [kV (e := e) (l := [t,u]) (by unfold opLow; omega) q,zDv (l := [t,u]) rfl q]
  | [],_,hr,_ => simp at hr
  | [_],_,hr,_ => simp at hr
  | _ :: _ :: _ :: _,_,hr,_ => simp at hr; omega
mutual
theorem nodeT_ki (B : List Bf) : ∀ e : Ex,partE e = 0 → nodeT (tyF B) e = nodeT (kiN B) e
  | .mk o nm v t l i arg_,h => by
    have h3 := nodeL_ki B arg_ fun a ha => zPv h ha
    rw [nodeT,nodeT,← h3]
    by_cases c : (nodeL (tyF B) arg_).2 = 0
    · rw [if_pos c,if_pos c]
      exact ty_ki h (zDq _ _ c)
    · rw [if_neg c,if_neg c]
theorem nodeL_ki (B : List Bf) : ∀ l : List Ex,(∀ a,a ∈ l → partE a = 0) → nodeL (tyF B) l = nodeL (kiN B) l
  | [],_ => rfl
  | a :: r,h => by
    rw [nodeL,nodeL,← nodeT_ki B a (h a (by simp)),← nodeL_ki B r fun x hx => h x (by simp [hx])]
end
def exprT (B : List Bf) (sc : List ByteArray) (e : Ex) : Ty × Int :=
  if validE e = 0 then (if nodesN B sc (nodes e) = 0 then nodeT (tyF B) e else (zTy,nodesN B sc (nodes e))) else (zTy,validE e)
theorem exprT_1 {B : List Bf} {sc : List ByteArray} {e : Ex} (h : ¬ validE e = 0) : exprT B sc e = (zTy,validE e):= by unfold exprT; rw [if_neg h]
theorem exprT_2 {B : List Bf} {sc : List ByteArray} {e : Ex} (h : validE e = 0) (h2 : ¬ nodesN B sc (nodes e) = 0) : exprT B sc e = (zTy,nodesN B sc (nodes e)):= by unfold exprT; rw [if_pos h,if_neg h2]
theorem zRh {B : List Bf} {sc : List ByteArray} {e : Ex} (h : validE e = 0) (h2 : nodesN B sc (nodes e) = 0) : exprT B sc e = nodeT (tyF B) e:= by unfold exprT; rw [if_pos h,if_pos h2]
theorem exprT_k {B : List Bf} {sc : List ByteArray} {e : Ex} (h : validE e = 0) (h2 : nodesN B sc (nodes e) = 0) : exprT B sc e = nodeT (kiN B) e:= by rw [zRh h h2]; exact nodeT_ki B e (zDl h)
theorem exprT_rd {B : List Bf} {sc : List ByteArray} {s : St} (h : (exprT B sc (rdE s)).2 = 0) : (exprT B sc (rdE s)).1 = (bufD B s.Name).T:= by
  by_cases h1 : validE (rdE s) = 0
  · by_cases h2 : nodesN B sc (nodes (rdE s)) = 0
    · rw [zRh h1 h2,zNt]
      have : nodeL (tyF B) (rdE s).Args = ([],0) := rfl
      rw [this,if_pos rfl,zAf rfl]; rfl
    · rw [exprT_2 h1 h2] at h; exact absurd h h2
  · rw [exprT_1 h1] at h; exact absurd h h1
/-! ## Statements -/
def emptyE (e : Ex) : Bool := decide (e = zEx)
def isSto (s : St) : Bool := decide (s.Op = 2) || decide (s.Op = 3)
def synSt (s : St) : Bool :=
  (decide (s.Op = 1) || isSto s || decide (s.Op = 4)) && !(decide (s.Op = 4) && !decide (s.Name = bs [])) && !(!decide (s.Op = 1) && (!decide (s.Many = 0) || !decide (s.Mark = 0))) &&
  !(!decide (s.Op = 3) && !decide (s.Fold = 0)) && !(!isSto s && decide ((0 : Int) < s.Idx.length)) && !(decide (s.Op = 1) && !emptyE s.E) && (!isSto s || decide ((s.Body.length : Int) = 0))
theorem syn_1 {s : St} (c : ((!decide (s.Op = 1) && !(decide (s.Op = 2) || decide (s.Op = 3))) && !decide (s.Op = 4)) = true) : false = synSt s:= by
  unfold synSt isSto
  simp only [Bool.and_eq_true,Bool.not_eq_true',Bool.or_eq_false_iff] at c
  simp only [c.1.1,c.1.2.1,c.1.2.2,c.2,Bool.or_self,Bool.false_and]
theorem syn_2 {s : St} (c : (decide (s.Op = 4) && !decide (s.Name = bs [])) = true) : false = synSt s:= by
  unfold synSt; simp only [c,Bool.not_true,Bool.and_false,Bool.false_and]
theorem syn_3 {s : St} (c : (!decide (s.Op = 1) && (!decide (s.Many = 0) || !decide (s.Mark = 0))) = true) : false = synSt s:= by
  unfold synSt; simp only [c,Bool.not_true,Bool.and_false,Bool.false_and]
theorem syn_4 {s : St} (c : (!decide (s.Op = 3) && !decide (s.Fold = 0)) = true) : false = synSt s:= by
  unfold synSt; simp only [c,Bool.not_true,Bool.and_false,Bool.false_and]
theorem syn_5 {s : St} (c : (!isSto s && decide ((0 : Int) < s.Idx.length)) = true) : false = synSt s:= by
  unfold synSt; simp only [c,Bool.not_true,Bool.and_false,Bool.false_and]
theorem syn_6 {s : St} (c : (decide (s.Op = 1) && !emptyE s.E) = true) : false = synSt s:= by
  unfold synSt; simp only [c,Bool.not_true,Bool.and_false,Bool.false_and]
theorem syn_7 {s : St} (c1 : ((!decide (s.Op = 1) && !isSto s) && !decide (s.Op = 4)) = false) (c2 : (decide (s.Op = 4) && !decide (s.Name = bs [])) = false) (c3 : (!decide (s.Op = 1) && (!decide (s.Many = 0) || !decide (s.Mark = 0))) = false) (c4 : (!decide (s.Op = 3) && !decide (s.Fold = 0)) = false)
    (c5 : (!isSto s && decide ((0 : Int) < s.Idx.length)) = false) (c6 : (decide (s.Op = 1) && !emptyE s.E) = false) : (!isSto s || decide ((s.Body.length : Int) = 0)) = synSt s:= by
  have h1 : (decide (s.Op = 1) || isSto s || decide (s.Op = 4)) = true:= by
    revert c1; cases decide (s.Op = 1) <;> cases isSto s <;> cases decide (s.Op = 4) <;> simp
  unfold synSt
  simp only [h1,c2,c3,c4,c5,c6,Bool.not_false,Bool.true_and]
def loopE (B : List Bf) (U : List ByteArray) (s : St) : Int :=
  if isNameB s.Name = true then (if hasBf B s.Name = true ∨ hasB U s.Name = true then 8 else if s.Many < 1 ∨ 65536 < s.Many ∨ s.Mark < 0 ∨ 3 < s.Mark then 1 else 0) else 7
def ifE (B : List Bf) (sc : List ByteArray) (s : St) : Int := if (exprT B sc s.E).2 = 0 then (if isCond s.E = true then 0 else 10) else (exprT B sc s.E).2
def storeE (B : List Bf) (sc : List ByteArray) (s : St) : Int :=
  if (exprT B sc (rdE s)).2 = 0 then (if (bufD B s.Name).Use = 1 ∨ (s.Op = 3 ∧ (s.Fold < 1 ∨ 4 < s.Fold)) then 1 else
    if (exprT B sc s.E).2 = 0 then (if isCond s.E = true ∨ ¬ (exprT B sc s.E).1 = (bufD B s.Name).T then 10 else 0) else (exprT B sc s.E).2) else (exprT B sc (rdE s)).2
def stE (B : List Bf) (U sc : List ByteArray) (s : St) : Int :=
  if synSt s = true then (if s.Op = 1 then loopE B U s else if s.Op = 4 then ifE B sc s else storeE B sc s) else 5
structure Ck where
  U : List ByteArray
  W : List Int
  E : Int
def nextU (U : List ByteArray) (s : St) : List ByteArray := if s.Op = 1 then U ++ [s.Name] else U
mutual
def chkS (B : List Bf) : List ByteArray → List ByteArray → List Int → St → Ck
  | U,sc,here,.mk o nm mn mk fo i e b => if stE B U sc (.mk o nm mn mk fo i e b) = 0 then chkL B (nextU U (.mk o nm mn mk fo i e b)) (nextU sc (.mk o nm mn mk fo i e b)) here 0 b else ⟨[],here,stE B U sc (.mk o nm mn mk fo i e b)⟩
def chkL (B : List Bf) : List ByteArray → List ByteArray → List Int → Int → List St → Ck
  | U,_,_,_,[] => ⟨U,[],0⟩
  | U,sc,way,i,s :: r => if (chkS B U sc (way ++ [i]) s).E = 0 then chkL B (chkS B U sc (way ++ [i]) s).U sc way (i + 1) r else chkS B U sc (way ++ [i]) s
end
theorem chkS_eq (B : List Bf) (U sc : List ByteArray) (here : List Int) (s : St) : chkS B U sc here s = if stE B U sc s = 0 then chkL B (nextU U s) (nextU sc s) here 0 s.Body else ⟨[],here,stE B U sc s⟩:= by cases s; rw [chkS]; rfl
theorem zRq {B : List Bf} {U sc : List ByteArray} {here : List Int} {s : St} (h : ¬ stE B U sc s = 0) : chkS B U sc here s = ⟨[],here,stE B U sc s⟩:= by rw [chkS_eq,if_neg h]
theorem zMj {B : List Bf} {U sc : List ByteArray} {here : List Int} {s : St} (h : stE B U sc s = 0) : chkS B U sc here s = chkL B (nextU U s) (nextU sc s) here 0 s.Body:= by rw [chkS_eq,if_pos h]
theorem zKx {B : List Bf} {R : Ck} {U sc : List ByteArray} {way : List Int} {l : List St} {k : Nat} {s : St} (h : l[k]? = some s) (hp : R = chkL B U sc way k (l.drop k)) (hx : (chkS B U sc (way ++ [(k : Int)]) s).E = 0) : R = chkL B (chkS B U sc (way ++ [(k : Int)]) s).U sc way ((k + 1 : Nat) : Int) (l.drop (k + 1)):= by
  rw [hp,qS h,chkL,if_pos hx]; rfl
theorem zBx {B : List Bf} {R : Ck} {U sc : List ByteArray} {way : List Int} {l : List St} {k : Nat} {s : St} (h : l[k]? = some s) (hp : R = chkL B U sc way k (l.drop k)) (hx : ¬ (chkS B U sc (way ++ [(k : Int)]) s).E = 0) : R = chkS B U sc (way ++ [(k : Int)]) s:= by
  rw [hp,qS h,chkL,if_neg hx]
theorem zOg {B : List Bf} {R : Ck} {U sc : List ByteArray} {way : List Int} {l : List St} {k : Nat} (hp : R = chkL B U sc way k (l.drop k)) (h : ¬ k < l.length) : R = ⟨U,[],0⟩:= by
  rw [hp,yT h,chkL]
theorem chkL_ok : ∀ {B : List Bf} {l : List St} {U sc : List ByteArray} {way : List Int} {i : Int},(chkL B U sc way i l).E = 0 → (chkL B U sc way i l).W = []
  | B,[],U,sc,way,i,_ => by rw [chkL]
  | B,s :: r,U,sc,way,i,h => by
    rw [chkL] at h ⊢
    by_cases c : (chkS B U sc (way ++ [i]) s).E = 0
    · rw [if_pos c] at h ⊢; exact chkL_ok h
    · rw [if_neg c] at h; exact absurd h c
mutual
theorem chkS_len (B : List Bf) : ∀ (s : St) (U sc : List ByteArray) (here : List Int),(chkS B U sc here s).U.length ≤ U.length + stN s
  | .mk o nm mn mk fo i e b,U,sc,here => by
    rw [chkS,stN]
    split
    · have h1 := chkL_len B b (nextU U (.mk o nm mn mk fo i e b)) (nextU sc (.mk o nm mn mk fo i e b)) here 0
      have h2 : (nextU U (.mk o nm mn mk fo i e b)).length ≤ U.length + 1:= by unfold nextU; split <;> simp
      omega
    · simp
theorem chkL_len (B : List Bf) : ∀ (l : List St) (U sc : List ByteArray) (way : List Int) (i : Int),(chkL B U sc way i l).U.length ≤ U.length + stsN l
  | [],U,sc,way,i => by rw [chkL]; simp
  | s :: r,U,sc,way,i => by
    rw [chkL,stsN]
    have h1 := chkS_len B s U sc (way ++ [i])
    split
    · have h2 := chkL_len B r (chkS B U sc (way ++ [i]) s).U sc way (i + 1)
      omega
    · omega
end
theorem zGm {U : List ByteArray} {s : St} (h : s.Op = 1) : nextU U s = U ++ [s.Name]:= by unfold nextU; rw [if_pos h]
theorem zJw {U : List ByteArray} {s : St} (h : ¬ s.Op = 1) : nextU U s = U:= by unfold nextU; rw [if_neg h]
theorem scAll_next {S : List ByteArray} {f : Lf} {l : List Ix} {k : Nat} {x : Ix} (h : l[k]? = some x) : ((inSc S f && (l.take k).all (ixSc S)) && inSc S x.Lin && x.At.all (inSc S)) = (inSc S f && (l.take (k + 1)).all (ixSc S)):= by
  rw [yE h,List.all_append]
  simp only [List.all_cons,List.all_nil,Bool.and_true,ixSc,Bool.and_assoc]
theorem st10_t {c : Bool} {a b : Ty} (h : (c || !litsEq [cI a.Kind,cI a.Bits,cI a.Frac,cI a.Round,cI a.Over] [cI b.Kind,cI b.Bits,cI b.Frac,cI b.Round,cI b.Over]) = true) : c = true ∨ ¬ a = b:= by
  rw [tyC_eq,Bool.or_eq_true] at h
  rcases h with h | h
  · exact .inl h
  · exact .inr (by simpa using h)
theorem st10_f {c : Bool} {a b : Ty} (h : (c || !litsEq [cI a.Kind,cI a.Bits,cI a.Frac,cI a.Round,cI a.Over] [cI b.Kind,cI b.Bits,cI b.Frac,cI b.Round,cI b.Over]) = false) : ¬ (c = true ∨ ¬ a = b):= by
  rw [tyC_eq,Bool.or_eq_false_iff] at h
  rw [h.1]
  rintro (k | k)
  · cases k
  · exact k (by simpa using h.2)
theorem zNp {B : List Bf} {sc : List ByteArray} {s : St} (h : ¬ (exprT B sc (rdE s)).2 = 0) : storeE B sc s = (exprT B sc (rdE s)).2:= by unfold storeE; rw [if_neg h]
theorem zJn {B : List Bf} {sc : List ByteArray} {s : St} (h : (exprT B sc (rdE s)).2 = 0) (h2 : (bufD B s.Name).Use = 1 ∨ (s.Op = 3 ∧ (s.Fold < 1 ∨ 4 < s.Fold))) : storeE B sc s = 1:= by unfold storeE; rw [if_pos h,if_pos h2]
theorem zNo {B : List Bf} {sc : List ByteArray} {s : St} (h : (exprT B sc (rdE s)).2 = 0) (h2 : ¬ ((bufD B s.Name).Use = 1 ∨ (s.Op = 3 ∧ (s.Fold < 1 ∨ 4 < s.Fold)))) (h3 : ¬ (exprT B sc s.E).2 = 0) : storeE B sc s = (exprT B sc s.E).2:= by unfold storeE; rw [if_pos h,if_neg h2,if_neg h3]
theorem zOy {B : List Bf} {sc : List ByteArray} {s : St} (h : (exprT B sc (rdE s)).2 = 0) (h2 : ¬ ((bufD B s.Name).Use = 1 ∨ (s.Op = 3 ∧ (s.Fold < 1 ∨ 4 < s.Fold)))) (h3 : (exprT B sc s.E).2 = 0) (h4 : isCond s.E = true ∨ ¬ (exprT B sc s.E).1 = (bufD B s.Name).T) : storeE B sc s = 10:= by unfold storeE; rw [if_pos h,if_neg h2,if_pos h3,if_pos h4]
theorem storeE_0 {B : List Bf} {sc : List ByteArray} {s : St} (h : (exprT B sc (rdE s)).2 = 0) (h2 : ¬ ((bufD B s.Name).Use = 1 ∨ (s.Op = 3 ∧ (s.Fold < 1 ∨ 4 < s.Fold)))) (h3 : (exprT B sc s.E).2 = 0) (h4 : ¬ (isCond s.E = true ∨ ¬ (exprT B sc s.E).1 = (bufD B s.Name).T)) : storeE B sc s = 0:= by unfold storeE; rw [if_pos h,if_neg h2,if_pos h3,if_neg h4]
theorem loopE_7 {B : List Bf} {U : List ByteArray} {s : St} (h : isNameB s.Name = false) : loopE B U s = 7:= by unfold loopE; rw [if_neg (by rw [h]; simp)]
theorem loopE_8 {B : List Bf} {U : List ByteArray} {s : St} (h : isNameB s.Name = true) (h2 : hasBf B s.Name = true ∨ hasB U s.Name = true) : loopE B U s = 8:= by unfold loopE; rw [if_pos h,if_pos h2]
theorem loopE_1 {B : List Bf} {U : List ByteArray} {s : St} (h : isNameB s.Name = true) (h2 : ¬ (hasBf B s.Name = true ∨ hasB U s.Name = true)) (h3 : s.Many < 1 ∨ 65536 < s.Many ∨ s.Mark < 0 ∨ 3 < s.Mark) : loopE B U s = 1:= by unfold loopE; rw [if_pos h,if_neg h2,if_pos h3]
theorem loopE_0 {B : List Bf} {U : List ByteArray} {s : St} (h : isNameB s.Name = true) (h2 : ¬ (hasBf B s.Name = true ∨ hasB U s.Name = true)) (h3 : ¬ (s.Many < 1 ∨ 65536 < s.Many ∨ s.Mark < 0 ∨ 3 < s.Mark)) : loopE B U s = 0:= by unfold loopE; rw [if_pos h,if_neg h2,if_neg h3]
theorem ifE_x {B : List Bf} {sc : List ByteArray} {s : St} (h : ¬ (exprT B sc s.E).2 = 0) : ifE B sc s = (exprT B sc s.E).2:= by unfold ifE; rw [if_neg h]
theorem ifE_10 {B : List Bf} {sc : List ByteArray} {s : St} (h : (exprT B sc s.E).2 = 0) (h2 : isCond s.E = false) : ifE B sc s = 10:= by unfold ifE; rw [if_pos h,if_neg (by rw [h2]; simp)]
theorem ifE_0 {B : List Bf} {sc : List ByteArray} {s : St} (h : (exprT B sc s.E).2 = 0) (h2 : isCond s.E = true) : ifE B sc s = 0:= by unfold ifE; rw [if_pos h,if_pos h2]
theorem stE_5 {B : List Bf} {U sc : List ByteArray} {s : St} (h : synSt s = false) : stE B U sc s = 5:= by unfold stE; rw [if_neg (by rw [h]; simp)]
theorem stE_l {B : List Bf} {U sc : List ByteArray} {s : St} (h : synSt s = true) (h2 : s.Op = 1) : stE B U sc s = loopE B U s:= by unfold stE; rw [if_pos h,if_pos h2]
theorem stE_i {B : List Bf} {U sc : List ByteArray} {s : St} (h : synSt s = true) (h2 : s.Op = 4) : stE B U sc s = ifE B sc s:= by unfold stE; rw [if_pos h,if_neg (by omega),if_pos h2]
theorem stE_s {B : List Bf} {U sc : List ByteArray} {s : St} (h : synSt s = true) (h2 : ¬ s.Op = 1) (h3 : ¬ s.Op = 4) : stE B U sc s = storeE B sc s:= by unfold stE; rw [if_pos h,if_neg h2,if_neg h3]
def validN (n : Ns) : List Int × Int :=
  if withinT 40 n.Body = true then (if 2000 < numB n.Body 2000 ∨ 128 < n.Bufs.length then ([],2) else if bufsErr [] n.Bufs = 0 then ((chkL n.Bufs [] [] [] 0 n.Body).W,(chkL n.Bufs [] [] [] 0 n.Body).E) else ([],bufsErr [] n.Bufs)) else ([],13)
theorem zOv {n : Ns} (h : withinT 40 n.Body = false) : validN n = ([],13):= by unfold validN; rw [if_neg (by rw [h]; simp)]
theorem validN_2 {n : Ns} (h : withinT 40 n.Body = true) (h2 : 2000 < numB n.Body 2000 ∨ 128 < n.Bufs.length) : validN n = ([],2):= by unfold validN; rw [if_pos h,if_pos h2]
theorem validN_b {n : Ns} (h : withinT 40 n.Body = true) (h2 : ¬ (2000 < numB n.Body 2000 ∨ 128 < n.Bufs.length)) (h3 : ¬ bufsErr [] n.Bufs = 0) : validN n = ([],bufsErr [] n.Bufs):= by unfold validN; rw [if_pos h,if_neg h2,if_neg h3]
theorem zJi {n : Ns} (h : withinT 40 n.Body = true) (h2 : ¬ (2000 < numB n.Body 2000 ∨ 128 < n.Bufs.length)) (h3 : bufsErr [] n.Bufs = 0) : validN n = ((chkL n.Bufs [] [] [] 0 n.Body).W,(chkL n.Bufs [] [] [] 0 n.Body).E):= by unfold validN; rw [if_pos h,if_neg h2,if_pos h3]
structure Ns.Ok (n : Ns) : Prop where
  bufs : n.Bufs.length ≤ 4294967296
  dims : ∀ b,b ∈ n.Bufs → b.Dims.length ≤ 17592186044416
  body : stsWt n.Body ≤ 536870912
end Go.Br
end
section
namespace Go.Br
open Go Go.Eng Go.L41
def idxE (i : List Ix) : Ex := .mk 0 (bs []) ⟨0,0⟩ ⟨0,0,0,0,0⟩ ⟨0,[]⟩ i []
theorem idxE_wt (i : List Ix) : (idxE i).wt = 1 + i.length + idxWt i:= by
  rw [Ex.wt_eq]; simp only [idxE,Ex.Lin,Ex.Idx,Ex.Args,argsWt,List.length_nil]; omega
mutual
def weighS : St → Nat → Nat
  | .mk _ _ _ _ _ _ _ b,m => weighSs b m b.length
def weighSs : List St → Nat → Nat → Nat
  | [],_,n => n
  | s :: r,m,n => if n ≤ m then weighSs r m (n + weighE s.E m + weighE (idxE s.Idx) m + weighS s (m - n)) else n
end
def weighB (l : List St) (m : Nat) : Nat := weighSs l m l.length
theorem weighS_eq (s : St) (m : Nat) : weighS s m = weighB s.Body m:= by cases s; rw [weighS]; rfl
theorem weighSs_ge : ∀ (l : List St) (m n : Nat),n ≤ weighSs l m n
  | [],m,n => by rw [weighSs]; omega
  | s :: r,m,n => by
    rw [weighSs]; split
    · have := weighSs_ge r m (n + weighE s.E m + weighE (idxE s.Idx) m + weighS s (m - n)); omega
    · omega
mutual
theorem weighS_wt : ∀ (s : St) (m : Nat),weighS s m ≤ m → stsWt s.Body ≤ weighS s m
  | .mk _ _ _ _ _ _ _ b,m,h => by
    rw [weighS] at h ⊢
    have := zLf b m _ h
    have := wA b
    simp only [St.Body]; omega
theorem zLf : ∀ (l : List St) (m n : Nat),weighSs l m n ≤ m → n + (stsWt l - l.length) ≤ weighSs l m n
  | [],m,n,h => by simp [weighSs,stsWt]
  | s :: r,m,n,h => by
    by_cases hn : n ≤ m
    · rw [weighSs,if_pos hn] at h ⊢
      have h1 := weighSs_ge r m (n + weighE s.E m + weighE (idxE s.Idx) m + weighS s (m - n))
      have h2 := zLf r m _ h
      have h3 := zOr s.E m (by omega)
      have h4 := zOr (idxE s.Idx) m (by omega)
      have h5 := weighS_wt s (m - n) (by omega)
      have h6 := wA r
      rw [idxE_wt] at h4
      rw [stsWt,List.length_cons,St.wt_eq]; omega
    · rw [weighSs,if_neg hn] at h; omega
end
theorem zOs {l : List St} {m : Nat} (h : weighB l m ≤ m) : stsWt l ≤ weighB l m:= by
  unfold weighB at *
  have := zLf l m _ h
  have := wA l
  omega
mutual
def St.fit : St → Prop
  | .mk _ _ _ _ _ i e b => i.length ≤ 140737488355328 ∧ (∀ x,x ∈ i → x.fit) ∧ e.fit ∧ b.length ≤ 140737488355328 ∧ fitS b
def fitS : List St → Prop
  | [] => True
  | s :: r => s.fit ∧ fitS r
end
theorem zNz {l : List St} (h : fitS l) : ∀ a,a ∈ l → a.fit:= by
  induction l with
  | nil => intro a ha; cases ha
  | cons x r ih =>
    intro a ha
    rw [fitS] at h
    rcases List.mem_cons.1 ha with rfl | ha
    · exact h.1
    · exact ih h.2 a ha
theorem fitS_of {l : List St} (h : ∀ a,a ∈ l → a.fit) : fitS l:= by
  induction l with
  | nil => rw [fitS]; trivial
  | cons x r ih => rw [fitS]; exact ⟨h x (by simp),ih fun a ha => h a (by simp [ha])⟩
theorem St.fit_eq {s : St} (h : s.fit) : s.Idx.length ≤ 140737488355328 ∧ (∀ x,x ∈ s.Idx → x.fit) ∧ s.E.fit ∧ s.Body.length ≤ 140737488355328 ∧ fitS s.Body:= by
  cases s with
  | mk o n m k f i e b => rw [St.fit] at h; exact h
theorem idxE_fit {i : List Ix} (h1 : i.length ≤ 140737488355328) (h2 : ∀ x,x ∈ i → x.fit) : (idxE i).fit:= by
  unfold idxE; rw [Ex.fit]; exact ⟨by simp,h1,by simp,h2,trivial⟩
abbrev wB (m : Nat) : Nat := 140737488355328 + m * 1125899906857624
mutual
theorem weighS_le : ∀ (s : St) (m : Nat),s.fit → m ≤ 5000 → weighS s m ≤ wB m
  | .mk o nm k f mn i e b,m,h,hm => by
    rw [St.fit] at h
    obtain ⟨_,_,_,h1,h2⟩ := h
    rw [weighS]
    exact weighSs_le b m _ h2 hm (fun hb => by cases b; exact absurd rfl hb; simp) (by unfold wB; omega)
theorem weighSs_le : ∀ (l : List St) (m n : Nat),fitS l → m ≤ 5000 → (l ≠ [] → 1 ≤ n) → n ≤ wB m → weighSs l m n ≤ wB m
  | [],m,n,_,_,_,h => by rw [weighSs]; exact h
  | s :: r,m,n,hf,hm,h1,h => by
    rw [fitS] at hf
    rw [weighSs]
    have h1 := h1 (by simp)
    obtain ⟨f1,f2,f3,_,_⟩ := St.fit_eq hf.1
    split
    · rename_i hn
      have h3 := weighS_le s (m - n) hf.1 (by omega)
      have h4 := zDk s.E m f3
      have h5 := zDk (idxE s.Idx) m (idxE_fit f1 f2)
      refine weighSs_le r m _ hf.2 hm (fun _ => by omega) ?_
      unfold wB at *
      omega
    · exact h
end
theorem weighSs_end {m n k : Nat} {l : List St} {N : Nat} {x : Int} (hp : N = weighSs (l.drop k) m n) (hx : x = m) (h : l.length ≤ k ∨ x < n) : n = N:= by
  rw [hp]
  by_cases hk : k < l.length
  · obtain ⟨a,ha⟩ := qX l k hk
    rw [qS ha,weighSs,if_neg (by omega)]
  · rw [yT hk,weighSs]
theorem weighSs_next {m n k : Nat} {l : List St} {N : Nat} {s : St} (hs : l[k]? = some s) (hp : N = weighSs (l.drop k) m n) (h : n ≤ m) : N = weighSs (l.drop (k + 1)) m (n + weighE s.E m + weighE (idxE s.Idx) m + weighB s.Body (m - n)):= by
  rw [hp,qS hs,weighSs,if_pos h,weighS_eq]
theorem weigh_lt {m n : Nat} {l : List St} {k : Nat} {s : St} (hs : l[k]? = some s) (hf : fitS l) (hm : m ≤ 5000) (hn : n ≤ m) (h1 : 1 ≤ n) : n + weighE s.E m + weighE (idxE s.Idx) m + weighB s.Body (m - n) ≤ wB m:= by
  have hs' := zNz hf s (qE hs)
  obtain ⟨f1,f2,f3,f4,f5⟩ := St.fit_eq hs'
  have h3 := weighS_le s (m - n) hs' (by omega)
  rw [weighS_eq] at h3
  have h4 := zDk s.E m f3
  have h5 := zDk (idxE s.Idx) m (idxE_fit f1 f2)
  unfold wB at *
  omega
/-! ## What the laws of layers 30,36 and 41 take for small -/
mutual
def shortL : List St → Bool
  | [] => true
  | s :: r => shortT s && shortL r
def shortT : St → Bool
  | .mk o n m k f i e b => decide (n.size ≤ 100) && decide (i.length ≤ 20) && shortL b
end
theorem shortT_eq (s : St) : shortT s = (decide (s.Name.size ≤ 100) && decide (s.Idx.length ≤ 20) && shortL s.Body):= by cases s; rw [shortT]; rfl
theorem zPk : ∀ l : List St,shortL l = l.all shortT
  | [] => by rw [shortL]; rfl
  | s :: r => by rw [shortL,zPk r]; rfl
def fewS (l : List St) (m : Nat) : Bool := decide (weighB l m ≤ m) && shortL l
def fewBf (b : Bf) : Bool := decide (b.Dims.length ≤ 20) && decide (b.Name.size ≤ 100)
def fewN (n : Ns) (m : Nat) : Bool := decide (n.Bufs.length ≤ 150) && n.Bufs.all fewBf && fewS n.Body m
structure Ns.Fit (n : Ns) : Prop where
  bufs : n.Bufs.length ≤ 140737488355328
  dims : ∀ b,b ∈ n.Bufs → b.Dims.length ≤ 17592186044416
  len : n.Body.length ≤ 140737488355328
  body : fitS n.Body
theorem Ns.Fit.ok {n : Ns} (h : n.Fit) {m : Nat} (hm : m ≤ 5000) (hb : n.Bufs.length ≤ 150) (hw : weighB n.Body m ≤ m) : n.Ok :=
  ⟨by omega,h.dims,by have := zOs hw; omega⟩
end Go.Br
end
section
namespace Go.Br
open Go Go.Eng Go.L41
/-! ## For the reference's check -/
structure Bd where
  Name : ByteArray
  Val : Int
  deriving DecidableEq
def Bd.cells (x : Bd) : List C := [cS x.Name,cI x.Val]
theorem any_hasB (bd : List Bd) (s : ByteArray) : (bd.any fun d => decide (d.Name = s)) = hasB (bd.map Bd.Name) s:= by
  unfold hasB; rw [List.any_map]; rfl
theorem any_step {bd : List Bd} {i : Nat} {d : Bd} {s : ByteArray} (h : bd[i]? = some d) : (((bd.take i).any fun d => decide (d.Name = s)) || decide (d.Name = s)) = (bd.take (i + 1)).any fun d => decide (d.Name = s):= by
  rw [yE h,List.any_append]; simp
theorem bound_no {l : List Lf} {sc : List ByteArray} {k j : Nat} {x : Lf} {m : Mono} (h : l[k]? = some x) (hm : x.L[j]? = some m) (c : hasB sc m.Name = false) : l.all (inSc sc) = false:= by
  have : inSc sc x = false := zIk hm (p := fun y : Mono => hasB sc y.Name) c
  exact zIk h this
theorem ixs_len (l : List Ix) (k : Nat) : ((l.take k).flatMap ixF).length ≤ l.length + idxWt l:= by
  have h1 : ∀ l : List Ix,(l.flatMap ixF).length ≤ l.length + idxWt l:= by
    intro l
    induction l with
    | nil => simp
    | cons x r ih =>
      rw [List.flatMap_cons,List.length_append,idxWt,Ix.wt,List.length_cons]
      simp only [ixF,List.length_cons]; omega
  have h2 := h1 (l.take k)
  have h3 : idxWt (l.take k) ≤ idxWt l:= by
    have : ∀ (l : List Ix) (k : Nat),idxWt (l.take k) ≤ idxWt l:= by
      intro l
      induction l with
      | nil => intro k; simp [idxWt]
      | cons x r ih => intro k; cases k with
        | zero => simp [idxWt]
        | succ k => rw [List.take_succ_cons,idxWt,idxWt]; have := ih k; omega
    exact this l k
  have h4 := List.length_take_le' k l
  omega
theorem node_sc (sc : List ByteArray) (e : Ex) : ([e.Lin].all (inSc sc) && (e.Idx.flatMap ixF).all (inSc sc)) = nodeSc sc e:= by
  unfold nodeSc
  congr 1
  · simp
  · rw [List.all_flatMap]; rfl
theorem node_sc_f {sc : List ByteArray} {e : Ex} (c : (![e.Lin].all (inSc sc) || !(e.Idx.flatMap ixF).all (inSc sc)) = true) : nodeSc sc e = false:= by
  rw [← Bool.not_and,node_sc] at c; simpa using c
theorem node_sc_t {sc : List ByteArray} {e : Ex} (c : (![e.Lin].all (inSc sc) || !(e.Idx.flatMap ixF).all (inSc sc)) = false) : nodeSc sc e = true:= by
  rw [← Bool.not_and,node_sc] at c; simpa using c
theorem nonC_len : ∀ (arg_ : List Ex) (ts : List Ty),(nonC arg_ ts).length ≤ arg_.length
  | [],_ => by simp [nonC]
  | _ :: _,[] => by simp [nonC]
  | a :: r,t :: ts => by
    have := nonC_len r ts
    rw [nonC]; split <;> simp <;> omega
theorem ki10_t {l : List Ty} (c : (decide (((l.map tyC).length : Int) = 2) && !litsEq [cI (tyAt l 0).Kind,cI (tyAt l 0).Bits,cI (tyAt l 0).Frac,cI (tyAt l 0).Round,cI (tyAt l 0).Over] [cI (tyAt l 1).Kind,cI (tyAt l 1).Bits,cI (tyAt l 1).Frac,cI (tyAt l 1).Round,cI (tyAt l 1).Over]) = true) : l.length = 2 ∧ ¬ tyAt l 0 = tyAt l 1:= by
  rw [Bool.and_eq_true,decide_eq_true_eq,List.length_map] at c
  exact ⟨by omega,zEf c.2⟩
theorem ki10_f {l : List Ty} (c : (decide (((l.map tyC).length : Int) = 2) && !litsEq [cI (tyAt l 0).Kind,cI (tyAt l 0).Bits,cI (tyAt l 0).Frac,cI (tyAt l 0).Round,cI (tyAt l 0).Over] [cI (tyAt l 1).Kind,cI (tyAt l 1).Bits,cI (tyAt l 1).Frac,cI (tyAt l 1).Round,cI (tyAt l 1).Over]) = false) : ¬ (l.length = 2 ∧ ¬ tyAt l 0 = tyAt l 1):= by
  rintro ⟨h1,h2⟩
  rw [Bool.and_eq_false_iff,decide_eq_false_iff_not,List.length_map] at c
  rcases c with c | c
  · omega
  · exact h2 (zEg c)
theorem ki_one {e : Ex} {l : List Ty} (h : partE e = 0) (hl : l.length = e.Args.length) (h1 : ¬ (e.Op = 1 ∨ e.Op = 12 ∨ e.Op = 2 ∨ e.Op = 3)) (h2 : isCond e = false) : 1 ≤ (nonC e.Args l).length:= by
  have hr := zNs h
  have hc := conds_ok h
  obtain ⟨o1,o2⟩ := node_op (zDn h)
  have h13 : e.Op < 13:= by
    unfold isCond at h2
    simp only [Bool.and_eq_false_iff,decide_eq_false_iff_not] at h2
    omega
  generalize e.Args = A at hr hc hl
  have w : ∀ i,(e.Op = 11 → i ≠ 0) → wantC e.Op i = false := fun i hi => by
    unfold wantC; simp only [Bool.or_eq_false_iff,Bool.and_eq_false_iff,decide_eq_false_iff_not]
    by_cases h11 : e.Op = 11
    · have := hi h11; omega
    · omega
  unfold nArgs at hr
  match A,l,hl with
  | [],_,_ =>
    exfalso
    simp only [List.length_nil] at hr
    split at hr
    · omega
    · split at hr
      · simp at hr
      · split at hr <;> simp at hr
  | [a],[t],_ =>
    simp only [condsOk,Bool.and_true,beq_iff_eq] at hc
    have h11 : e.Op ≠ 11:= by rintro h11; rw [h11] at hr; simp at hr
    rw [w 0 (fun h => absurd h h11)] at hc
    rw [nonC,if_neg (by rw [hc]; simp)]; simp
  | a :: b :: r,t :: u :: s,_ =>
    simp only [condsOk,Bool.and_eq_true,beq_iff_eq] at hc
    have hb := hc.2.1
    rw [w (0 + 1) (fun _ => by omega)] at hb
    rw [nonC]
    split
    · rw [nonC,if_neg (by rw [hb]; simp)]; simp
    · simp
  | [_],[],hl => simp at hl
  | [_],_ :: _ :: _,hl => simp at hl
  | _ :: _ :: _,[],hl => simp at hl
  | _ :: _ :: _,[_],hl => simp at hl
theorem map_bd {bd : List Bd} {s : St} : (bd ++ [(⟨s.Name,s.Many⟩ : Bd)]).map Bd.Name = bd.map Bd.Name ++ [s.Name]:= by simp
theorem pln_1 {s : St} (c : ((!decide (s.Op = 1) && !decide (s.Op = 4)) && !isSto s) = true) : false = synSt s:= by
  unfold synSt
  simp only [Bool.and_eq_true,Bool.not_eq_true'] at c
  simp only [c.1.1,c.1.2,c.2,Bool.or_self,Bool.false_and]
theorem pln_2 {s : St} (c : (((!decide (s.Op = 1) && (!decide (s.Many = 0) || !decide (s.Mark = 0))) || (!decide (s.Op = 3) && !decide (s.Fold = 0))) || (decide (s.Op = 4) && !decide (s.Name = bs []))) = true) : false = synSt s:= by
  rw [Bool.or_eq_true,Bool.or_eq_true] at c
  rcases c with (c | c) | c
  · exact syn_3 c
  · exact syn_4 c
  · exact syn_2 c
theorem pln_3 {s : St} (c : ((!isSto s && decide ((0 : Int) < s.Idx.length)) || (isSto s && decide ((0 : Int) < s.Body.length))) = true) : false = synSt s:= by
  rw [Bool.or_eq_true] at c
  rcases c with c | c
  · exact syn_5 c
  · unfold synSt
    rw [Bool.and_eq_true,decide_eq_true_eq] at c
    have : decide ((s.Body.length : Int) = 0) = false := decide_eq_false (by omega)
    simp only [c.1,this,Bool.not_true,Bool.or_self,Bool.and_false]
theorem pln_4 {s : St} (c1 : ((!decide (s.Op = 1) && !decide (s.Op = 4)) && !isSto s) = false) (c2 : (((!decide (s.Op = 1) && (!decide (s.Many = 0) || !decide (s.Mark = 0))) || (!decide (s.Op = 3) && !decide (s.Fold = 0))) || (decide (s.Op = 4) && !decide (s.Name = bs []))) = false)
    (c3 : ((!isSto s && decide ((0 : Int) < s.Idx.length)) || (isSto s && decide ((0 : Int) < s.Body.length))) = false) : (!decide (s.Op = 1) || decide (s.E = zEx)) = synSt s:= by
  rw [Bool.or_eq_false_iff,Bool.or_eq_false_iff] at c2
  rw [Bool.or_eq_false_iff] at c3
  have h1 : (decide (s.Op = 1) || isSto s || decide (s.Op = 4)) = true:= by
    revert c1; cases decide (s.Op = 1) <;> cases isSto s <;> cases decide (s.Op = 4) <;> simp
  have h7 : (!isSto s || decide ((s.Body.length : Int) = 0)) = true:= by
    have h := c3.2
    rw [Bool.and_eq_false_iff,decide_eq_false_iff_not] at h
    rcases h with h | h
    · rw [h]; rfl
    · rw [show decide ((s.Body.length : Int) = 0) = true from decide_eq_true (by omega),Bool.or_true]
  unfold synSt emptyE
  simp only [h1,c2.1.1,c2.1.2,c2.2,c3.1,h7,Bool.not_false,Bool.true_and,Bool.and_true,Bool.not_and,Bool.not_not]
theorem st3_t {n : Int} {c : Bool} {a b : Ty} (h : (decide (n = 0) && (c || !litsEq [cI a.Kind,cI a.Bits,cI a.Frac,cI a.Round,cI a.Over] [cI b.Kind,cI b.Bits,cI b.Frac,cI b.Round,cI b.Over])) = true) : n = 0 ∧ (c = true ∨ ¬ a = b):= by
  rw [Bool.and_eq_true,decide_eq_true_eq] at h
  exact ⟨h.1,st10_t h.2⟩
theorem st3_f {n : Int} {c : Bool} {a b : Ty} (h : (decide (n = 0) && (c || !litsEq [cI a.Kind,cI a.Bits,cI a.Frac,cI a.Round,cI a.Over] [cI b.Kind,cI b.Bits,cI b.Frac,cI b.Round,cI b.Over])) = false) : n = 0 → ¬ (c = true ∨ ¬ a = b):= by
  intro h0
  rw [decide_eq_true h0,Bool.true_and] at h
  exact st10_f h
theorem st_fin {B : List Bf} {sc : List ByteArray} {s : St} (h : (exprT B sc (rdE s)).2 = 0) (h2 : ¬ ((bufD B s.Name).Use = 1 ∨ (s.Op = 3 ∧ (s.Fold < 1 ∨ 4 < s.Fold)))) (h3 : (exprT B sc s.E).2 = 0 → ¬ (isCond s.E = true ∨ ¬ (exprT B sc s.E).1 = (bufD B s.Name).T)) : storeE B sc s = (exprT B sc s.E).2:= by
  by_cases h4 : (exprT B sc s.E).2 = 0
  · rw [storeE_0 h h2 h4 (h3 h4),h4]
  · exact zNo h h2 h4
theorem if_t {B : List Bf} {sc : List ByteArray} {s : St} (c : (decide ((exprT B sc s.E).2 = 0) && !isCond s.E) = true) : ifE B sc s = 10:= by
  rw [Bool.and_eq_true,decide_eq_true_eq] at c
  exact ifE_10 c.1 (by simpa using c.2)
theorem if_fin {B : List Bf} {sc : List ByteArray} {s : St} (c : (decide ((exprT B sc s.E).2 = 0) && !isCond s.E) = false) : ifE B sc s = (exprT B sc s.E).2:= by
  by_cases h : (exprT B sc s.E).2 = 0
  · rw [decide_eq_true h,Bool.true_and] at c
    rw [ifE_0 h (by simpa using c),h]
  · exact ifE_x h
theorem within_f {l : List St} (c : 40 < depS 41 l) : withinT 40 l = false:= by
  cases h : withinT 40 l with
  | false => rfl
  | true => have h2 : depS 41 l ≤ 40 := (zFe 40 l).2 h; omega
theorem within_t {l : List St} (c : depS 41 l ≤ 40) : withinT 40 l = true := (zFe 40 l).1 c
end Go.Br
end
section
namespace Go.Br
open Go Go.Eng Go.L41
def insW : List ByteArray → ByteArray → List ByteArray
  | [],s => [s]
  | x :: r,s => if strLt x s = true then x :: insW r s else if x = s then x :: r else s :: x :: r
def insWs (l : List ByteArray) (m : List ByteArray) : List ByteArray := m.foldl insW l
def below (s : ByteArray) (x : ByteArray) : Bool := strLt x s
theorem zCp (x : ByteArray) (r : List ByteArray) (s : ByteArray) : hasB (x :: r) s = (decide (x = s) || hasB r s) := rfl
theorem insW_has (t : ByteArray) : ∀ (l : List ByteArray) (s : ByteArray),hasB (insW l s) t = (hasB l t || decide (s = t))
  | [],s => by simp [insW,hasB]
  | x :: r,s => by
    rw [insW]
    split
    · rw [zCp,zCp,insW_has t r s,Bool.or_assoc]
    · split
      · rename_i h; subst h; rw [zCp]; cases decide (x = t) <;> simp
      · rw [zCp s,Bool.or_comm]
theorem insWs_has (t : ByteArray) : ∀ (m l : List ByteArray),hasB (insWs l m) t = (hasB l t || hasB m t)
  | [],l => by simp [insWs,hasB]
  | x :: m,l => by
    have := insWs_has t m (insW l x)
    unfold insWs at *
    rw [List.foldl_cons,this,insW_has,zCp,Bool.or_assoc]
theorem insW_len : ∀ (l : List ByteArray) (s : ByteArray),(insW l s).length ≤ l.length + 1
  | [],s => by simp [insW]
  | x :: r,s => by
    rw [insW]
    have := insW_len r s
    split
    · simp; omega
    · split <;> simp
theorem insWs_len : ∀ (m l : List ByteArray),(insWs l m).length ≤ l.length + m.length
  | [],l => by simp [insWs]
  | x :: m,l => by
    have h1 := insWs_len m (insW l x)
    have h2 := insW_len l x
    unfold insWs at *
    rw [List.foldl_cons,List.length_cons]; omega
theorem insWs0_len (m : List ByteArray) : (insWs [] m).length ≤ m.length:= by have := insWs_len m []; simpa using this
theorem zAi {l : List ByteArray} {s : ByteArray} : hasB l s = true ↔ s ∈ l:= by
  unfold hasB; rw [List.any_eq_true]
  constructor
  · rintro ⟨x,hx,h⟩; rw [decide_eq_true_eq] at h; rw [← h]; exact hx
  · intro h; exact ⟨s,h,by simp⟩
theorem hasB_congr {a b : List ByteArray} {s : ByteArray} (h : s ∈ a ↔ s ∈ b) : hasB a s = hasB b s:= by
  rw [Bool.eq_iff_iff,zAi,zAi]; exact h
end Go.Br
end
section
namespace Go.L41
open Go Go.Eng
structure Lifetime where
  Name : ByteArray
  From : Int
  To : Int
  Size : Int
def Lifetime.cells (x : Lifetime) : List C := [cS x.Name,cI x.From,cI x.To,cI x.Size]
abbrev vL (x : Lifetime) : V := .agg x.cells
def covers (p : Int) (y : Lifetime) : Bool := decide (y.From ≤ p) && decide (p ≤ y.To)
def cnt (l : List Lifetime) (p : Int) : Int := ((l.filter (covers p)).length : Int)
theorem cnt_le (l : List Lifetime) (p : Int) : 0 ≤ cnt l p ∧ cnt l p ≤ l.length:= by
  unfold cnt
  have := List.length_filter_le (covers p) l
  omega
def check1 (prev : List Lifetime) (x : Lifetime) : Int :=
  if isNameB x.Name = false then 7
  else if (prev.any fun y => decide (y.Name = x.Name)) = true then 8
  else if x.From < 0 ∨ x.To < x.From ∨ x.Size < 1 ∨ 4096 < x.Size then 1 else 0
def validFrom (prev : List Lifetime) : List Lifetime → Int
  | [] => 0
  | x :: r => if check1 prev x = 0 then validFrom (prev ++ [x]) r else check1 prev x
def validateL (l : List Lifetime) : Int := validFrom [] l
theorem valid_step {l : List Lifetime} {k : Nat} {x : Lifetime} (h : l[k]? = some x) : validFrom (l.take k) (l.drop k) = if check1 (l.take k) x = 0 then validFrom (l.take (k + 1)) (l.drop (k + 1)) else check1 (l.take k) x:= by
  have hlt := (List.getElem?_eq_some_iff.1 h).1
  rw [List.drop_eq_getElem_cons hlt,(List.getElem?_eq_some_iff.1 h).2,yE h]
  rfl
theorem valid_ok {l : List Lifetime} {k : Nat} {x : Lifetime} (hv : validateL l = validFrom (l.take k) (l.drop k)) (h : l[k]? = some x) (hc : check1 (l.take k) x = 0) : validateL l = validFrom (l.take (k + 1)) (l.drop (k + 1)):= by
  rw [hv,valid_step h,hc,if_pos rfl]
theorem valid_end {l : List Lifetime} {k : Nat} (hv : validateL l = validFrom (l.take k) (l.drop k)) (h : ¬ k < l.length) : validateL l = 0:= by
  rw [hv,List.drop_of_length_le (by omega)]
  rfl
theorem check_ok {prev : List Lifetime} {x : Lifetime} (h : isNameB x.Name = true) (h2 : (prev.any fun y => decide (y.Name = x.Name)) = false) (h3 : ¬ (x.From < 0 ∨ x.To < x.From ∨ x.Size < 1 ∨ 4096 < x.Size)) : check1 prev x = 0:= by
  unfold check1; rw [if_neg (by simp [h]),if_neg (by simp [h2]),if_neg h3]
theorem mget_mput {α : Type} (m : List (ByteArray × α)) (k k' : ByteArray) (a : α) : mget (mput m k a) k' = if k = k' then some a else mget m k':= by
  induction m with
  | nil => simp [mput,mget]
  | cons p m ih =>
    obtain ⟨q,b⟩ := p
    simp only [mput]
    by_cases h : q = k
    · subst h
      rw [if_pos rfl]
      simp only [mget]
      by_cases h2 : q = k' <;> simp [h2]
    · rw [if_neg h]
      simp only [mget,ih]
      by_cases h2 : q = k'
      · subst h2
        rw [if_pos rfl,if_neg (fun e => h e.symm)]
        simp
      · rw [if_neg h2,if_neg h2]
end Go.L41
end
section
namespace Go.Br
open Go Go.Eng Go.L41
theorem compact_mem {α : Type} [DecidableEq α] [Inhabited α] (d : Array α) (m : Nat) : ∀ i,i < m → d[i]! ∈ Lib.compactUpTo d m:= by
  intro i
  induction i with
  | zero =>
    intro h
    unfold Lib.compactUpTo
    exact List.mem_map.2 ⟨0,List.mem_filter.2 ⟨List.mem_range.2 h,Lib.keeps_lt_one d 0 (by omega)⟩,rfl⟩
  | succ i ih =>
    intro h
    by_cases hk : d[i + 1]! = d[i + 1 - 1]!
    · rw [hk]; exact ih (by omega)
    · unfold Lib.compactUpTo
      exact List.mem_map.2 ⟨i + 1,List.mem_filter.2 ⟨List.mem_range.2 h,Lib.keeps_pos hk⟩,rfl⟩
theorem thin_mem {s : ByteArray} {l : List ByteArray} (h : s ∈ l) : s ∈ thinB l:= by
  unfold thinB
  rw [mem_toB]
  rw [← mem_ofB] at h
  obtain ⟨i,hi,e⟩ := List.mem_iff_getElem.1 h
  have := compact_mem (ofB l).toArray (ofB l).length i hi
  rw [getElem!_pos _ i (by simpa using hi)] at this
  unfold Lib.compact
  rw [← e]; simpa using this
theorem readsT_has (e : Ex) (t : ByteArray) : hasB (readsT e) t = hasB (readsA (nodes e)) t :=
  hasB_congr ⟨fun h => zKa.1 (mem_thinB h),fun h => thin_mem (zKa.2 h)⟩
def accHd (s : St) (t : ByteArray) : Bool := (isSto s && decide (s.Name = t)) || (hasB (readsI s.Idx) t || hasB (readsA (nodes s.E)) t)
mutual
def accS (t : ByteArray) : St → Bool
  | .mk o nm mn mk fo i e b => accHd (.mk o nm mn mk fo i e b) t || accL t b
def accL (t : ByteArray) : List St → Bool
  | [] => false
  | s :: r => accS t s || accL t r
end
def tchHd (s : St) : List ByteArray := (if isSto s = true then [s.Name] else []) ++ readsI s.Idx ++ readsT s.E
mutual
def tchS : St → List ByteArray
  | .mk o nm mn mk fo i e b => tchHd (.mk o nm mn mk fo i e b) ++ tchL b
def tchL : List St → List ByteArray
  | [] => []
  | s :: r => tchS s ++ tchL r
end
theorem kB (a b : List ByteArray) (s : ByteArray) : hasB (a ++ b) s = (hasB a s || hasB b s):= by simp [hasB,List.any_append]
theorem tchHd_has (s : St) (t : ByteArray) : hasB (tchHd s) t = accHd s t:= by
  unfold tchHd accHd
  rw [kB,kB,readsT_has,Bool.or_assoc]
  congr 1
  cases isSto s <;> simp [hasB]
mutual
theorem tchS_has (t : ByteArray) : ∀ s : St,hasB (tchS s) t = accS t s
  | .mk o nm mn mk fo i e b => by rw [tchS,accS,kB,tchHd_has,tchL_has t b]
theorem tchL_has (t : ByteArray) : ∀ l : List St,hasB (tchL l) t = accL t l
  | [] => by rw [tchL,accL]; rfl
  | s :: r => by rw [tchL,accL,kB,tchS_has t s,tchL_has t r]
end
/-! ## Spans -/
structure Sp where
  From : Int
  To : Int
def vSp (x : Sp) : V := .agg [cI x.From,cI x.To]
abbrev SpM := List (ByteArray × Sp)
def putSp (k : Int) (m : SpM) (t : ByteArray) : SpM := mput m t ⟨match mget m t with | some x => x.From | none => k,k⟩
def spFrom (m : SpM) (i : Int) : List St → SpM
  | [] => m
  | s :: r => spFrom ((tchS s).foldl (putSp i) m) (i + 1) r
theorem zJp : ∀ (a : List St) (m : SpM) (i : Int) (s : St),spFrom m i (a ++ [s]) = (tchS s).foldl (putSp (i + a.length)) (spFrom m i a)
  | [],m,i,s => by simp [spFrom]
  | x :: r,m,i,s => by
    rw [List.cons_append,spFrom,zJp r,spFrom,List.length_cons]
    rw [show i + 1 + (r.length : Int) = i + ((r.length + 1 : Nat) : Int) by omega]
theorem sp_next {l : List St} {k : Nat} {s : St} (h : l[k]? = some s) : spFrom [] 0 (l.take (k + 1)) = (tchS s).foldl (putSp k) (spFrom [] 0 (l.take k)):= by
  have hk := (List.getElem?_eq_some_iff.1 h).1
  rw [yE h,zJp,List.length_take,Nat.min_eq_left (by omega),Int.zero_add]
theorem putSp_new {m : SpM} {t : ByteArray} {i : Int} (h : (mget m t).isSome = false) : mput m t (⟨i,i⟩ : Sp) = putSp i m t:= by
  unfold putSp
  cases hx : mget m t with
  | none => rfl
  | some x => rw [hx] at h; cases h
theorem putSp_old {m : SpM} {t : ByteArray} {i : Int} (h : (mget m t).isSome = true) : mput m t (⟨((mget m t).getD ⟨0,0⟩).From,i⟩ : Sp) = putSp i m t:= by
  unfold putSp
  cases hx : mget m t with
  | none => rw [hx] at h; cases h
  | some x => rfl
theorem thin_len (l : List ByteArray) : (thinB l).length ≤ l.length:= by
  unfold thinB toB
  rw [List.length_map]
  unfold Lib.compact Lib.compactUpTo
  rw [List.length_map]
  refine Nat.le_trans (List.length_filter_le _ _) ?_
  simp [ofB]
theorem putSp_get (k : Int) (m : SpM) (t u : ByteArray) : mget (putSp k m t) u = if t = u then some ⟨match mget m u with | some x => x.From | none => k,k⟩ else mget m u:= by
  unfold putSp
  rw [mget_mput]
  by_cases h : t = u
  · subst h; rfl
  · rw [if_neg h,if_neg h]
theorem putSps_get (k : Int) (u : ByteArray) : ∀ (l : List ByteArray) (m : SpM),mget (l.foldl (putSp k) m) u = if hasB l u = true then some ⟨match mget m u with | some x => x.From | none => k,k⟩ else mget m u
  | [],m => by simp [hasB]
  | x :: r,m => by
    rw [List.foldl_cons,putSps_get k u r,putSp_get,zCp]
    by_cases h : x = u
    · subst h
      simp only [decide_true,Bool.true_or,if_true]
      cases hasB r x <;> simp
    · simp only [h,decide_false,Bool.false_or,if_false]
def stepA (t : ByteArray) (x : Bool × Sp × Int) (s : St) : Bool × Sp × Int := if accS t s = true then (true,⟨if x.1 = true then x.2.1.From else x.2.2,x.2.2⟩,x.2.2 + 1) else (x.1,x.2.1,x.2.2 + 1)
def foldA (t : ByteArray) (l : List St) : Bool × Sp × Int := l.foldl (stepA t) (false,⟨0,0⟩,0)
theorem zHw {t : ByteArray} {l : List St} {k : Nat} {s : St} (h : l[k]? = some s) : foldA t (l.take (k + 1)) = stepA t (foldA t (l.take k)) s:= by
  unfold foldA; rw [yE h,List.foldl_append]; rfl
theorem foldA_k (t : ByteArray) : ∀ {l : List St} {k : Nat},k ≤ l.length → (foldA t (l.take k)).2.2 = k
  | l,0,_ => by simp [foldA]
  | l,k + 1,h => by
    obtain ⟨s,hs⟩ := qX l k (by omega)
    rw [zHw hs]
    have := foldA_k t (l := l) (k := k) (by omega)
    unfold stepA
    split <;> simp [this]
theorem spans_fold (t : ByteArray) : ∀ {l : List St} {k : Nat},k ≤ l.length → mget (spFrom [] 0 (l.take k)) t = if (foldA t (l.take k)).1 = true then some (foldA t (l.take k)).2.1 else none
  | l,0,_ => by simp [foldA,spFrom,mget]
  | l,k + 1,h => by
    obtain ⟨s,hs⟩ := qX l k (by omega)
    have ih := spans_fold t (l := l) (k := k) (by omega)
    have hk := foldA_k t (l := l) (k := k) (by omega)
    rw [sp_next hs,putSps_get,tchS_has,zHw hs,ih]
    unfold stepA
    rw [hk]
    by_cases h1 : accS t s = true
    · rw [if_pos h1,if_pos h1]
      by_cases h2 : (foldA t (l.take k)).1 = true
      · simp [h2]
      · simp [h2]
    · rw [if_neg h1,if_neg h1]
theorem foldA_zero (t : ByteArray) : ∀ {l : List St} {k : Nat},k ≤ l.length → (foldA t (l.take k)).1 = false → (foldA t (l.take k)).2.1 = ⟨0,0⟩
  | l,0,_,_ => by simp [foldA]
  | l,k + 1,h,h1 => by
    obtain ⟨s,hs⟩ := qX l k (by omega)
    rw [zHw hs] at h1 ⊢
    unfold stepA at h1 ⊢
    split at h1
    · cases h1
    · rename_i hc
      rw [if_neg hc]
      exact foldA_zero t (by omega) h1
def spanOf (t : ByteArray) (l : List St) : Sp := (foldA t l).2.1
theorem span_get (t : ByteArray) (l : List St) : (mget (spFrom [] 0 l) t).getD ⟨0,0⟩ = spanOf t l:= by
  have h := spans_fold t (l := l) (k := l.length) (Nat.le_refl _)
  rw [List.take_length] at h
  rw [h,spanOf]
  by_cases c : (foldA t l).1 = true
  · rw [if_pos c]; rfl
  · rw [if_neg c]
    have := foldA_zero t (l := l) (k := l.length) (Nat.le_refl _) (by rw [List.take_length]; simpa using c)
    rw [List.take_length] at this
    rw [this]; rfl
def lifeOf (l : List St) (b : Bf) : Lifetime :=
  ⟨b.Name,if b.Use = 1 then 0 else (spanOf b.Name l).From,if b.Use = 2 then max ((l.length : Int) - 1) 0 else (spanOf b.Name l).To,dimsSize b.Dims⟩
def lives (n : Ns) : List Lifetime := n.Bufs.map (lifeOf n.Body)
def analyzeT (n : Ns) : List Lifetime × Int := if (validN n).2 = 0 then (lives n,0) else ([],(validN n).2)
theorem analyze_no {n : Ns} (h : ¬ (validN n).2 = 0) : analyzeT n = ([],(validN n).2):= by unfold analyzeT; rw [if_neg h]
theorem analyze_ok {n : Ns} (h : (validN n).2 = 0) : analyzeT n = (lives n,0):= by unfold analyzeT; rw [if_pos h]
theorem lives_next {n : Ns} {k : Nat} {b : Bf} (h : n.Bufs[k]? = some b) : ((n.Bufs.take (k + 1)).map fun b => (lifeOf n.Body b).cells) = ((n.Bufs.take k).map fun b => (lifeOf n.Body b).cells) ++ [(lifeOf n.Body b).cells]:= by
  rw [yE h,List.map_append]; rfl
theorem small_t {n : Ns} (c : (!(decide ((n.Bufs.length : Int) ≤ 40) && decide ((weighB n.Body 400 : Int) ≤ 400))) = false) : n.Bufs.length ≤ 40 ∧ weighB n.Body 400 ≤ 400:= by
  rw [Bool.not_eq_false',Bool.and_eq_true,decide_eq_true_eq,decide_eq_true_eq] at c; omega
theorem lives_len (n : Ns) : (lives n).length = n.Bufs.length:= by simp [lives]
theorem lives_get {n : Ns} {k : Nat} {y : Lifetime} {b : Bf} (h : (lives n)[k]? = some y) (hb : n.Bufs[k]? = some b) : y = lifeOf n.Body b:= by
  unfold lives at h; rw [List.getElem?_map,hb] at h; simpa using h.symm
/-! ## The lifetimes cover the accesses (41.5) -/
theorem span_cover (t : ByteArray) : ∀ {l : List St} {k : Nat},k ≤ l.length → (∀ (j : Nat) s,l[j]? = some s → j < k → accS t s = true → (foldA t (l.take k)).1 = true ∧ (foldA t (l.take k)).2.1.From ≤ j ∧ (j : Int) ≤ (foldA t (l.take k)).2.1.To) ∧
    0 ≤ (foldA t (l.take k)).2.1.From ∧ (foldA t (l.take k)).2.1.From ≤ (foldA t (l.take k)).2.1.To ∧ ((foldA t (l.take k)).2.1.To = 0 ∨ (foldA t (l.take k)).2.1.To < k)
  | l,0,_ => ⟨fun j s _ h => by omega,by simp [foldA],by simp [foldA],by simp [foldA]⟩
  | l,k + 1,h => by
    obtain ⟨s,hs⟩ := qX l k (by omega)
    obtain ⟨ih,i1,i2,i3⟩ := span_cover t (l := l) (k := k) (by omega)
    have hk := foldA_k t (l := l) (k := k) (by omega)
    rw [zHw hs]
    unfold stepA
    rw [hk]
    by_cases c : accS t s = true
    · simp only [c,if_true]
      refine ⟨fun j s' hj hlt _ => ⟨trivial,?_,by omega⟩,?_,?_,.inr (by omega)⟩
      · by_cases hjk : j = k
        · split
          · subst hjk
            rcases i3 with i3 | i3 <;> omega
          · omega
        · rename_i ha
          obtain ⟨q1,q2,q3⟩ := ih j s' hj (by omega) ha
          rw [if_pos q1]; exact q2
      · split <;> omega
      · split
        · rcases i3 with i3 | i3 <;> omega
        · omega
    · rw [if_neg c]
      refine ⟨fun j s' hj hlt ha => ?_,i1,i2,?_⟩
      · have hjk : j ≠ k:= by
          rintro rfl
          rw [hs] at hj
          cases hj
          exact c ha
        exact ih j s' hj (by omega) ha
      · rcases i3 with i3 | i3
        · exact .inl i3
        · refine .inr ?_
          dsimp only
          omega
theorem lifeOf_ok (l : List St) (b : Bf) : 0 ≤ (lifeOf l b).From ∧ (lifeOf l b).From ≤ (lifeOf l b).To ∧ ∀ (j : Nat) s,l[j]? = some s → accS b.Name s = true → (lifeOf l b).From ≤ j ∧ (j : Int) ≤ (lifeOf l b).To:= by
  obtain ⟨h,h1,h2,h3⟩ := span_cover b.Name (l := l) (k := l.length) (Nat.le_refl _)
  rw [List.take_length] at h h1 h2 h3
  have hF : (lifeOf l b).From = if b.Use = 1 then 0 else (foldA b.Name l).2.1.From := rfl
  have hT : (lifeOf l b).To = if b.Use = 2 then max ((l.length : Int) - 1) 0 else (foldA b.Name l).2.1.To := rfl
  rw [hF,hT]
  refine ⟨by split <;> omega,?_,fun j s hj ha => ?_⟩
  · split <;> split <;> omega
  · have hj' := (List.getElem?_eq_some_iff.1 hj).1
    obtain ⟨q1,q2,q3⟩ := h j s hj hj' ha
    refine ⟨by split <;> omega,?_⟩
    split <;> omega
theorem cover_no {l : List St} {b : Bf} {j : Nat} {s : St} (h : l[j]? = some s) : (accS b.Name s && (decide ((j : Int) < (lifeOf l b).From) || decide ((lifeOf l b).To < (j : Int)))) = false:= by
  cases c : accS b.Name s with
  | false => rfl
  | true =>
    obtain ⟨h1,h2⟩ := (lifeOf_ok l b).2.2 j s h c
    rw [decide_eq_false (by omega),decide_eq_false (by omega)]; rfl
theorem bufs_in : ∀ {l seen : List Bf},bufsErr seen l = 0 → ∀ (k : Nat) b,l[k]? = some b → bfErr (seen ++ l.take k) b = 0
  | [],_,_,k,b,h => by simp at h
  | x :: r,seen,h,k,b,hb => by
    rw [bufsErr] at h
    by_cases c : bfErr seen x = 0
    · rw [if_pos c] at h
      cases k with
      | zero => simp at hb; subst hb; simpa using c
      | succ k =>
        have := bufs_in h k b (by simpa using hb)
        simpa using this
    · rw [if_neg c] at h; exact absurd h c
theorem bfErr_inv {seen : List Bf} {b : Bf} (h : bfErr seen b = 0) : isNameB b.Name = true ∧ hasBf seen b.Name = false ∧ dimsErr b.Dims = 0:= by
  unfold bfErr at h
  by_cases h1 : isNameB b.Name = true
  · rw [if_pos h1] at h
    by_cases h2 : hasBf seen b.Name = true
    · rw [if_pos h2] at h; cases h
    · rw [if_neg h2] at h
      by_cases h3 : tyOk b.T = true
      · rw [if_pos h3] at h
        by_cases h4 : dimsErr b.Dims = 0
        · exact ⟨h1,by simpa using h2,h4⟩
        · rw [if_neg h4] at h; exact absurd h h4
      · rw [if_neg h3] at h; cases h
  · rw [if_neg h1] at h; cases h
theorem valid_bufs {n : Ns} (h : (validN n).2 = 0) : bufsErr [] n.Bufs = 0 ∧ n.Bufs.length ≤ 128 ∧ withinT 40 n.Body = true ∧ numB n.Body 2000 ≤ 2000 ∧ (chkL n.Bufs [] [] [] 0 n.Body).E = 0:= by
  unfold validN at h
  by_cases h1 : withinT 40 n.Body = true
  · rw [if_pos h1] at h
    by_cases h2 : 2000 < numB n.Body 2000 ∨ 128 < n.Bufs.length
    · rw [if_pos h2] at h; cases h
    · rw [if_neg h2] at h
      by_cases h3 : bufsErr [] n.Bufs = 0
      · rw [if_pos h3] at h; exact ⟨h3,by omega,h1,by omega,h⟩
      · rw [if_neg h3] at h; exact absurd h h3
  · rw [if_neg h1] at h; cases h
theorem lives_valid {n : Ns} (h : (validN n).2 = 0) : validateL (lives n) = 0:= by
  have hb := (valid_bufs h).1
  have key : ∀ k,k ≤ n.Bufs.length → validateL (lives n) = validFrom ((lives n).take k) ((lives n).drop k):= by
    intro k
    induction k with
    | zero => intro _; rfl
    | succ k ih =>
      intro hk
      obtain ⟨b,hbk⟩ := qX n.Bufs k (by omega)
      have hl : (lives n)[k]? = some (lifeOf n.Body b):= by unfold lives; rw [List.getElem?_map,hbk]; rfl
      obtain ⟨q1,q2,q3⟩ := bfErr_inv (bufs_in hb k b hbk)
      obtain ⟨p1,p2,_⟩ := lifeOf_ok n.Body b
      refine valid_ok (ih (by omega)) hl (check_ok q1 ?_ ?_)
      · have e : ((lives n).take k) = (n.Bufs.take k).map (lifeOf n.Body):= by unfold lives; rw [List.map_take]
        rw [e,List.any_map]
        rw [List.nil_append] at q2
        exact q2
      · obtain ⟨_,_,s,hs,s1,s2⟩ := dimsErr_0 q3
        have hsz : (lifeOf n.Body b).Size = s:= by show dimsSize b.Dims = s; exact dimsSize_ok q3 hs
        rw [hsz]; omega
  have := key n.Bufs.length (Nat.le_refl _)
  exact valid_end this (by unfold lives; simp)
end Go.Br
end
section
namespace Go.Br
open Go Go.Eng Go.L41
/-! ## Statements in preorder,with their paths -/
mutual
def preS (here : List Int) : St → List (St × List Int)
  | .mk o nm mn mk fo i e b => (.mk o nm mn mk fo i e b,here) :: preL here 0 b
def preL (way : List Int) : Int → List St → List (St × List Int)
  | _,[] => []
  | i,s :: r => preS (way ++ [i]) s ++ preL way (i + 1) r
end
theorem preS_eq (here : List Int) (s : St) : preS here s = (s,here) :: preL here 0 s.Body:= by cases s; rw [preS]; rfl
theorem zIu (way : List Int) : ∀ (a b : List St) (i : Int),preL way i (a ++ b) = preL way i a ++ preL way (i + a.length) b
  | [],b,i => by simp [preL]
  | x :: r,b,i => by
    rw [List.cons_append,preL,preL,zIu way r b,List.append_assoc,List.length_cons]
    rw [show i + 1 + (r.length : Int) = i + ((r.length + 1 : Nat) : Int) by omega]
theorem preL_next {way : List Int} {l : List St} {k : Nat} {s : St} (h : l[k]? = some s) : preL way 0 (l.take (k + 1)) = preL way 0 (l.take k) ++ preS (way ++ [(k : Int)]) s:= by
  have hk := (List.getElem?_eq_some_iff.1 h).1
  rw [yE h,zIu,List.length_take,Nat.min_eq_left (by omega),Int.zero_add]
  simp [preL]
theorem preL_at {way : List Int} {l : List St} {k : Nat} {s : St} (h : l[k]? = some s) : preL way 0 l = preL way 0 (l.take k) ++ (preS (way ++ [(k : Int)]) s ++ preL way ((k : Int) + 1) (l.drop (k + 1))):= by
  have hk := (List.getElem?_eq_some_iff.1 h).1
  have e : l = l.take k ++ s :: l.drop (k + 1):= by rw [← qS h,List.take_append_drop]
  have e2 := congrArg (preL way 0) e
  rw [zIu,List.length_take,Nat.min_eq_left (by omega),Int.zero_add,preL] at e2
  exact e2
theorem pre_at1 {way : List Int} {l : List St} {k : Nat} {s : St} (h : l[k]? = some s) : preL way 0 l = preL way 0 (l.take k) ++ (s,way ++ [(k : Int)]) :: (preL (way ++ [(k : Int)]) 0 s.Body ++ preL way ((k : Int) + 1) (l.drop (k + 1))):= by
  rw [preL_at h,preS_eq]; rfl
theorem pre_at2 {way : List Int} {l : List St} {k : Nat} {s : St} {pre suf : List (St × List Int)} {x : St × List Int} (h : l[k]? = some s) (hx : preL (way ++ [(k : Int)]) 0 s.Body = pre ++ x :: suf) : preL way 0 l = (preL way 0 (l.take k) ++ (s,way ++ [(k : Int)]) :: pre) ++ x :: (suf ++ preL way ((k : Int) + 1) (l.drop (k + 1))):= by
  rw [pre_at1 h,hx]; simp
mutual
theorem preS_len (here : List Int) : ∀ s : St,(preS here s).length = stN s
  | .mk o nm mn mk fo i e b => by rw [preS,stN,List.length_cons,zJt here b]; omega
theorem zJt (way : List Int) : ∀ (l : List St) (i : Int),(preL way i l).length = stsN l
  | [],i => by rw [preL,stsN]; rfl
  | s :: r,i => by rw [preL,stsN,List.length_append,preS_len,zJt way r]
end
theorem stsN_take {l : List St} {k : Nat} {s : St} (h : l[k]? = some s) : stsN (l.take k) + (1 + stsN s.Body) ≤ stsN l:= by
  have h2 : stsN l = stsN (l.take k) + (stN s + stsN (l.drop (k + 1))):= by
    rw [← stsN,← qS h,← zIo,List.take_append_drop]
  have := zIc s
  omega
def loopNm (s : St) : List ByteArray := if s.Op = 1 then [s.Name] else []
def loopsA (l : List (St × List Int)) : List ByteArray := l.flatMap fun x => loopNm x.1
mutual
def loopsS : St → List ByteArray
  | .mk o nm mn mk fo i e b => loopNm (.mk o nm mn mk fo i e b) ++ loopsL b
def loopsL : List St → List ByteArray
  | [] => []
  | s :: r => loopsS s ++ loopsL r
end
theorem zKb (a b : List (St × List Int)) : loopsA (a ++ b) = loopsA a ++ loopsA b:= by unfold loopsA; rw [List.flatMap_append]
mutual
theorem loopsA_S (here : List Int) : ∀ s : St,loopsA (preS here s) = loopsS s
  | .mk o nm mn mk fo i e b => by
    rw [preS,loopsS,← loopsA_L here b 0]; rfl
theorem loopsA_L (way : List Int) : ∀ (l : List St) (i : Int),loopsA (preL way i l) = loopsL l
  | [],i => by rw [preL,loopsL]; rfl
  | s :: r,i => by rw [preL,loopsL,zKb,loopsA_S,loopsA_L way r]
end
theorem loopsA_one (pre : List (St × List Int)) (x : St × List Int) : loopsA (pre ++ [x]) = loopsA pre ++ loopNm x.1:= by rw [zKb]; simp [loopsA]
theorem loopsA_le : ∀ l : List (St × List Int),(loopsA l).length ≤ l.length
  | [] => by simp [loopsA]
  | x :: r => by
    have h1 := loopsA_le r
    have h2 : loopsA (x :: r) = loopNm x.1 ++ loopsA r := rfl
    have h3 : (loopNm x.1).length ≤ 1:= by unfold loopNm; split <;> simp
    rw [h2,List.length_append,List.length_cons]; omega
theorem zLw (s : St) : (loopNm s).length ≤ 1:= by unfold loopNm; split <;> simp
mutual
theorem loopsS_len : ∀ s : St,(loopsS s).length ≤ stN s
  | .mk o nm mn mk fo i e b => by
    rw [loopsS,stN,List.length_append]
    have := zLw (.mk o nm mn mk fo i e b)
    have := zLu b
    omega
theorem zLu : ∀ l : List St,(loopsL l).length ≤ stsN l
  | [] => by rw [loopsL]; simp
  | s :: r => by rw [loopsL,stsN,List.length_append]; have := loopsS_len s; have := zLu r; omega
end
def isLoop (t : ByteArray) (s : St) : Bool := decide (s.Op = 1) && decide (s.Name = t)
def hitN (t : ByteArray) (x : St × List Int) : Bool := isLoop t x.1
def findA (t : ByteArray) (l : List (St × List Int)) : Option (List Int) := (l.find? (hitN t)).map (·.2)
def findN (l : List St) (t : ByteArray) : Option (List Int) := findA t (preL [] 0 l)
theorem findA_none {t : ByteArray} {l : List (St × List Int)} (h : l.any (hitN t) = false) : findA t l = none:= by
  unfold findA
  rw [List.find?_eq_none.2 (fun x hx hh => by
    rw [List.any_eq_false] at h
    exact h x hx hh)]; rfl
theorem findA_some {t : ByteArray} {pre suf : List (St × List Int)} {x : St × List Int} (h : pre.any (hitN t) = false) (hx : hitN t x = true) : findA t (pre ++ x :: suf) = some x.2:= by
  unfold findA
  rw [List.find?_append,List.find?_eq_none.2 (fun y hy hh => by
    rw [List.any_eq_false] at h
    exact h y hy hh),List.find?_cons_of_pos hx]; rfl
theorem any_one {t : ByteArray} {pre : List (St × List Int)} {x : St × List Int} (h : pre.any (hitN t) = false) (hx : hitN t x = false) : (pre ++ [x]).any (hitN t) = false:= by
  rw [List.any_append,h]; simp [hx]
mutual
def fndS (t : ByteArray) : St → Option (List Int)
  | .mk o nm mn mk fo i e b => if isLoop t (.mk o nm mn mk fo i e b) = true then some [] else fndL t 0 b
def fndL (t : ByteArray) : Int → List St → Option (List Int)
  | _,[] => none
  | i,s :: r => match fndS t s with | some w => some (i :: w) | none => fndL t (i + 1) r
end
theorem fndS_eq (t : ByteArray) (s : St) : fndS t s = if isLoop t s = true then some [] else fndL t 0 s.Body:= by cases s; rw [fndS]; rfl
theorem findA_append (t : ByteArray) (a b : List (St × List Int)) : findA t (a ++ b) = match findA t a with | some w => some w | none => findA t b:= by
  unfold findA
  rw [List.find?_append]
  cases List.find? (hitN t) a <;> rfl
mutual
theorem fndS_find (t : ByteArray) : ∀ (s : St) (here : List Int),findA t (preS here s) = (fndS t s).map (here ++ ·)
  | .mk o nm mn mk fo i e b,here => by
    rw [preS,fndS]
    by_cases h : isLoop t (.mk o nm mn mk fo i e b) = true
    · rw [if_pos h,findA,List.find?_cons_of_pos (by exact h)]; simp
    · rw [if_neg h]
      have : findA t ((.mk o nm mn mk fo i e b,here) :: preL here 0 b) = findA t (preL here 0 b):= by
        unfold findA; rw [List.find?_cons_of_neg (by exact h)]
      rw [this,zQz t b here 0]
theorem zQz (t : ByteArray) : ∀ (l : List St) (way : List Int) (i : Int),findA t (preL way i l) = (fndL t i l).map (way ++ ·)
  | [],way,i => by rw [preL,fndL]; rfl
  | s :: r,way,i => by
    rw [preL,fndL,findA_append,fndS_find t s,zQz t r]
    cases fndS t s <;> simp
end
theorem zGy (l : List St) (t : ByteArray) : findN l t = fndL t 0 l:= by
  unfold findN; rw [zQz]; cases fndL t 0 l <;> simp
theorem fndL_ne (t : ByteArray) : ∀ (l : List St) (i : Int) (u : List Int),fndL t i l = some u → u ≠ []
  | [],i,u,h => by rw [fndL] at h; cases h
  | s :: r,i,u,h => by
    rw [fndL] at h
    cases c : fndS t s with
    | some w => rw [c] at h; simp only [Option.some.injEq] at h; rw [← h]; simp
    | none => rw [c] at h; exact fndL_ne t r (i + 1) u h
mutual
theorem fndS_len (t : ByteArray) : ∀ (s : St) (w : List Int),fndS t s = some w → w.length + 1 ≤ stN s
  | .mk o nm mn mk fo i e b,w,h => by
    rw [fndS] at h
    split at h
    · simp only [Option.some.injEq] at h; rw [← h,stN]; simp
    · rw [stN]; have := fndL_len t b 0 w h; omega
theorem fndL_len (t : ByteArray) : ∀ (l : List St) (i : Int) (w : List Int),fndL t i l = some w → w.length ≤ stsN l
  | [],i,w,h => by rw [fndL] at h; cases h
  | s :: r,i,w,h => by
    rw [fndL] at h
    rw [stsN]
    cases c : fndS t s with
    | some u => rw [c] at h; simp only [Option.some.injEq] at h; rw [← h,List.length_cons]; have := fndS_len t s u c; omega
    | none => rw [c] at h; have := fndL_len t r (i + 1) w h; omega
end
theorem fndL_getD (t : ByteArray) (l : List St) (i : Int) : ((fndL t i l).getD []).length ≤ stsN l:= by
  cases h : fndL t i l with
  | none => simp
  | some w => exact fndL_len t l i w h
theorem findN_ne {t : ByteArray} {l : List St} {u : List Int} (h : findN l t = some u) : u ≠ []:= by rw [zGy] at h; exact fndL_ne t l 0 u h
mutual
def mSt (f : Lf → Lf × Int) (g : ByteArray → ByteArray) : St → Except Int St
  | .mk o nm mn mk fo i e b => match mIxs f i with
    | .error y => .error y
    | .ok i' => match mEx f e with
      | .error y => .error y
      | .ok e' => match mSts f g b with
        | .error y => .error y
        | .ok b' => .ok (.mk o (if o = 1 then g nm else nm) mn mk fo i' e' b')
def mSts (f : Lf → Lf × Int) (g : ByteArray → ByteArray) : List St → Except Int (List St)
  | [] => .ok []
  | s :: r => match mSt f g s with
    | .error y => .error y
    | .ok s' => match mSts f g r with
      | .error y => .error y
      | .ok r' => .ok (s' :: r')
end
theorem mSt_eq (f : Lf → Lf × Int) (g : ByteArray → ByteArray) (s : St) : mSt f g s = match mIxs f s.Idx with
    | .error y => .error y
    | .ok i' => match mEx f s.E with
      | .error y => .error y
      | .ok e' => match mSts f g s.Body with
        | .error y => .error y
        | .ok b' => .ok (.mk s.Op (if s.Op = 1 then g s.Name else s.Name) s.Many s.Mark s.Fold i' e' b'):= by cases s; rw [mSt]; rfl
theorem mSt_e1 {f : Lf → Lf × Int} {g : ByteArray → ByteArray} {s : St} {c : Int} (h : mIxs f s.Idx = .error c) : mSt f g s = .error c:= by rw [mSt_eq,h]
theorem mSt_e2 {f : Lf → Lf × Int} {g : ByteArray → ByteArray} {s : St} {c : Int} {i : List Ix} (h : mIxs f s.Idx = .ok i) (h2 : mEx f s.E = .error c) : mSt f g s = .error c:= by rw [mSt_eq,h]; simp only [h2]
theorem mSt_e3 {f : Lf → Lf × Int} {g : ByteArray → ByteArray} {s : St} {c : Int} {i : List Ix} {e : Ex} (h : mIxs f s.Idx = .ok i) (h2 : mEx f s.E = .ok e) (h3 : mSts f g s.Body = .error c) : mSt f g s = .error c:= by rw [mSt_eq,h]; simp only [h2,h3]
theorem mSt_ok {f : Lf → Lf × Int} {g : ByteArray → ByteArray} {s : St} {i : List Ix} {e : Ex} {b : List St} (h : mIxs f s.Idx = .ok i) (h2 : mEx f s.E = .ok e) (h3 : mSts f g s.Body = .ok b) : mSt f g s = .ok (.mk s.Op (if s.Op = 1 then g s.Name else s.Name) s.Many s.Mark s.Fold i e b):= by rw [mSt_eq,h]; simp only [h2,h3]
mutual
theorem mSt_ne {f : Lf → Lf × Int} {g : ByteArray → ByteArray} : ∀ s : St,mSt f g s ≠ .error 0
  | .mk o nm mn mk fo i e b => by
    rw [mSt]
    cases h1 : mIxs f i with
    | error y => intro h; cases h; exact zQk h1
    | ok a =>
      cases h2 : mEx f e with
      | error y => intro h; simp only at h; cases h; exact mEx_ne e h2
      | ok a =>
        cases h3 : mSts f g b with
        | error y => intro h; simp only at h; cases h; exact mSts_ne b h3
        | ok a => simp
theorem mSts_ne {f : Lf → Lf × Int} {g : ByteArray → ByteArray} : ∀ l : List St,mSts f g l ≠ .error 0
  | [] => by simp [mSts]
  | x :: r => by
    rw [mSts]
    cases h1 : mSt f g x with
    | error y => intro h; cases h; exact mSt_ne x h1
    | ok a =>
      cases h2 : mSts f g r with
      | error y => intro h; simp only at h; cases h; exact mSts_ne r h2
      | ok a => simp
end
def outS : Except Int (List St) → List St
  | .ok l => l
  | .error _ => []
theorem mSts_next {f : Lf → Lf × Int} {g : ByteArray → ByteArray} {l : List St} {k : Nat} {x y : St} {done : List St} (h : l[k]? = some x) (hp : mSts f g l = mapRest done (mSts f g (l.drop k))) (hx : mSt f g x = .ok y) : mSts f g l = mapRest (done ++ [y]) (mSts f g (l.drop (k + 1))):= by
  rw [hp,qS h,mSts,hx]
  cases mSts f g (l.drop (k + 1)) <;> simp [mapRest,andThenE]
theorem zLt {f : Lf → Lf × Int} {g : ByteArray → ByteArray} {l : List St} {k : Nat} {x : St} {done : List St} {c : Int} (h : l[k]? = some x) (hp : mSts f g l = mapRest done (mSts f g (l.drop k))) (hx : mSt f g x = .error c) : mSts f g l = .error c:= by
  rw [hp,qS h,mSts,hx]; rfl
theorem mSts_end {f : Lf → Lf × Int} {g : ByteArray → ByteArray} {l : List St} {k : Nat} {done : List St} (hp : mSts f g l = mapRest done (mSts f g (l.drop k))) (h : ¬ k < l.length) : mSts f g l = .ok done:= by
  rw [hp,yT h]; simp [mSts,mapRest,andThenE]
def ixsAll (P : Lf → Prop) (i : List Ix) : Prop := ∀ x,x ∈ i → P x.Lin ∧ ∀ l,l ∈ x.At → P l
mutual
def St.allF (P : Lf → Prop) : St → Prop
  | .mk _ _ _ _ _ i e b => ixsAll P i ∧ e.allF P ∧ allSs P b
def allSs (P : Lf → Prop) : List St → Prop
  | [] => True
  | s :: r => s.allF P ∧ allSs P r
end
theorem St.allF_eq {P : Lf → Prop} {s : St} (h : s.allF P) : ixsAll P s.Idx ∧ s.E.allF P ∧ allSs P s.Body:= by cases s; rw [St.allF] at h; exact h
theorem zLd {P : Lf → Prop} : ∀ {l : List St},allSs P l → ∀ s,s ∈ l → s.allF P
  | [],_,s,hs => by cases hs
  | x :: r,h,s,hs => by
    rw [allSs] at h
    rcases List.mem_cons.1 hs with rfl | hs
    · exact h.1
    · exact zLd h.2 s hs
theorem allSs_of {P : Lf → Prop} : ∀ {l : List St},(∀ s,s ∈ l → s.allF P) → allSs P l
  | [],_ => by rw [allSs]; trivial
  | x :: r,h => by rw [allSs]; exact ⟨h x (by simp),allSs_of fun s hs => h s (by simp [hs])⟩
end Go.Br
end
section
namespace Go.Br
open Go Go.Eng Go.L41
def zSt : St := .mk 0 (bs []) 0 0 0 [] zEx []
def trl : List Int → List St → List St → List St
  | [],_,out => out
  | i :: r,l,out => if 0 ≤ i ∧ i < l.length then trl r (l.getD i.toNat zSt).Body (out ++ [l.getD i.toNat zSt]) else []
def trailT (l : List St) (way : List Int) : List St := trl way l []
theorem trl_next {way : List Int} {k : Nat} {i : Int} {l : List St} {out R : List St} (h : way[k]? = some i) (hp : R = trl (way.drop k) l out) (hi : 0 ≤ i ∧ i < l.length) : R = trl (way.drop (k + 1)) (l.getD i.toNat zSt).Body (out ++ [l.getD i.toNat zSt]):= by
  rw [hp,qS h,trl,if_pos hi]
theorem trl_no {way : List Int} {k : Nat} {i : Int} {l : List St} {out R : List St} (h : way[k]? = some i) (hp : R = trl (way.drop k) l out) (hi : ¬ (0 ≤ i ∧ i < l.length)) : R = []:= by
  rw [hp,qS h,trl,if_neg hi]
theorem trl_end {way : List Int} {k : Nat} {l : List St} {out R : List St} (hp : R = trl (way.drop k) l out) (h : ¬ k < way.length) : R = out:= by
  rw [hp,yT h,trl]
theorem stD_get {l : List St} {i : Int} (h : 0 ≤ i ∧ i < l.length) : l[i.toNat]? = some (l.getD i.toNat zSt):= by
  have : i.toNat < l.length:= by omega
  rw [List.getElem?_eq_getElem this,List.getD,List.getElem?_eq_getElem this]; rfl
theorem trl_len : ∀ (way : List Int) (l out : List St),(trl way l out).length ≤ out.length + way.length
  | [],l,out => by simp [trl]
  | i :: r,l,out => by
    rw [trl]; split
    · have := trl_len r (l.getD i.toNat zSt).Body (out ++ [l.getD i.toNat zSt])
      simp only [List.length_append,List.length_cons,List.length_nil] at this ⊢; omega
    · simp
def bdNm (s : St) : List Bd := if s.Op = 1 then [⟨s.Name,s.Many⟩] else []
def enclT (l : List St) (way : List Int) : List Bd := (trailT l way).dropLast.flatMap bdNm
theorem bdNm_yes {s : St} (h : s.Op = 1) : bdNm s = [⟨s.Name,s.Many⟩]:= by unfold bdNm; rw [if_pos h]
theorem bdNm_no {s : St} (h : ¬ s.Op = 1) : bdNm s = []:= by unfold bdNm; rw [if_neg h]
theorem enc_step {l : List St} {way : List Int} {k : Nat} {s : St} (h : (trailT l way)[k]? = some s) : ((trailT l way).take (k + 1)).flatMap bdNm = ((trailT l way).take k).flatMap bdNm ++ bdNm s:= by
  rw [yE h,List.flatMap_append]; simp
theorem enc_all {l : List St} {way : List Int} {k : Nat} (h : k = (trailT l way).length - 1) : ((trailT l way).take k).flatMap bdNm = enclT l way:= by
  unfold enclT; rw [List.dropLast_eq_take,h]
theorem bdNm_len (s : St) : (bdNm s).length ≤ 1:= by unfold bdNm; split <;> simp
theorem enc_len : ∀ (l : List St),(l.flatMap bdNm).length ≤ l.length
  | [] => by simp
  | x :: r => by rw [List.flatMap_cons,List.length_append,List.length_cons]; have := enc_len r; have := bdNm_len x; omega
end Go.Br
end
section
namespace Go.Br
open Go Go.Eng Go.L41
/-! ## Numerals -/
def decB (n : Nat) : ByteArray := ⟨(Lib.decDigits n).toArray⟩
def valD (l : List UInt8) : Nat := l.foldl (fun a c => a * 10 + (c.toNat - 48)) 0
theorem zOi {n : Nat} (h : n < 10) : (UInt8.ofNat (48 + n)).toNat = 48 + n:= by
  rw [UInt8.toNat_ofNat']; omega
theorem dec_big {u : Nat} (h : ¬ u < 10) : Lib.decDigits u = Lib.decDigits (u / 10) ++ [UInt8.ofNat (48 + u % 10)]:= by rw [Lib.decDigits,dif_neg h]
theorem valD_dec (u : Nat) : valD (Lib.decDigits u) = u:= by
  induction u using Nat.strongRecOn with
  | _ u ih =>
    by_cases h : u < 10
    · rw [Lib.decDigits_one h]
      unfold valD
      simp only [List.foldl_cons,List.foldl_nil]
      rw [zOi h]; omega
    · rw [dec_big h]
      unfold valD at *
      rw [List.foldl_append,ih (u / 10) (by omega)]
      simp only [List.foldl_cons,List.foldl_nil]
      rw [zOi (by omega)]; omega
theorem decB_inj {j k : Nat} (h : decB j = decB k) : j = k:= by
  unfold decB at h
  have h := congrArg (fun b : ByteArray => valD b.data.toList) h
  have h : valD (Lib.decDigits j) = valD (Lib.decDigits k) := h
  rw [valD_dec,valD_dec] at h; exact h
theorem nDig_le : ∀ (k u : Nat),1 ≤ k → u < 10 ^ k → Lib.nDigits u ≤ k
  | 0,u,h,_ => by omega
  | k + 1,u,_,h => by
    by_cases h1 : u < 10
    · rw [Lib.nDigits_small h1]; omega
    · rw [Lib.nDigits_big h1]
      by_cases hk : k = 0
      · subst hk; omega
      · have := nDig_le k (u / 10) (by omega) (by rw [Nat.pow_succ] at h; omega)
        omega
theorem decB_size {n : Nat} (h : n < 10 ^ 19) : (decB n).size ≤ 19:= by
  have : (decB n).size = (Lib.decDigits n).length:= by unfold decB; simp [ByteArray.size]
  rw [this,Lib.decDigits_length]
  exact nDig_le 19 n (by omega) h
def nmK (base : ByteArray) (k : Nat) : ByteArray := if k = 0 then base else base ++ decB k
theorem app_left {a b c : ByteArray} (h : a ++ b = a ++ c) : b = c:= by
  have := congrArg (fun x : ByteArray => x.data.toList) h
  simp only [ByteArray.data_append,Array.toList_append] at this
  have := List.append_cancel_left this
  apply ByteArray.ext
  exact Array.toList_inj.1 this
theorem decB_ne (k : Nat) : (decB k).size ≠ 0:= by
  have : (decB k).size = (Lib.decDigits k).length:= by unfold decB; simp [ByteArray.size]
  rw [this,Lib.decDigits_length]
  have := Lib.nDigits_pos k; omega
theorem nmK_inj {base : ByteArray} {j k : Nat} (h : nmK base j = nmK base k) : j = k:= by
  unfold nmK at h
  by_cases hj : j = 0
  · rw [if_pos hj] at h
    by_cases hk : k = 0
    · omega
    · rw [if_neg hk] at h
      have := congrArg ByteArray.size h
      rw [ByteArray.size_append] at this
      exact absurd (show (decB k).size = 0 by omega) (decB_ne k)
  · rw [if_neg hj] at h
    by_cases hk : k = 0
    · rw [if_pos hk] at h
      have := congrArg ByteArray.size h
      rw [ByteArray.size_append] at this
      exact absurd (show (decB j).size = 0 by omega) (decB_ne j)
    · rw [if_neg hk] at h
      exact decB_inj (app_left h)
theorem nodup_len {α : Type} [DecidableEq α] : ∀ {l L : List α},l.Nodup → (∀ x,x ∈ l → x ∈ L) → l.length ≤ L.length
  | [],_,_,_ => by simp
  | x :: r,L,h,hs => by
    rw [List.nodup_cons] at h
    have hx := hs x (by simp)
    have := nodup_len (l := r) (L := L.erase x) h.2 fun y hy => by
      have hne : y ≠ x := fun e => h.1 (e ▸ hy)
      exact (List.mem_erase_of_ne hne).2 (hs y (by simp [hy]))
    rw [List.length_erase_of_mem hx] at this
    have := List.length_pos_of_mem hx
    rw [List.length_cons]; omega
theorem zNy {L : List ByteArray} {base : ByteArray} {k : Nat} (h : ∀ j,j < k → hasB L (nmK base j) = true) : k ≤ L.length:= by
  have := nodup_len (l := (List.range k).map (nmK base)) (L := L) ?_ ?_
  · simpa using this
  · exact List.Pairwise.map _ (fun a b hab h => hab (nmK_inj h)) List.nodup_range
  · intro x hx
    obtain ⟨j,hj,rfl⟩ := List.mem_map.1 hx
    exact zAi.1 (h j (List.mem_range.1 hj))
def freshK (L : List ByteArray) (base : ByteArray) : Nat := ((List.range (L.length + 1)).find? fun k => !hasB L (nmK base k)).getD 0
def freshT (L : List ByteArray) (base : ByteArray) : ByteArray := nmK base (freshK L base)
theorem zKk {L : List ByteArray} {base : ByteArray} {k : Nat} (h : ∀ j,j < k → hasB L (nmK base j) = true) (hk : hasB L (nmK base k) = false) : freshT L base = nmK base k:= by
  have hle := zNy h
  unfold freshT freshK
  have : (List.range (L.length + 1)).find? (fun k => !hasB L (nmK base k)) = some k:= by
    rw [List.find?_range_eq_some]
    exact ⟨by rw [hk]; rfl,List.mem_range.2 (by omega),fun j hj => by rw [h j hj]; rfl⟩
  rw [this]; rfl
theorem fresh_is (L : List ByteArray) (base : ByteArray) : (∀ j,j < freshK L base → hasB L (nmK base j) = true) ∧ hasB L (freshT L base) = false:= by
  have hex : ∃ k,(∀ j,j < k → hasB L (nmK base j) = true) ∧ hasB L (nmK base k) = false:= by
    apply Classical.byContradiction
    intro hn
    have hall : ∀ k,∀ j,j < k → hasB L (nmK base j) = true:= by
      intro k
      induction k with
      | zero => intro j hj; omega
      | succ k ih =>
        intro j hj
        by_cases h : j < k
        · exact ih j h
        · have : j = k:= by omega
          subst this
          cases hh : hasB L (nmK base j) with
          | true => rfl
          | false => exact absurd ⟨j,ih,hh⟩ hn
    have := zNy (hall (L.length + 1))
    omega
  obtain ⟨k,h1,h2⟩ := hex
  have e := zKk h1 h2
  have e2 : freshK L base = k := nmK_inj e
  rw [e,e2]
  exact ⟨h1,h2⟩
theorem fresh_congr {L M : List ByteArray} (h : ∀ t,hasB L t = hasB M t) (base : ByteArray) : freshT L base = freshT M base:= by
  obtain ⟨h1,h2⟩ := fresh_is L base
  exact (zKk (fun j hj => by rw [← h]; exact h1 j hj) (by rw [← h]; exact h2)).symm
theorem fresh_next {L : List ByteArray} {base : ByteArray} {k : Nat} (h : ∀ j,j < k → hasB L (nmK base j) = true) (hk : hasB L (nmK base k) = true) : ∀ j,j < k + 1 → hasB L (nmK base j) = true:= by
  intro j hj
  by_cases hjk : j < k
  · exact h j hjk
  · rw [show j = k by omega]; exact hk
theorem nmK_succ (base : ByteArray) (k : Nat) : base ++ decB (k + 1) = nmK base (k + 1):= by unfold nmK; rw [if_neg (by omega)]
/-! ## Sets of names -/
abbrev BM := List (ByteArray × Bool)
def putB (m : BM) (t : ByteArray) : BM := mput m t true
theorem putB_get (u : ByteArray) : ∀ (l : List ByteArray) (m : BM),mget (l.foldl putB m) u = if hasB l u = true then some true else mget m u
  | [],m => by simp [hasB]
  | t :: r,m => by
    rw [List.foldl_cons,putB_get u r,zCp]
    unfold putB
    rw [mget_mput]
    by_cases h : t = u
    · subst h; simp
    · rw [if_neg h,decide_eq_false h,Bool.false_or]
theorem set_has (l : List ByteArray) (u : ByteArray) : (mget (l.foldl putB []) u).getD false = hasB l u:= by
  rw [putB_get]
  by_cases h : hasB l u = true
  · rw [if_pos h,h]; rfl
  · rw [if_neg h]; simp only [mget,Option.getD_none]; simpa using h
theorem set_next (m : BM) (l : List ByteArray) (t : ByteArray) : putB (l.foldl putB m) t = (l ++ [t]).foldl putB m:= by rw [List.foldl_append]; rfl
/-! ## Names in use -/
def indexW (e : Ex) : List ByteArray := insWs [] (namesA (nodes e))
theorem zHr (e : Ex) (t : ByteArray) : hasB (indexW e) t = hasB (namesA (nodes e)) t:= by unfold indexW; rw [insWs_has]; simp [hasB]
theorem indexT_has (e : Ex) (t : ByteArray) : hasB (indexT e) t = hasB (namesA (nodes e)) t := hasB_congr ⟨fun h => zKa.1 (mem_thinB h),fun h => thin_mem (zKa.2 h)⟩
theorem indexW_len (e : Ex) : (indexW e).length ≤ e.wt:= by
  have := insWs0_len (namesA (nodes e))
  have := zDs e
  unfold indexW; omega
def namesI (i : List Ix) : List ByteArray := (i.flatMap ixF).flatMap namesF
def rdX (i : List Ix) : Ex := .mk 3 (bs []) ⟨0,0⟩ ⟨0,0,0,0,0⟩ ⟨0,[]⟩ i []
theorem rdX_wt (i : List Ix) : (rdX i).wt = 1 + i.length + idxWt i:= by
  rw [Ex.wt_eq]; simp only [rdX,Ex.Lin,Ex.Idx,Ex.Args,argsWt,List.length_nil]; omega
theorem rdX_names (i : List Ix) : namesA (nodes (rdX i)) = namesI i:= by
  rw [kK]
  have : nodesL (rdX i).Args = [] := rfl
  rw [this]
  simp [namesA,namesN,formsL,rdX,Ex.Lin,Ex.Idx,namesF,namesI,ixF]
def takHd (s : St) : List ByteArray := loopNm s ++ indexW (rdX s.Idx) ++ indexW s.E
mutual
def takS : St → List ByteArray
  | .mk o nm mn mk fo i e b => takHd (.mk o nm mn mk fo i e b) ++ takL b
def takL : List St → List ByteArray
  | [] => []
  | s :: r => takS s ++ takL r
end
theorem takHd_len (s : St) : (takHd s).length + stsWt s.Body ≤ s.wt + 1:= by
  unfold takHd
  rw [List.length_append,List.length_append,St.wt_eq]
  have h1 := zLw s
  have h2 := indexW_len (rdX s.Idx)
  have h3 := indexW_len s.E
  rw [rdX_wt] at h2
  omega
mutual
theorem takS_len : ∀ s : St,(takS s).length ≤ 2 * s.wt
  | .mk o nm mn mk fo i e b => by
    rw [takS,List.length_append]
    have h1 := takHd_len (.mk o nm mn mk fo i e b)
    have h2 := takL_len b
    have h3 := St.wt_eq (.mk o nm mn mk fo i e b)
    simp only [St.Body] at h1 h3
    omega
theorem takL_len : ∀ l : List St,(takL l).length ≤ 2 * stsWt l
  | [] => by rw [takL]; simp
  | s :: r => by rw [takL,stsWt,List.length_append]; have := takS_len s; have := takL_len r; omega
end
def markHd (s : St) : List ByteArray := loopNm s ++ indexT s.E ++ namesI s.Idx
def markA (l : List (St × List Int)) : List ByteArray := l.flatMap fun x => markHd x.1
theorem zGp (a b : List (St × List Int)) : markA (a ++ b) = markA a ++ markA b:= by unfold markA; rw [List.flatMap_append]
theorem markA_one (pre : List (St × List Int)) (x : St × List Int) : markA (pre ++ [x]) = markA pre ++ markHd x.1:= by rw [zGp]; simp [markA]
theorem markHd_has (s : St) (t : ByteArray) : hasB (markHd s) t = hasB (takHd s) t:= by
  unfold markHd takHd
  rw [kB,kB,kB,kB,indexT_has,zHr,zHr,rdX_names,Bool.or_assoc,Bool.or_assoc,Bool.or_comm (hasB (namesI s.Idx) t)]
mutual
theorem markS_has (t : ByteArray) : ∀ (s : St) (here : List Int),hasB (markA (preS here s)) t = hasB (takS s) t
  | .mk o nm mn mk fo i e b,here => by
    rw [preS,takS,kB,← markHd_has,← zQi t b here 0,← kB]; rfl
theorem zQi (t : ByteArray) : ∀ (l : List St) (way : List Int) (i : Int),hasB (markA (preL way i l)) t = hasB (takL l) t
  | [],way,i => by rw [preL,takL]; rfl
  | s :: r,way,i => by rw [preL,takL,zGp,kB,kB,markS_has t s,zQi t r]
end
def usedT (n : Ns) : List ByteArray := takL n.Body ++ n.Bufs.map Bf.Name
def usedP (n : Ns) : List ByteArray := n.Bufs.map Bf.Name ++ markA (preL [] 0 n.Body)
theorem used_has (n : Ns) (t : ByteArray) : hasB (usedP n) t = hasB (usedT n) t:= by
  unfold usedP usedT
  rw [kB,kB,zQi,Bool.or_comm]
def freshN (n : Ns) (base : ByteArray) : ByteArray := freshT (usedT n) base
theorem freshP (n : Ns) (base : ByteArray) : freshT (usedP n) base = freshN n base := fresh_congr (used_has n) base
/-! ## Bounds and steps of the reference's lists -/
theorem linsP_len : ∀ (l : List Lf) (i : Nat),((l.take i).flatMap namesF).length ≤ linsWt l
  | [],i => by simp
  | x :: r,0 => by simp
  | x :: r,i + 1 => by
    rw [List.take_succ_cons,List.flatMap_cons,List.length_append,linsWt]
    have := linsP_len r i
    have : (namesF x).length = x.L.length:= by unfold namesF; rw [List.length_map]
    omega
theorem idxP_len : ∀ (l : List Ix) (i : Nat),(((l.take i).flatMap ixF).flatMap namesF).length ≤ idxWt l
  | [],i => by simp
  | x :: r,0 => by simp
  | x :: r,i + 1 => by
    rw [List.take_succ_cons,List.flatMap_cons,List.flatMap_append,List.length_append,idxWt]
    have h1 := idxP_len r i
    have h2 := linsP_len x.At x.At.length
    rw [List.take_length] at h2
    have h3 : (namesF x.Lin).length = x.Lin.L.length:= by unfold namesF; rw [List.length_map]
    have h4 : ((ixF x).flatMap namesF).length = (namesF x.Lin).length + (x.At.flatMap namesF).length:= by
      show ((x.Lin :: x.At).flatMap namesF).length = _
      rw [List.flatMap_cons,List.length_append]
    rw [Ix.wt]; omega
theorem usedT_len (n : Ns) : (usedT n).length ≤ 2 * stsWt n.Body + n.Bufs.length:= by
  unfold usedT
  rw [List.length_append,List.length_map]
  have := takL_len n.Body; omega
theorem short_t {s : St} (c : ((decide ((100 : Int) < s.Name.size) || decide ((20 : Int) < s.Idx.length)) || !shortL s.Body) = true) : shortT s = false:= by
  rw [shortT_eq]
  rw [Bool.or_eq_true,Bool.or_eq_true,decide_eq_true_eq,decide_eq_true_eq] at c
  rcases c with (c | c) | c
  · rw [decide_eq_false (show ¬ s.Name.size ≤ 100 by omega)]; rfl
  · rw [decide_eq_false (show ¬ s.Idx.length ≤ 20 by omega),Bool.and_false]; rfl
  · have : shortL s.Body = false:= by simpa using c
    rw [this,Bool.and_false]
theorem short_f {s : St} (c : ((decide ((100 : Int) < s.Name.size) || decide ((20 : Int) < s.Idx.length)) || !shortL s.Body) = false) : shortT s = true:= by
  rw [shortT_eq]
  rw [Bool.or_eq_false_iff,Bool.or_eq_false_iff,decide_eq_false_iff_not,decide_eq_false_iff_not] at c
  rw [decide_eq_true (show s.Name.size ≤ 100 by omega),decide_eq_true (show s.Idx.length ≤ 20 by omega)]
  simpa using c.2
theorem fewB_t {b : Bf} (c : (decide ((20 : Int) < b.Dims.length) || decide ((100 : Int) < b.Name.size)) = true) : fewBf b = false:= by
  unfold fewBf
  rw [Bool.or_eq_true,decide_eq_true_eq,decide_eq_true_eq] at c
  rcases c with c | c
  · rw [decide_eq_false (show ¬ b.Dims.length ≤ 20 by omega)]; rfl
  · rw [decide_eq_false (show ¬ b.Name.size ≤ 100 by omega),Bool.and_false]
theorem fewB_f {b : Bf} (c : (decide ((20 : Int) < b.Dims.length) || decide ((100 : Int) < b.Name.size)) = false) : fewBf b = true:= by
  unfold fewBf
  rw [Bool.or_eq_false_iff,decide_eq_false_iff_not,decide_eq_false_iff_not] at c
  rw [decide_eq_true (show b.Dims.length ≤ 20 by omega),decide_eq_true (show b.Name.size ≤ 100 by omega)]; rfl
theorem few_1 {n : Ns} {m : Nat} (h : 150 < n.Bufs.length) : fewN n m = false:= by unfold fewN; rw [decide_eq_false (by omega)]; rfl
theorem few_2 {n : Ns} {m k : Nat} {b : Bf} (h : n.Bufs[k]? = some b) (hb : fewBf b = false) : fewN n m = false:= by unfold fewN; rw [zIk h hb,Bool.and_false]; rfl
theorem few_3 {n : Ns} {m : Nat} (h : n.Bufs.length ≤ 150) (hb : n.Bufs.all fewBf = true) : fewS n.Body m = fewN n m:= by unfold fewN; rw [hb,decide_eq_true h]; rfl
theorem few_parts {n : Ns} {m : Nat} (h : fewN n m = true) : n.Bufs.length ≤ 150 ∧ n.Bufs.all fewBf = true ∧ weighB n.Body m ≤ m ∧ shortL n.Body = true:= by
  unfold fewN fewS at h
  simp only [Bool.and_eq_true,decide_eq_true_eq] at h
  exact ⟨h.1.1,h.1.2,h.2.1,h.2.2⟩
def rdZ (i : List Ix) : Ex := .mk 0 (bs []) ⟨0,0⟩ ⟨0,0,0,0,0⟩ ⟨0,[]⟩ i []
theorem rdZ_wt (i : List Ix) : (rdZ i).wt = 1 + i.length + idxWt i:= by
  rw [Ex.wt_eq]; simp only [rdZ,Ex.Lin,Ex.Idx,Ex.Args,argsWt,List.length_nil]; omega
theorem markHd_len (s : St) : (markHd s).length + stsWt s.Body ≤ s.wt:= by
  unfold markHd
  rw [List.length_append,List.length_append,St.wt_eq]
  have h1 := zLw s
  have h2 : (indexT s.E).length ≤ s.E.wt:= by
    unfold indexT
    have h1 := thin_len (sortB (namesA (nodes s.E)))
    have h2 := zPa (namesA (nodes s.E))
    have h3 := zDs s.E
    omega
  have h3 : (namesI s.Idx).length ≤ idxWt s.Idx:= by
    have := idxP_len s.Idx s.Idx.length
    rw [List.take_length] at this; exact this
  omega
mutual
theorem markS_len : ∀ (s : St) (here : List Int),(markA (preS here s)).length ≤ s.wt
  | .mk o nm mn mk fo i e b,here => by
    have q : markA (preS here (.mk o nm mn mk fo i e b)) = markHd (.mk o nm mn mk fo i e b) ++ markA (preL here 0 b):= by rw [preS]; rfl
    rw [q,List.length_append]
    have h1 := markHd_len (.mk o nm mn mk fo i e b)
    have h2 := zQh b here 0
    simp only [St.Body] at h1
    omega
theorem zQh : ∀ (l : List St) (way : List Int) (i : Int),(markA (preL way i l)).length ≤ stsWt l
  | [],way,i => by rw [preL]; simp [markA]
  | s :: r,way,i => by rw [preL,stsWt,zGp,List.length_append]; have := markS_len s (way ++ [i]); have := zQh r way (i + 1); omega
end
theorem usedP_len (n : Ns) : (usedP n).length ≤ stsWt n.Body + n.Bufs.length:= by
  unfold usedP
  rw [List.length_append,List.length_map]
  have := zQh n.Body [] 0; omega
theorem mark_ix {i : List Ix} {k : Nat} {x : Ix} {m : BM} (h : i[k]? = some x) : (x.At.flatMap namesF).foldl putB ((namesF x.Lin).foldl putB ((((i.take k).flatMap ixF).flatMap namesF).foldl putB m)) = (((i.take (k + 1)).flatMap ixF).flatMap namesF).foldl putB m:= by
  rw [yE h,List.flatMap_append,List.flatMap_append,List.foldl_append,← List.foldl_append]
  simp [ixF]
theorem mark_at {l : List Lf} {j : Nat} {x : Lf} {m : BM} (h : l[j]? = some x) : (namesF x).foldl putB (((l.take j).flatMap namesF).foldl putB m) = ((l.take (j + 1)).flatMap namesF).foldl putB m:= by
  rw [yE h,List.flatMap_append,List.foldl_append]
  simp
theorem set_at {A L : List ByteArray} {k : Nat} {t : ByteArray} {m : BM} (h : L[k]? = some t) : putB ((A ++ L.take k).foldl putB m) t = (A ++ L.take (k + 1)).foldl putB m:= by
  rw [yE h,← List.append_assoc]; exact set_next m (A ++ L.take k) t
end Go.Br
end
section
namespace Go.Br
open Go Go.Eng Go.L41
/-! ## One form: a name for a name -/
def vrL (t : ByteArray) : Lf := ⟨0,[⟨t,1⟩]⟩
theorem vrL_ok {t : ByteArray} (h : isNameB t = true) : linOk (vrL t) = true:= by show (isNameB t && _ && _ && _) = true; rw [h]; rfl
def softR (f t : ByteArray) (l : Lf) : Lf := if (substR l f (vrL t)).2 = 0 then (substR l f (vrL t)).1 else l
theorem zGo : ∀ (n : Nat) (a b : List Mono),a.length + b.length ≤ n → (∀ x,x ∈ a → ∀ y,y ∈ b → x.Name ≠ y.Name) → ∀ t,t ∈ mergeL a b ↔ (∃ m,m ∈ a ∧ t = (m.Name,m.By,0)) ∨ ∃ m,m ∈ b ∧ t = (m.Name,0,m.By)
  | _,[],[],_,_,t => by rw [mergeL_nil]; simp
  | 0,_ :: _,_,h,_,_ => by simp at h
  | 0,[],_ :: _,h,_,_ => by simp at h
  | n + 1,x :: r,[],h,hd,t => by
    rw [zJz,List.mem_cons,zGo n r [] (by simp at h ⊢; omega) (fun _ _ _ hy => by cases hy) t]
    simp
  | n + 1,[],y :: s,h,hd,t => by
    rw [zJy,List.mem_cons,zGo n [] s (by simp at h ⊢; omega) (fun _ hx => by cases hx) t]
    simp
  | n + 1,x :: r,y :: s,h,hd,t => by
    rw [zEr]
    cases h1 : strLt x.Name y.Name with
    | true =>
      rw [cond_true,List.mem_cons,zGo n r (y :: s) (by simp at h ⊢; omega) (fun a ha b hb => hd a (by simp [ha]) b hb) t]
      simp only [List.mem_cons,exists_eq_or_imp,or_assoc]
    | false =>
      rw [cond_false]
      cases h2 : strLt y.Name x.Name with
      | true =>
        rw [cond_true,List.mem_cons,zGo n (x :: r) s (by simp at h ⊢; omega) (fun a ha b hb => hd a ha b (by simp [hb])) t]
        simp only [List.mem_cons,exists_eq_or_imp]
        constructor
        · rintro (h | h | h)
          · exact .inr (.inl h)
          · exact .inl h
          · exact .inr (.inr h)
        · rintro (h | h | h)
          · exact .inr (.inl h)
          · exact .inl h
          · exact .inr (.inr h)
      | false => exact absurd (strLt_tri h1 h2) (hd x (by simp) y (by simp))
theorem sum_mem {ts : List Tr} {m : Mono} : m ∈ sumW ts ↔ ∃ u,u ∈ ts ∧ w64 (trV u) ≠ 0 ∧ m = ⟨u.1,w64 (trV u)⟩:= by
  unfold sumW
  rw [List.mem_filterMap]
  constructor
  · rintro ⟨u,hu,e⟩
    by_cases c : w64 (trV u) = 0
    · rw [if_pos c] at e; cases e
    · rw [if_neg c] at e; injection e with e; exact ⟨u,hu,c,e.symm⟩
  · rintro ⟨u,hu,c,e⟩
    exact ⟨u,hu,by rw [if_neg c,e]⟩
theorem ren_sum {a : List Mono} {t : ByteArray} {b : Int} (ha : ∀ m,m ∈ a → m.Name ≠ t ∧ m.By ≠ 0 ∧ r64 m.By) (hb : b ≠ 0) (hr : r64 b) :
    (mulT b (mergeL a [⟨t,1⟩])).all trOk = true ∧ ∀ m,m ∈ sumW (mulT b (mergeL a [⟨t,1⟩])) ↔ m ∈ a ∨ m = ⟨t,b⟩:= by
  have key : ∀ u,u ∈ mulT b (mergeL a [⟨t,1⟩]) ↔ (∃ m,m ∈ a ∧ u = (m.Name,m.By,0)) ∨ u = (t,0,b):= by
    intro u
    unfold mulT
    rw [List.mem_map]
    have hm := zGo _ a [⟨t,1⟩] (Nat.le_refl _) (fun x hx y hy => by
      rw [List.mem_singleton] at hy; subst hy; exact (ha x hx).1)
    constructor
    · rintro ⟨v,hv,rfl⟩
      rcases (hm v).1 hv with ⟨m,h1,rfl⟩ | ⟨m,h1,rfl⟩
      · exact .inl ⟨m,h1,by simp⟩
      · rw [List.mem_singleton] at h1; subst h1; exact .inr (by simp)
    · rintro (⟨m,h1,rfl⟩ | rfl)
      · exact ⟨(m.Name,m.By,0),(hm _).2 (.inl ⟨m,h1,rfl⟩),by simp⟩
      · exact ⟨(t,0,1),(hm _).2 (.inr ⟨_,List.mem_singleton.2 rfl,rfl⟩),by simp⟩
  have v1 : ∀ m : Mono,trV (m.Name,m.By,0) = m.By := fun m => by simp [trV]
  have v2 : trV (t,0,b) = b:= by simp [trV]
  constructor
  · rw [List.all_eq_true]
    intro u hu
    unfold trOk
    rcases (key u).1 hu with ⟨m,h1,rfl⟩ | rfl
    · rw [v1]; exact decide_eq_true (ha m h1).2.2
    · rw [v2]; exact decide_eq_true hr
  · intro m
    rw [sum_mem]
    constructor
    · rintro ⟨u,hu,h1,rfl⟩
      rcases (key u).1 hu with ⟨x,h2,rfl⟩ | rfl
      · rw [v1,zMp (ha x h2).2.2]; exact .inl h2
      · rw [v2,zMp hr]; exact .inr rfl
    · rintro (h1 | rfl)
      · exact ⟨_,(key _).2 (.inl ⟨m,h1,rfl⟩),by rw [v1,zMp (ha m h1).2.2]; exact (ha m h1).2.1,by rw [v1,zMp (ha m h1).2.2]⟩
      · exact ⟨_,(key _).2 (.inr rfl),by rw [v2,zMp hr]; exact hb,by rw [v2,zMp hr]⟩
theorem monos_uniq : ∀ {p : Option ByteArray} {l : List Mono},monosOk p l = true → ∀ x,x ∈ l → ∀ y,y ∈ l → x.Name = y.Name → x = y
  | _,[],_,x,hx,_,_,_ => by cases hx
  | p,z :: r,h,x,hx,y,hy,e => by
    simp only [monosOk,Bool.and_eq_true] at h
    have haft := zEq h.2
    rcases List.mem_cons.1 hx with e1 | hx1
    · rcases List.mem_cons.1 hy with e2 | hy1
      · rw [e1,e2]
      · have := haft y hy1; rw [← e,e1,zFx] at this; cases this
    · rcases List.mem_cons.1 hy with e2 | hy1
      · have := haft x hx1; rw [e,e2,zFx] at this; cases this
      · exact monos_uniq h.2 x hx1 y hy1 e
theorem monos_ext : ∀ {p q : Option ByteArray} {a b : List Mono},monosOk p a = true → monosOk q b = true → (∀ m,m ∈ a ↔ m ∈ b) → a = b
  | _,_,[],[],_,_,_ => rfl
  | _,_,[],y :: s,_,_,h => by have := (h y).2 (by simp); cases this
  | _,_,x :: r,[],_,_,h => by have := (h x).1 (by simp); cases this
  | p,q,x :: r,y :: s,ha,hb,h => by
    simp only [monosOk,Bool.and_eq_true] at ha hb
    have a1 := zEq ha.2
    have b1 := zEq hb.2
    have hxy : x = y:= by
      rcases List.mem_cons.1 ((h x).1 (by simp)) with e | hx
      · exact e
      · rcases List.mem_cons.1 ((h y).2 (by simp)) with e | hy
        · exact e.symm
        · have := zEi (b1 x hx) (a1 y hy); rw [zFx] at this; cases this
    subst hxy
    rw [monos_ext ha.2 hb.2 fun m => ?_]
    constructor
    · intro hm
      rcases List.mem_cons.1 ((h m).1 (by simp [hm])) with e | k
      · have := a1 m hm; rw [e,zFx] at this; cases this
      · exact k
    · intro hm
      rcases List.mem_cons.1 ((h m).2 (by simp [hm])) with e | k
      · have := b1 m hm; rw [e,zFx] at this; cases this
      · exact k
theorem zHl {l : Lf} {f t : ByteArray} (h1 : linOk l = true) (hf : isNameB f = true) (ht : isNameB t = true) (hr : l.rng) (hn : ¬ hasN l t) :
    (softR f t l).K = l.K ∧ linOk (softR f t l) = true ∧ (softR f t l).rng ∧ ∀ m,m ∈ (softR f t l).L ↔ (m ∈ l.L ∧ m.Name ≠ f) ∨ (m.Name = t ∧ ⟨f,m.By⟩ ∈ l.L):= by
  have h2 := vrL_ok ht
  by_cases c : lastBy l.L f = 0
  · have e : substR l f (vrL t) = (l,0):= by unfold substR; rw [if_pos ⟨h1,h2,hf⟩,if_pos c]
    have e2 : softR f t l = l:= by unfold softR; rw [e]; rfl
    rw [e2]
    refine ⟨rfl,h1,hr,fun m => ⟨fun hm => .inl ⟨hm,zQt h1 c m hm⟩,?_⟩⟩
    rintro (h | ⟨_,h⟩)
    · exact h.1
    · exact absurd rfl (zQt h1 c _ h)
  · have hb := last_rng hr f
    obtain ⟨g1,g2⟩ := ren_sum (a := (restL l f).L) (t := t) (b := lastBy l.L f) (fun m hm => by
      have hm' := List.mem_filter.1 hm
      exact ⟨fun e => hn ⟨m,hm'.1,e⟩,(zHp h1 m hm'.1).1,hr.2 m hm'.1⟩) c hb
    have e : substR l f (vrL t) = (⟨l.K,sumW (mulT (lastBy l.L f) (mergeL (restL l f).L [⟨t,1⟩]))⟩,0):= by
      unfold substR
      rw [if_pos ⟨h1,h2,hf⟩,if_neg c,if_pos ⟨by show r64 (0 * _); rw [Int.zero_mul]; unfold r64; omega,by show (decide (r64 (1 * lastBy l.L f)) && true) = true; rw [Int.one_mul,decide_eq_true hb]; rfl⟩]
      show addT (l.K + 0 * lastBy l.L f) _ = _
      unfold addT
      rw [if_pos ⟨by rw [Int.zero_mul,Int.add_zero]; exact hr.1,g1⟩,Int.zero_mul,Int.add_zero]; rfl
    have e2 : softR f t l = ⟨l.K,sumW (mulT (lastBy l.L f) (mergeL (restL l f).L [⟨t,1⟩]))⟩:= by unfold softR; rw [e]; rfl
    have h3 := substR_ok h1 h2 hf (by rw [e])
    rw [e] at h3
    obtain ⟨m0,q1,q2,q3⟩ := lastBy_mem c
    rw [e2]
    refine ⟨rfl,h3,⟨hr.1,fun m hm => sum_rng hm⟩,fun m => ?_⟩
    show m ∈ sumW _ ↔ _
    rw [g2 m]
    constructor
    · rintro (h | rfl)
      · have hm' := List.mem_filter.1 h
        exact .inl ⟨hm'.1,by simpa using hm'.2⟩
      · refine .inr ⟨rfl,?_⟩
        have : (⟨f,lastBy l.L f⟩ : Mono) = m0:= by cases m0; simp_all
        rw [this]; exact q1
    · rintro (⟨h,h'⟩ | ⟨h,h'⟩)
      · exact .inl (List.mem_filter.2 ⟨h,by simpa using h'⟩)
      · refine .inr ?_
        have := monos_uniq h1 _ h' _ q1 q2.symm
        have e4 : m.By = lastBy l.L f:= by rw [← q3,← this]
        cases m; simp_all
theorem softR_zero {f t : ByteArray} (hf : isNameB f = true) (ht : isNameB t = true) : softR f t ⟨0,[]⟩ = ⟨0,[]⟩:= by
  unfold softR; rw [substR_zero (vrL_ok ht) hf]; rfl
theorem zPb {l : Lf} {f t : ByteArray} (h1 : linOk l = true) (hf : isNameB f = true) (ht : isNameB t = true) (hr : l.rng) (hn : ¬ hasN l t) (hne : f ≠ t) : softR t f (softR f t l) = l:= by
  obtain ⟨a1,a2,a3,a4⟩ := zHl h1 hf ht hr hn
  have hn2 : ¬ hasN (softR f t l) f:= by
    rintro ⟨m,hm,e⟩
    rcases (a4 m).1 hm with h | h
    · exact h.2 e
    · exact hne (e.symm.trans h.1)
  obtain ⟨b1,b2,b3,b4⟩ := zHl a2 ht hf a3 hn2
  have : (softR t f (softR f t l)).L = l.L:= by
    refine monos_ext b2 h1 fun m => ?_
    rw [b4 m,a4 m]
    constructor
    · rintro (⟨h | h,h'⟩ | ⟨h,h'⟩)
      · exact h.1
      · exact absurd h.1 h'
      · rcases (a4 _).1 h' with k | k
        · exact absurd ⟨_,k.1,rfl⟩ hn
        · have : m = ⟨f,m.By⟩:= by cases m; simp_all
          rw [this]; exact k.2
    · intro hm
      by_cases hmf : m.Name = f
      · refine .inr ⟨hmf,(a4 _).2 (.inr ⟨rfl,?_⟩)⟩
        have : m = ⟨f,m.By⟩:= by cases m; simp_all
        rw [← this]; exact hm
      · exact .inl ⟨.inl ⟨hm,hmf⟩,fun e => hn ⟨m,hm,e⟩⟩
  have hK : (softR t f (softR f t l)).K = l.K := b1.trans a1
  cases hx : softR t f (softR f t l) with
  | mk K L => rw [hx] at this hK; cases l; simp_all
/-! ## Statements,all forms mapped without a fault -/
mutual
def gSt (g : Lf → Lf) (r : ByteArray → ByteArray) : St → St
  | .mk o nm mn mk fo i e b => .mk o (if o = 1 then r nm else nm) mn mk fo (i.map (gIx g)) (gEx g e) (gSts g r b)
def gSts (g : Lf → Lf) (r : ByteArray → ByteArray) : List St → List St
  | [] => []
  | s :: t => gSt g r s :: gSts g r t
end
theorem zHv (g : Lf → Lf) (r : ByteArray → ByteArray) : ∀ l : List St,gSts g r l = l.map (gSt g r)
  | [] => by rw [gSts]; rfl
  | s :: t => by rw [gSts,zHv g r t]; rfl
theorem zGx (g : Lf → Lf) (r : ByteArray → ByteArray) (s : St) : gSt g r s = .mk s.Op (if s.Op = 1 then r s.Name else s.Name) s.Many s.Mark s.Fold (s.Idx.map (gIx g)) (gEx g s.E) (gSts g r s.Body):= by cases s; rw [gSt]; rfl
theorem mIxs_sure (g : Lf → Lf) (i : List Ix) : mIxs (fun l => (g l,0)) i = .ok (i.map (gIx g)):= by
  cases h : mIxs (fun l => (g l,0)) i with
  | error c =>
    obtain ⟨x,_,hx⟩ := mIxs_er h
    have : c = 0 := hx.symm
    subst this
    exact absurd h zQk
  | ok a => rw [(mIxs_g h).1]
theorem mEx_sure (g : Lf → Lf) (e : Ex) : mEx (fun l => (g l,0)) e = .ok (gEx g e):= by
  cases h : mEx (fun l => (g l,0)) e with
  | error c =>
    have : c = 0 := mEx_er (P := fun c => c = 0) e (fun _ _ _ _ => rfl) c h
    subst this
    exact absurd h (mEx_ne e)
  | ok a => rw [(mEx_g h).1]
mutual
theorem mSt_sure (g : Lf → Lf) (r : ByteArray → ByteArray) : ∀ s : St,mSt (fun l => (g l,0)) r s = .ok (gSt g r s)
  | .mk o nm mn mk fo i e b => by rw [mSt,mIxs_sure,mEx_sure]; simp only [zQj g r b]; rw [gSt]
theorem zQj (g : Lf → Lf) (r : ByteArray → ByteArray) : ∀ l : List St,mSts (fun l => (g l,0)) r l = .ok (gSts g r l)
  | [] => by rw [mSts,gSts]
  | x :: t => by rw [mSts,mSt_sure g r x,zQj g r t,gSts]
end
def renB (f t s : ByteArray) : ByteArray := if s = f then t else s
def renT (f t : ByteArray) (l : List St) : List St := gSts (softR f t) (renB f t) l
/-! ## Valid nests stay valid -/
theorem zLr {B : List Bf} {sc : List ByteArray} : ∀ {l : List Ex},nodesN B sc l = 0 ↔ ∀ x,x ∈ l → nodeN B sc x = 0
  | [] => by simp [nodesN]
  | x :: r => by
    rw [nodesN]
    by_cases h : nodeN B sc x = 0
    · rw [if_pos h,zLr (l := r)]; simp [h]
    · rw [if_neg h]; simp [h]
theorem gath_g (B : List Bf) (g : Lf → Lf) : ∀ l : List Ix,gathL B (l.map (gIx g)) = gathL B l
  | [] => rfl
  | x :: r => by
    have e : gathE B (gIx g x) = gathE B x:= by unfold gathE gIx; rw [List.length_map]
    rw [List.map_cons,gathL,gathL,e,gath_g B g r]
theorem hasB_map {l : List ByteArray} {s : ByteArray} (r : ByteArray → ByteArray) (h : hasB l s = true) : hasB (l.map r) (r s) = true:= by
  rw [zAi] at *
  exact List.mem_map.2 ⟨s,h,rfl⟩
theorem inSc_g {sc : List ByteArray} {f t : ByteArray} {l : Lf} (h1 : linOk l = true) (hf : isNameB f = true) (ht : isNameB t = true) (hr : l.rng) (hn : ¬ hasN l t) (h : inSc sc l = true) : inSc (sc.map (renB f t)) (softR f t l) = true:= by
  obtain ⟨_,_,_,a4⟩ := zHl h1 hf ht hr hn
  unfold inSc at *
  rw [List.all_eq_true] at *
  intro m hm
  rcases (a4 m).1 hm with ⟨k1,k2⟩ | ⟨k1,k2⟩
  · have := hasB_map (renB f t) (h m k1)
    rw [show renB f t m.Name = m.Name from if_neg k2] at this; exact this
  · have := hasB_map (renB f t) (h _ k2)
    rw [show renB f t f = t from if_pos rfl] at this; rw [k1]; exact this
theorem lin_in (e : Ex) : e.Lin ∈ formsL e:= by unfold formsL; simp
theorem ix_in {e : Ex} {x : Ix} (h : x ∈ e.Idx) : x.Lin ∈ formsL e ∧ ∀ l,l ∈ x.At → l ∈ formsL e:= by
  unfold formsL
  refine ⟨List.mem_cons_of_mem _ (List.mem_flatMap.2 ⟨x,h,by simp⟩),fun l hl => List.mem_cons_of_mem _ (List.mem_flatMap.2 ⟨x,h,by simp [hl]⟩)⟩
theorem nodeN_ren {B : List Bf} {sc : List ByteArray} {f t : ByteArray} {e : Ex} (hf : isNameB f = true) (ht : isNameB t = true) (hP : ∀ l,l ∈ formsL e → linOk l = true ∧ l.rng ∧ ¬ hasN l t) (h : nodeN B sc e = 0) : nodeN B (sc.map (renB f t)) (gEx (softR f t) e) = 0:= by
  have hs : nodeSc sc e = true:= by
    cases c : nodeSc sc e with
    | true => rfl
    | false => rw [nodeN_9 c] at h; cases h
  have hs2 : nodeSc (sc.map (renB f t)) (gEx (softR f t) e) = true:= by
    rw [zBy]
    unfold nodeSc at hs ⊢
    rw [Bool.and_eq_true] at hs ⊢
    refine ⟨?_,?_⟩
    · have := hP _ (lin_in e)
      exact inSc_g this.1 hf ht this.2.1 this.2.2 hs.1
    · show (e.Idx.map (gIx (softR f t))).all _ = true
      rw [List.all_map,List.all_eq_true]
      intro x hx
      have h2 := List.all_eq_true.1 hs.2 x hx
      unfold ixSc at h2
      rw [Bool.and_eq_true] at h2
      have h3 := ix_in hx
      show ixSc (sc.map (renB f t)) (gIx (softR f t) x) = true
      unfold ixSc gIx
      rw [Bool.and_eq_true]
      refine ⟨?_,?_⟩
      · have := hP _ h3.1
        exact inSc_g this.1 hf ht this.2.1 this.2.2 h2.1
      · show (x.At.map (softR f t)).all _ = true
        rw [List.all_map,List.all_eq_true]
        intro l hl
        have := hP _ (h3.2 l hl)
        exact inSc_g this.1 hf ht this.2.1 this.2.2 (List.all_eq_true.1 h2.2 l hl)
  have h' := h
  unfold nodeN at h' ⊢
  rw [if_pos hs] at h'
  rw [if_pos hs2,zBy]
  show (if e.Op = 3 then (if hasBf B e.Name = true then (if (bufD B e.Name).Dims.length = (e.Idx.map (gIx (softR f t))).length then gathL B (e.Idx.map (gIx (softR f t))) else 11) else 9) else 0) = 0
  rw [List.length_map,gath_g]; exact h'
theorem tyF_g (B : List Bf) (g : Lf → Lf) (e : Ex) (l : List Ty) : tyF B (gEx g e) l = tyF B e l:= by rw [zBy]; rfl
mutual
theorem nodeT_g (B : List Bf) (g : Lf → Lf) : ∀ e : Ex,nodeT (tyF B) (gEx g e) = nodeT (tyF B) e
  | .mk o nm v t l i a => by
    have h1 := nodeL_g B g a
    have h2 := tyF_g B g (.mk o nm v t l i a)
    rw [gEx] at h2 ⊢
    rw [nodeT,nodeT,h1]
    simp only [h2]
theorem nodeL_g (B : List Bf) (g : Lf → Lf) : ∀ l : List Ex,nodeL (tyF B) (gExs g l) = nodeL (tyF B) l
  | [] => by rw [gExs]
  | a :: r => by rw [gExs,nodeL,nodeL,nodeT_g B g a,nodeL_g B g r]
end
theorem zFa {B : List Bf} {sc : List ByteArray} {e : Ex} (h : (exprT B sc e).2 = 0) : validE e = 0 ∧ nodesN B sc (nodes e) = 0:= by
  by_cases h1 : validE e = 0
  · by_cases h2 : nodesN B sc (nodes e) = 0
    · exact ⟨h1,h2⟩
    · rw [exprT_2 h1 h2] at h; exact absurd h h2
  · rw [exprT_1 h1] at h; exact absurd h h1
theorem exprT_g {B : List Bf} {sc : List ByteArray} {f t : ByteArray} {e : Ex} (hf : isNameB f = true) (ht : isNameB t = true) (hP : e.allF fun l => l.rng ∧ ¬ hasN l t) (h : (exprT B sc e).2 = 0) : exprT B (sc.map (renB f t)) (gEx (softR f t) e) = exprT B sc e:= by
  obtain ⟨h1,h2⟩ := zFa h
  have hl := zJh h1
  have k1 : validE (gEx (softR f t) e) = 0 := valid_g (softR_zero hf ht) (fun x hx l hx2 => (zHl (hl x hx l hx2) hf ht (hP x hx l hx2).1 (hP x hx l hx2).2).2.1) h1
  have k2 : nodesN B (sc.map (renB f t)) (nodes (gEx (softR f t) e)) = 0:= by
    rw [zQb,zLr]
    intro y hy
    obtain ⟨x,hx,rfl⟩ := List.mem_map.1 hy
    exact nodeN_ren hf ht (fun l hl2 => ⟨hl x hx l hl2,hP x hx l hl2⟩) (zLr.1 h2 x hx)
  rw [zRh k1 k2,zRh h1 h2,nodeT_g]
theorem isCond_g (g : Lf → Lf) (e : Ex) : isCond (gEx g e) = isCond e:= by rw [zBy]; rfl
theorem rdE_g {g : Lf → Lf} {r : ByteArray → ByteArray} {s : St} (hz : g ⟨0,[]⟩ = ⟨0,[]⟩) (h : ¬ s.Op = 1) : rdE (gSt g r s) = gEx g (rdE s):= by
  rw [zGx,zBy]
  unfold rdE
  show Ex.mk 3 (if s.Op = 1 then r s.Name else s.Name) _ _ _ _ _ = Ex.mk 3 s.Name ⟨0,0⟩ ⟨0,0,0,0,0⟩ (g ⟨0,[]⟩) (s.Idx.map (gIx g)) []
  rw [if_neg h,hz]; rfl
abbrev fineP (t : ByteArray) : Lf → Prop := fun l => l.rng ∧ ¬ hasN l t
theorem zL_fine (t : ByteArray) : fineP t ⟨0,[]⟩ := ⟨zOn,by rintro ⟨m,hm,_⟩; cases hm⟩
theorem rdE_fine {t : ByteArray} {s : St} (h : ixsAll (fineP t) s.Idx) : (rdE s).allF (fineP t):= by
  refine zLp (fun l hl => ?_) (fun a ha => by cases ha)
  unfold formsL at hl
  rcases List.mem_cons.1 hl with rfl | hl
  · exact zL_fine t
  · obtain ⟨x,hx,hl⟩ := List.mem_flatMap.1 hl
    have := h x hx
    rcases List.mem_cons.1 hl with rfl | hl
    · exact this.1
    · exact this.2 l hl
theorem gEx_zEx {g : Lf → Lf} (hz : g ⟨0,[]⟩ = ⟨0,[]⟩) : gEx g zEx = zEx:= by
  rw [zBy]
  show Ex.mk 0 _ _ _ (g ⟨0,[]⟩) [] [] = _
  rw [hz]; rfl
theorem syn_g {g : Lf → Lf} {r : ByteArray → ByteArray} {s : St} (hz : g ⟨0,[]⟩ = ⟨0,[]⟩) (h : synSt s = true) : synSt (gSt g r s) = true:= by
  cases s with
  | mk o nm mn mk fo i e b =>
    have hE : emptyE e = true → emptyE (gEx g e) = true:= by
      unfold emptyE
      intro h
      rw [decide_eq_true_eq] at h ⊢
      rw [h,gEx_zEx hz]
    have hL : (gSts g r b).length = b.length:= by rw [zHv,List.length_map]
    rw [gSt]
    unfold synSt isSto at h ⊢
    simp only [St.Op,St.Name,St.Many,St.Mark,St.Fold,St.Idx,St.E,St.Body,List.length_map,hL] at h ⊢
    simp only [Bool.and_eq_true] at h ⊢
    obtain ⟨⟨⟨⟨⟨⟨h1,h2⟩,h3⟩,h4⟩,h5⟩,h6⟩,h7⟩ := h
    refine ⟨⟨⟨⟨⟨⟨h1,?_⟩,h3⟩,h4⟩,h5⟩,?_⟩,h7⟩
    · by_cases ho : o = 1
      · have h4 : ¬ o = 4:= by omega
        simp [h4]
      · rw [if_neg ho]; exact h2
    · by_cases c : o = 1
      · have : emptyE e = true:= by simpa [c] using h6
        simp [hE this]
      · simp [c]
theorem hasB_ren {U : List ByteArray} {f t s : ByteArray} (hU : hasB U t = false) (hs : s ≠ t) (h : hasB U s = false) : hasB (U.map (renB f t)) (renB f t s) = false:= by
  cases c : hasB (U.map (renB f t)) (renB f t s) with
  | false => rfl
  | true =>
    exfalso
    rw [zAi] at c
    obtain ⟨u,hu,e⟩ := List.mem_map.1 c
    have hut : u ≠ t:= by rintro rfl; rw [zAi.2 hu] at hU; cases hU
    have : u = s:= by
      unfold renB at e
      by_cases h1 : u = f
      · by_cases h2 : s = f
        · rw [h1,h2]
        · rw [if_pos h1,if_neg h2] at e; exact absurd e.symm hs
      · by_cases h2 : s = f
        · rw [if_neg h1,if_pos h2] at e; exact absurd e hut
        · rw [if_neg h1,if_neg h2] at e; exact e
    rw [this] at hu
    rw [zAi.2 hu] at h; cases h
theorem stE_g {B : List Bf} {U sc : List ByteArray} {f t : ByteArray} {s : St} (hf : isNameB f = true) (ht : isNameB t = true) (hB : hasBf B t = false) (hU : hasB U t = false) (hN : s.Op = 1 → s.Name ≠ t) (hI : ixsAll (fineP t) s.Idx) (hE : s.E.allF (fineP t)) (h : stE B U sc s = 0) :
    stE B (U.map (renB f t)) (sc.map (renB f t)) (gSt (softR f t) (renB f t) s) = 0:= by
  have hz := softR_zero hf ht
  have hs : synSt s = true:= by
    cases c : synSt s with
    | true => rfl
    | false => rw [stE_5 c] at h; cases h
  have hs2 := syn_g (r := renB f t) hz hs
  have op : (gSt (softR f t) (renB f t) s).Op = s.Op:= by rw [zGx]; rfl
  by_cases h1 : s.Op = 1
  · rw [stE_l hs h1] at h
    rw [stE_l hs2 (by rw [op]; exact h1)]
    have nm : (gSt (softR f t) (renB f t) s).Name = renB f t s.Name:= by rw [zGx]; exact if_pos h1
    have mn : (gSt (softR f t) (renB f t) s).Many = s.Many:= by rw [zGx]; rfl
    have mk : (gSt (softR f t) (renB f t) s).Mark = s.Mark:= by rw [zGx]; rfl
    have hnm : isNameB s.Name = true:= by
      cases c : isNameB s.Name with
      | true => rfl
      | false => rw [loopE_7 c] at h; cases h
    have hno : ¬ (hasBf B s.Name = true ∨ hasB U s.Name = true) := fun c => by rw [loopE_8 hnm c] at h; cases h
    have hran : ¬ (s.Many < 1 ∨ 65536 < s.Many ∨ s.Mark < 0 ∨ 3 < s.Mark) := fun c => by rw [loopE_1 hnm hno c] at h; cases h
    refine loopE_0 ?_ ?_ (by rw [mn,mk]; exact hran)
    · rw [nm]; unfold renB; split
      · exact ht
      · exact hnm
    · rw [nm]
      rintro (c | c)
      · unfold renB at c
        split at c
        · rw [hB] at c; cases c
        · exact hno (.inl c)
      · have hu : hasB U s.Name = false:= by
          cases k : hasB U s.Name with
          | false => rfl
          | true => exact absurd (.inr k) hno
        rw [hasB_ren hU (hN h1) hu] at c; cases c
  · have eE : (gSt (softR f t) (renB f t) s).E = gEx (softR f t) s.E:= by rw [zGx]; rfl
    by_cases h4 : s.Op = 4
    · rw [stE_i hs h4] at h
      rw [stE_i hs2 (by rw [op]; exact h4)]
      have k1 : (exprT B sc s.E).2 = 0:= by
        by_cases c : (exprT B sc s.E).2 = 0
        · exact c
        · rw [ifE_x c] at h; exact absurd h c
      have k2 : isCond s.E = true:= by
        cases c : isCond s.E with
        | true => rfl
        | false => rw [ifE_10 k1 c] at h; cases h
      have k3 := exprT_g (f := f) hf ht hE k1
      exact ifE_0 (by rw [eE,k3]; exact k1) (by rw [eE,isCond_g]; exact k2)
    · rw [stE_s hs h1 h4] at h
      rw [stE_s hs2 (by rw [op]; exact h1) (by rw [op]; exact h4)]
      have nm : (gSt (softR f t) (renB f t) s).Name = s.Name:= by rw [zGx]; exact if_neg h1
      have fo : (gSt (softR f t) (renB f t) s).Fold = s.Fold:= by rw [zGx]; rfl
      have k1 : (exprT B sc (rdE s)).2 = 0:= by
        by_cases c : (exprT B sc (rdE s)).2 = 0
        · exact c
        · rw [zNp c] at h; exact absurd h c
      have k2 : ¬ ((bufD B s.Name).Use = 1 ∨ (s.Op = 3 ∧ (s.Fold < 1 ∨ 4 < s.Fold))) := fun c => by rw [zJn k1 c] at h; cases h
      have k3 : (exprT B sc s.E).2 = 0:= by
        by_cases c : (exprT B sc s.E).2 = 0
        · exact c
        · rw [zNo k1 k2 c] at h; exact absurd h c
      have k4 : ¬ (isCond s.E = true ∨ ¬ (exprT B sc s.E).1 = (bufD B s.Name).T) := fun c => by rw [zOy k1 k2 k3 c] at h; cases h
      have e1 := exprT_g (f := f) hf ht (rdE_fine hI) k1
      rw [← rdE_g (r := renB f t) hz h1] at e1
      have e2 := exprT_g (f := f) hf ht hE k3
      exact storeE_0 (by rw [e1]; exact k1) (by rw [nm,op,fo]; exact k2) (by rw [eE,e2]; exact k3) (by rw [eE,e2,isCond_g,nm]; exact k4)
theorem nextU_g {U : List ByteArray} {f t : ByteArray} {s : St} : nextU (U.map (renB f t)) (gSt (softR f t) (renB f t) s) = (nextU U s).map (renB f t):= by
  cases s with
  | mk o nm mn mk fo i e b =>
    rw [gSt]
    unfold nextU
    show (if o = 1 then U.map (renB f t) ++ [if o = 1 then renB f t nm else nm] else U.map (renB f t)) = (if o = 1 then U ++ [nm] else U).map (renB f t)
    by_cases h : o = 1
    · rw [if_pos h,if_pos h,if_pos h,List.map_append]; rfl
    · rw [if_neg h,if_neg h]
theorem nextU_t {U : List ByteArray} {t : ByteArray} {s : St} (hU : hasB U t = false) (hN : s.Op = 1 → s.Name ≠ t) : hasB (nextU U s) t = false:= by
  by_cases h : s.Op = 1
  · rw [zGm h,kB,hU]
    show (decide (s.Name = t) || false) = false
    rw [decide_eq_false (hN h)]; rfl
  · rw [zJw h]; exact hU
theorem zLx {s : St} {t : ByteArray} (h : hasB (loopNm s) t = false) : s.Op = 1 → s.Name ≠ t:= by
  intro ho e
  unfold loopNm at h
  rw [if_pos ho] at h
  have : hasB [s.Name] t = true := zAi.2 (by simp [e])
  rw [this] at h; cases h
mutual
theorem chkS_g {B : List Bf} {f t : ByteArray} (hf : isNameB f = true) (ht : isNameB t = true) (hB : hasBf B t = false) : ∀ (s : St) (U sc : List ByteArray) (here : List Int),s.allF (fineP t) → hasB (loopsS s) t = false → hasB U t = false → (chkS B U sc here s).E = 0 →
    (chkS B (U.map (renB f t)) (sc.map (renB f t)) here (gSt (softR f t) (renB f t) s)).E = 0 ∧ (chkS B (U.map (renB f t)) (sc.map (renB f t)) here (gSt (softR f t) (renB f t) s)).U = (chkS B U sc here s).U.map (renB f t) ∧ hasB (chkS B U sc here s).U t = false
  | .mk o nm mn mk fo i e b,U,sc,here,hP,hL,hU,h => by
    obtain ⟨p1,p2,p3⟩ := St.allF_eq hP
    rw [loopsS,kB,Bool.or_eq_false_iff] at hL
    have hN := zLx hL.1
    have h0 : stE B U sc (.mk o nm mn mk fo i e b) = 0:= by
      by_cases c : stE B U sc (.mk o nm mn mk fo i e b) = 0
      · exact c
      · rw [zRq c] at h; exact absurd h c
    have h1 := stE_g (f := f) hf ht hB hU hN p1 p2 h0
    rw [zMj h0] at h ⊢
    rw [zMj h1,nextU_g,nextU_g]
    have := chkL_g hf ht hB b (nextU U (.mk o nm mn mk fo i e b)) (nextU sc (.mk o nm mn mk fo i e b)) here 0 p3 hL.2 (nextU_t hU hN) h
    rw [gSt]
    exact this
theorem chkL_g {B : List Bf} {f t : ByteArray} (hf : isNameB f = true) (ht : isNameB t = true) (hB : hasBf B t = false) : ∀ (l : List St) (U sc : List ByteArray) (way : List Int) (i : Int),allSs (fineP t) l → hasB (loopsL l) t = false → hasB U t = false → (chkL B U sc way i l).E = 0 →
    (chkL B (U.map (renB f t)) (sc.map (renB f t)) way i (gSts (softR f t) (renB f t) l)).E = 0 ∧ (chkL B (U.map (renB f t)) (sc.map (renB f t)) way i (gSts (softR f t) (renB f t) l)).U = (chkL B U sc way i l).U.map (renB f t) ∧ hasB (chkL B U sc way i l).U t = false
  | [],U,sc,way,i,_,_,hU,_ => by rw [gSts,chkL,chkL]; exact ⟨rfl,rfl,hU⟩
  | s :: r,U,sc,way,i,hP,hL,hU,h => by
    rw [allSs] at hP
    rw [loopsL,kB,Bool.or_eq_false_iff] at hL
    have h0 : (chkS B U sc (way ++ [i]) s).E = 0:= by
      by_cases c : (chkS B U sc (way ++ [i]) s).E = 0
      · exact c
      · rw [chkL,if_neg c] at h; exact absurd h c
    obtain ⟨k1,k2,k3⟩ := chkS_g hf ht hB s U sc (way ++ [i]) hP.1 hL.1 hU h0
    rw [chkL,if_pos h0] at h ⊢
    rw [gSts,chkL,if_pos k1,k2]
    exact chkL_g hf ht hB r _ sc way (i + 1) hP.2 hL.2 k3 h
end
theorem within_g (g : Lf → Lf) (r : ByteArray → ByteArray) : ∀ (n : Nat) (l : List St),withinT n (gSts g r l) = withinT n l
  | 0,l => by rw [zHv]; cases l <;> rfl
  | n + 1,l => by
    rw [withinT,withinT,zHv,List.all_map]
    congr 1
    funext s
    show withinT n (gSt g r s).Body = _
    rw [zGx]; exact within_g g r n s.Body
mutual
theorem numS_g (g : Lf → Lf) (r : ByteArray → ByteArray) : ∀ (s : St) (m : Nat),numS (gSt g r s) m = numS s m
  | .mk o nm mn mk fo i e b,m => by rw [gSt,numS,numS,numL_g g r b]; rw [zHv,List.length_map]
theorem numL_g (g : Lf → Lf) (r : ByteArray → ByteArray) : ∀ (l : List St) (m n : Nat),numL (gSts g r l) m n = numL l m n
  | [],m,n => by rw [gSts]
  | s :: t,m,n => by rw [gSts,numL,numL,numS_g g r s]; split <;> first | exact numL_g g r t m _ | rfl
end
theorem numB_g (g : Lf → Lf) (r : ByteArray → ByteArray) (l : List St) (m : Nat) : numB (gSts g r l) m = numB l m:= by
  unfold numB; rw [numL_g,zHv,List.length_map]
theorem zIn {n : Ns} (h : (validN n).2 = 0) : withinT 40 n.Body = true ∧ ¬ (2000 < numB n.Body 2000 ∨ 128 < n.Bufs.length) ∧ bufsErr [] n.Bufs = 0 ∧ (chkL n.Bufs [] [] [] 0 n.Body).E = 0:= by
  have h1 : withinT 40 n.Body = true:= by
    cases c : withinT 40 n.Body with
    | true => rfl
    | false => rw [zOv c] at h; cases h
  have h2 : ¬ (2000 < numB n.Body 2000 ∨ 128 < n.Bufs.length) := fun c => by rw [validN_2 h1 c] at h; cases h
  have h3 : bufsErr [] n.Bufs = 0:= by
    by_cases c : bufsErr [] n.Bufs = 0
    · exact c
    · rw [validN_b h1 h2 c] at h; exact absurd h c
  rw [zJi h1 h2 h3] at h
  exact ⟨h1,h2,h3,h⟩
theorem valid_ren {n : Ns} {f t : ByteArray} (hf : isNameB f = true) (ht : isNameB t = true) (hB : hasBf n.Bufs t = false) (hP : allSs (fineP t) n.Body) (hL : hasB (loopsL n.Body) t = false) (h : (validN n).2 = 0) : validN ⟨n.Bufs,renT f t n.Body⟩ = ([],0):= by
  obtain ⟨h1,h2,h3,h4⟩ := zIn h
  have k := (chkL_g hf ht hB n.Body [] [] [] 0 hP hL rfl h4).1
  have k' : (chkL n.Bufs [] [] [] 0 (renT f t n.Body)).E = 0 := k
  unfold renT at k' ⊢
  rw [zJi (n := ⟨n.Bufs,gSts (softR f t) (renB f t) n.Body⟩) (by rw [within_g]; exact h1) (by rw [numB_g]; exact h2) h3,k',chkL_ok k']
/-! ## The way to the loop; the nest back again -/
theorem isLoop_to {f t : ByteArray} {s : St} (hN : s.Op = 1 → s.Name ≠ t) : isLoop t (gSt (softR f t) (renB f t) s) = isLoop f s:= by
  rw [zGx]
  show (decide (s.Op = 1) && decide ((if s.Op = 1 then renB f t s.Name else s.Name) = t)) = (decide (s.Op = 1) && decide (s.Name = f))
  by_cases h : s.Op = 1
  · rw [if_pos h,decide_eq_true h,Bool.true_and,Bool.true_and]
    by_cases c : s.Name = f
    · rw [show renB f t s.Name = t from if_pos c,decide_eq_true rfl,decide_eq_true c]
    · rw [show renB f t s.Name = s.Name from if_neg c,decide_eq_false (hN h),decide_eq_false c]
  · rw [decide_eq_false h]; rfl
theorem isLoop_from {f t : ByteArray} {s : St} (hne : f ≠ t) : isLoop f (gSt (softR f t) (renB f t) s) = false:= by
  rw [zGx]
  show (decide (s.Op = 1) && decide ((if s.Op = 1 then renB f t s.Name else s.Name) = f)) = false
  by_cases h : s.Op = 1
  · rw [if_pos h]
    have : ¬ renB f t s.Name = f:= by
      unfold renB; split
      · exact fun e => hne e.symm
      · assumption
    rw [decide_eq_false this,Bool.and_false]
  · rw [decide_eq_false h]; rfl
mutual
theorem fndS_to {f t : ByteArray} : ∀ s : St,hasB (loopsS s) t = false → fndS t (gSt (softR f t) (renB f t) s) = fndS f s
  | .mk o nm mn mk fo i e b,hL => by
    rw [loopsS,kB,Bool.or_eq_false_iff] at hL
    rw [fndS_eq,fndS_eq,isLoop_to (zLx hL.1),gSt]
    simp only [St.Body]
    rw [fndL_to b 0 hL.2]
theorem fndL_to {f t : ByteArray} : ∀ (l : List St) (i : Int),hasB (loopsL l) t = false → fndL t i (gSts (softR f t) (renB f t) l) = fndL f i l
  | [],i,_ => by rw [gSts,fndL,fndL]
  | s :: r,i,hL => by
    rw [loopsL,kB,Bool.or_eq_false_iff] at hL
    rw [gSts,fndL,fndL,fndS_to s hL.1,fndL_to r (i + 1) hL.2]
end
mutual
theorem fndS_from {f t : ByteArray} (hne : f ≠ t) : ∀ s : St,fndS f (gSt (softR f t) (renB f t) s) = none
  | .mk o nm mn mk fo i e b => by
    rw [fndS_eq,isLoop_from hne,gSt]
    simp only [St.Body,Bool.false_eq_true,if_false]
    exact zQy hne b 0
theorem zQy {f t : ByteArray} (hne : f ≠ t) : ∀ (l : List St) (i : Int),fndL f i (gSts (softR f t) (renB f t) l) = none
  | [],i => by rw [gSts,fndL]
  | s :: r,i => by rw [gSts,fndL,fndS_from hne s,zQy hne r (i + 1)]
end
theorem gIx_id {g : Lf → Lf} {x : Ix} (h1 : g x.Lin = x.Lin) (h2 : ∀ l,l ∈ x.At → g l = l) : gIx g x = x:= by
  unfold gIx
  rw [h1,show x.At.map g = x.At from by
    rw [List.map_congr_left (g := id) (fun l hl => h2 l hl)]; simp]
theorem gIxs_id {g : Lf → Lf} {l : List Ix} (h : ∀ x,x ∈ l → g x.Lin = x.Lin ∧ ∀ y,y ∈ x.At → g y = y) : l.map (gIx g) = l:= by
  rw [show l.map (gIx g) = l.map id from List.map_congr_left fun x hx => gIx_id (h x hx).1 (h x hx).2]; simp
theorem gEx_id {g : Lf → Lf} : ∀ e : Ex,e.allF (fun l => g l = l) → gEx g e = e:= by
  intro e
  induction e using Ex.ind with
  | _ e ih =>
    intro h
    have h0 : ∀ l,l ∈ formsL e → g l = l := h e (by rw [kK]; simp)
    have hA : e.Args.map (gEx g) = e.Args:= by
      rw [List.map_congr_left (g := id) (fun a ha => ih a ha fun x hx l hl => h x (by
        rw [kK]
        refine List.mem_cons_of_mem _ ?_
        have : ∀ l : List Ex,a ∈ l → x ∈ nodes a → x ∈ nodesL l:= by
          intro l
          induction l with
          | nil => intro h; cases h
          | cons b r ih2 =>
            intro hm hx
            rw [nodesL]
            rcases List.mem_cons.1 hm with rfl | hm
            · exact List.mem_append_left _ hx
            · exact List.mem_append_right _ (ih2 hm hx)
        exact this e.Args ha hx) l hl)]; simp
    rw [zBy,h0 _ (lin_in e),gIxs_id (fun x hx => ⟨h0 _ (ix_in hx).1,fun y hy => h0 _ ((ix_in hx).2 y hy)⟩),hA]
    cases e; rfl
theorem gIx_gIx (g g' : Lf → Lf) (x : Ix) : gIx g' (gIx g x) = gIx (fun l => g' (g l)) x:= by
  unfold gIx; simp [List.map_map,Function.comp_def]
mutual
theorem gEx_gEx (g g' : Lf → Lf) : ∀ e : Ex,gEx g' (gEx g e) = gEx (fun l => g' (g l)) e
  | .mk o n v t l i a => by
    rw [gEx,gEx,gEx,gExs_gExs g g' a,List.map_map]
    congr 1
    exact List.map_congr_left fun x _ => gIx_gIx g g' x
theorem gExs_gExs (g g' : Lf → Lf) : ∀ l : List Ex,gExs g' (gExs g l) = gExs (fun l => g' (g l)) l
  | [] => by rw [gExs,gExs,gExs]
  | a :: r => by rw [gExs,gExs,gExs,gEx_gEx g g' a,gExs_gExs g g' r]
end
theorem ixsAll_and {P Q : Lf → Prop} {i : List Ix} (h1 : ixsAll P i) (h2 : ixsAll Q i) : ixsAll (fun l => P l ∧ Q l) i := fun x hx => ⟨⟨(h1 x hx).1,(h2 x hx).1⟩,fun l hl => ⟨(h1 x hx).2 l hl,(h2 x hx).2 l hl⟩⟩
mutual
theorem gSt_back {f t : ByteArray} (hf : isNameB f = true) (ht : isNameB t = true) (hne : f ≠ t) : ∀ s : St,s.allF (fineP t) → s.allF (fun l => linOk l = true) → hasB (loopsS s) t = false → gSt (softR t f) (renB t f) (gSt (softR f t) (renB f t) s) = s
  | .mk o nm mn mk fo i e b,hP,hQ,hL => by
    obtain ⟨p1,p2,p3⟩ := St.allF_eq hP
    obtain ⟨q1,q2,q3⟩ := St.allF_eq hQ
    rw [loopsS,kB,Bool.or_eq_false_iff] at hL
    have hN := zLx hL.1
    simp only [St.Idx,St.E,St.Body] at p1 p2 p3 q1 q2 q3
    have e1 : (i.map (gIx (softR f t))).map (gIx (softR t f)) = i:= by
      rw [List.map_map]
      have : ∀ x,x ∈ i → (gIx (softR t f) ∘ gIx (softR f t)) x = id x := fun x hx => by
        show gIx _ (gIx _ x) = x
        rw [gIx_gIx]
        exact gIx_id (zPb (q1 x hx).1 hf ht (p1 x hx).1.1 (p1 x hx).1.2 hne) fun l hl => zPb ((q1 x hx).2 l hl) hf ht ((p1 x hx).2 l hl).1 ((p1 x hx).2 l hl).2 hne
      rw [List.map_congr_left this]; simp
    have e2 : gEx (softR t f) (gEx (softR f t) e) = e:= by
      rw [gEx_gEx]
      exact gEx_id e fun x hx l hl => zPb (q2 x hx l hl) hf ht (p2 x hx l hl).1 (p2 x hx l hl).2 hne
    rw [gSt,gSt,e1,e2,zQx hf ht hne b p3 q3 hL.2]
    congr 1
    by_cases ho : o = 1
    · rw [if_pos ho,if_pos ho]
      unfold renB
      by_cases c : nm = f
      · rw [if_pos c,if_pos rfl,c]
      · rw [if_neg c]; exact if_neg (hN ho)
    · rw [if_neg ho,if_neg ho]
theorem zQx {f t : ByteArray} (hf : isNameB f = true) (ht : isNameB t = true) (hne : f ≠ t) : ∀ l : List St,allSs (fineP t) l → allSs (fun l => linOk l = true) l → hasB (loopsL l) t = false → gSts (softR t f) (renB t f) (gSts (softR f t) (renB f t) l) = l
  | [],_,_,_ => by rw [gSts,gSts]
  | s :: r,hP,hQ,hL => by
    rw [allSs] at hP hQ
    rw [loopsL,kB,Bool.or_eq_false_iff] at hL
    rw [gSts,gSts,gSt_back hf ht hne s hP.1 hQ.1 hL.1,zQx hf ht hne r hP.2 hQ.2 hL.2]
end
/-! ## The forms of a valid nest are valid -/
theorem syn_parts {s : St} (h : synSt s = true) : (isSto s = false → s.Idx = []) ∧ (s.Op = 1 → s.E = zEx):= by
  unfold synSt at h
  simp only [Bool.and_eq_true] at h
  obtain ⟨⟨⟨⟨⟨⟨h1,h2⟩,h3⟩,h4⟩,h5⟩,h6⟩,h7⟩ := h
  constructor
  · intro hs
    rw [hs] at h5
    have : ¬ (0 : Int) < s.Idx.length:= by simpa using h5
    exact List.eq_nil_of_length_eq_zero (by omega)
  · intro ho
    rw [decide_eq_true ho] at h6
    have : emptyE s.E = true:= by simpa using h6
    unfold emptyE at this
    simpa using this
theorem zEx_all {P : Lf → Prop} (h : P ⟨0,[]⟩) : zEx.allF P:= by
  refine zLp (fun l hl => ?_) (fun a ha => by cases ha)
  unfold formsL at hl
  rcases List.mem_cons.1 hl with rfl | hl
  · exact h
  · cases hl
theorem stE_lin {B : List Bf} {U sc : List ByteArray} {s : St} (h : stE B U sc s = 0) : ixsAll (fun l => linOk l = true) s.Idx ∧ s.E.allF (fun l => linOk l = true):= by
  have hs : synSt s = true:= by
    cases c : synSt s with
    | true => rfl
    | false => rw [stE_5 c] at h; cases h
  obtain ⟨s1,s2⟩ := syn_parts hs
  have nil : ∀ {i : List Ix},i = [] → ixsAll (fun l => linOk l = true) i := fun e x hx => by rw [e] at hx; cases hx
  by_cases h1 : s.Op = 1
  · refine ⟨nil (s1 ?_),by rw [s2 h1]; exact zEx_all rfl⟩
    unfold isSto; rw [decide_eq_false (by omega),decide_eq_false (by omega)]; rfl
  · by_cases h4 : s.Op = 4
    · rw [stE_i hs h4] at h
      have k1 : (exprT B sc s.E).2 = 0:= by
        by_cases c : (exprT B sc s.E).2 = 0
        · exact c
        · rw [ifE_x c] at h; exact absurd h c
      refine ⟨nil (s1 ?_),zJh (zFa k1).1⟩
      unfold isSto; rw [decide_eq_false (by omega),decide_eq_false (by omega)]; rfl
    · rw [stE_s hs h1 h4] at h
      have k1 : (exprT B sc (rdE s)).2 = 0:= by
        by_cases c : (exprT B sc (rdE s)).2 = 0
        · exact c
        · rw [zNp c] at h; exact absurd h c
      have k2 : ¬ ((bufD B s.Name).Use = 1 ∨ (s.Op = 3 ∧ (s.Fold < 1 ∨ 4 < s.Fold))) := fun c => by rw [zJn k1 c] at h; cases h
      have k3 : (exprT B sc s.E).2 = 0:= by
        by_cases c : (exprT B sc s.E).2 = 0
        · exact c
        · rw [zNo k1 k2 c] at h; exact absurd h c
      refine ⟨fun x hx => ?_,zJh (zFa k3).1⟩
      have := zJh (zFa k1).1 (rdE s) (by rw [kK]; simp)
      have hx' : x ∈ (rdE s).Idx := hx
      exact ⟨this _ (ix_in hx').1,fun l hl => this _ ((ix_in hx').2 l hl)⟩
mutual
theorem chkS_lin {B : List Bf} : ∀ (s : St) (U sc : List ByteArray) (here : List Int),(chkS B U sc here s).E = 0 → s.allF (fun l => linOk l = true)
  | .mk o nm mn mk fo i e b,U,sc,here,h => by
    have h0 : stE B U sc (.mk o nm mn mk fo i e b) = 0:= by
      by_cases c : stE B U sc (.mk o nm mn mk fo i e b) = 0
      · exact c
      · rw [zRq c] at h; exact absurd h c
    have h1 := stE_lin h0
    rw [zMj h0] at h
    rw [St.allF]
    exact ⟨h1.1,h1.2,chkL_lin b _ _ _ _ h⟩
theorem chkL_lin {B : List Bf} : ∀ (l : List St) (U sc : List ByteArray) (way : List Int) (i : Int),(chkL B U sc way i l).E = 0 → allSs (fun l => linOk l = true) l
  | [],_,_,_,_,_ => by rw [allSs]; trivial
  | s :: r,U,sc,way,i,h => by
    have h0 : (chkS B U sc (way ++ [i]) s).E = 0:= by
      by_cases c : (chkS B U sc (way ++ [i]) s).E = 0
      · exact c
      · rw [chkL,if_neg c] at h; exact absurd h c
    rw [chkL,if_pos h0] at h
    rw [allSs]
    exact ⟨chkS_lin s _ _ _ h0,chkL_lin r _ _ _ _ h⟩
end
/-! ## A name that is not in use -/
theorem names_no {l : List Lf} {t : ByteArray} (h : hasB (l.flatMap namesF) t = false) : ∀ x,x ∈ l → ¬ hasN x t:= by
  intro x hx ⟨m,hm,e⟩
  have : hasB (l.flatMap namesF) t = true := zAi.2 (List.mem_flatMap.2 ⟨x,hx,List.mem_map.2 ⟨m,hm,e⟩⟩)
  rw [this] at h; cases h
theorem takHd_no {s : St} {t : ByteArray} (h : hasB (takHd s) t = false) : ixsAll (fun l => ¬ hasN l t) s.Idx ∧ s.E.allF (fun l => ¬ hasN l t):= by
  unfold takHd at h
  rw [kB,kB,zHr,zHr,rdX_names,Bool.or_eq_false_iff,Bool.or_eq_false_iff] at h
  constructor
  · intro x hx
    have := names_no h.1.2
    have hx' : ∀ l,l ∈ ixF x → ¬ hasN l t := fun l hl => this l (List.mem_flatMap.2 ⟨x,hx,hl⟩)
    exact ⟨hx' _ (by simp [ixF]),fun l hl => hx' l (by simp [ixF,hl])⟩
  · intro x hx l hl hn
    obtain ⟨m,hm,e⟩ := hn
    have : hasB (namesA (nodes s.E)) t = true := zAi.2 (List.mem_flatMap.2 ⟨x,hx,List.mem_flatMap.2 ⟨l,hl,List.mem_map.2 ⟨m,hm,e⟩⟩⟩)
    rw [this] at h; cases h.2
mutual
theorem takS_no {t : ByteArray} : ∀ s : St,hasB (takS s) t = false → s.allF (fun l => ¬ hasN l t) ∧ hasB (loopsS s) t = false
  | .mk o nm mn mk fo i e b,h => by
    rw [takS,kB,Bool.or_eq_false_iff] at h
    have h1 := takHd_no h.1
    have h2 := takL_no b h.2
    refine ⟨by rw [St.allF]; exact ⟨h1.1,h1.2,h2.1⟩,?_⟩
    rw [loopsS,kB,h2.2,Bool.or_false]
    have := h.1
    unfold takHd at this
    rw [kB,kB,Bool.or_eq_false_iff,Bool.or_eq_false_iff] at this
    exact this.1.1
theorem takL_no {t : ByteArray} : ∀ l : List St,hasB (takL l) t = false → allSs (fun l => ¬ hasN l t) l ∧ hasB (loopsL l) t = false
  | [],_ => ⟨by rw [allSs]; trivial,by rw [loopsL]; rfl⟩
  | s :: r,h => by
    rw [takL,kB,Bool.or_eq_false_iff] at h
    have h1 := takS_no s h.1
    have h2 := takL_no r h.2
    exact ⟨by rw [allSs]; exact ⟨h1.1,h2.1⟩,by rw [loopsL,kB,h1.2,h2.2]; rfl⟩
end
mutual
theorem allF_and {P Q : Lf → Prop} : ∀ s : St,s.allF P → s.allF Q → s.allF (fun l => P l ∧ Q l)
  | .mk o nm mn mk fo i e b,h1,h2 => by
    rw [St.allF] at h1 h2 ⊢
    exact ⟨ixsAll_and h1.1 h2.1,fun x hx l hl => ⟨h1.2.1 x hx l hl,h2.2.1 x hx l hl⟩,zLe b h1.2.2 h2.2.2⟩
theorem zLe {P Q : Lf → Prop} : ∀ l : List St,allSs P l → allSs Q l → allSs (fun l => P l ∧ Q l) l
  | [],_,_ => by rw [allSs]; trivial
  | s :: r,h1,h2 => by
    rw [allSs] at h1 h2 ⊢
    exact ⟨allF_and s h1.1 h2.1,zLe r h1.2 h2.2⟩
end
theorem used_no {n : Ns} {t : ByteArray} (h : hasB (usedT n) t = false) : allSs (fun l => ¬ hasN l t) n.Body ∧ hasB (loopsL n.Body) t = false ∧ hasBf n.Bufs t = false:= by
  unfold usedT at h
  rw [kB,Bool.or_eq_false_iff] at h
  have h1 := takL_no n.Body h.1
  refine ⟨h1.1,h1.2,?_⟩
  cases c : hasBf n.Bufs t with
  | false => rfl
  | true =>
    obtain ⟨k1,k2⟩ := bufD_mem c
    have : hasB (n.Bufs.map Bf.Name) t = true := zAi.2 (List.mem_map.2 ⟨_,k1,k2⟩)
    rw [this] at h; cases h.2
theorem dec_digit (u : Nat) : ∀ c,c ∈ Lib.decDigits u → 48 ≤ c.toNat ∧ c.toNat ≤ 57:= by
  induction u using Nat.strongRecOn with
  | _ u ih =>
    intro c hc
    by_cases h : u < 10
    · rw [Lib.decDigits_one h,List.mem_singleton] at hc
      subst hc; rw [zOi h]; omega
    · rw [dec_big h] at hc
      rcases List.mem_append.1 hc with hc | hc
      · exact ih (u / 10) (by omega) c hc
      · rw [List.mem_singleton] at hc
        subst hc; rw [zOi (by omega)]; omega
def zDig (w : ByteArray) : Bool := match w.data.toList with
  | [_] => decide (w = bs [122])
  | _ :: c :: _ => decide (48 ≤ c.toNat) && decide (c.toNat ≤ 57)
  | _ => false
theorem words_no : words.all (fun w => !zDig w) = true:= by decide +kernel
theorem zname {k : Nat} (hk : k < 10 ^ 15) : isNameB (nmK (bs [122]) k) = true:= by
  have hd : (nmK (bs [122]) k).data.toList = 122 :: (if k = 0 then [] else Lib.decDigits k):= by
    unfold nmK; split
    · rfl
    · simp [decB,bs]
  have hz : zDig (nmK (bs [122]) k) = true:= by
    unfold zDig
    rw [hd]
    by_cases h0 : k = 0
    · rw [if_pos h0]; simp only [nmK,if_pos h0]; rfl
    · rw [if_neg h0]
      cases hl : Lib.decDigits k with
      | nil => have := Lib.decDigits_length k; rw [hl] at this; have := Lib.nDigits_pos k; simp at *; omega
      | cons c r =>
        have := dec_digit k c (by rw [hl]; simp)
        show (decide (48 ≤ c.toNat) && decide (c.toNat ≤ 57)) = true
        rw [decide_eq_true this.1,decide_eq_true this.2]; rfl
  have hsz : (nmK (bs [122]) k).size = 1 + (if k = 0 then [] else Lib.decDigits k).length:= by
    have : (nmK (bs [122]) k).size = (nmK (bs [122]) k).data.toList.length:= by rw [Array.length_toList]; rfl
    rw [this,hd,List.length_cons]; omega
  have hlen : (if k = 0 then [] else Lib.decDigits k).length ≤ 15:= by
    split
    · simp
    · rw [Lib.decDigits_length]; exact nDig_le 15 k (by omega) hk
  unfold isNameB
  rw [hsz,hd]
  simp only [Bool.and_eq_true,decide_eq_true_eq,Bool.not_eq_true',List.head?_cons,Option.all_some]
  refine ⟨⟨⟨⟨by omega,by omega⟩,by decide⟩,?_⟩,?_⟩
  · rw [List.all_cons,Bool.and_eq_true]
    refine ⟨by decide,?_⟩
    rw [List.all_eq_true]
    intro c hc
    split at hc
    · cases hc
    · have := dec_digit k c hc
      unfold inWordB inWordI digitI
      have a1 : decide ((48 : Int) ≤ (c.toNat : Int)) = true := decide_eq_true (by omega)
      have a2 : decide ((c.toNat : Int) ≤ 57) = true := decide_eq_true (by omega)
      rw [a1,a2]; simp
  · cases c : hasB words (nmK (bs [122]) k) with
    | false => rfl
    | true =>
      have := List.all_eq_true.1 words_no _ (zAi.1 c)
      rw [hz] at this; cases this
theorem fresh_name (n : Ns) (hn : (usedT n).length < 10 ^ 15) : isNameB (freshN n (bs [122])) = true:= by
  unfold freshN freshT
  refine zname ?_
  have := zNy (fresh_is (usedT n) (bs [122])).1
  omega
/-! ## Mapped lists -/
def outIs : Except Int (List Ix) → List Ix
  | .ok l => l
  | .error _ => []
theorem mIxs_0 {f : Lf → Lf × Int} {i : List Ix} (h : errE (mIxs f i) = 0) : ∃ a,mIxs f i = .ok a := errE_ok h zQk
theorem mEx_0 {f : Lf → Lf × Int} {e : Ex} (h : errE (mEx f e) = 0) : ∃ a,mEx f e = .ok a := errE_ok h (mEx_ne e)
theorem mSts_0 {f : Lf → Lf × Int} {g : ByteArray → ByteArray} {l : List St} (h : errE (mSts f g l) = 0) : ∃ a,mSts f g l = .ok a := errE_ok h (mSts_ne l)
theorem err_is {α : Type} {x : Except Int α} (h : ¬ errE x = 0) : x = .error (errE x):= by
  cases x with
  | ok a => exact absurd rfl h
  | error c => rfl
theorem mIxs_err {f : Lf → Lf × Int} {i : List Ix} (h : ¬ errE (mIxs f i) = 0) : mIxs f i = .error (errE (mIxs f i)) := err_is h
theorem mEx_err {f : Lf → Lf × Int} {e : Ex} (h : ¬ errE (mEx f e) = 0) : mEx f e = .error (errE (mEx f e)) := err_is h
theorem mSts_err {f : Lf → Lf × Int} {g : ByteArray → ByteArray} {l : List St} (h : ¬ errE (mSts f g l) = 0) : mSts f g l = .error (errE (mSts f g l)) := err_is h
theorem ixsAll_of {P : Lf → Prop} {e : Ex} (h : e.allF P) : ixsAll P e.Idx := fun x hx => ⟨Ex.allF_ix h hx,fun l hl => Ex.allF_at h hx hl⟩
theorem mid_getS {A : List (List C)} {l : List St} {k : Nat} {x : St} (hA : A.length = k) (h : l[k]? = some x) : (A ++ (l.drop k).map St.cells)[k]? = some x.cs:= by
  rw [zLs hA h,St.cells_eq]
mutual
theorem st_short {B : Nat} : ∀ s : St,s.wt ≤ B → s.allF (fun l => l.L.length ≤ B)
  | .mk o nm mn mk fo i e b,h => by
    rw [St.allF]
    rw [St.wt] at h
    refine ⟨fun x hx => ?_,fun x hx l hl => forms_wt (Nat.le_trans (zCn e x hx) (by omega)) hl,zLi b (by omega)⟩
    have := zBj hx
    rw [Ix.wt] at this
    exact ⟨by omega,fun l hl => by have := zAh hl; omega⟩
theorem zLi {B : Nat} : ∀ l : List St,stsWt l ≤ B → allSs (fun l => l.L.length ≤ B) l
  | [],_ => by rw [allSs]; trivial
  | s :: r,h => by
    rw [stsWt] at h
    rw [allSs]
    exact ⟨st_short s (by omega),zLi r (by omega)⟩
end
theorem sts_short {l : List St} {B : Nat} (h : stsWt l ≤ B) : allSs (fun l => l.L.length ≤ B) l := zLi l h
/-! ## What renaming keeps -/
theorem vrL_rng (t : ByteArray) : (vrL t).rng := ⟨by show r64 0; unfold r64; omega,fun m hm => by
  simp only [vrL,List.mem_singleton] at hm; subst hm; show r64 1; unfold r64; omega⟩
theorem zPc {f t : ByteArray} {l : Lf} (h : l.rng) : (softR f t l).rng:= by
  unfold softR; split
  · exact substR_rng f h
  · exact h
theorem zPd (f t : ByteArray) (l : Lf) : (softR f t l).L.length ≤ l.L.length + 1:= by
  unfold softR; split
  · exact substR_len l (vrL t) f
  · omega
theorem zQr (f t : ByteArray) : ∀ l : List Lf,linsWt (l.map (softR f t)) ≤ linsWt l + l.length
  | [] => by simp [linsWt]
  | x :: r => by rw [List.map_cons,linsWt,linsWt,List.length_cons]; have := zQr f t r; have := zPd f t x; omega
theorem idxWt_soft (f t : ByteArray) : ∀ l : List Ix,idxWt (l.map (gIx (softR f t))) ≤ 2 * idxWt l + l.length
  | [] => by simp [idxWt]
  | x :: r => by
    rw [List.map_cons,idxWt,idxWt,List.length_cons]
    have h1 := idxWt_soft f t r
    have h2 : (gIx (softR f t) x).wt ≤ 2 * x.wt + 1:= by
      unfold gIx Ix.wt
      have h3 := zQr f t x.At
      have h4 := zPd f t x.Lin
      simp only [List.length_map]; omega
    omega
mutual
theorem renS_wt (f t : ByteArray) : ∀ s : St,(gSt (softR f t) (renB f t) s).wt ≤ 3 * s.wt
  | .mk o nm mn mk fo i e b => by
    rw [gSt,St.wt,St.wt,List.length_map]
    have h1 := idxWt_soft f t i
    have h2 := wt_g (g := softR f t) (c := 1) (zPd f t) e
    have h3 := renL_wt f t b
    omega
theorem renL_wt (f t : ByteArray) : ∀ l : List St,stsWt (gSts (softR f t) (renB f t) l) ≤ 3 * stsWt l
  | [] => by rw [gSts]; simp [stsWt]
  | s :: r => by rw [gSts,stsWt,stsWt]; have := renS_wt f t s; have := renL_wt f t r; omega
end
theorem ren_wt (f t : ByteArray) (l : List St) : stsWt (renT f t l) ≤ 3 * stsWt l := renL_wt f t l
mutual
theorem renS_rng (f t : ByteArray) : ∀ s : St,s.allF Lf.rng → (gSt (softR f t) (renB f t) s).allF Lf.rng
  | .mk o nm mn mk fo i e b,h => by
    rw [St.allF] at h
    rw [gSt,St.allF]
    refine ⟨fun x hx => ?_,allF_g fun x hx l hl => zPc (h.2.1 x hx l hl),renL_rng f t b h.2.2⟩
    obtain ⟨y,hy,rfl⟩ := List.mem_map.1 hx
    refine ⟨zPc (h.1 y hy).1,fun l hl => ?_⟩
    obtain ⟨k,hk,rfl⟩ := List.mem_map.1 hl
    exact zPc ((h.1 y hy).2 k hk)
theorem renL_rng (f t : ByteArray) : ∀ l : List St,allSs Lf.rng l → allSs Lf.rng (gSts (softR f t) (renB f t) l)
  | [],_ => by rw [gSts,allSs]; trivial
  | s :: r,h => by
    rw [allSs] at h
    rw [gSts,allSs]
    exact ⟨renS_rng f t s h.1,renL_rng f t r h.2⟩
end
theorem ren_rng (f t : ByteArray) {l : List St} (h : allSs Lf.rng l) : allSs Lf.rng (renT f t l) := renL_rng f t l h
theorem stE_name {B : List Bf} {U sc : List ByteArray} {s : St} (h : stE B U sc s = 0) (ho : s.Op = 1) : isNameB s.Name = true:= by
  have hs : synSt s = true:= by
    cases c : synSt s with
    | true => rfl
    | false => rw [stE_5 c] at h; cases h
  rw [stE_l hs ho] at h
  cases c : isNameB s.Name with
  | true => rfl
  | false => rw [loopE_7 c] at h; cases h
mutual
theorem chkS_name {B : List Bf} {x : ByteArray} : ∀ (s : St) (U sc : List ByteArray) (here : List Int),(chkS B U sc here s).E = 0 → x ∈ loopsS s → isNameB x = true
  | .mk o nm mn mk fo i e b,U,sc,here,h,hx => by
    have h0 : stE B U sc (.mk o nm mn mk fo i e b) = 0:= by
      by_cases c : stE B U sc (.mk o nm mn mk fo i e b) = 0
      · exact c
      · rw [zRq c] at h; exact absurd h c
    rw [zMj h0] at h
    rw [loopsS] at hx
    rcases List.mem_append.1 hx with hx | hx
    · unfold loopNm at hx
      split at hx
      · rename_i ho
        rw [List.mem_singleton] at hx
        rw [hx]; exact stE_name h0 ho
      · cases hx
    · exact zRr b _ _ _ _ h hx
theorem zRr {B : List Bf} {x : ByteArray} : ∀ (l : List St) (U sc : List ByteArray) (way : List Int) (i : Int),(chkL B U sc way i l).E = 0 → x ∈ loopsL l → isNameB x = true
  | [],_,_,_,_,_,hx => by rw [loopsL] at hx; cases hx
  | s :: r,U,sc,way,i,h,hx => by
    have h0 : (chkS B U sc (way ++ [i]) s).E = 0:= by
      by_cases c : (chkS B U sc (way ++ [i]) s).E = 0
      · exact c
      · rw [chkL,if_neg c] at h; exact absurd h c
    rw [chkL,if_pos h0] at h
    rw [loopsL] at hx
    rcases List.mem_append.1 hx with hx | hx
    · exact chkS_name s _ _ _ h0 hx
    · exact zRr r _ _ _ _ h hx
end
theorem loop_name {n : Ns} {x : ByteArray} (h : (validN n).2 = 0) (hx : x ∈ loopsL n.Body) : isNameB x = true := zRr n.Body [] [] [] 0 (zIn h).2.2.2 hx
def at8 (n : Nat) (x : Int) : Int := x % n
theorem at_mod {n : Nat} {x : Int} (h : 0 < n) (h0 : 0 ≤ x) (h1 : x ≤ 255) : (at8 n x).toNat < n:= by
  unfold at8
  have := Int.emod_lt_of_pos x (show (0 : Int) < n by omega)
  have := Int.emod_nonneg x (show (n : Int) ≠ 0 by omega)
  omega
theorem at8_tmod (n : Nat) {x : Int} (h0 : 0 ≤ x) (h1 : x ≤ 255) : Int.tmod (IntKind.i64.wrap x) n = ((at8 n x).toNat : Int):= by
  have e : IntKind.i64.wrap x = x := IntWalk.i64_in _ ⟨by omega,by omega⟩
  rw [e,Int.tmod_eq_emod_of_nonneg h0]
  unfold at8
  have : 0 ≤ x % (n : Int) ∨ n = 0:= by
    by_cases hn : n = 0
    · exact .inr hn
    · exact .inl (Int.emod_nonneg x (by omega))
  rcases this with h | h
  · omega
  · subst h; simp; omega
end Go.Br
end
section
set_option maxRecDepth 100000
namespace Go.Br
open Go Go.Eng Go.L41
def lvnI : Ix := ⟨⟨0,[⟨bs [105],1⟩]⟩,bs [],[]⟩
def lvnE : Ex := .mk 3 (bs [97]) ⟨0,0⟩ ⟨0,0,0,0,0⟩ ⟨0,[]⟩ [lvnI] []
def lvnS : St := .mk 2 (bs [99]) 0 0 0 [lvnI] lvnE []
def lvnF : St := .mk 1 (bs [105]) 2 0 0 [] zEx [lvnS]
def lvnT : Ty := ⟨1,0,0,0,0⟩
def lvN : Ns := ⟨[⟨bs [97],lvnT,[2],1⟩,⟨bs [99],lvnT,[2],2⟩],[lvnF]⟩
def lvM : Ns := ⟨[⟨bs [97],lvnT,[2],1⟩,⟨bs [99],lvnT,[2],1⟩],[lvnF]⟩
theorem lvN_wt : stsWt lvN.Body ≤ 100 ∧ stsWt lvM.Body ≤ 100:= by decide +kernel
theorem lvN_valid : validN lvN = ([],0) ∧ validN lvM = ([0,0],1):= by decide +kernel
theorem lvN_find : findN lvN.Body (bs [105]) = some [0]:= by decide +kernel
theorem lvN_encl : enclT lvN.Body [0,0] = [⟨bs [105],2⟩]:= by rfl
theorem lvN_size : stsN lvN.Body = 2:= by decide +kernel
theorem lvN_fresh : freshN lvN (bs [105]) = bs [105,49]:= by
  have e : nmK (bs [105]) 1 = bs [105,49]:= by
    unfold nmK decB
    rw [if_neg (by omega),Lib.decDigits_one (by omega)]; rfl
  unfold freshN
  rw [← e]
  refine zKk (k := 1) (fun j hj => ?_) ?_
  · have : j = 0:= by omega
    subst this
    have : nmK (bs [105]) 0 = bs [105] := if_pos rfl
    rw [this]; decide +kernel
  · rw [e]; decide +kernel
theorem lvN_ok : lvN.Ok ∧ lvM.Ok:= by
  refine ⟨⟨by decide,fun b hb => ?_,by have := lvN_wt; omega⟩,⟨by decide,fun b hb => ?_,by have := lvN_wt; omega⟩⟩ <;>
  · simp only [lvN,lvM,List.mem_cons,List.not_mem_nil,or_false] at hb
    rcases hb with rfl | rfl <;> decide
noncomputable instance : DecidableEq St := fun _ _ => Classical.propDecidable _
noncomputable instance : DecidableEq Ns := fun _ _ => Classical.propDecidable _
theorem St.eq_iff {a b : St} : a = b ↔ a.Op = b.Op ∧ a.Name = b.Name ∧ a.Many = b.Many ∧ a.Mark = b.Mark ∧ a.Fold = b.Fold ∧ a.Idx = b.Idx ∧ a.E = b.E ∧ a.Body = b.Body:= by
  constructor
  · rintro rfl; exact ⟨rfl,rfl,rfl,rfl,rfl,rfl,rfl,rfl⟩
  · rintro ⟨h1,h2,h3,h4,h5,h6,h7,h8⟩
    rw [St.eta a,St.eta b,h1,h2,h3,h4,h5,h6,h7,h8]
theorem st_eq (a b : St) : (((((((decide (a.Op = b.Op) && decide (a.Name = b.Name)) && decide (a.Many = b.Many)) && decide (a.Mark = b.Mark)) && decide (a.Fold = b.Fold)) && decide (a.Idx = b.Idx)) && decide (a.E = b.E)) && decide (a.Body = b.Body)) = decide (a = b):= by
  rw [Bool.eq_iff_iff]
  simp only [Bool.and_eq_true,decide_eq_true_eq,St.eq_iff]
  constructor
  · rintro ⟨⟨⟨⟨⟨⟨⟨h1,h2⟩,h3⟩,h4⟩,h5⟩,h6⟩,h7⟩,h8⟩; exact ⟨h1,h2,h3,h4,h5,h6,h7,h8⟩
  · rintro ⟨h1,h2,h3,h4,h5,h6,h7,h8⟩; exact ⟨⟨⟨⟨⟨⟨⟨h1,h2⟩,h3⟩,h4⟩,h5⟩,h6⟩,h7⟩,h8⟩
theorem Ns.eq_iff {a b : Ns} : a = b ↔ a.Bufs = b.Bufs ∧ a.Body = b.Body:= by
  constructor
  · rintro rfl; exact ⟨rfl,rfl⟩
  · rintro ⟨h1,h2⟩; cases a; cases b; simp_all
end Go.Br
end
