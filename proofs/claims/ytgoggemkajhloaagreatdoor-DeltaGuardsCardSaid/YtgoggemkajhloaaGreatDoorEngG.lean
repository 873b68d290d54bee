/-
  The engine, part G: strings, conversions, composite literals, results taken apart, function values, cuts of slices.
  Conditions: none; plain definitions and theorems over any program.
-/
import Derived.Test.YtgoggemkajhloaaGreatDoorEngF
namespace Go.Eng
open Go Go.RowKit

theorem str_beq (a b : ByteArray) : (a.toList == b.toList) = decide (a = b) := by
  rw [Bool.eq_iff_iff]
  simp only [beq_iff_eq, decide_eq_true_eq]
  constructor
  · intro h
    rw [ByteArray.toList_eq, ByteArray.toList_eq] at h
    exact ByteArray.ext (Array.toList_inj.mp h)
  · rintro rfl; rfl

/-- Go's order on strings. -/
def strLt (a b : ByteArray) : Bool := Op.bytesLess a.toList b.toList

section ops
variable {X : Cfg} {o : Oper} {e : Operand → V} {μ : List E} {t ty : TypeId} {x y : Operand}

theorem det_seql {a b : ByteArray} (ho : o.op = .binOp .eql t x y ty) (hx : e x = .c (.lit (.string a))) (hy : e y = .c (.lit (.string b))) : Det X o e μ (.c (.lit (.bool (decide (a = b))))) μ := det_bin ho hx hy (fun w => by simp [eqGuard, binOp, Op.stringOp, str_beq]) rfl
theorem det_sneq {a b : ByteArray} (ho : o.op = .binOp .neq t x y ty) (hx : e x = .c (.lit (.string a))) (hy : e y = .c (.lit (.string b))) : Det X o e μ (.c (.lit (.bool (!decide (a = b))))) μ := det_bin ho hx hy (fun w => by simp [eqGuard, binOp, Op.stringOp, str_beq]) rfl
theorem det_slss {a b : ByteArray} (ho : o.op = .binOp .lss t x y ty) (hx : e x = .c (.lit (.string a))) (hy : e y = .c (.lit (.string b))) : Det X o e μ (.c (.lit (.bool (strLt a b)))) μ := det_bin ho hx hy (fun w => by simp only [eqGuard, binOp, Op.stringOp]; rfl) rfl
theorem det_sgtr {a b : ByteArray} (ho : o.op = .binOp .gtr t x y ty) (hx : e x = .c (.lit (.string a))) (hy : e y = .c (.lit (.string b))) : Det X o e μ (.c (.lit (.bool (!(strLt a b || decide (a = b)))))) μ := det_bin ho hx hy (fun w => by simp only [eqGuard, binOp, Op.stringOp, str_beq]; rfl) rfl
theorem det_sadd {a b : ByteArray} (ho : o.op = .binOp .add t x y ty) (hx : e x = .c (.lit (.string a))) (hy : e y = .c (.lit (.string b))) (hl : a.size + b.size ≤ 9223372036854775807) : Det X o e μ (.c (.lit (.string (a ++ b)))) μ := det_bin ho hx hy (fun w => by
  have h : ¬ (((a.size + b.size : Nat) : Int) > IntKind.i64.max) := by
    have : IntKind.i64.max = 9223372036854775807 := by decide
    rw [this]; omega
  simp only [eqGuard, binOp, Op.stringOp, if_neg h]; rfl) rfl

theorem det_beql {a b : Bool} (ho : o.op = .binOp .eql t x y ty) (ht : X.P.underlying t = some .bool) (hx : e x = .c (.lit (.bool a))) (hy : e y = .c (.lit (.bool b))) : Det X o e μ (.c (.lit (.bool (a == b)))) μ := det_bin ho hx hy (fun w => by
  rw [eqGuard_at_bool, Sem.run_bind, Sem.run_pure, Result.andThen_ok, run_eql_bool w t a b ht]) rfl
theorem det_bneq {a b : Bool} (ho : o.op = .binOp .neq t x y ty) (ht : X.P.underlying t = some .bool) (hx : e x = .c (.lit (.bool a))) (hy : e y = .c (.lit (.bool b))) : Det X o e μ (.c (.lit (.bool (!(a == b))))) μ := det_bin ho hx hy (fun w => by
  rw [eqGuard_at_bool, Sem.run_bind, Sem.run_pure, Result.andThen_ok]
  simp only [binOp, Sem.run_bind, run_equal_bool w t a b ht, Result.andThen_ok, Sem.run_pure]) rfl

theorem det_not {b : Bool} (ho : o.op = .unOp .not t x) (hx : e x = .c (.lit (.bool b))) : Det X o e μ (.c (.lit (.bool (!b)))) μ :=
  det_same fun a w I _ hops => by
    have hxv := hops x (by rw [ho]; simp [Op.operands])
    rw [hx] at hxv
    exact ⟨.bool (!b), by simp [execOp, ho, hxv.lit_inv, Op.unary], CRep.lit _ rfl⟩

theorem det_neg {k : IntKind} {n : Int} (ho : o.op = .unOp .neg t x) (hx : e x = .c (.lit (.int k n))) : Det X o e μ (.c (.lit (.int k (k.wrap (-n))))) μ :=
  det_same fun a w I _ hops => by
    have hxv := hops x (by rw [ho]; simp [Op.operands])
    rw [hx] at hxv
    exact ⟨.int k (k.wrap (-n)), by simp [execOp, ho, hxv.lit_inv, Op.unary, Op.intArith], CRep.lit _ rfl⟩

def intT (P : Program) (t : TypeId) : Option IntKind := match P.underlying t with | some (.int k) => some k | _ => none

theorem det_conv {src dst : TypeId} {k k' : IntKind} {n : Int} (ho : o.op = .convert src dst x) (hs : (X.P.underlying src).isSome = true) (hd : intT X.P dst = some k) (hx : e x = .c (.lit (.int k' n))) : Det X o e μ (.c (.lit (.int k (k.wrap n)))) μ :=
  det_same fun a w I _ hops => by
    have hxv := hops x (by rw [ho]; simp [Op.operands])
    rw [hx] at hxv
    have hd' : X.P.underlying dst = some (.int k) := by
      unfold intT at hd
      split at hd
      · rename_i h; simp only [Option.some.injEq] at hd; rw [h, hd]
      · cases hd
    obtain ⟨d, hs'⟩ := Option.isSome_iff_exists.1 hs
    exact ⟨.int k (k.wrap n), by simp [execOp, ho, hxv.lit_inv, convert, run_underlying hs', run_underlying hd', Conv.intToInt], CRep.lit _ rfl⟩

/-- A conversion between types of one shape that changes no value (string to a named string ..). -/
theorem det_conv_str {src dst : TypeId} {s : ByteArray} (ho : o.op = .convert src dst x) (hs : (X.P.underlying src).isSome = true) (hd : X.P.underlying dst = some .string) (hx : e x = .c (.lit (.string s))) : Det X o e μ (.c (.lit (.string s))) μ :=
  det_same fun a w I _ hops => by
    have hxv := hops x (by rw [ho]; simp [Op.operands])
    rw [hx] at hxv
    obtain ⟨d, hs'⟩ := Option.isSome_iff_exists.1 hs
    exact ⟨.string s, by simp [execOp, ho, hxv.lit_inv, convert, run_underlying hs', run_underlying hd], CRep.lit _ rfl⟩

theorem det_sindex {k : IntKind} {i : Int} {s : ByteArray} {b : UInt8} (ho : o.op = .index t x y) (ht : X.P.underlying t = some .string) (hx : e x = .c (.lit (.string s))) (hy : e y = .c (.lit (.int k i))) (h0 : 0 ≤ i) (hb : s.data.toList[i.toNat]? = some b) : Det X o e μ (.c (.lit (.int .u8 b.toNat))) μ :=
  det_same fun a w I _ hops => by
    have hxv := hops x (by rw [ho]; simp [Op.operands])
    have hyv := hops y (by rw [ho]; simp [Op.operands])
    rw [hx] at hxv
    rw [hy] at hyv
    have hb' : s[i.toNat]? = some b := by
      have hlt : i.toNat < s.size := by have := (List.getElem?_eq_some_iff.1 hb).1; simpa using this
      rw [getElem?_pos s i.toNat hlt]
      have := (List.getElem?_eq_some_iff.1 hb).2
      rw [← this]
      rfl
    exact ⟨.int .u8 b.toNat, by simp [execOp, ho, hxv.lit_inv, hyv.lit_inv, Instr.index, asIntOf, run_underlying ht, h0, hb'], CRep.lit _ rfl⟩

/-- The same, the byte named whether it is there or not. -/
theorem det_sindexD {k : IntKind} {i : Int} {s : ByteArray} (ho : o.op = .index t x y) (ht : X.P.underlying t = some .string) (hx : e x = .c (.lit (.string s))) (hy : e y = .c (.lit (.int k i))) (h0 : 0 ≤ i) (hlt : i.toNat < s.size) : Det X o e μ (.c (.lit (.int .u8 (s.data.toList.getD i.toNat 0).toNat))) μ := by
  refine det_sindex ho ht hx hy h0 ?_
  have : i.toNat < s.data.toList.length := by simpa using hlt
  simp [List.getD, List.getElem?_eq_getElem this]

theorem det_max {ts : Array TypeId} {k : IntKind} {m n : Int} (ho : o.op = .call { callee := .builtin .max, args := #[x, y], argTypes := ts }) (hx : e x = .c (.lit (.int k m))) (hy : e y = .c (.lit (.int k n))) : Det X o e μ (.c (.lit (.int k (max m n)))) μ :=
  det_same fun a w I _ hops => by
    have hxv := hops x (by rw [ho]; simp [Op.operands, Call.operands])
    have hyv := hops y (by rw [ho]; simp [Op.operands, Call.operands])
    rw [hx] at hxv
    rw [hy] at hyv
    refine ⟨.int k (max m n), ?_, CRep.lit _ rfl⟩
    have h : (if n > m then n else m) = max m n := by split <;> omega
    simp [execOp, ho, hxv.lit_inv, hyv.lit_inv, resolve, invoke, builtin, run_max_int2]
    omega

theorem det_min {ts : Array TypeId} {k : IntKind} {m n : Int} (ho : o.op = .call { callee := .builtin .min, args := #[x, y], argTypes := ts }) (hx : e x = .c (.lit (.int k m))) (hy : e y = .c (.lit (.int k n))) : Det X o e μ (.c (.lit (.int k (min m n)))) μ :=
  det_same fun a w I _ hops => by
    have hxv := hops x (by rw [ho]; simp [Op.operands, Call.operands])
    have hyv := hops y (by rw [ho]; simp [Op.operands, Call.operands])
    rw [hx] at hxv
    rw [hy] at hyv
    refine ⟨.int k (min m n), ?_, CRep.lit _ rfl⟩
    simp [execOp, ho, hxv.lit_inv, hyv.lit_inv, resolve, invoke, builtin, run_min_int2]
    omega

theorem V1Reps.nth {w : World} {I : Nat → Prop} : ∀ {l : List V} {vs : List Value} {i : Nat} {r : V}, V1Reps w I l vs → nth l i = some r → ∃ v, vs[i]? = some v ∧ V1Rep w I r v
  | [], _, _, _, _, h => by simp [Eng.nth] at h
  | _ :: _, [], _, _, h, _ => h.elim
  | x :: _, v :: _, 0, r, h, hn => by
    simp only [Eng.nth, Option.some.injEq] at hn
    subst hn
    exact ⟨v, rfl, h.1⟩
  | _ :: _, _ :: _, i + 1, r, h, hn => by
    obtain ⟨v, h1, h2⟩ := V1Reps.nth h.2 hn
    exact ⟨v, by simpa using h1, h2⟩

theorem det_ex {i : Nat} {l : List V} {r : V} (ho : o.op = .extract x i) (hx : e x = .tup l) (hr : nth l i = some r) : Det X o e μ r μ :=
  det_same fun a w I _ hops => by
    have hxv := hops x (by rw [ho]; simp [Op.operands])
    rw [hx] at hxv
    obtain ⟨vs, hv, hvs⟩ := hxv
    obtain ⟨v, h1, h2⟩ := hvs.nth hr
    exact ⟨v, by simp [execOp, ho, hv, Instr.extract, h1], h2.up⟩
theorem det_ex_c {i : Nat} {l : List V} {r : C} (ho : o.op = .extract x i) (hx : e x = .tup l) (hr : nth l i = some (.c r)) : Det X o e μ (.c r) μ := det_ex ho hx hr
theorem det_ex_agg {i : Nat} {l : List V} {r : List C} (ho : o.op = .extract x i) (hx : e x = .tup l) (hr : nth l i = some (.agg r)) : Det X o e μ (.agg r) μ := det_ex ho hx hr

def cOf : V → C
  | .c x => x
  | _ => .lit (.tuple #[])

def allC : List V → Bool
  | [] => true
  | .c _ :: l => allC l
  | _ :: _ => false

theorem cOf_reps {w : World} {I : Nat → Prop} {a : Act} {e : Operand → V} : ∀ {as : List Operand}, (∀ x, x ∈ as → VRep w I (e x) (a.eval x)) → allC (as.map e) = true → CReps w I ((as.map e).map cOf) (as.map a.eval)
  | [], _, _ => .nil
  | x :: as, h, hc => by
    simp only [List.map_cons]
    cases hx : e x with
    | c y =>
      have h1 := h x (by simp)
      rw [hx] at h1
      refine .cons h1 (cOf_reps (fun z hz => h z (by simp [hz])) ?_)
      simpa [allC, hx] using hc
    | _ => simp [allC, hx] at hc

theorem det_func {f : Fn} {first cap : List Operand} {fs cs : List C} (ho : o.op = .makeFunc f first.toArray cap.toArray) (h1 : allC (first.map e) = true) (h2 : allC (cap.map e) = true) (hf : (first.map e).map cOf = fs) (hc : (cap.map e).map cOf = cs) : Det X o e μ (.c (.fn f fs cs)) μ :=
  det_same fun a w I _ hops => by
    subst hf hc
    have c1 := cOf_reps (w := w) (I := I) (a := a) (e := e) (as := first) (fun x hx => hops x (by rw [ho]; simp [Op.operands, hx])) h1
    have c2 := cOf_reps (w := w) (I := I) (a := a) (e := e) (as := cap) (fun x hx => hops x (by rw [ho]; simp [Op.operands, hx])) h2
    refine ⟨.func f (first.map a.eval).toArray (cap.map a.eval).toArray, by simp [execOp, ho, Instr.makeFunc], CRep.fn _ _ _ _ _ c1.length.symm c2.length.symm (fun j c u hj hu => ?_) (fun j c u hj hu => ?_)⟩
    · obtain ⟨v, hv, hr⟩ := c1.at_ hj
      rw [hu] at hv; cases hv; exact hr
    · obtain ⟨v, hv, hr⟩ := c2.at_ hj
      rw [hu] at hv; cases hv; exact hr

theorem det_nilcheck_ptr {ad : Addr} (ho : o.op = .nilCheck x) (hx : e x = .c (.lit (.pointer (some ad)))) : Det X o e μ (.c (.lit (.pointer (some ad)))) μ :=
  det_same fun a w I _ hops => by
    have hxv := hops x (by rw [ho]; simp [Op.operands])
    rw [hx] at hxv
    exact ⟨.pointer (some ad), by simp [execOp, ho, hxv.lit_inv], CRep.lit _ rfl⟩

theorem det_nilcheck_fn {f : FuncId} {first cap : List C} (ho : o.op = .nilCheck x) (hx : e x = .c (.fn (.func f) first cap)) : Det X o e μ (.c (.fn (.func f) first cap)) μ :=
  det_same fun a w I _ hops => by
    have hxv := hops x (by rw [ho]; simp [Op.operands])
    rw [hx] at hxv
    have h' : CRep w I (.fn (.func f) first cap) (a.eval x) := hxv
    generalize hv : a.eval x = v at h'
    cases h' with
    | fn _ _ _ us vs h1 h2 hr1 hr2 => exact ⟨_, by simp [execOp, ho, hv], CRep.fn _ _ _ us vs h1 h2 hr1 hr2⟩

/-! ## Cuts of slices that are left alone -/

/-- A bound of a cut. -/
def bnd (e : Operand → V) (o : Option Operand) (dflt v : Nat) : Prop :=
  match o with
  | none => v = dflt
  | some x => ∃ k i, e x = .c (.lit (.int k i)) ∧ i = (v : Int)

theorem bnd_run {P : Program} {w : World} {I : Nat → Prop} {a : Act} {k : IntKind} {v m : Nat} {xo : Operand} {code : BoundsCode} {i : Int} (h : VRep w I (.c (.lit (.int k i))) (a.eval xo)) (hi : i = (v : Int)) (hm : v ≤ m) : (Instr.sliceBound (a.eval xo) m code).run P w = .ok v w := by
  rw [h.lit_inv]
  subst hi
  have h1 : (0 : Int) ≤ v ∧ (v : Int) ≤ m := by omega
  simp [Instr.sliceBound, asIntOf, h1.2]

theorem cut_rep {w : World} {I : Nat → Prop} {size : Nat} {rows : List (List C)} {a : Option Addr} {n cap m : Nat} (h : CRep w I (.sl size rows) (.slice a n cap)) (l k : Nat) (hl : l ≤ k) (hk : k ≤ rows.length) (hm : k ≤ m) :
    CRep w I (.sl size ((rows.take k).drop l)) (.slice (if m = l then a else a.map (·.add (l * size))) (k - l) (m - l)) := by
  by_cases hz : k - l = 0
  · rw [hz]
    have : (rows.take k).drop l = [] := by
      apply List.eq_nil_of_length_eq_zero
      simp; omega
    rw [this]
    exact .nil _ _ _
  · rw [if_neg (by omega)]
    have hlen : ((rows.take k).drop l).length = k - l := by simp; omega
    cases h with
    | nil => simp at hk; omega
    | sl _ _ ad _ us hI hl' hcap hc hr =>
      rw [← hlen]
      simp only [Option.map_some]
      have hget : ∀ i, i < k - l → ((rows.take k).drop l)[i]? = rows[l + i]? := by
        intro i hi
        rw [List.getElem?_drop, List.getElem?_take, if_pos (by omega)]
      refine .sl size _ _ _ (fun i j => us (l + i) j) (by rw [add_block]; exact hI) (fun r hr' => hl' r (List.mem_of_mem_take (List.mem_of_mem_drop hr'))) (by omega) (fun i j hi hj => ?_) (fun i r hi j c hj => ?_)
      · rw [add_of_add]
        have := hc (l + i) j (by omega) hj
        rwa [Nat.add_mul, Nat.add_assoc] at this
      · have hlt : i < k - l := by have := (List.getElem?_eq_some_iff.1 hi).1; omega
        exact hr (l + i) r (by rw [← hget i hlt]; exact hi) j c hj

theorem det_cut_sl {et : TypeId} {size bytes : Nat} {rows : List (List C)} {lo hi : Option Operand} (l k : Nat) (ho : o.op = .slice t x lo hi none) (ht : elemT X.P t = some (et, size, bytes)) (hx : e x = .c (.sl size rows))
    (h1 : bnd e lo 0 l) (h2 : bnd e hi rows.length k) (hl : l ≤ k) (hk : k ≤ rows.length) : Det X o e μ (.c (.sl size ((rows.take k).drop l))) μ :=
  det_same fun a w I _ hops => by
    obtain ⟨hu, inf, z, hinf, hz, hs, hby, hzs, hpos⟩ := elemT_parts ht
    have hxv := hops x (by rw [ho]; simp [Op.operands])
    rw [hx] at hxv
    have hxv' : CRep w I (.sl size rows) (a.eval x) := hxv
    have hform : ∃ ad n cap, a.eval x = .slice ad n cap ∧ n = rows.length ∧ rows.length ≤ cap := by
      generalize a.eval x = v at hxv'
      cases hxv' with
      | nil _ ad cap => exact ⟨ad, 0, cap, rfl, rfl, by simp⟩
      | sl _ _ ad cap us hI hl' hcap hc hr => exact ⟨some ad, rows.length, cap, rfl, rfl, hcap⟩
    obtain ⟨ad, n, cap, hv, hn, hcap⟩ := hform
    rw [hv] at hxv'
    have hres := cut_rep hxv' l k hl hk (m := cap) (by omega)
    refine ⟨_, ?_, hres⟩
    have hB : (Instr.sliceBounds true n cap (lo.map a.eval) (hi.map a.eval) none).run X.P w = .ok (l, k, cap) w := by
      have hH : ∀ xh, hi = some xh → ∀ code, (Instr.sliceBound (a.eval xh) cap code).run X.P w = .ok k w := by
        rintro xh rfl code
        obtain ⟨kd, i, he, hi'⟩ := h2
        have hxh := hops xh (by rw [ho]; simp [Op.operands])
        rw [he] at hxh
        exact bnd_run hxh hi' (by omega)
      have hL : ∀ xl, lo = some xl → ∀ code, (Instr.sliceBound (a.eval xl) k code).run X.P w = .ok l w := by
        rintro xl rfl code
        obtain ⟨kd, i, he, hi'⟩ := h1
        have hxl := hops xl (by rw [ho]; simp [Op.operands])
        rw [he] at hxl
        exact bnd_run hxl hi' hl
      cases hi with
      | none =>
        have h2' : k = n := by simp only [bnd] at h2; omega
        subst h2'
        cases lo with
        | none =>
          have h1' : l = 0 := h1
          subst h1'
          simp [Instr.sliceBounds]
        | some xl => simp [Instr.sliceBounds, hL xl rfl]
      | some xh =>
        cases lo with
        | none =>
          have h1' : l = 0 := h1
          subst h1'
          simp [Instr.sliceBounds, hH xh rfl]
        | some xl => simp [Instr.sliceBounds, hH xh rfl, hL xl rfl]
    simp only [execOp, ho, hv, Instr.sliceAt, Instr.slice, Sem.run_bind, run_underlying hu, Result.andThen_ok, Option.map_none, hB, sizeOf, typeInfo, run_program, hinf, Sem.run_pure, hs]

/-! ## Composite literals -/

theorem fold_set (off : Nat) : ∀ (vs : List Value) (k : Nat) (cells : List Value), off + k + vs.length ≤ cells.length →
    (vs.zipIdx k).foldl (fun (cs : Array Value) (p : Value × Nat) => cs.setIfInBounds (off + p.2) p.1) cells.toArray = (cells.take (off + k) ++ vs ++ cells.drop (off + k + vs.length)).toArray
  | [], k, cells, _ => by simp
  | v :: vs, k, cells, h => by
    simp only [List.length_cons] at h
    rw [List.zipIdx_cons, List.foldl_cons]
    have e : cells.toArray.setIfInBounds (off + k) v = (cells.set (off + k) v).toArray := by simp
    rw [e, fold_set off vs (k + 1) _ (by simp; omega)]
    congr 1
    rw [show off + (k + 1) = off + k + 1 by omega]
    rw [List.take_set, List.take_succ_eq_append_getElem (by omega), List.drop_set]
    rw [if_pos (by omega), List.set_append_right _ _ (by simp; omega)]
    simp only [List.length_take, List.length_cons]
    rw [show off + k - min (off + k) cells.length = 0 by omega]
    simp only [List.set_cons_zero, List.append_assoc, List.cons_append, List.nil_append]
    rw [show off + k + 1 + vs.length = off + k + (vs.length + 1) by omega]

/-- 'fill' part by part, on abstract cells. -/
def afill (place : Nat → Option (Nat × Nat)) (cells : List C) : List (Nat × V) → Option (List C)
  | [] => some cells
  | (i, v) :: rest =>
    match place i, vcells v with
    | some (off, size), some cs => cond (Nat.beq cs.length size && Nat.ble (off + size) cells.length) (afill place (spl cells off cs) rest) none
    | _, _ => none

theorem afill_run {w : World} {I : Nat → Prop} (place : Nat → Option (Nat × Nat)) {e : Operand → V} {a : Act} : ∀ {parts : List (Nat × Operand)} {cells out : List C} {vs : List Value}, (∀ p, p ∈ parts → VRep w I (e p.2) (a.eval p.2)) → CReps w I cells vs →
    afill place cells (parts.map fun p => (p.1, e p.2)) = some out → ∃ us : List Value, Instr.fill place vs.toArray (parts.map fun p => (p.1, a.eval p.2)) = some us.toArray ∧ CReps w I out us
  | [], cells, out, vs, _, hc, h => by
    simp only [List.map_nil, afill, Option.some.injEq] at h
    subst h
    exact ⟨vs, by simp [Instr.fill], hc⟩
  | (i, x) :: parts, cells, out, vs, hops, hc, h => by
    simp only [List.map_cons, afill] at h
    cases hp : place i with
    | none => rw [hp] at h; cases h
    | some q =>
      obtain ⟨off, size⟩ := q
      cases hv : vcells (e x) with
      | none => rw [hp, hv] at h; cases h
      | some cs =>
        rw [hp, hv] at h
        simp only at h
        have hxr := vcells_rep (hops (i, x) (by simp)) hv
        cases hcond : (Nat.beq cs.length size && Nat.ble (off + size) cells.length) with
        | false => rw [hcond] at h; cases h
        | true =>
          rw [hcond] at h
          simp only [Bool.and_eq_true] at hcond
          have h1 : cs.length = size := Nat.eq_of_beq_eq_true hcond.1
          have h2 : off + size ≤ cells.length := Nat.le_of_ble_eq_true hcond.2
          have h3 : (a.eval x).cells.size = size := by rw [← h1, hxr.length]; simp
          have h4 := hc.length
          have hs : CReps w I (spl cells off cs) (vs.take off ++ (a.eval x).cells.toList ++ vs.drop (off + (a.eval x).cells.toList.length)) := by
            rw [spl_eq cells off cs (by omega)]
            refine ((hc.take off).append hxr).append ?_
            have : (a.eval x).cells.toList.length = cs.length := hxr.length.symm
            rw [this]
            exact hc.drop _
          obtain ⟨us, hf, hu⟩ := afill_run place (parts := parts) (fun p hp' => hops p (by simp [hp'])) hs h
          refine ⟨us, ?_, hu⟩
          simp only [List.map_cons, Instr.fill, hp]
          rw [if_neg (by simp [h3]; omega)]
          have hfold := fold_set off (a.eval x).cells.toList 0 vs (by simp [h3]; omega)
          rw [Nat.add_zero] at hfold
          rw [← hf]
          congr 1
          rw [← Array.foldl_toList, Array.toList_zipIdx]
          exact hfold

def placesT (P : Program) (t : TypeId) : Option (List (Nat × Nat)) :=
  match P.underlying t with
  | some (.struct fs) => fs.toList.mapM fun f => (P.info? f.type).map fun i => (f.offset, i.size)
  | _ => none

theorem run_places {P : Program} {w : World} : ∀ {fs : List Field} {ps : List (Nat × Nat)}, (fs.mapM fun f => (P.info? f.type).map fun i => (f.offset, i.size)) = some ps →
    (fs.mapM fun f => (do pure (f.offset, ← sizeOf f.type) : Sem (Nat × Nat))).run P w = .ok ps w
  | [], ps, h => by simp at h; subst h; simp
  | f :: fs, ps, h => by
    rw [List.mapM_cons] at h
    cases hi : P.info? f.type with
    | none => simp [hi] at h
    | some i =>
      cases hr : (fs.mapM fun f => (P.info? f.type).map fun i => (f.offset, i.size)) with
      | none => simp [hi, hr] at h
      | some qs =>
        simp [hi, hr] at h
        subst h
        have ih := run_places (P := P) (w := w) hr
        rw [List.mapM_cons, Sem.run_bind]
        simp only [Sem.run_bind, sizeOf, typeInfo, run_program, hi, Sem.run_pure, Result.andThen_ok] at ih ⊢
        rw [ih]
        rfl

theorem det_build {zs : List Value} {ps : List (Nat × Nat)} {parts : List (Nat × Operand)} {cells : List C} (ho : o.op = .build t parts.toArray) (hz : zeroT X.P t = some zs) (hp : placesT X.P t = some ps) (hf : afill (nth ps) (zs.map .lit) (parts.map fun p => (p.1, e p.2)) = some cells) :
    Det X o e μ (.agg cells) μ :=
  det_same fun a w I _ hops => by
    unfold zeroT at hz
    split at hz
    · rename_i i hi
      split at hz
      · rename_i v hv
        split at hz
        · rename_i hall
          simp only [Option.some.injEq] at hz
          subst hz
          have hc : CReps w I (v.cells.toList.map .lit) v.cells.toList := CReps.lits _ fun u hu => by
            rw [Array.all_eq_true_iff_forall_mem] at hall
            exact hall u (by simpa using hu)
          unfold placesT at hp
          split at hp
          · rename_i fs hu
            obtain ⟨us, hfill, hcs⟩ := afill_run (w := w) (I := I) (a := a) (nth ps) (parts := parts) (fun p hp' => hops p.2 (by rw [ho]; simp [Op.operands]; exact ⟨p.1, hp'⟩)) hc hf
            refine ⟨.agg us.toArray, ?_, us, rfl, hcs⟩
            have hpl := run_places (P := X.P) (w := w) hp
            have hmap : (fs.mapM fun f => (do pure (f.offset, ← sizeOf f.type) : Sem (Nat × Nat))).run X.P w = .ok ps.toArray w := by
              rw [← Array.toArray_toList (xs := fs), List.mapM_toArray, Sem.run_map, hpl]
              rfl
            have hpn : (fun i => ps.toArray[i]?) = nth ps := by funext i; rw [nth_eq]; simp
            simp only [execOp, ho, Instr.build, zeroValue, Sem.run_bind, typeInfo, run_program, hi, hv, Sem.run_pure, Result.andThen_ok, run_underlying hu, hmap]
            rw [hpn]
            simp only [List.map_toArray, Array.toArray_toList] at hfill ⊢
            rw [hfill]
            rfl
          · cases hp
        · cases hz
      · cases hz
    · cases hz

end ops
end Go.Eng
