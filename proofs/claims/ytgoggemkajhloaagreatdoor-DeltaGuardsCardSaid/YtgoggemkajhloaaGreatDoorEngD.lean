/-
  The engine, part D: operations on memory.
  Conditions: none; plain definitions and theorems over any program.
-/
import Derived.Test.YtgoggemkajhloaaGreatDoorEngC
import Derived.Laws.CopyRow
import Derived.Laws.Rows
namespace Go.Eng
open Go Go.RowKit

def nth {α : Type} : List α → Nat → Option α
  | [], _ => none
  | x :: _, 0 => some x
  | _ :: l, i + 1 => nth l i

theorem nth_eq {α : Type} : ∀ (l : List α) (i : Nat), nth l i = l[i]?
  | [], _ => by simp [nth]
  | _ :: _, 0 => by simp [nth]
  | _ :: l, i + 1 => by simp [nth, nth_eq l i]

theorem nth_mem {α : Type} {l : List α} {i : Nat} {x : α} (h : nth l i = some x) : x ∈ l := List.mem_of_getElem? (by rw [← nth_eq]; exact h)

theorem add_of_add (a : Addr) (i j : Nat) : (a.add i).add j = a.add (i + j) := by
  unfold Addr.add
  by_cases hi : i = 0 <;> by_cases hj : j = 0 <;> simp [hi, hj, Nat.add_assoc]

theorem add_block (a : Addr) (n : Nat) : (a.add n).block = a.block := by unfold Addr.add; split <;> rfl

theorem add_none (b o n : Nat) : Addr.add ⟨b, o, none⟩ n = ⟨b, o + n, none⟩ := by
  unfold Addr.add; split <;> simp_all

/-- From address a on lie those cells. -/
def Holds (w : World) (I : Nat → Prop) (a : Addr) (cells : List C) : Prop :=
  ∃ us : List Value, CReps w I cells us ∧ ∀ j u, us[j]? = some u → w.cell? (a.add j) = some u

theorem Holds.drop {w : World} {I : Nat → Prop} {a : Addr} {cells : List C} (h : Holds w I a cells) (k : Nat) : Holds w I (a.add k) (cells.drop k) := by
  obtain ⟨us, hc, hu⟩ := h
  refine ⟨us.drop k, hc.drop k, fun j u hj => ?_⟩
  rw [add_of_add]
  exact hu _ u (by rw [← hj, List.getElem?_drop])

/-- A cell that is a pointer to memory in which those cells lie. -/
def PtrTo (μ : List E) (c : C) (cells : List C) : Prop :=
  ∀ (w : World) (I : Nat → Prop) (v : Value), (∀ e, e ∈ μ → ERep w I e) → CRep w I c v → ∃ a, v = .pointer (some a) ∧ Holds w I a cells

theorem ptr_imm {μ : List E} {cells : List C} : PtrTo μ (.iptr cells) cells := by
  intro w I v _ h
  cases h with
  | iptr _ a us hI hc hr =>
    refine ⟨a, rfl, (List.range cells.length).map us, CReps.of_at (by simp) ?_, ?_⟩
    · intro j c v hj hv
      have hlt : j < cells.length := (List.getElem?_eq_some_iff.1 hj).1
      rw [List.getElem?_map, List.getElem?_range hlt] at hv
      simp only [Option.map_some, Option.some.injEq] at hv
      subst hv
      exact hr j c hj
    · intro j u hu
      have hlt : j < cells.length := by have := (List.getElem?_eq_some_iff.1 hu).1; simpa using this
      rw [List.getElem?_map, List.getElem?_range hlt] at hu
      simp only [Option.map_some, Option.some.injEq] at hu
      subst hu
      exact hc j hlt

theorem ptr_row {μ : List E} {b off : Nat} {t : TypeId} {cs : List C} (p : Nat) (h : nth μ p = some (.row b t cs)) : PtrTo μ (.lit (.pointer (some ⟨b, off, none⟩))) (cs.drop off) := by
  intro w I v hr hv
  cases hv
  obtain ⟨vs, hh, hc⟩ := hr _ (nth_mem h)
  refine ⟨_, rfl, vs.drop off, hc.drop off, fun j u hu => ?_⟩
  rw [add_none, cell_of_row w b (off + j) vs.toArray t (0, 0) hh]
  simpa using hu

theorem flat_at {size : Nat} {rows : List (List C)} (hl : ∀ r, r ∈ rows → r.length = size) : ∀ {i : Nat} {row : List C}, rows[i]? = some row → ∃ A B, rows.flatten = A ++ row ++ B ∧ A.length = i * size := by
  induction rows with
  | nil => intro i row h; simp at h
  | cons r rows ih =>
    intro i row h
    cases i with
    | zero => simp at h; subst h; exact ⟨[], rows.flatten, by simp, by simp⟩
    | succ i =>
      obtain ⟨A, B, e, hA⟩ := ih (fun r hr => hl r (by simp [hr])) (by simpa using h)
      refine ⟨r ++ A, B, by simp [e], ?_⟩
      rw [List.length_append, hA, hl r (by simp), Nat.succ_mul, Nat.add_comm]

theorem ptr_vec {μ : List E} {sv : Value} {size i off : Nat} {t : TypeId} {rows : List (List C)} {row : List C} (p : Nat) (h : nth μ p = some (.vec sv t size rows)) (hi : rows[i]? = some row) : PtrTo μ (.vptr sv size i off) (row.drop off) := by
  intro w I v hr hv
  cases hv with
  | vptr b n cap _ _ _ =>
    rcases hr _ (nth_mem h) with ⟨_, _, rfl⟩ | ⟨_, xs, hown, hc, hl⟩
    · simp at hi
    obtain ⟨A, B, e, hA⟩ := flat_at hl hi
    rw [e] at hc
    have hcell := hown.cells (g := b) rfl
    have hrow : row.length = size := hl row (List.mem_of_getElem? hi)
    refine ⟨_, rfl, ((xs.drop (i * size)).take row.length).drop off, ?_, fun j u hu => ?_⟩
    · have h1 := (hc.drop A.length).take row.length
      rw [List.append_assoc, List.drop_left, List.take_left, hA] at h1
      exact h1.drop off
    · rw [add_none]
      have h2 := hcell (i * size + off + j) u
      rw [add_none, Nat.zero_add] at h2
      refine h2 ?_
      rw [List.getElem?_drop, List.getElem?_take] at hu
      split at hu
      · rw [List.getElem?_drop] at hu; rw [← hu]; congr 1; omega
      · cases hu

theorem run_isAgg_true {P : Program} {t : TypeId} {m : Nat} (h : aggT P t = some m) (w : World) : (isAgg t).run P w = .ok true w ∧ (sizeOf t).run P w = .ok m w := by
  unfold aggT at h
  split at h
  · rename_i fs i hu hi
    simp only [Option.some.injEq] at h
    constructor
    · simp [isAgg, run_underlying hu]
    · simp [sizeOf, typeInfo, program, Sem.run, hi, h]
  · rename_i len el i hu hi
    simp only [Option.some.injEq] at h
    constructor
    · simp [isAgg, run_underlying hu]
    · simp [sizeOf, typeInfo, program, Sem.run, hi, h]
  · cases h

theorem run_isAgg_false {P : Program} {t : TypeId} (h : oneT P t = true) (w : World) : (isAgg t).run P w = .ok false w ∧ (sizeOf t).run P w = .ok 1 w := by
  unfold oneT at h
  cases hu : P.underlying t with
  | none => simp [hu] at h
  | some d =>
    cases hi : P.info? t with
    | none => cases d <;> simp [hu, hi] at h
    | some i =>
      have hs : i.size = 1 := by cases d <;> simp [hu, hi] at h <;> exact h
      constructor
      · cases d <;> simp [hu, hi] at h <;> simp [isAgg, run_underlying hu]
      · simp [sizeOf, typeInfo, hi, hs]

section mem
variable {X : Cfg} {o : Oper} {e : Operand → V} {μ : List E}

theorem det_load_agg {t : TypeId} {x : Operand} {c : C} {cells : List C} {m : Nat} (ho : o.op = .load t x) (ht : aggT X.P t = some m) (hx : e x = .c c) (hp : PtrTo μ c cells) (hl : Nat.ble m cells.length = true) :
    Det X o e μ (.agg (cells.take m)) μ :=
  det_same fun a w I hH hops => by
    have hxv := hops x (by rw [ho]; simp [Op.operands])
    rw [hx] at hxv
    obtain ⟨ad, ha, us, hc, hu⟩ := hp w I _ hH.rep hxv
    obtain ⟨h1, h2⟩ := run_isAgg_true ht w
    have hlen : m ≤ us.length := by rw [← hc.length]; exact Nat.le_of_ble_eq_true hl
    have hload := run_loadCells_list (P := X.P) w ad (us.take m) (fun j v hj => hu j v (by
      rw [List.getElem?_take] at hj
      split at hj
      · exact hj
      · cases hj))
    rw [List.length_take, Nat.min_eq_left hlen] at hload
    refine ⟨.agg (us.take m).toArray, ?_, us.take m, rfl, hc.take m⟩
    simp only [execOp, ho, ha, Instr.loadAt, Instr.sureAddr, loadVar, Sem.run_bind, Sem.run_pure, Result.andThen_ok, h1, h2, if_true, hload]

theorem det_load_one {t : TypeId} {x : Operand} {c d : C} {cells rest : List C} (ho : o.op = .load t x) (ht : oneT X.P t = true) (hx : e x = .c c) (hp : PtrTo μ c cells) (hc : cells = d :: rest) :
    Det X o e μ (.c d) μ :=
  det_same fun a w I hH hops => by
    subst hc
    have hxv := hops x (by rw [ho]; simp [Op.operands])
    rw [hx] at hxv
    obtain ⟨ad, ha, us, hc, hu⟩ := hp w I _ hH.rep hxv
    obtain ⟨h1, h2⟩ := run_isAgg_false ht w
    cases hc with
    | cons hd ht' =>
      rename_i u us'
      have h0 : w.cell? ad = some u := by have := hu 0 u rfl; simpa [Addr.add] using this
      refine ⟨u, ?_, hd⟩
      simp only [execOp, ho, ha, Instr.loadAt, Instr.sureAddr, loadVar, Sem.run_bind, Sem.run_pure, Result.andThen_ok, h1, Bool.false_eq_true, if_false, run_load, h0]

theorem run_fieldAt {P : Program} {s : TypeId} {f off : Nat} {ft : TypeId} (h : fieldT P s f = some (off, ft)) (w : World) (ad : Addr) : (Instr.fieldAt s (.pointer (some ad)) f).run P w = .ok (.pointer (some (ad.add off))) w := by
  unfold fieldT at h
  split at h
  · rename_i fs hu
    split at h
    · rename_i fd hf
      split at h
      · rename_i i hi
        split at h
        · cases h
        · rename_i hz
          simp only [Option.some.injEq, Prod.mk.injEq] at h
          obtain ⟨rfl, rfl⟩ := h
          simp [Instr.fieldAt, run_underlying hu, hf, Instr.sureAddr, fieldPlace, sizeOf, typeInfo, hi, hz]
      · cases h
    · cases h
  · cases h

theorem det_field_lit {s : TypeId} {x : Operand} {f off fo b : Nat} {ft : TypeId} (ho : o.op = .fieldAddr s x f) (hf : fieldT X.P s f = some (fo, ft)) (hx : e x = .c (.lit (.pointer (some ⟨b, off, none⟩)))) :
    Det X o e μ (.c (.lit (.pointer (some ⟨b, off + fo, none⟩)))) μ :=
  det_same fun a w I hH hops => by
    have hxv := hops x (by rw [ho]; simp [Op.operands])
    rw [hx] at hxv
    have h0 := hxv.lit_inv
    refine ⟨.pointer (some ⟨b, off + fo, none⟩), ?_, CRep.lit _ rfl⟩
    have := run_fieldAt hf w ⟨b, off, none⟩
    rw [add_none] at this
    simp only [execOp, ho, h0, Sem.run_bind, this, Result.andThen_ok, Sem.run_pure]

theorem det_field_imm {s : TypeId} {x : Operand} {f fo : Nat} {ft : TypeId} {cells : List C} (ho : o.op = .fieldAddr s x f) (hf : fieldT X.P s f = some (fo, ft)) (hx : e x = .c (.iptr cells)) :
    Det X o e μ (.c (.iptr (cells.drop fo))) μ :=
  det_same fun a w I hH hops => by
    have hxv := hops x (by rw [ho]; simp [Op.operands])
    rw [hx] at hxv
    have hxv' : CRep w I (.iptr cells) (a.eval x) := hxv
    generalize hv : a.eval x = v at hxv'
    cases hxv' with
    | iptr _ ad us hI hc hr =>
      have := run_fieldAt hf w ad
      refine ⟨.pointer (some (ad.add fo)), ?_, ?_⟩
      · simp only [execOp, ho, hv, Sem.run_bind, this, Result.andThen_ok, Sem.run_pure]
      · refine CRep.iptr _ _ (fun j => us (fo + j)) (by rw [add_block]; exact hI) (fun j hj => ?_) (fun j c hj => ?_)
        · rw [add_of_add]; exact hc _ (by simp at hj; omega)
        · exact hr _ c (by rw [← hj, List.getElem?_drop])

theorem det_field_vec {s : TypeId} {x : Operand} {f fo size i off : Nat} {ft : TypeId} {sv : Value} (ho : o.op = .fieldAddr s x f) (hf : fieldT X.P s f = some (fo, ft)) (hx : e x = .c (.vptr sv size i off)) :
    Det X o e μ (.c (.vptr sv size i (off + fo))) μ :=
  det_same fun a w I hH hops => by
    have hxv := hops x (by rw [ho]; simp [Op.operands])
    rw [hx] at hxv
    have hxv' : CRep w I (.vptr sv size i off) (a.eval x) := hxv
    generalize hv : a.eval x = v at hxv'
    cases hxv' with
    | vptr b n cap _ _ _ =>
      have := run_fieldAt hf w ⟨b, i * size + off, none⟩
      rw [add_none] at this
      refine ⟨.pointer (some ⟨b, i * size + (off + fo), none⟩), ?_, CRep.vptr b n cap size i (off + fo)⟩
      simp only [execOp, ho, hv, Sem.run_bind, this, Result.andThen_ok, Sem.run_pure, Nat.add_assoc]

/-- A part of a struct that lies in a register. -/
theorem det_part_one {s : TypeId} {x : Operand} {f fo : Nat} {ft : TypeId} {cells rest : List C} {d : C} (ho : o.op = .field s x f) (hf : fieldT X.P s f = some (fo, ft)) (ht : oneT X.P ft = true) (hx : e x = .agg cells) (hc : cells.drop fo = d :: rest) :
    Det X o e μ (.c d) μ :=
  det_same fun a w I hH hops => by
    have hxv := hops x (by rw [ho]; simp [Op.operands])
    rw [hx] at hxv
    obtain ⟨vs, hv, hcs⟩ := hxv.agg_inv
    obtain ⟨h1, h2⟩ := run_isAgg_false ht w
    have hd := hcs.drop fo
    rw [hc] at hd
    generalize hvd : vs.drop fo = us at hd
    cases hd with
    | cons hd ht' =>
      rename_i u us'
      have h0 : vs[fo]? = some u := by have := congrArg (·[0]?) hvd; simpa using this
      unfold fieldT at hf
      split at hf
      · rename_i fs hu
        split at hf
        · rename_i fd hfd
          split at hf
          · split at hf
            · cases hf
            · simp only [Option.some.injEq, Prod.mk.injEq] at hf
              obtain ⟨rfl, rfl⟩ := hf
              refine ⟨u, ?_, hd⟩
              simp [execOp, ho, hv, Instr.field, run_underlying hu, hfd, asAgg, part, h1, h0]
          · cases hf
        · cases hf
      · cases hf

theorem det_part_agg {s : TypeId} {x : Operand} {f fo m : Nat} {ft : TypeId} {cells : List C} (ho : o.op = .field s x f) (hf : fieldT X.P s f = some (fo, ft)) (ht : aggT X.P ft = some m) (hx : e x = .agg cells) :
    Det X o e μ (.agg ((cells.drop fo).take m)) μ :=
  det_same fun a w I hH hops => by
    have hxv := hops x (by rw [ho]; simp [Op.operands])
    rw [hx] at hxv
    obtain ⟨vs, hv, hcs⟩ := hxv.agg_inv
    obtain ⟨h1, h2⟩ := run_isAgg_true ht w
    unfold fieldT at hf
    split at hf
    · rename_i fs hu
      split at hf
      · rename_i fd hfd
        split at hf
        · split at hf
          · cases hf
          · simp only [Option.some.injEq, Prod.mk.injEq] at hf
            obtain ⟨rfl, rfl⟩ := hf
            refine ⟨.agg ((vs.drop fd.offset).take m).toArray, ?_, _, rfl, (hcs.drop _).take _⟩
            simp only [execOp, ho, hv, Instr.field, Sem.run_bind, run_underlying hu, Result.andThen_ok, hfd, asAgg, Sem.run_pure, part, h1, h2, if_true]
            rw [List.extract_toArray, List.extract_eq_take_drop, Nat.add_sub_cancel_left]
        · cases hf
      · cases hf
    · cases hf

end mem

theorem fresh_alloc {X : Cfg} {w : World} {I : Nat → Prop} {μ : List E} (hH : Heap X w I μ) (ob : Obj) (en : E) (hb : en.blocks = [w.heap.size]) (hm : en.Mono) (hr : ERep (w.alloc ob) I en) :
    Heap X (w.alloc ob) I (en :: μ) ∧ Ext w I μ (w.alloc ob) I (en :: μ) := by
  have hsz : (w.alloc ob).heap.size = w.heap.size + 1 := by show (w.heap.push ob).size = _; simp
  have hold : ∀ b, b < w.heap.size → (w.alloc ob).heap[b]? = w.heap[b]? := fun b hb => Below.heap_alloc w ob b hb
  refine ⟨⟨by have := hH.lo; omega, X.hG _ _ (fun b hb => hold b (by have := hH.lo; omega)) hH.glob, ?_, ?_, fun b hb => by have := hH.imm b hb; omega, ?_, ?_⟩, ⟨rfl, rfl, rfl, by omega, fun b hb _ => hold b hb, fun _ h => h, fun _ h => .inl h, ?_⟩⟩
  · rw [blocksOf_cons, hb]
    refine List.nodup_cons.2 ⟨fun h => ?_, hH.nodup⟩
    have := hH.lt h
    omega
  · intro b hb'
    rw [blocksOf_cons, hb] at hb'
    rcases List.mem_cons.1 hb' with rfl | h
    · exact ⟨hH.lo, fun hi => by have := hH.imm _ hi; omega⟩
    · exact hH.own b h
  · intro e he
    rcases List.mem_cons.1 he with rfl | h
    · exact hr
    · exact (hH.rep e h).mono (hH.mono e h) (fun b hb => hold b (hH.imm b hb)) (fun _ h => h) fun b hb => hold b ((hH.rep e h).lt hb)
  · intro e he
    rcases List.mem_cons.1 he with rfl | h
    · exact hm
    · exact hH.mono e h
  · intro b hb'
    rw [blocksOf_cons, hb] at hb'
    rcases List.mem_cons.1 hb' with rfl | h
    · exact .inr (Nat.le_refl _)
    · exact .inl h

end Go.Eng
