/-
  The engine, part K: maps with strings for keys, made by the call itself.
  Conditions: none; plain definitions and theorems over any program.
-/
import Derived.Test.YtgoggemkajhloaaGreatDoorEngJ
import Derived.MapKept
namespace Go.Eng
open Go Go.RowKit Go.MapKept

section
variable {α : Type}

def mget : List (ByteArray × α) → ByteArray → Option α
  | [], _ => none
  | (k', a) :: r, k => if k' = k then some a else mget r k

def mput : List (ByteArray × α) → ByteArray → α → List (ByteArray × α)
  | [], k, a => [(k, a)]
  | (k', b) :: r, k, a => if k' = k then (k, a) :: r else (k', b) :: mput r k a

/-- Entry by entry. -/
inductive ERs (enc : α → V) (w : World) (I : Nat → Prop) : List MapEntry → List (ByteArray × α) → Prop where
  | nil : ERs enc w I [] []
  | cons {e : MapEntry} {k : ByteArray} {a : α} {es : List MapEntry} {m : List (ByteArray × α)} (hk : e.key = .string k) (hv : V1Rep w I (enc a) e.val) (t : ERs enc w I es m) : ERs enc w I (e :: es) ((k, a) :: m)

def MapR (enc : α → V) (m : List (ByteArray × α)) (w : World) (I : Nat → Prop) (o : Obj) : Prop := ∃ es clock, o = .map es clock ∧ ERs enc w I es.toList m

theorem ERs.mono {enc : α → V} {w w' : World} {I I' : Nat → Prop} (hw : ∀ b, I b → w'.heap[b]? = w.heap[b]?) (hI : ∀ b, I b → I' b) {es : List MapEntry} {m : List (ByteArray × α)} (h : ERs enc w I es m) : ERs enc w' I' es m := by
  induction h with
  | nil => exact .nil
  | cons hk hv _ ih => exact .cons hk (hv.mono hw hI) ih

theorem MapR.mono (enc : α → V) (m : List (ByteArray × α)) (b : Nat) : (E.blk b (MapR enc m)).Mono := by
  intro w w' I I' hw hI o ⟨es, clock, ho, h⟩
  exact ⟨es, clock, ho, h.mono hw hI⟩

theorem same_str (a b : ByteArray) : Instr.sameNow .string (.string a) (.string b) = some (decide (a = b)) := by
  simp only [Instr.sameNow]
  congr 1
  rw [beq_toListBytes, str_beq]

theorem find_str {enc : α → V} {w : World} {I : Nat → Prop} (k : ByteArray) {es : List MapEntry} {m : List (ByteArray × α)} (h : ERs enc w I es m) : ∀ i : Nat,
    (mget m k = none ∧ Instr.findNow .string (.string k) es i = some none) ∨ ∃ a j v, mget m k = some a ∧ Instr.findNow .string (.string k) es i = some (some (i + j, v)) ∧ V1Rep w I (enc a) v ∧ ∃ e, es[j]? = some e ∧ e.key = .string k ∧ e.val = v := by
  induction h with
  | nil => intro i; exact .inl ⟨rfl, rfl⟩
  | cons hk hv _ ih =>
    rename_i e k' a es m t
    intro i
    by_cases hkk : k = k'
    · subst hkk
      refine .inr ⟨a, 0, e.val, by simp [mget], ?_, hv, e, rfl, hk, rfl⟩
      simp [Instr.findNow, hk, same_str]
    · have h1 : Instr.sameNow .string (.string k) e.key = some false := by rw [hk, same_str]; simp [hkk]
      rcases ih (i + 1) with ⟨h2, h3⟩ | ⟨b, j, v, h2, h3, h4, e', h5, h6⟩
      · refine .inl ⟨?_, ?_⟩
        · simp only [mget]; rw [if_neg (Ne.symm hkk)]; exact h2
        · simp only [Instr.findNow, h1]; exact h3
      · refine .inr ⟨b, j + 1, v, ?_, ?_, h4, e', by simpa using h5, h6⟩
        · simp only [mget]; rw [if_neg (Ne.symm hkk)]; exact h2
        · simp only [Instr.findNow, h1]; rw [h3]; congr 3; omega

/-- Key and element type, both known: keys are strings, the element's zero value. -/
def smapT (P : Program) (t : TypeId) : Option Value :=
  match P.underlying t with
  | some (.map k e) => match P.underlying k, P.info? e with
    | some .string, some i => i.zero
    | _, _ => none
  | _ => none

theorem smapT_parts {P : Program} {t : TypeId} {z : Value} (h : smapT P t = some z) : ∃ k e i, P.underlying t = some (.map k e) ∧ P.underlying k = some .string ∧ P.info? e = some i ∧ i.zero = some z := by
  unfold smapT at h
  split at h
  · rename_i k e hu
    split at h
    · rename_i i hk hi
      exact ⟨k, e, i, hu, hk, hi, h⟩
    · cases h
  · cases h

theorem run_checkKey_str {P : Program} {w : World} {kt : TypeId} {k : ByteArray} (h : P.underlying kt = some .string) (em : Bool) : (Instr.checkKey em 10000 kt (.string k)).run P w = .ok () w := run_checkKey h (by simp [IsKey]) em 9999

section ops
variable {X : Cfg} {o : Oper} {e : Operand → V} {μ : List E} {t : TypeId} {x y : Operand}

theorem ope_mkmap (enc : α → V) {r : Option Operand} (ho : o.op = .makeMap t r) (hr : r = none) : OpE X o e μ fun v μ' => ∃ b, v = .c (.lit (.map (some b))) ∧ μ' = .blk b (MapR enc ([] : List (ByteArray × α))) :: μ := by
  intro a w I hH hops K Q k
  subst hr
  obtain ⟨h1, h2⟩ := fresh_alloc hH (.map #[] 0) (.blk w.heap.size (MapR enc [])) rfl (MapR.mono enc [] _) ⟨_, heap_alloc_new w _, #[], 0, rfl, .nil⟩
  refine wp_value (v := .map (some w.heap.size)) ?_ (k _ _ _ _ _ ⟨w.heap.size, rfl, rfl⟩ (CRep.lit _ rfl) h1 h2)
  simp [execOp, ho, Instr.makeMap, go_sem]

theorem run_lookup_str {enc : α → V} {m : List (ByteArray × α)} {z : Value} {b p : Nat} {k : ByteArray} {w : World} {I : Nat → Prop} (ht : smapT X.P t = some z) (z0 : α) (hz : V1Rep w I (enc z0) z) (hH : Heap X w I μ) (hp : nth μ p = some (.blk b (MapR enc m))) (ok : Bool) :
    ∃ v, (Instr.lookup t (.map (some b)) (.string k) ok).run X.P w = .ok (if ok then .tuple #[v, .bool (mget m k).isSome] else v) w ∧ V1Rep w I (enc ((mget m k).getD z0)) v := by
  obtain ⟨kt, et, i, hu, hk, hi, hzr⟩ := smapT_parts ht
  obtain ⟨ob, hb, es, clock, rfl, hers⟩ := hH.rep _ (nth_mem hp)
  have hfind := find_str k hers 0
  rcases hfind with ⟨h1, h2⟩ | ⟨a, j, v, h1, h2, h3, _⟩
  · refine ⟨z, ?_, by rw [h1]; exact hz⟩
    have hf := run_findKey (P := X.P) (w := w) hk h2
    cases ok <;> simp [Instr.lookup, run_underlying hu, MapKept.run_getObj_map hb, run_checkKey_str hk, hf, zeroValue, typeInfo, hi, hzr, h1]
  · refine ⟨v, ?_, by rw [h1]; exact h3⟩
    have hf := run_findKey (P := X.P) (w := w) hk h2
    cases ok <;> simp [Instr.lookup, run_underlying hu, MapKept.run_getObj_map hb, run_checkKey_str hk, hf, h1]

theorem det_lookup {enc : α → V} {m : List (ByteArray × α)} {z : Value} {b : Nat} {k : ByteArray} (p : Nat) (z0 : α) (ho : o.op = .lookup t x y false) (ht : smapT X.P t = some z) (hx : e x = .c (.lit (.map (some b)))) (hp : nth μ p = some (.blk b (MapR enc m))) (hy : e y = .c (.lit (.string k)))
    (hz : ∀ w I, V1Rep w I (enc z0) z) : Det X o e μ (enc ((mget m k).getD z0)) μ :=
  det_same fun a w I hH hops => by
    have hxv := hops x (by rw [ho]; simp [Op.operands])
    have hyv := hops y (by rw [ho]; simp [Op.operands])
    rw [hx] at hxv
    rw [hy] at hyv
    obtain ⟨v, h1, h2⟩ := run_lookup_str (k := k) ht z0 (hz w I) hH hp false
    exact ⟨v, by simp [execOp, ho, hxv.lit_inv, hyv.lit_inv, h1], h2.up⟩

theorem det_lookup_ok {enc : α → V} {m : List (ByteArray × α)} {z : Value} {b : Nat} {k : ByteArray} (p : Nat) (z0 : α) (ho : o.op = .lookup t x y true) (ht : smapT X.P t = some z) (hx : e x = .c (.lit (.map (some b)))) (hp : nth μ p = some (.blk b (MapR enc m))) (hy : e y = .c (.lit (.string k)))
    (hz : ∀ w I, V1Rep w I (enc z0) z) : Det X o e μ (.tup [enc ((mget m k).getD z0), vB (mget m k).isSome]) μ :=
  det_same fun a w I hH hops => by
    have hxv := hops x (by rw [ho]; simp [Op.operands])
    have hyv := hops y (by rw [ho]; simp [Op.operands])
    rw [hx] at hxv
    rw [hy] at hyv
    obtain ⟨v, h1, h2⟩ := run_lookup_str (k := k) ht z0 (hz w I) hH hp true
    exact ⟨.tuple #[v, .bool (mget m k).isSome], by simp [execOp, ho, hxv.lit_inv, hyv.lit_inv, h1], [v, .bool (mget m k).isSome], rfl, h2, CRep.lit _ rfl, trivial⟩

theorem ERs.length {enc : α → V} {w : World} {I : Nat → Prop} {es : List MapEntry} {m : List (ByteArray × α)} (h : ERs enc w I es m) : es.length = m.length := by
  induction h with
  | nil => rfl
  | cons _ _ _ ih => simp [ih]

theorem ers_put_new {enc : α → V} {w : World} {I : Nat → Prop} {es : List MapEntry} {m : List (ByteArray × α)} (h : ERs enc w I es m) {k : ByteArray} {a : α} {u : Value} (hu : V1Rep w I (enc a) u) (hn : mget m k = none) (born : Nat) : ERs enc w I (es ++ [{ key := .string k, val := u, born }]) (mput m k a) := by
  induction h with
  | nil => exact .cons rfl hu .nil
  | cons hk hv _ ih =>
    rename_i e k' b es m t
    simp only [mget] at hn
    by_cases hkk : k' = k
    · rw [if_pos hkk] at hn; cases hn
    · rw [if_neg hkk] at hn
      simp only [mput]
      rw [if_neg hkk]
      exact .cons hk hv (ih hn)

theorem ers_put_old {enc : α → V} {w : World} {I : Nat → Prop} {es : List MapEntry} {m : List (ByteArray × α)} (h : ERs enc w I es m) {k : ByteArray} {a : α} {u : Value} (hu : V1Rep w I (enc a) u) : ∀ {j : Nat} {i : Nat} {v : Value}, Instr.findNow .string (.string k) es i = some (some (i + j, v)) → ERs enc w I (es.modify j fun e => { e with key := .string k, val := u }) (mput m k a) := by
  induction h with
  | nil => intro j i v hf; simp [Instr.findNow] at hf
  | cons hk hv t ih =>
    rename_i e k' b es m
    intro j i v hf
    by_cases hkk : k = k'
    · subst hkk
      simp only [Instr.findNow, hk, same_str, decide_true, Option.some.injEq, Prod.mk.injEq] at hf
      have hj : j = 0 := by omega
      subst hj
      simp only [mput, if_true, List.modify_zero_cons]
      exact .cons rfl hu t
    · have h1 : Instr.sameNow .string (.string k) e.key = some false := by rw [hk, same_str]; simp [hkk]
      simp only [Instr.findNow, h1] at hf
      cases j with
      | zero =>
        exfalso
        have : ∀ (es : List MapEntry) (i n : Nat) (v : Value), Instr.findNow .string (.string k) es i = some (some (n, v)) → i ≤ n := by
          intro es
          induction es with
          | nil => intro i n v h; simp [Instr.findNow] at h
          | cons e es ih =>
            intro i n v h
            simp only [Instr.findNow] at h
            split at h
            · simp only [Option.some.injEq, Prod.mk.injEq] at h; omega
            · have := ih _ _ _ h; omega
            · cases h
        have := this _ _ _ _ hf
        omega
      | succ j =>
        have := ih (j := j) (i := i + 1) (v := v) (by rw [hf]; congr 3; omega)
        simp only [mput, List.modify_succ_cons]
        rw [if_neg (Ne.symm hkk)]
        exact .cons hk hv this

theorem det_mapput {enc : α → V} {m : List (ByteArray × α)} {z : Value} {b : Nat} {k : ByteArray} {vx : Operand} (p : Nat) (a : α) (ho : o.op = .mapUpdate t x y vx) (ht : smapT X.P t = some z) (hx : e x = .c (.lit (.map (some b)))) (hp : nth μ p = some (.blk b (MapR enc m))) (hy : e y = .c (.lit (.string k)))
    (hv : VLe (e vx) (enc a)) (hpl : (enc a).plain = true) : Det X o e μ .un (setN μ p (.blk b (MapR enc (mput m k a)))) := by
  intro ac w I hH hops K Q kk
  obtain ⟨kt, et, i, hu, hk, hi, hzr⟩ := smapT_parts ht
  obtain ⟨ob, hb, es, clock, rfl, hers⟩ := hH.rep _ (nth_mem hp)
  have hxv := hops x (by rw [ho]; simp [Op.operands])
  have hyv := hops y (by rw [ho]; simp [Op.operands])
  rw [hx] at hxv
  rw [hy] at hyv
  have hvv : V1Rep w I (enc a) (ac.eval vx) := V.plain_v1 hpl (hv w I _ (hops vx (by rw [ho]; simp [Op.operands])))
  have hlt : b < w.heap.size := (Array.getElem?_eq_some_iff.1 hb).1
  have main : ∀ es' clock', (Instr.mapUpdate t (.map (some b)) (.string k) (ac.eval vx)).run X.P w = .ok () { w with heap := w.heap.setIfInBounds b (.map es' clock') } → ERs enc w I es'.toList (mput m k a) → OW X.P o ac w K Q := by
    intro es' clock' hrun hers'
    have hother : ∀ k', k' ≠ b → ({ w with heap := w.heap.setIfInBounds b (.map es' clock') } : World).heap[k']? = w.heap[k']? := fun k' hne => by
      show (w.heap.setIfInBounds b _)[k']? = _
      rw [Array.getElem?_setIfInBounds_ne (Ne.symm hne)]
    have still : ∀ k', I k' → ({ w with heap := w.heap.setIfInBounds b (.map es' clock') } : World).heap[k']? = w.heap[k']? := fun k' hk' => hother k' fun e' => (hH.own b (mem_blocksOf (nth_mem hp) (by simp [E.blocks]))).2 (e' ▸ hk')
    obtain ⟨h1, h2⟩ := Heap.write (w' := { w with heap := w.heap.setIfInBounds b (.map es' clock') }) hH (en' := .blk b (MapR enc (mput m k a))) hp rfl rfl rfl (by simp) (fun k' _ hk' => hother k' (by simpa [E.blocks] using hk')) (by simp [E.blocks]) (fun k' hk' => .inl (by simpa [E.blocks] using hk')) (MapR.mono enc _ b)
      ⟨.map es' clock', by simp [hlt], es', clock', rfl, hers'.mono still fun _ h => h⟩
    refine wp_unit ?_ (kk undef .un _ I _ ⟨rfl, rfl⟩ trivial h1 h2)
    simp only [execOp, ho, hxv.lit_inv, hyv.lit_inv, Sem.run_bind, hrun, Result.andThen_ok, Sem.run_pure]
  rcases find_str k hers 0 with ⟨h1, h2⟩ | ⟨a', j, v, h1, h2, h3, en, h4, h5, h6⟩
  · have hf := run_findKey (P := X.P) (w := w) hk h2
    refine main (es.push { key := .string k, val := ac.eval vx, born := clock }) (clock + 1) ?_ (by rw [Array.toList_push]; exact ers_put_new hers hvv h1 clock)
    simp [Instr.mapUpdate, run_underlying hu, MapKept.run_getObj_map hb, MapKept.run_setObj_map _ hb, run_checkKey_str hk, hf]
  · have hf := run_findKey (P := X.P) (w := w) hk h2
    have hen : es[0 + j]? = some en := by rw [Nat.zero_add]; simpa using h4
    refine main (es.modify (0 + j) fun e => { e with key := .string k, val := ac.eval vx }) clock ?_ ?_
    · have hold : ((es[0 + j]?).map (·.key)).getD (.string k) = .string k := by rw [hen]; exact h5
      have hkeep : (Instr.keyThatStays (.string k) (.string k)).run X.P w = .ok (.string k) w := by
        unfold Instr.keyThatStays
        rw [if_pos (by simp [Instr.sameBits, MapKept.bytes_beq])]
        rfl
      simp only [Instr.mapUpdate, Sem.run_bind, run_underlying hu, Result.andThen_ok, MapKept.run_getObj_map hb, run_checkKey_str hk, hf, hold, hkeep, MapKept.run_setObj_map _ hb]
    · have := ers_put_old hers hvv h2
      simpa using this

end ops
end
end Go.Eng
