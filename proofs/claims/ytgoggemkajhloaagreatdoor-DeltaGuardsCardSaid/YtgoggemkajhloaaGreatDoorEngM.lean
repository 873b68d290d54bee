/-
  The engine, part M: calls of function values; ranges over functions.
  Conditions: none; plain definitions and theorems over any program.
-/
import Derived.Test.YtgoggemkajhloaaGreatDoorEngK
import Derived.RangeFuncNested
namespace Go.Eng
open Go Go.RowKit

section vals
variable {X : Cfg} {o : Oper} {e : Operand → V} {μ : List E}

theorem OpE.frame {R : V → List E → Prop} (h : OpE X o e μ R) (φ : List E) : OpE X o e (μ ++ φ) fun r μ'' => ∃ μ', R r μ' ∧ μ'' = μ' ++ φ := by
  intro a w I hH hops K Q k
  refine h a w I hH.left hops K Q ?_
  intro v r μ' I' w' hr hv hH' x
  obtain ⟨h1, h2⟩ := hH.frame hH' x
  exact k v r _ I' w' ⟨μ', hr, rfl⟩ hv h1 h2

theorem OpE.mono {R R' : V → List E → Prop} (h : OpE X o e μ R) (hr : ∀ r μ', R r μ' → R' r μ') : OpE X o e μ R' :=
  fun a w I hH hops K Q k => h a w I hH hops K Q fun v r μ' I' w' h1 => k v r μ' I' w' (hr r μ' h1)

theorem OpE.perm {R : V → List E → Prop} {φ : List E} (h : OpE X o e μ R) (p : φ.Perm μ) : OpE X o e φ R :=
  fun a w I hH hops K Q k => h a w I (hH.perm p) hops K Q fun v r μ' I' w' h1 h2 h3 x => k v r μ' I' w' h1 h2 h3 (x.perm p.symm (List.Perm.refl _))

/-- What a call of the function value c does. -/
def FnCon (X : Cfg) (c : C) (args : List V) (μ : List E) (Q : V → List E → Prop) : Prop :=
  ∀ (o : Oper) (e : Operand → V) (x : Operand) (as : List Operand) (ts : Array TypeId), o.op = .call { callee := .value x, args := as.toArray, argTypes := ts } → e x = .c c → vles (as.map e) args → OpE X o e μ Q

abbrev FnPur (X : Cfg) (c : C) (args : List V) (r : V) : Prop := FnCon X c args [] fun r' _ => r' = r

theorem FnCon.mono {c : C} {args : List V} {Q Q' : V → List E → Prop} (h : FnCon X c args μ Q) (hq : ∀ r μ', Q r μ' → Q' r μ') : FnCon X c args μ Q' :=
  fun o e x as ts h1 h2 h3 => (h o e x as ts h1 h2 h3).mono hq

theorem FnCon.frame {c : C} {args : List V} {Q : V → List E → Prop} (h : FnCon X c args μ Q) (φ : List E) : FnCon X c args (μ ++ φ) fun r μ'' => ∃ μ', Q r μ' ∧ μ'' = μ' ++ φ :=
  fun o e x as ts h1 h2 h3 => (h o e x as ts h1 h2 h3).frame φ

theorem FnCon.perm {c : C} {args : List V} {φ : List E} {Q : V → List E → Prop} (h : FnCon X c args μ Q) (p : φ.Perm μ) : FnCon X c args φ Q :=
  fun o e x as ts h1 h2 h3 => (h o e x as ts h1 h2 h3).perm p

theorem FnCon.of_con {f : FuncId} {first cap : List C} {args : List V} {Q : V → List E → Prop} (hf : callOk X.P f = true) (hc : Con X f (first.map .c ++ args ++ cap.map .c) μ Q) : FnCon X (.fn (.func f) first cap) args μ Q :=
  fun _ _ _ _ _ ho hx ha => ope_call_fn ho hx hf hc ha

theorem ope_call_val {c : C} {x : Operand} {as : List Operand} {ts : Array TypeId} {args : List V} {Q : V → List E → Prop} (ho : o.op = .call { callee := .value x, args := as.toArray, argTypes := ts }) (hx : e x = .c c) (hc : FnCon X c args μ Q) (ha : vles (as.map e) args) : OpE X o e μ Q :=
  hc o e x as ts ho hx ha

theorem Con.pure_mem {f : FuncId} {args : List V} {r : V} (h : Pur X f args r) : Con X f args [] fun r' μ' => r' = r ∧ μ' = [] := by
  have := h.pure_frame (φ := [])
  exact this

theorem FnPur.of_pur {f : FuncId} {first cap : List C} {args : List V} {r : V} (hf : callOk X.P f = true) (hc : Pur X f (first.map .c ++ args ++ cap.map .c) r) : FnPur X (.fn (.func f) first cap) args r :=
  FnCon.of_con hf hc

/-- What is new and nobody keeps may be forgotten. -/
theorem OpE.forget {R : V → List E → Prop} (h : OpE X o e [] R) : OpE X o e μ fun r μ' => (∃ φ, R r φ) ∧ μ' = μ := by
  intro a w I hH hops K Q k
  have h' := h.frame μ
  refine h' a w I hH hops K Q ?_
  rintro v r μ' I' w' ⟨φ, hr, rfl⟩ hv hH' x
  exact k v r μ I' w' ⟨⟨φ, hr⟩, rfl⟩ hv ((hH'.perm List.perm_append_comm).left) (x.less fun b hb => by rw [blocksOf_append]; exact List.mem_append.2 (.inr hb))

theorem det_call_val {c : C} {x : Operand} {as : List Operand} {ts : Array TypeId} {args : List V} {r : V} (ho : o.op = .call { callee := .value x, args := as.toArray, argTypes := ts }) (hx : e x = .c c) (hc : FnPur X c args r) (ha : vles (as.map e) args) : Det X o e μ r μ :=
  (OpE.forget (hc o e x as ts ho hx ha)).mono fun _ _ ⟨⟨_, h⟩, h'⟩ => ⟨h, h'⟩
end vals

/-! ## Ranges over functions -/

/-- The record of a loop. -/
def LoopR (n : Nat) (fn D : Nat) (ps : Array Tmp) (assign body : Code) (regs : List (Nat × V)) (st : LoopState) (pe : Option Code) : World → (Nat → Prop) → Obj → Prop :=
  fun w I o => ∃ tmps : Array Value, o = .loop { state := st, pending := pe, fn := fn, tmps := tmps, params := ps, assign := assign, body := body, defers := D } ∧ tmps.size = n ∧ ∀ t, VRep w I (look regs t) (tmps.getD t undef)

theorem LoopR.mono {n fn D : Nat} {ps : Array Tmp} {assign body : Code} {regs : List (Nat × V)} {st : LoopState} {pe : Option Code} (l : Nat) : (E.blk l (LoopR n fn D ps assign body regs st pe)).Mono :=
  fun _ _ _ _ hw hI _ ⟨tmps, e, hs, h⟩ => ⟨tmps, e, hs, fun t => (h t).mono hw hI⟩

theorem Ext.putL {w w1 : World} {I I1 : Nat → Prop} {μ μ1 : List E} (x : Ext w I μ w1 I1 μ1) {l : Nat} (o : Obj) (R R' : World → (Nat → Prop) → Obj → Prop) : Ext w I (.blk l R :: μ) (w1.putObj l o) I1 (.blk l R' :: μ1) := by
  have hb : ∀ (R : World → (Nat → Prop) → Obj → Prop) (μ : List E), blocksOf (.blk l R :: μ) = l :: blocksOf μ := fun R μ => by simp [blocksOf, E.blocks]
  refine ⟨x.os, x.tape, x.output, ?_, fun b h1 h2 => ?_, x.imm, fun b h => ?_, fun b h => ?_⟩
  · have := x.size; simp [World.putObj]; omega
  · rw [hb] at h2
    rw [World.putObj_heap_other (fun e => h2 (by simp [e]))]
    exact x.block b h1 fun h => h2 (by simp [h])
  · rw [hb]
    rcases x.imm' b h with h | h | h
    · exact .inl h
    · exact .inr (.inl (by simp [h]))
    · exact .inr (.inr h)
  · rw [hb] at h ⊢
    rcases List.mem_cons.1 h with h | h
    · exact .inl (by simp [h])
    · rcases x.own' b h with h | h
      · exact .inl (by simp [h])
      · exact .inr h

theorem Heap.tail {X : Cfg} {w : World} {I : Nat → Prop} {en : E} {μ : List E} (h : Heap X w I (en :: μ)) : Heap X w I μ :=
  (h.perm (φ := μ ++ [en]) (List.perm_append_comm (l₁ := [en]))).left

theorem Heap.putL {X : Cfg} {w : World} {I : Nat → Prop} {μ : List E} {l : Nat} {o : Obj} {R : World → (Nat → Prop) → Obj → Prop} (h : Heap X w I μ) (h1 : l < w.heap.size) (h2 : ¬ I l) (h3 : l ∉ blocksOf μ) (hN : X.N ≤ l) (hm : (E.blk l R).Mono) (hr : R (w.putObj l o) I o) : Heap X (w.putObj l o) I (.blk l R :: μ) := by
  have hsz : (w.putObj l o).heap.size = w.heap.size := by simp [World.putObj]
  have hb : blocksOf (.blk l R :: μ) = l :: blocksOf μ := by simp [blocksOf, E.blocks]
  have hI : ∀ b, I b → (w.putObj l o).heap[b]? = w.heap[b]? := fun b hb => World.putObj_heap_other (fun e => h2 (e ▸ hb))
  have h' : Heap X (w.putObj l o) I μ := h.except hsz fun b hc => World.putObj_heap_other (fun e => by
    rw [e] at hc
    rcases hc with hc | hc | hc
    · omega
    · exact h2 hc
    · exact h3 hc)
  refine ⟨h'.lo, h'.glob, by rw [hb]; exact List.nodup_cons.2 ⟨h3, h.nodup⟩, fun b hb' => ?_, h'.imm, fun en he => ?_, fun en he => ?_⟩
  · rw [hb] at hb'
    rcases List.mem_cons.1 hb' with e | h
    · subst e; exact ⟨hN, h2⟩
    · exact h'.own b h
  · rcases List.mem_cons.1 he with e | h
    · subst e; exact ⟨o, World.putObj_heap_same h1, hr⟩
    · exact h'.rep en h
  · rcases List.mem_cons.1 he with e | h
    · subst e; exact hm
    · exact h'.mono en h

/-- Loop variables put in. -/
def psetR : List Tmp → List V → List (Nat × V) → List (Nat × V)
  | t :: ts, v :: vs, r => psetR ts vs ((t, v) :: r)
  | _, _, r => r

theorem psetR_rep {w : World} {I : Nat → Prop} {n : Nat} : ∀ {ts : List Tmp} {vs : List V} {us : List Value} {regs : List (Nat × V)} {tmps : Array Value}, (∀ t, t ∈ ts → t < n) → V1Reps w I vs us → ts.length = vs.length → tmps.size = n →
    (∀ t, VRep w I (look regs t) (tmps.getD t undef)) → (∀ t, VRep w I (look (psetR ts vs regs) t) (((ts.zip us).foldl (fun t (p : Tmp × Value) => t.setIfInBounds p.1 p.2) tmps).getD t undef)) ∧ ((ts.zip us).foldl (fun t (p : Tmp × Value) => t.setIfInBounds p.1 p.2) tmps).size = n
  | [], [], [], _, _, _, _, _, hs, h => ⟨h, hs⟩
  | p :: ts, v :: vs, u :: us, regs, tmps, hn, hv, hl, hs, h => by
    refine psetR_rep (ts := ts) (vs := vs) (us := us) (regs := (p, v) :: regs) (fun t ht => hn t (by simp [ht])) hv.2 (by simpa using hl) (by simpa using hs) fun t => ?_
    rw [look_putR]
    have hp := hn p (by simp)
    have e : (tmps.setIfInBounds p u).getD t undef = if p = t then u else tmps.getD t undef := by
      simp only [Array.getD_eq_getD_getElem?, Array.getElem?_setIfInBounds]
      by_cases h : p = t
      · subst h; simp [hs, hp]
      · simp [h]
    show VRep w I (if p = t then v else look regs t) ((tmps.setIfInBounds p u).getD t undef)
    rw [e]
    split
    · cases v with
      | tup l => exact hv.1.elim
      | _ => exact hv.1
    · exact h t
  | [], _ :: _, _, _, _, _, _, hl, _, _ => by simp at hl
  | _ :: _, [], _, _, _, _, _, hl, _, _ => by simp at hl
  | [], [], _ :: _, _, _, _, hv, _, _, _ => hv.elim
  | _ :: _, _ :: _, [], _, _, _, hv, _, _, _ => hv.elim

theorem v1reps_length {w : World} {I : Nat → Prop} : ∀ {l : List V} {vs : List Value}, V1Reps w I l vs → l.length = vs.length
  | [], [], _ => rfl
  | _ :: _, _ :: _, h => by simp [v1reps_length h.2]
  | [], _ :: _, h => h.elim
  | _ :: _, [], h => h.elim

def roundQ (J : List E → Prop) (Jx : Code → List E → Prop) : Exit → S → Prop
  | .normal, σ => J σ.μ
  | .ret, σ => Jx .ret σ.μ
  | .exit i, σ => Jx (.exit i) σ.μ
  | _, _ => False

/-- The body of a loop, in a round. -/
def RoundOk (X : Cfg) (n : Nat) (l : Nat) (assign body : Code) (J : List E → Prop) (Jx : Code → List E → Prop) (σ : S) : Prop :=
  ∀ z, RdOk z → z.rd = some l → z.μ = σ.μ → AWP X n z assign (thenQ (fun τ => ∀ z, RdOk z → z.rd = some l → z.μ = τ.μ → AWP X n z body (roundQ J Jx) τ) fun _ _ => False) σ

theorem yield_con {X : Cfg} {n l fn D : Nat} {ps : List Tmp} {assign body : Code} {regs : List (Nat × V)} {encs : List V} {μ0 : List E} {J : List E → Prop} {Jx : Code → List E → Prop} (hps : ps.length = encs.length) (hpn : ∀ t, t ∈ ps → t < n)
    (hbody : RoundOk X n l assign body J Jx ⟨psetR ps encs regs, μ0⟩) :
    FnCon X (.fn (.yield l) [] []) encs (.blk l (LoopR n fn D ps.toArray assign body regs .ready none) :: μ0) fun r μ' =>
      (r = .c (.lit (.bool true)) ∧ ∃ μ1, μ' = .blk l (LoopR n fn D ps.toArray assign body regs .ready none) :: μ1 ∧ J μ1) ∨
      (r = .c (.lit (.bool false)) ∧ ∃ c μ1, μ' = .blk l (LoopR n fn D ps.toArray assign body regs .done (some c)) :: μ1 ∧ Jx c μ1 ∧ (c = .ret ∨ ∃ i, c = .exit i)) := by
  intro o e x as ts ho hx ha a w I hH hops K Q k hn rd
  have hxv := hops x (by rw [ho]; simp [Op.operands, Call.operands])
  rw [hx] at hxv
  have hxv' : CRep w I (.fn (.yield l) [] []) (a.eval x) := hxv
  have hval : a.eval x = .func (.yield l) #[] #[] := by
    generalize a.eval x = v at hxv'
    cases hxv' with
    | fn _ _ _ us vs h1 h2 _ _ =>
      have e1 : us = [] := List.length_eq_zero_iff.1 h1
      have e2 : vs = [] := List.length_eq_zero_iff.1 h2
      subst e1 e2; rfl
  have hargs := vles_rep (w := w) (I := I) (a := a) (fun y hy => hops y (by rw [ho]; simp [Op.operands, Call.operands, hy])) ha
  obtain ⟨ob, hl, tmps, rfl, hts, htr⟩ : ∃ ob, w.heap[l]? = some ob ∧ LoopR n fn D ps.toArray assign body regs .ready none w I ob := hH.rep (.blk l _) (by simp)
  have hlen : as.length = encs.length := by
    have h := v1reps_length hargs
    simpa using h.symm
  have hrun : (execOp a.eval o).run X.P w = .ok (.round l fn (((ps.toArray.zip (as.map a.eval).toArray)).foldl (fun tmps (t, a) => tmps.setIfInBounds t a) tmps) assign body) w := by
    have hy := run_yield (P := X.P) (args := (as.map a.eval).toArray) hl (by simp; omega)
    simp [execOp, ho, resolve, hval, Deferred.ofValue, invoke]
    simpa using hy
  have hblk : blocksOf (.blk l (LoopR n fn D ps.toArray assign body regs .ready none) :: μ0) = l :: blocksOf μ0 := by simp [blocksOf, E.blocks]
  have hlI : X.N ≤ l ∧ ¬ I l := hH.own l (by rw [hblk]; simp)
  have hlμ : l ∉ blocksOf μ0 := by have := hH.nodup; rw [hblk] at this; exact (List.nodup_cons.1 this).1
  have hlt : l < w.heap.size := (Array.getElem?_eq_some_iff.1 hl).1
  refine ⟨fun _ _ => trivial, ?_⟩
  rw [semAt_eq hn, hrun, Oper.uponIn_round]
  refine ⟨fun h => by simp [fen, Fence.wide] at h, roundIn_of_wpIn trivial ?_⟩
  obtain ⟨hreg, hsz⟩ := psetR_rep (w := w) (I := I) (n := n) (ts := ps) (vs := encs) (us := as.map a.eval) (regs := regs) (tmps := tmps) hpn hargs hps hts htr
  have efold : ((ps.toArray.zip (as.map a.eval).toArray)).foldl (fun tmps (t, a) => tmps.setIfInBounds t a) tmps = ((ps.zip (as.map a.eval)).foldl (fun t (p : Tmp × Value) => t.setIfInBounds p.1 p.2) tmps) := by
    rw [List.zip_toArray]; simp
  rw [efold]
  have z0ok : RdOk ⟨w, I, μ0, [], some l⟩ := fun l' h => by
    cases h
    exact ⟨hlt, hlI.2, hlμ, _, hl⟩
  refine wpIn_mono (hbody ⟨w, I, μ0, [], some l⟩ z0ok rfl rfl _ (ZLe.refl _) _ w ⟨I, hH.tail, hreg, Ext.refl _ _ _, rfl, hsz⟩) ?_
  rintro en a1 w1 ⟨z1, σ, hz, q, I1, hH1, hR1, hx1, hd1, hs1⟩
  cases en with
  | normal =>
    have x1 : Ext w I μ0 w1 I1 σ.μ := hz.ext.trans hx1
    obtain ⟨l1, l2, l3, l4⟩ := x1.stays hlt hlI.2 hlμ
    have hl1 := l4.trans hl
    refine ⟨_, run_beginRound hl1 rfl, ?_⟩
    generalize hb : Loop.mk LoopState.busy none fn tmps ps.toArray assign body D = busy
    have hl2 : (w1.putObj l (.loop busy)).heap[l]? = some (.loop busy) := World.putObj_heap_same l1
    have hH2 : Heap X (w1.putObj l (.loop busy)) I1 σ.μ := hH1.except (by simp [World.putObj]) fun b hb => World.putObj_heap_other (fun e => by
      subst e
      rcases hb with hb | hb | hb
      · have := hlI.1; omega
      · exact l2 hb
      · exact l3 hb)
    have hI2 : ∀ b, I1 b → (w1.putObj l (.loop busy)).heap[b]? = w1.heap[b]? := fun b hb => World.putObj_heap_other (fun e => l2 (e ▸ hb))
    have z2ok : RdOk ⟨w1.putObj l (.loop busy), I1, σ.μ, z1.ds, some l⟩ := fun l' h => by
      cases h
      exact ⟨by simp [World.putObj]; exact l1, l2, l3, _, hl2⟩
    refine wpIn_mono (q ⟨w1.putObj l (.loop busy), I1, σ.μ, z1.ds, some l⟩ z2ok rfl rfl _ (ZLe.refl _) a1 _ ⟨I1, hH2, fun t => (hR1 t).mono hI2 fun _ h => h, Ext.refl _ _ _, hd1, hs1⟩) ?_
    rintro en a3 w3 ⟨z3, τ, hz3, q3, I3, hH3, hR3, hx3, hd3, hs3⟩
    have x3 : Ext (w1.putObj l (.loop busy)) I1 σ.μ w3 I3 τ.μ := hz3.ext.trans hx3
    obtain ⟨m1, m2, m3, m4⟩ := x3.stays (D := l) (by simp [World.putObj]; exact l1) l2 l3
    have hl3 := m4.trans hl2
    have fin : ∀ (jump : Option Code) (st : LoopState), st = (if jump.isNone then .ready else .done) → (Instr.endRound l jump).run X.P w3 = .ok (.bool jump.isNone) (w3.putObj l (.loop { busy with state := st, pending := jump })) ∧
        Heap X (w3.putObj l (.loop { busy with state := st, pending := jump })) I3 (.blk l (LoopR n fn D ps.toArray assign body regs st jump) :: τ.μ) ∧
        Ext w I (.blk l (LoopR n fn D ps.toArray assign body regs .ready none) :: μ0) (w3.putObj l (.loop { busy with state := st, pending := jump })) I3 (.blk l (LoopR n fn D ps.toArray assign body regs st jump) :: τ.μ) := by
      rintro jump st rfl
      refine ⟨run_endRound jump hl3, hH3.putL m1 m2 m3 hlI.1 (LoopR.mono l) ⟨tmps, by rw [← hb], hts, fun t => ?_⟩, ?_⟩
      · refine (htr t).mono (I' := I3) (fun b hb => ?_) fun b hb => x3.imm b (x1.imm b hb)
        rw [World.putObj_heap_other (k := b) (r := l) (fun e : b = l => m2 (by rw [← e]; exact x3.imm b (x1.imm b hb)))]
        rw [hH2.still x3 b (x1.imm b hb), hI2 b (x1.imm b hb)]
        exact hH.tail.still x1 b hb
      · have y1 := x1.putL (l := l) (.loop busy) (LoopR n fn D ps.toArray assign body regs .ready none) (LoopR n fn D ps.toArray assign body regs .ready none)
        exact y1.trans (x3.putL (l := l) _ _ _)
    cases en with
    | normal =>
      obtain ⟨f1, f2, f3⟩ := fin none .ready rfl
      exact ⟨_, _, f1, k _ _ _ I3 _ (.inl ⟨rfl, _, rfl, q3⟩) (CRep.lit _ rfl) f2 f3⟩
    | ret =>
      obtain ⟨f1, f2, f3⟩ := fin (some .ret) .done rfl
      exact ⟨_, _, f1, k _ _ _ I3 _ (.inr ⟨rfl, _, _, rfl, q3, .inl rfl⟩) (CRep.lit _ rfl) f2 f3⟩
    | exit i =>
      obtain ⟨f1, f2, f3⟩ := fin (some (.exit i)) .done rfl
      exact ⟨_, _, f1, k _ _ _ I3 _ (.inr ⟨rfl, _, _, rfl, q3, .inr ⟨i, rfl⟩⟩) (CRep.lit _ rfl) f2 f3⟩
    | goto t => exact q3.elim
    | panic ch => exact q3.elim
    | outgrown => exact q3.elim
  | ret => exact q.elim
  | exit i => exact q.elim
  | goto t => exact q.elim
  | panic ch => exact q.elim
  | outgrown => exact q.elim

/-- AN ITERATOR: it hands the elements xs to yield, one after the other, until yield says no. -/
def Iter {α : Type} (X : Cfg) (gf : FuncId) (first cap : List C) (xs : List α) (enc : α → List V) : Prop :=
  ∀ (y : C) (J Jx : List α → List E → Prop) (μ : List E),
    (∀ pre x suf μ, xs = pre ++ x :: suf → J pre μ → FnCon X y (enc x) μ fun r μ' => (r = .c (.lit (.bool true)) ∧ J (pre ++ [x]) μ') ∨ (r = .c (.lit (.bool false)) ∧ Jx (pre ++ [x]) μ')) →
    J [] μ → Con X gf (first.map .c ++ [.c y] ++ cap.map .c) μ fun _ μ' => J xs μ' ∨ ∃ pre x suf, xs = pre ++ x :: suf ∧ Jx (pre ++ [x]) μ'

/-- 'for .. := range g { .. }' -/
theorem awp_rangeFunc {α : Type} {X : Cfg} {n : Nat} {z : Z} (hz : RdOk z) {Q : Exit → S → Prop} {regs : List (Nat × V)} {μ : List E} {g : Operand} {ps : List Tmp} {assign body : Code} {gf : FuncId} {first cap : List C} (hg : ev regs g = .c (.fn (.func gf) first cap)) (hgf : callOk X.P gf = true)
    {xs : List α} {enc : α → List V} (hit : Iter X gf first cap xs enc) (hps : ∀ x, x ∈ xs → ps.length = (enc x).length) (hpn : ps.all (fun t => Nat.blt t n) = true)
    (J : List α → List E → Prop) (Jx : Code → List α → List E → Prop) (h0 : J [] μ)
    (hround : ∀ l pre x suf μ', xs = pre ++ x :: suf → J pre μ' → RoundOk X n l assign body (J (pre ++ [x])) (fun c => Jx c (pre ++ [x])) ⟨psetR ps (enc x) regs, μ'⟩)
    (hdone : ∀ μ', J xs μ' → Q .normal ⟨regs, μ'⟩)
    (hret : ∀ pre x suf μ', xs = pre ++ x :: suf → Jx .ret (pre ++ [x]) μ' → Q .ret ⟨regs, μ'⟩)
    (hexit : ∀ i pre x suf μ', xs = pre ++ x :: suf → Jx (.exit i) (pre ++ [x]) μ' → Q (.exit i) ⟨regs, μ'⟩) :
    AWP X n z (.rangeFunc g ps.toArray assign body) Q ⟨regs, μ⟩ := by
  intro z1 hz1 a w ⟨I, hH, hR, hx, hd, hs⟩
  refine wpIn_rangeFunc ?_
  intro fn _
  have hgv := ev_rep hR g
  rw [hg] at hgv
  have hgv' : CRep w I (.fn (.func gf) first cap) (a.eval g) := hgv
  obtain ⟨us, vs, hev, hu, hv⟩ : ∃ us vs : List Value, a.eval g = .func (.func gf) us.toArray vs.toArray ∧ CReps w I first us ∧ CReps w I cap vs := by
    generalize a.eval g = v at hgv'
    cases hgv' with
    | fn _ _ _ us vs h1 h2 hr1 hr2 => exact ⟨us, vs, rfl, CReps.of_at h1.symm hr1, CReps.of_at h2.symm hr2⟩
  -- the record
  obtain ⟨D, W0, mk, hent, hH0, hx0, hmk⟩ : ∃ (D : Nat) (W0 : World) (mk : List Nat), (Instr.enterLoop fn a.tmps ps.toArray assign body z.rd).run X.P w = .ok (W0.heap.size, mk.map mark) (W0.alloc (.loop { state := .ready, pending := none, fn := fn, tmps := a.tmps, params := ps.toArray, assign := assign, body := body, defers := D })) ∧
      Heap X W0 I μ ∧ Ext w I μ W0 I μ ∧ mk.Nodup ∧ ∀ D', D' ∈ mk → w.heap.size ≤ D' ∧ D' < W0.heap.size ∧ ¬ I D' ∧ D' ∉ blocksOf μ ∧ W0.heap[D']? = some (.deferred (some [])) := by
    cases hrd : z.rd with
    | some l0 =>
      obtain ⟨h1, h2, h3, r0, h4⟩ := hz.le hz1 l0 (by rw [hz1.rd]; exact hrd)
      obtain ⟨_, _, _, k4⟩ := hx.stays h1 h2 h3
      exact ⟨r0.defers, w, [], run_enterLoop_inner (k4.trans h4) _ _ _ _ _, hH, Ext.refl _ _ _, List.nodup_nil, fun D' h => by simp at h⟩
    | none =>
      have hsz : (w.alloc (.deferred (some []))).heap.size = w.heap.size + 1 := by show (w.heap.push _).size = _; simp
      obtain ⟨k1, k2⟩ := fresh_alloc hH (.deferred (some [])) (.blk w.heap.size fun _ _ _ => True) rfl (fun _ _ _ _ _ _ _ _ => trivial) ⟨_, heap_alloc_new w _, trivial⟩
      refine ⟨w.heap.size, w.alloc (.deferred (some [])), [w.heap.size], ?_, k1.tail, k2.less fun b hb => by simp [blocksOf] at hb ⊢; exact .inr hb, by simp, fun D' h => ?_⟩
      · rw [run_enterLoop_outer, hsz]; rfl
      · obtain rfl : D' = w.heap.size := by simpa using h
        exact ⟨Nat.le_refl _, by omega, fun h => by have := hH.imm _ h; omega, fun h => by have := hH.lt h; omega, heap_alloc_new w _⟩
  generalize hrec : Loop.mk LoopState.ready none fn a.tmps ps.toArray assign body D = rec at hent
  obtain ⟨hH1, hx1⟩ := fresh_alloc hH0 (.loop rec) (.blk W0.heap.size (LoopR n fn D ps.toArray assign body regs .ready none)) rfl (LoopR.mono _) ⟨_, heap_alloc_new W0 _, a.tmps, by rw [hrec], hs, fun t => by
    have := hH.vrep hx0 (hR t)
    exact this.mono (fun b hb => Below.heap_alloc W0 _ b (hH0.imm b hb)) fun _ h => h⟩
  have hw01 := hx0.trans hx1
  refine ⟨W0.heap.size, mk.map mark, W0.alloc (.loop rec), { target := .fn (.func gf) vs.toArray, args := us.toArray ++ #[.func (.yield W0.heap.size) #[] #[]] }, W0.alloc (.loop rec), gf,
    (us ++ [Value.func (.yield W0.heap.size) #[] #[]] ++ vs).toArray, W0.alloc (.loop rec), hent, ?_, fun _ _ => trivial, ?_, fun h => by simp [fen, Fence.wide] at h, ?_⟩
  · simp only [resolve, hev]
    simp [Act.eval, Deferred.ofValue]
  · simp [invoke, run_callFunc hgf]
  refine callsIn_fen _ _ ?_
  have hc := hit (.fn (.yield W0.heap.size) [] [])
    (fun pre μ' => ∃ μ1, μ' = .blk W0.heap.size (LoopR n fn D ps.toArray assign body regs .ready none) :: μ1 ∧ J pre μ1)
    (fun pre μ' => ∃ c μ1, μ' = .blk W0.heap.size (LoopR n fn D ps.toArray assign body regs .done (some c)) :: μ1 ∧ Jx c pre μ1 ∧ (c = .ret ∨ ∃ i, c = .exit i))
    (.blk W0.heap.size (LoopR n fn D ps.toArray assign body regs .ready none) :: μ)
    (by
      rintro pre x suf μ' hxs ⟨μ1, rfl, hj⟩
      exact yield_con (hps x (by rw [hxs]; simp)) (fun t ht => by have := List.all_eq_true.1 hpn t ht; simpa [Nat.blt_eq] using this) (hround _ pre x suf μ1 hxs hj))
    ⟨μ, rfl, h0⟩
  have hargs : V1Reps (W0.alloc (.loop rec)) I (first.map .c ++ [.c (.fn (.yield W0.heap.size) [] [])] ++ cap.map .c) (us ++ [.func (.yield W0.heap.size) #[] #[]] ++ vs) := by
    have hst := hH.still hw01
    have hy : V1Reps (W0.alloc (.loop rec)) I [.c (.fn (.yield W0.heap.size) [] [])] [.func (.yield W0.heap.size) #[] #[]] :=
      ⟨CRep.fn (.yield W0.heap.size) [] [] [] [] rfl rfl (fun j c u hc => by simp at hc) (fun j c u hc => by simp at hc), trivial⟩
    exact ((V1Reps.of_c (hu.mono hst fun _ h => h)).append hy).append (V1Reps.of_c (hv.mono hst fun _ h => h))
  refine (hc (W0.alloc (.loop rec)) I _ hH1 hargs).mono ?_
  have hW0lt : w.heap.size ≤ W0.heap.size := hx0.size
  rintro en w3 ⟨v, r, μ3, I3, rfl, hq, hv3, hH3, hx3⟩
  -- behind the iterator
  have base : ∀ (st : LoopState) (pe : Option Code) (μ4 : List E), st ≠ .busy → μ3 = .blk W0.heap.size (LoopR n fn D ps.toArray assign body regs st pe) :: μ4 →
      ∃ w4, (Instr.endLoop W0.heap.size).run X.P w3 = .ok pe w4 ∧ ∃ z', ZLe z1 z' ∧ St X n z' ⟨regs, μ4⟩ { a with defers := mk.map mark ++ a.defers } w4 := by
    rintro st pe μ4 hst rfl
    obtain ⟨ob, hl3, tmps, rfl, hts, htr⟩ : ∃ ob, w3.heap[W0.heap.size]? = some ob ∧ LoopR n fn D ps.toArray assign body regs st pe w3 I3 ob := hH3.rep (.blk W0.heap.size _) (by simp)
    have hblk : blocksOf (.blk W0.heap.size (LoopR n fn D ps.toArray assign body regs st pe) :: μ4) = W0.heap.size :: blocksOf μ4 := by simp [blocksOf, E.blocks]
    have hlI : X.N ≤ W0.heap.size ∧ ¬ I3 W0.heap.size := hH3.own _ (by rw [hblk]; simp)
    have hlμ : W0.heap.size ∉ blocksOf μ4 := by have := hH3.nodup; rw [hblk] at this; exact (List.nodup_cons.1 this).1
    refine ⟨_, run_endLoop hl3 hst, ?_⟩
    generalize hob : Obj.loop { state := LoopState.exhausted, pending := pe, fn := fn, tmps := tmps, params := ps.toArray, assign := assign, body := body, defers := D } = ob4
    have hI4 : ∀ b, I3 b → (w3.putObj W0.heap.size ob4).heap[b]? = w3.heap[b]? := fun b hb => World.putObj_heap_other (fun e => hlI.2 (e ▸ hb))
    have hH4 : Heap X (w3.putObj W0.heap.size ob4) I3 μ4 := hH3.tail.except (by simp [World.putObj]) fun b hb => World.putObj_heap_other (fun e => by
      subst e
      rcases hb with hb | hb | hb
      · omega
      · exact hlI.2 hb
      · exact hlμ hb)
    -- from the loop's beginning to its end
    have x13 : Ext (W0.alloc (.loop rec)) I (.blk W0.heap.size (LoopR n fn D ps.toArray assign body regs .ready none) :: μ) w3 I3 (.blk W0.heap.size (LoopR n fn D ps.toArray assign body regs st pe) :: μ4) := hx3
    have hsz1 : (W0.alloc (.loop rec)).heap.size = W0.heap.size + 1 := by show (W0.heap.push _).size = _; simp
    have x04 : Ext w I μ (w3.putObj W0.heap.size ob4) I3 μ4 := by
      have x03 := hw01.trans x13
      refine ⟨x03.os, x03.tape, x03.output, by simp [World.putObj]; exact x03.size, fun b h1 h2 => ?_, x03.imm, x03.imm', fun b h => x03.own' b (by rw [hblk]; simp [h])⟩
      rw [World.putObj_heap_other (by omega)]
      exact x03.block b h1 h2
    have hst : ∀ b, I b → (w3.putObj W0.heap.size ob4).heap[b]? = w.heap[b]? := hH.still x04
    refine ⟨⟨w3.putObj W0.heap.size ob4, I3, μ4, mk.map mark ++ z1.ds, z1.rd⟩, ⟨rfl, hx.trans x04, mk, rfl, hmk.1, fun D' hD' => ?_⟩, I3, hH4, fun t => (hR t).mono hst x04.imm, Ext.refl _ _ _, by show mk.map mark ++ a.defers = mk.map mark ++ z1.ds; rw [hd], hs⟩
    obtain ⟨d1, d2, d3, d4, d5⟩ := hmk.2 D' hD'
    have e1 : (W0.alloc (.loop rec)).heap[D']? = W0.heap[D']? := Below.heap_alloc W0 _ D' d2
    obtain ⟨s1, s2, s3, s4⟩ := x13.stays (D := D') (by omega) d3 (by rw [show blocksOf (.blk W0.heap.size (LoopR n fn D ps.toArray assign body regs .ready none) :: μ) = W0.heap.size :: blocksOf μ by simp [blocksOf, E.blocks]]; simp; exact ⟨by omega, d4⟩)
    refine ⟨Nat.le_trans hx.size d1, by simp [World.putObj]; exact s1, s2, fun h => s3 (by rw [hblk]; simp [h]), ?_⟩
    show (w3.putObj W0.heap.size ob4).heap[D']? = _
    rw [World.putObj_heap_other (by omega), s4, e1, d5]
  rcases hq with ⟨μ4, hμ, hj⟩ | ⟨pre, x, suf, hxs, c, μ4, hμ, hjx, hc'⟩
  · obtain ⟨w4, h1, z', h2, h3⟩ := base _ _ μ4 (by simp) hμ
    exact ⟨none, w4, h1, z', ⟨regs, μ4⟩, h2, hdone μ4 hj, h3⟩
  · obtain ⟨w4, h1, z', h2, h3⟩ := base _ _ μ4 (by simp) hμ
    refine ⟨some c, w4, h1, ?_⟩
    rcases hc' with rfl | ⟨i, rfl⟩
    · exact wpIn_ret ⟨z', ⟨regs, μ4⟩, h2, hret pre x suf μ4 hxs hjx, h3⟩
    · exact wpIn_exit ⟨z', ⟨regs, μ4⟩, h2, hexit i pre x suf μ4 hxs hjx, h3⟩

end Go.Eng
