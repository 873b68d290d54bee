/-
  The engine, part F: contracts of functions, calls, results; owned memory that is left alone from now on.
  Conditions: none; plain definitions and theorems over any program.
-/
import Derived.Test.YtgoggemkajhloaaGreatDoorEngE
namespace Go.Eng
open Go Go.RowKit

/-- A contract: called with such arguments, owning μ, function f returns, and Q holds of its result and of what is then owned. -/
def Con (X : Cfg) (f : FuncId) (args : List V) (μ : List E) (Q : V → List E → Prop) : Prop :=
  ∀ (w : World) (I : Nat → Prop) (vs : List Value), Heap X w I μ → V1Reps w I args vs →
    Calls X.P f vs.toArray w fun en w' => ∃ v r μ' I', en = .returned v ∧ Q r μ' ∧ VRep w' I' r v ∧ Heap X w' I' μ' ∧ Ext w I μ w' I' μ'

/-- The function computes r and does nothing else that can be seen. -/
abbrev Pur (X : Cfg) (f : FuncId) (args : List V) (r : V) : Prop := Con X f args [] fun r' _ => r' = r

theorem Con.mono {X : Cfg} {f : FuncId} {args : List V} {μ : List E} {Q Q' : V → List E → Prop} (h : Con X f args μ Q) (hq : ∀ r μ', Q r μ' → Q' r μ') : Con X f args μ Q' :=
  fun w I vs hH ha => (h w I vs hH ha).mono fun _ _ ⟨v, r, μ', I', h1, h2, h3⟩ => ⟨v, r, μ', I', h1, hq _ _ h2, h3⟩

theorem Con.frame {X : Cfg} {f : FuncId} {args : List V} {μ : List E} {Q : V → List E → Prop} (h : Con X f args μ Q) (φ : List E) : Con X f args (μ ++ φ) fun r μ'' => ∃ μ', Q r μ' ∧ μ'' = μ' ++ φ := by
  intro w I vs hH ha
  refine (h w I vs hH.left ha).mono ?_
  rintro en w' ⟨v, r, μ', I', h1, h2, h3, h4, h5⟩
  obtain ⟨h6, h7⟩ := hH.frame h4 h5
  exact ⟨v, r, μ' ++ φ, I', h1, ⟨μ', h2, rfl⟩, h3, h6, h7⟩

theorem Con.perm {X : Cfg} {f : FuncId} {args : List V} {μ φ : List E} {Q : V → List E → Prop} (h : Con X f args μ Q) (p : φ.Perm μ) : Con X f args φ Q := by
  intro w I vs hH ha
  refine (h w I vs (hH.perm p) ha).mono ?_
  rintro en w' ⟨v, r, μ', I', h1, h2, h3, h4, h5⟩
  exact ⟨v, r, μ', I', h1, h2, h3, h4, h5.perm p.symm (List.Perm.refl _)⟩

/-- A pure function leaves all that is owned as it is. -/
theorem Con.pure_frame {X : Cfg} {f : FuncId} {args : List V} {Q : V → Prop} (h : Con X f args [] fun r _ => Q r) (φ : List E) : Con X f args φ fun r μ' => Q r ∧ μ' = φ := by
  intro w I vs hH ha
  refine (h.frame φ w I vs (by simpa using hH) ha).mono ?_
  rintro en w' ⟨v, r, μ'', I', h1, ⟨μ', h2, rfl⟩, h3, h4, h5⟩
  have p : (μ' ++ φ).Perm (φ ++ μ') := List.perm_append_comm
  refine ⟨v, r, φ, I', h1, ⟨h2, rfl⟩, h3, (h4.perm p).left, ?_⟩
  have h5' : Ext w I φ w' I' (μ' ++ φ) := by simpa using h5
  exact h5'.less fun b hb => by rw [blocksOf_append]; exact List.mem_append.2 (.inr hb)

/-! ## Results -/

def res1 (P : Program) (σ : S) : ResultVar → V → Prop
  | .tmp t, r => r = look σ.regs t ∧ r.plain = true
  | .cell a t, r => ∃ c cells, look σ.regs a = .c c ∧ PtrTo σ.μ c cells ∧
      ((∃ m, aggT P t = some m ∧ Nat.ble m cells.length = true ∧ r = .agg (cells.take m)) ∨ (oneT P t = true ∧ ∃ d rest, cells = d :: rest ∧ r = .c d))

def resN (P : Program) (σ : S) : List ResultVar → List V → Prop
  | [], [] => True
  | x :: xs, r :: rs => res1 P σ x r ∧ resN P σ xs rs
  | _, _ => False

def resOf (P : Program) (σ : S) (l : List ResultVar) (r : V) : Prop :=
  ∃ rs, resN P σ l rs ∧ (match rs with | [x] => r = x | _ => r = .tup rs)

theorem V.plain_v1 {w : World} {I : Nat → Prop} {x : V} {v : Value} (hp : x.plain = true) (h : VRep w I x v) : V1Rep w I x v := by
  cases x with
  | tup l => cases hp
  | ifv b x => cases hp
  | _ => exact h

def rvRun (tmps : Array Value) : ResultVar → Sem Value
  | .tmp t => Pure.pure (tmps.getD t undef)
  | .cell ad t => do loadVar t (← asAddr (tmps.getD ad undef))

theorem results_eq (fn : Func) (tmps : Array Value) : results fn tmps = (do let vs ← fn.results.mapM (rvRun tmps); Pure.pure (if h : vs.size = 1 then vs[0] else .tuple vs)) := by
  have : (fun x => match x with | ResultVar.tmp t => (Pure.pure (tmps.getD t undef) : Sem Value) | ResultVar.cell a t => do loadVar t (← asAddr (tmps.getD a undef))) = rvRun tmps := by
    funext x; cases x <;> rfl
  rw [← this]
  rfl

theorem res1_run {X : Cfg} {σ : S} {a : Act} {w : World} {I : Nat → Prop} (hH : Heap X w I σ.μ) (hR : ∀ t, VRep w I (look σ.regs t) (a.tmps.getD t undef)) {x : ResultVar} {r : V} (h : res1 X.P σ x r) :
    ∃ v, (rvRun a.tmps x).run X.P w = .ok v w ∧ V1Rep w I r v := by
  cases x with
  | tmp t =>
    obtain ⟨rfl, hp⟩ := h
    exact ⟨_, rfl, V.plain_v1 hp (hR t)⟩
  | cell ad t =>
    obtain ⟨c, cells, hl, hp, hc⟩ := h
    have hv := hR ad
    rw [hl] at hv
    obtain ⟨addr, ha, us, hcs, hu⟩ := hp w I _ hH.rep hv
    rcases hc with ⟨m, ht, hlen, rfl⟩ | ⟨ht, d, rest, rfl, rfl⟩
    · obtain ⟨h1, h2⟩ := run_isAgg_true ht w
      have hlen' : m ≤ us.length := by rw [← hcs.length]; exact Nat.le_of_ble_eq_true hlen
      have hload := run_loadCells_list (P := X.P) w addr (us.take m) (fun j v hj => hu j v (by
        rw [List.getElem?_take] at hj
        split at hj
        · exact hj
        · cases hj))
      rw [List.length_take, Nat.min_eq_left hlen'] at hload
      refine ⟨.agg (us.take m).toArray, ?_, us.take m, rfl, hcs.take m⟩
      simp only [rvRun, ha, asAddr, loadVar, Sem.run_bind, Sem.run_pure, Result.andThen_ok, h1, h2, if_true, hload]
    · obtain ⟨h1, h2⟩ := run_isAgg_false ht w
      cases hcs with
      | cons hd ht' =>
        rename_i u us'
        have h0 : w.cell? addr = some u := by have := hu 0 u rfl; simpa [Addr.add] using this
        refine ⟨u, ?_, hd⟩
        simp only [rvRun, ha, asAddr, loadVar, Sem.run_bind, Sem.run_pure, Result.andThen_ok, h1, Bool.false_eq_true, if_false, run_load, h0]

theorem resN_run {X : Cfg} {σ : S} {a : Act} {w : World} {I : Nat → Prop} (hH : Heap X w I σ.μ) (hR : ∀ t, VRep w I (look σ.regs t) (a.tmps.getD t undef)) : ∀ {l : List ResultVar} {rs : List V}, resN X.P σ l rs →
    ∃ vs : List Value, (l.mapM (rvRun a.tmps)).run X.P w = .ok vs w ∧ V1Reps w I rs vs ∧ vs.length = rs.length
  | [], [], _ => ⟨[], by simp, trivial, rfl⟩
  | x :: l, r :: rs, h => by
    obtain ⟨v, h1, h2⟩ := res1_run hH hR h.1
    obtain ⟨vs, h3, h4, h5⟩ := resN_run hH hR h.2
    refine ⟨v :: vs, ?_, ⟨h2, h4⟩, by simp [h5]⟩
    rw [List.mapM_cons, Sem.run_bind, h1, Result.andThen_ok, Sem.run_bind, h3, Result.andThen_ok, Sem.run_pure]
  | [], _ :: _, h => h.elim
  | _ :: _, [], h => h.elim

theorem resOf_run {X : Cfg} {σ : S} {a : Act} {w : World} {I : Nat → Prop} (hH : Heap X w I σ.μ) (hR : ∀ t, VRep w I (look σ.regs t) (a.tmps.getD t undef)) {fn : Func} {l : List ResultVar} (hl : fn.results = l.toArray) {r : V} (h : resOf X.P σ l r) :
    ∃ v, (results fn a.tmps).run X.P w = .ok v w ∧ VRep w I r v := by
  obtain ⟨rs, h1, h2⟩ := h
  obtain ⟨vs, h3, h4, h5⟩ := resN_run hH hR h1
  have h6 : (fn.results.mapM (rvRun a.tmps)).run X.P w = .ok vs.toArray w := by
    rw [hl, List.mapM_toArray, Sem.run_map, h3]
    rfl
  match rs, vs, h2, h4, h5 with
  | [x], [v], h2, h4, _ =>
    subst h2
    exact ⟨v, by simp only [results_eq, Sem.run_bind, h6, Result.andThen_ok, Sem.run_pure]; rfl, h4.1.up⟩
  | [], [], h2, h4, _ =>
    subst h2
    exact ⟨.tuple #[], by simp only [results_eq, Sem.run_bind, h6, Result.andThen_ok, Sem.run_pure]; rfl, [], rfl, h4⟩
  | x :: y :: rs, v :: u :: vs, h2, h4, _ =>
    subst h2
    refine ⟨.tuple (v :: u :: vs).toArray, ?_, v :: u :: vs, rfl, h4⟩
    simp only [results_eq, Sem.run_bind, h6, Result.andThen_ok, Sem.run_pure]
    rw [dif_neg (by simp)]

/-! ## From the body to the contract -/

def finQ (P : Program) (l : List ResultVar) (Q : V → List E → Prop) : Exit → S → Prop
  | .normal, σ => ∃ r, resOf P σ l r ∧ Q r σ.μ
  | .ret, σ => ∃ r, resOf P σ l r ∧ Q r σ.μ
  | _, _ => False

def enum : Nat → List V → List (Nat × V)
  | _, [] => []
  | i, x :: xs => (i, x) :: enum (i + 1) xs

theorem look_enum {w : World} {I : Nat → Prop} : ∀ {args : List V} {vs : List Value} (i : Nat), V1Reps w I args vs → ∀ t, VRep w I (look (enum i args) t) (if i ≤ t then (vs[t - i]?).getD undef else undef)
  | [], _, _, _, _ => trivial
  | x :: xs, v :: vs, i, h, t => by
    simp only [enum]
    rw [look_putR]
    by_cases hit : i = t
    · subst hit
      simp only [if_true, Nat.le_refl, Nat.sub_self]
      exact h.1.up
    · rw [if_neg hit]
      have ih := look_enum (i + 1) h.2 t
      by_cases hle : i ≤ t
      · rw [if_pos hle]
        rw [if_pos (by omega)] at ih
        have e : t - i = (t - (i + 1)) + 1 := by omega
        rw [e, List.getElem?_cons_succ]
        exact ih
      · rw [if_neg hle]
        rw [if_neg (by omega)] at ih
        exact ih
  | _ :: _, [], _, h, _ => h.elim

theorem Heap.except {X : Cfg} {w w' : World} {I : Nat → Prop} {μ : List E} (h : Heap X w I μ) (hs : w'.heap.size = w.heap.size) (heq : ∀ b, (b < X.N ∨ I b ∨ b ∈ blocksOf μ) → w'.heap[b]? = w.heap[b]?) : Heap X w' I μ :=
  ⟨by rw [hs]; exact h.lo, X.hG _ _ (fun b hb => heq b (.inl hb)) h.glob, h.nodup, h.own, fun b hb => by rw [hs]; exact h.imm b hb,
    fun e he => (h.rep e he).mono (h.mono e he) (fun b hb => heq b (.inr (.inl hb))) (fun _ h => h) (fun b hb => heq b (.inr (.inr (mem_blocksOf he hb)))), h.mono⟩

theorem leaves_marks {P : Program} {fn : Func} {tmps : Array Value} {R : Ending → World → Prop} : ∀ (Ds : List Nat) (w : World), Ds.Nodup → (∀ D, D ∈ Ds → w.heap[D]? = some (.deferred (some []))) →
    (∀ w', w'.heap.size = w.heap.size → w'.os = w.os → w'.tape = w.tape → w'.output = w.output → (∀ b, b ∉ Ds → w'.heap[b]? = w.heap[b]?) → ∃ v, (results fn tmps).run P w' = .ok v w' ∧ R (.returned v) w') →
    LeavesInM (fen none) 0 P fn tmps R (Ds.map mark) .returning w
  | [], w, _, _, h => h w rfl rfl rfl rfl fun _ _ => rfl
  | D :: Ds, w, hn, hD, h => by
    have hn' := List.nodup_cons.1 hn
    have hlt : D < w.heap.size := (Array.getElem?_eq_some_iff.1 (hD D (by simp))).1
    refine ⟨by simp, .inl ⟨D, _, rfl, run_takeDeferred (hD D (by simp)), ?_⟩⟩
    refine leaves_marks Ds _ hn'.2 (fun D' h' => (World.putObj_heap_other (k := D') (r := D) (fun e : D' = D => hn'.1 (by rw [← e]; exact h'))).trans (hD D' (by simp [h']))) fun w' hs ho ht hp hb => ?_
    refine h w' (by rw [hs]; simp [World.putObj]) ho ht hp fun b hb' => ?_
    rw [hb b fun h => hb' (by simp [h])]
    exact World.putObj_heap_other (fun e => hb' (by simp [e]))

theorem callsIn_fen {P : Program} {f : FuncId} {args : Array Value} {w : World} {R : Ending → World → Prop} (rd : Option Nat) (n : Nat) (h : Calls P f args w R) : CallsIn (fen rd) n P f args w R :=
  (callsIn_wide (n := n)).2 h

theorem con_intro {X : Cfg} {f : FuncId} {fn : Func} {c : Code} {n : Nat} {l : List ResultVar} {args : List V} {μ : List E} {Q : V → List E → Prop} (hf : X.P.funcs[f]? = some fn) (hb : fn.body = some c) (hn : fn.ntmps = n) (hl : fn.results = l.toArray) (hle : Nat.ble args.length n = true)
    (h : ∀ z : Z, RdOk z → AWP X n z c (finQ X.P l Q) ⟨enum 0 args, μ⟩) : Con X f args μ Q := by
  intro w I vs hH ha
  refine (callsIn_wide (n := 0)).1 (callsIn_of_wp_marks (F := fen none) (n := 0) hf hb trivial ?_)
  have hlen : ∀ {args : List V} {vs : List Value}, V1Reps w I args vs → vs.length = args.length := by
    intro args
    induction args with
    | nil => intro vs h; cases vs with
      | nil => rfl
      | cons v vs => exact h.elim
    | cons x xs ih => intro vs h; cases vs with
      | nil => exact h.elim
      | cons v vs => simp [ih h.2]
  have hl1 := hlen ha
  have hl2 := Nat.le_of_ble_eq_true hle
  refine wpIn_mono (h ⟨w, I, μ, [], none⟩ (fun _ h => by cases h) _ (ZLe.refl _) _ w ⟨I, hH, fun t => ?_, Ext.refl _ _ _, rfl, ?_⟩) ?_
  · have := look_enum 0 ha t
    rw [if_pos (Nat.zero_le _), Nat.sub_zero] at this
    have e : (vs.toArray ++ Array.replicate (fn.ntmps - vs.toArray.size) undef).getD t undef = (vs[t]?).getD undef := by
      rw [Array.getD_eq_getD_getElem?, Array.getElem?_append]
      by_cases ht : t < vs.length
      · simp [ht]
      · rw [if_neg (by simpa using ht), List.getElem?_eq_none (by omega)]
        by_cases h2 : t - vs.length < fn.ntmps - vs.length
        · simp [h2]
        · simp [h2]
    rw [e]
    exact this
  · simp [hn]; omega
  · rintro e a' w' ⟨z', σ', hz, hq, I', hH', hR', hx', hd', _⟩
    obtain ⟨_, xz, Ds, eds, hnd, hDs⟩ := hz
    have hD : ∀ D, D ∈ Ds → w.heap.size ≤ D ∧ ¬ I' D ∧ D ∉ blocksOf σ'.μ ∧ w'.heap[D]? = some (.deferred (some [])) := fun D h => by
      obtain ⟨h1, h2, h3, h4, h5⟩ := hDs D h
      obtain ⟨_, k2, k3, k4⟩ := hx'.stays h2 h3 h4
      exact ⟨h1, k2, k3, k4.trans h5⟩
    have hN : X.N ≤ w.heap.size := hH.lo
    have fin : (∃ r, resOf X.P σ' l r ∧ Q r σ'.μ) → LeavesInM (fen none) 0 X.P fn a'.tmps (fun en w' => ∃ v r μ' I', en = .returned v ∧ Q r μ' ∧ VRep w' I' r v ∧ Heap X w' I' μ' ∧ Ext w I μ w' I' μ') a'.defers .returning w' := by
      rintro ⟨r, hr, hQ⟩
      rw [hd', eds, List.append_nil]
      refine leaves_marks Ds w' hnd (fun D h => (hD D h).2.2.2) fun w'' hs ho ht hp hb => ?_
      have hI : ∀ b, I' b → w''.heap[b]? = w'.heap[b]? := fun b h => hb b fun h' => (hD b h').2.1 h
      have hH'' : Heap X w'' I' σ'.μ := hH'.except hs fun b h => hb b fun h' => by
        obtain ⟨k1, k2, k3, _⟩ := hD b h'
        rcases h with h | h | h
        · omega
        · exact k2 h
        · exact k3 h
      obtain ⟨v, hv, hrep⟩ := resOf_run hH'' (fun t => (hR' t).mono hI fun _ h => h) hl hr
      have x := xz.trans hx'
      exact ⟨v, hv, v, r, σ'.μ, I', rfl, hQ, hrep, hH'', ho.trans x.os, ht.trans x.tape, hp.trans x.output, by rw [hs]; exact x.size, fun b h1 h2 => (hb b fun h' => by have := (hD b h').1; omega).trans (x.block b h1 h2), x.imm, x.imm', x.own'⟩
    cases e with
    | normal => exact fin hq
    | ret => exact fin hq
    | _ => exact hq.elim

/-! ## Ends -/
section ends
variable {P : Program} {Q : V → List E → Prop} {regs : List (Nat × V)} {μ : List E} {l : List ResultVar}

theorem rs_c {t : Nat} {y : C} (h : look regs t = .c y) : res1 P ⟨regs, μ⟩ (.tmp t) (.c y) := ⟨h.symm, rfl⟩
theorem rs_agg {t : Nat} {y : List C} (h : look regs t = .agg y) : res1 P ⟨regs, μ⟩ (.tmp t) (.agg y) := ⟨h.symm, rfl⟩
theorem rs_cell_agg {a t m : Nat} {c : C} {cells : List C} (ht : aggT P t = some m) (h : look regs a = .c c) (hp : PtrTo μ c cells) (hl : Nat.ble m cells.length = true) : res1 P ⟨regs, μ⟩ (.cell a t) (.agg (cells.take m)) := ⟨c, cells, h, hp, .inl ⟨m, ht, hl, rfl⟩⟩
theorem rs_cell_one {a t : Nat} {c d : C} {cells rest : List C} (ht : oneT P t = true) (h : look regs a = .c c) (hp : PtrTo μ c cells) (hc : cells = d :: rest) : res1 P ⟨regs, μ⟩ (.cell a t) (.c d) := ⟨c, cells, h, hp, .inr ⟨ht, d, rest, hc, rfl⟩⟩

theorem fin1 {x : ResultVar} {r : V} (h : res1 P ⟨regs, μ⟩ x r) (hq : Q r μ) : finQ P [x] Q .ret ⟨regs, μ⟩ := ⟨r, ⟨[r], ⟨h, trivial⟩, rfl⟩, hq⟩
theorem fin0 (hq : Q (.tup []) μ) : finQ P [] Q .ret ⟨regs, μ⟩ := ⟨.tup [], ⟨[], trivial, rfl⟩, hq⟩
theorem fin2 {x y : ResultVar} {r s : V} (h : res1 P ⟨regs, μ⟩ x r) (h' : res1 P ⟨regs, μ⟩ y s) (hq : Q (.tup [r, s]) μ) : finQ P [x, y] Q .ret ⟨regs, μ⟩ := ⟨.tup [r, s], ⟨[r, s], ⟨h, h', trivial⟩, rfl⟩, hq⟩
theorem fin3 {x y u : ResultVar} {r s v : V} (h : res1 P ⟨regs, μ⟩ x r) (h' : res1 P ⟨regs, μ⟩ y s) (h'' : res1 P ⟨regs, μ⟩ u v) (hq : Q (.tup [r, s, v]) μ) : finQ P [x, y, u] Q .ret ⟨regs, μ⟩ := ⟨.tup [r, s, v], ⟨[r, s, v], ⟨h, h', h'', trivial⟩, rfl⟩, hq⟩
theorem fin4 {x y u p : ResultVar} {r s v q : V} (h : res1 P ⟨regs, μ⟩ x r) (h' : res1 P ⟨regs, μ⟩ y s) (h'' : res1 P ⟨regs, μ⟩ u v) (h3 : res1 P ⟨regs, μ⟩ p q) (hq : Q (.tup [r, s, v, q]) μ) : finQ P [x, y, u, p] Q .ret ⟨regs, μ⟩ := ⟨.tup [r, s, v, q], ⟨[r, s, v, q], ⟨h, h', h'', h3, trivial⟩, rfl⟩, hq⟩

theorem thenQ_ret {K : S → Prop} {R : Exit → S → Prop} {σ : S} (h : R .ret σ) : thenQ K R .ret σ := h
theorem blockQ_ret {id : Nat} {R : Exit → S → Prop} {σ : S} (h : R .ret σ) : blockQ id R .ret σ := h
theorem fin_end (h : finQ P l Q .ret ⟨regs, μ⟩) : finQ P l Q .normal ⟨regs, μ⟩ := h
end ends

/-! ## Calls -/

def callOk (P : Program) (f : FuncId) : Bool :=
  match P.funcs[f]? with
  | some fn => fn.body.isSome && !(fn.name == "runtime.NumGoroutine")
  | none => false

theorem run_callFunc {P : Program} {f : FuncId} (h : callOk P f = true) (args : Array Value) (w : World) : (callFunc f args).run P w = .ok (.enter f args) w := by
  unfold callOk at h
  cases hf : P.funcs[f]? with
  | none => rw [hf] at h; cases h
  | some fn =>
    rw [hf] at h
    simp only [Bool.and_eq_true, Bool.not_eq_true', beq_eq_false_iff_ne] at h
    have hb : fn.body ≠ none := fun hb => by simp [hb] at h
    simp [callFunc, hf, h.2, hb]

def vles : List V → List V → Prop
  | [], [] => True
  | x :: xs, y :: ys => VLe x y ∧ y.plain = true ∧ vles xs ys
  | _, _ => False

theorem vles_rep {w : World} {I : Nat → Prop} {a : Act} {e : Operand → V} : ∀ {as : List Operand} {args : List V}, (∀ x, x ∈ as → VRep w I (e x) (a.eval x)) → vles (as.map e) args → V1Reps w I args (as.map a.eval)
  | [], [], _, _ => trivial
  | x :: _, _ :: _, hops, h => ⟨V.plain_v1 h.2.1 (h.1 w I _ (hops x (by simp))), vles_rep (fun y hy => hops y (by simp [hy])) h.2.2⟩
  | [], _ :: _, _, h => h.elim
  | _ :: _, [], _, h => h.elim

theorem V1Reps.append {w : World} {I : Nat → Prop} : ∀ {l l' : List V} {vs vs' : List Value}, V1Reps w I l vs → V1Reps w I l' vs' → V1Reps w I (l ++ l') (vs ++ vs')
  | [], _, [], _, _, k => k
  | _ :: _, _, _ :: _, _, h, k => ⟨h.1, h.2.append k⟩
  | [], _, _ :: _, _, h, _ => h.elim
  | _ :: _, _, [], _, h, _ => h.elim

theorem V1Reps.of_c {w : World} {I : Nat → Prop} : ∀ {l : List C} {vs : List Value}, CReps w I l vs → V1Reps w I (l.map .c) vs
  | _, _, .nil => trivial
  | _, _, .cons h t => ⟨h, V1Reps.of_c t⟩

section calls
variable {X : Cfg} {o : Oper} {e : Operand → V} {μ : List E}

theorem ope_call {f : FuncId} {as : List Operand} {ts : Array TypeId} {args : List V} {Q : V → List E → Prop} (ho : o.op = .call { callee := .value (.func f), args := as.toArray, argTypes := ts }) (hf : callOk X.P f = true) (hc : Con X f args μ Q) (ha : vles (as.map e) args) : OpE X o e μ Q := by
  intro a w I hH hops K Q' k
  have hrun : (execOp a.eval o).run X.P w = .ok (.enter f (as.map a.eval).toArray) w := by
    simp [execOp, ho, resolve, Act.eval, Deferred.ofValue, invoke, run_callFunc hf]
  intro hn rd
  refine ⟨fun _ _ => trivial, ?_⟩
  rw [semAt_eq hn, hrun, Oper.uponIn_enter]
  refine ⟨fun h => by simp [fen, Fence.wide] at h, callsIn_fen _ _ ?_⟩
  refine (hc w I _ hH (vles_rep (fun y hy => hops y (by rw [ho]; simp [Op.operands, Call.operands, hy])) ha)).mono ?_
  rintro en w' ⟨v, r, μ', I', rfl, h2, h3, h4, h5⟩
  exact k v r μ' I' w' h2 h3 h4 h5

/-- A call of a pure function. -/
theorem ope_pure {f : FuncId} {as : List Operand} {ts : Array TypeId} {args : List V} {Q : V → Prop} (ho : o.op = .call { callee := .value (.func f), args := as.toArray, argTypes := ts }) (hf : callOk X.P f = true) (hc : Con X f args [] fun r _ => Q r) (ha : vles (as.map e) args) : OpE X o e μ fun r μ' => Q r ∧ μ' = μ :=
  ope_call ho hf (hc.pure_frame μ) ha

theorem det_call {f : FuncId} {as : List Operand} {ts : Array TypeId} {args : List V} {r : V} (ho : o.op = .call { callee := .value (.func f), args := as.toArray, argTypes := ts }) (hf : callOk X.P f = true) (hc : Pur X f args r) (ha : vles (as.map e) args) : Det X o e μ r μ :=
  ope_pure ho hf hc ha

/-- A call of a function value. -/
theorem ope_call_fn {f : FuncId} {x : Operand} {as : List Operand} {ts : Array TypeId} {first cap : List C} {args : List V} {Q : V → List E → Prop} (ho : o.op = .call { callee := .value x, args := as.toArray, argTypes := ts }) (hx : e x = .c (.fn (.func f) first cap)) (hf : callOk X.P f = true)
    (hc : Con X f (first.map .c ++ args ++ cap.map .c) μ Q) (ha : vles (as.map e) args) : OpE X o e μ Q := by
  intro a w I hH hops K Q' k
  have hxv := hops x (by rw [ho]; simp [Op.operands, Call.operands])
  rw [hx] at hxv
  have hxv' : CRep w I (.fn (.func f) first cap) (a.eval x) := hxv
  generalize hv : a.eval x = v at hxv'
  cases hxv' with
  | fn _ _ _ us vs h1 h2 hr1 hr2 =>
    have hrun : (execOp a.eval o).run X.P w = .ok (.enter f (us ++ as.map a.eval ++ vs).toArray) w := by
      simp [execOp, ho, resolve, hv, Deferred.ofValue, invoke, run_callFunc hf]
    intro hn rd
    refine ⟨fun _ _ => trivial, ?_⟩
    rw [semAt_eq hn, hrun, Oper.uponIn_enter]
    refine ⟨fun h => by simp [fen, Fence.wide] at h, callsIn_fen _ _ ?_⟩
    have c1 := V1Reps.of_c (CReps.of_at (w := w) (I := I) h1.symm hr1)
    have c2 := V1Reps.of_c (CReps.of_at (w := w) (I := I) h2.symm hr2)
    refine (hc w I _ hH ((c1.append (vles_rep (fun y hy => hops y (by rw [ho]; simp [Op.operands, Call.operands, hy])) ha)).append c2)).mono ?_
    rintro en w' ⟨v, r, μ', I', rfl, h2, h3, h4, h5⟩
    exact k v r μ' I' w' h2 h3 h4 h5

theorem det_call_fn {f : FuncId} {x : Operand} {as : List Operand} {ts : Array TypeId} {first cap : List C} {args : List V} {r : V} (ho : o.op = .call { callee := .value x, args := as.toArray, argTypes := ts }) (hx : e x = .c (.fn (.func f) first cap)) (hf : callOk X.P f = true)
    (hc : Pur X f (first.map .c ++ args ++ cap.map .c) r) (ha : vles (as.map e) args) : Det X o e μ r μ :=
  ope_call_fn ho hx hf (hc.pure_frame μ) ha

theorem det_call_fn0 {f : FuncId} {x : Operand} {as : List Operand} {ts : Array TypeId} {args : List V} {r : V} (ho : o.op = .call { callee := .value x, args := as.toArray, argTypes := ts }) (hx : e x = .c (.fn (.func f) [] [])) (hf : callOk X.P f = true)
    (hc : Pur X f args r) (ha : vles (as.map e) args) : Det X o e μ r μ :=
  det_call_fn (args := args) ho hx hf (by simpa using hc) ha

end calls

/-! ## Ghost steps -/

/-- A nil slice as a slice of the call's own, still empty. -/
theorem weak_own {regs : List (Nat × V)} {μ : List E} (et : TypeId) (size : Nat) : Weak ⟨regs, μ⟩ ⟨regs, .vec (.slice none 0 0) et size [] :: μ⟩ := by
  intro X n z a w ⟨I, hH, hR, hx, hd, hs⟩
  have e : blocksOf (.vec (.slice none 0 0) et size [] :: μ) = blocksOf μ := by simp [blocksOf, E.blocks, svB]
  refine ⟨I, ⟨hH.lo, hH.glob, by rw [e]; exact hH.nodup, fun b hb => hH.own b (by rw [e] at hb; exact hb), hH.imm, fun en hen => ?_, fun en hen => ?_⟩, hR, hx.less fun b hb => by rw [e] at hb; exact hb, hd, hs⟩
  · rcases List.mem_cons.1 hen with rfl | h
    · exact .inl ⟨none, rfl, rfl⟩
    · exact hH.rep en h
  · rcases List.mem_cons.1 hen with rfl | h
    · trivial
    · exact hH.mono en h

/-- x may be read as y where the slice sv is left alone and reads as rows. -/
def FLe (sv : Value) (size : Nat) (rows : List (List C)) (x y : V) : Prop := ∀ w I v, CRep w I (.sl size rows) sv → VRep w I x v → VRep w I y v

theorem FLe.sl {sv : Value} {size : Nat} {rows : List (List C)} : FLe sv size rows (.c (.lit sv)) (.c (.sl size rows)) := by
  intro w I v h hv
  rw [hv.lit_inv]
  exact h

theorem FLe.refl {sv : Value} {size : Nat} {rows : List (List C)} (x : V) : FLe sv size rows x x := fun _ _ _ _ h => h

def cfle (sv : Value) (size : Nat) (rows : List (List C)) : List C → List C → Prop
  | [], [] => True
  | x :: xs, y :: ys => (x = y ∨ (x = .lit sv ∧ y = .sl size rows)) ∧ cfle sv size rows xs ys
  | _, _ => False

theorem cfle_reps {sv : Value} {size : Nat} {rows : List (List C)} {w : World} {I : Nat → Prop} (h : CRep w I (.sl size rows) sv) : ∀ {xs ys : List C} {vs : List Value}, cfle sv size rows xs ys → CReps w I xs vs → CReps w I ys vs
  | [], [], _, _, k => k
  | x :: xs, y :: ys, _, hc, .cons hd tl => by
    refine .cons ?_ (cfle_reps h hc.2 tl)
    rcases hc.1 with rfl | ⟨rfl, rfl⟩
    · exact hd
    · cases hd; exact h
  | [], _ :: _, _, h, _ => h.elim
  | _ :: _, [], _, h, _ => h.elim

theorem FLe.agg {sv : Value} {size : Nat} {rows : List (List C)} {xs ys : List C} (h : cfle sv size rows xs ys) : FLe sv size rows (.agg xs) (.agg ys) := by
  intro w I v hs hv
  obtain ⟨vs, rfl, hc⟩ := hv.agg_inv
  exact ⟨vs, rfl, cfle_reps hs h hc⟩

theorem vec_sl {w : World} {I : Nat → Prop} {sv : Value} {et : TypeId} {size : Nat} {rows : List (List C)} (h : ERep w I (.vec sv et size rows)) (hI : ∀ b, b ∈ (E.vec sv et size rows).blocks → I b) : CRep w I (.sl size rows) sv := by
  rcases h with ⟨a, rfl, rfl⟩ | ⟨hne, xs, hown, hc, hl⟩
  · exact .nil size a 0
  have hlen := hown.1
  rcases hown.2 with ⟨rfl, hn⟩ | ⟨g, cap, cur, rfl, _, hh, hle, _, hsz, htake⟩
  · have : rows = [] := List.eq_nil_of_length_eq_zero hn
    subst this
    exact .nil size none 0
  · have hcell := hown.cells (g := g) rfl
    have hat : ∀ (i : Nat) r, rows[i]? = some r → ∀ (j : Nat) c, r[j]? = some c → ∃ u, xs[i * size + j]? = some u ∧ CRep w I c u := by
      intro i r hi j c hj
      obtain ⟨A, B, e, hA⟩ := flat_at hl hi
      rw [e] at hc
      refine hc.at_ ?_
      have hjl : j < r.length := (List.getElem?_eq_some_iff.1 hj).1
      rw [List.append_assoc, List.getElem?_append_right (by omega), hA, Nat.add_sub_cancel_left, List.getElem?_append_left hjl]
      exact hj
    refine .sl size rows _ cap (fun i j => (xs[i * size + j]?).getD undef) (hI g (svB_of hne rfl)) hl hle (fun i j hi hj => ?_) (fun i r hi j c hj => ?_)
    · obtain ⟨u, hu, _⟩ := hat i rows[i] (List.getElem?_eq_getElem hi) j ((rows[i])[j]'(by rw [hl _ (List.getElem_mem hi)]; exact hj)) (List.getElem?_eq_getElem _)
      rw [hcell _ u hu, hu]
      rfl
    · obtain ⟨u, hu, hcu⟩ := hat i r hi j c hj
      simp only [hu, Option.getD_some]
      exact hcu

/-- From now on the slice is left alone: registers that hold it read as its rows. -/
theorem weak_freeze {regs : List (Nat × V)} {μ : List E} {sv : Value} {et : TypeId} {size : Nat} {rows : List (List C)} (p : Nat) (hp : nth μ p = some (.vec sv et size rows)) (t : Nat) (y : V) (hy : FLe sv size rows (look regs t) y) : Weak ⟨regs, μ⟩ ⟨(t, y) :: regs, delN μ p⟩ := by
  intro X n z a w ⟨I, hH, hR, hx, hd, hs⟩
  have pm := nth_perm hp
  have h1 : Heap X w I ([E.vec sv et size rows] ++ delN μ p) := hH.perm pm
  have hrep := hH.rep _ (nth_mem hp)
  let I' : Nat → Prop := fun b => I b ∨ b ∈ (E.vec sv et size rows).blocks
  have hII : ∀ b, I b → I' b := fun b h => .inl h
  have hsl : CRep w I' (.sl size rows) sv := vec_sl (hrep.mono (w' := w) (I' := I') trivial (fun _ _ => rfl) hII fun _ _ => rfl) fun b hb => .inr hb
  have hn := h1.nodup
  rw [blocksOf_append] at hn
  obtain ⟨_, hn2, hn3⟩ := List.nodup_append.1 hn
  have hb1 : blocksOf [E.vec sv et size rows] = (E.vec sv et size rows).blocks := by simp [blocksOf]
  have hmem : ∀ b, b ∈ blocksOf (delN μ p) → b ∈ blocksOf μ := fun b hb => (blocksOf_perm pm).mem_iff.2 (by rw [blocksOf_cons]; exact List.mem_append.2 (.inr hb))
  refine ⟨I', ⟨hH.lo, hH.glob, hn2, fun b hb => ⟨(hH.own b (hmem b hb)).1, ?_⟩, ?_, fun en hen => ?_, fun en hen => ?_⟩, fun t' => ?_, ?_, hd, hs⟩
  · rintro (h | h)
    · exact (hH.own b (hmem b hb)).2 h
    · exact hn3 b (by rw [hb1]; exact h) b hb rfl
  · rintro b (h | h)
    · exact hH.imm b h
    · exact hrep.lt h
  · have hm : en ∈ μ := pm.mem_iff.2 (List.mem_cons_of_mem _ hen)
    exact (hH.rep en hm).mono (hH.mono en hm) (fun _ _ => rfl) hII fun _ _ => rfl
  · exact hH.mono en (pm.mem_iff.2 (List.mem_cons_of_mem _ hen))
  · have hold : VRep w I' (look regs t') (a.tmps.getD t' undef) := (hR t').mono (fun _ _ => rfl) hII
    show VRep w I' (look ((t, y) :: regs) t') _
    rw [look_putR]
    split
    · rename_i e; subst e; exact hy w I' _ hsl hold
    · exact hold
  · refine ⟨hx.os, hx.tape, hx.output, hx.size, hx.block, fun b h => .inl (hx.imm b h), fun b hb => ?_, fun b hb => hx.own' b (hmem b hb)⟩
    rcases hb with h | h
    · exact hx.imm' b h
    · rcases hx.own' b (mem_blocksOf (nth_mem hp) h) with h' | h'
      · exact .inr (.inl h')
      · exact .inr (.inr h')

end Go.Eng
