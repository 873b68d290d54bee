/-
  The engine,part A: abstract cells,values and owned memory,and what it means that a world holds them.
  And what the laws need besides.
  Conditions: none.
-/
import Derived.WalkKit
import Derived.Below
import Derived.Laws.OwnMore
import Derived.Deep.Draws
import Derived.OrdersIn
import Derived.TacticsIn
import Derived.RangeFuncIn
import Derived.RangeFuncLeaves
import Derived.RangeFuncRecord
import Derived.Laws.CopyRow
import Derived.Laws.Rows
import Derived.Maps.AppendAt
import Derived.Orders
import Derived.IntWalk
import Derived.MapKept
set_option linter.unusedSimpArgs false
set_option linter.unusedVariables false
set_option linter.defProp false
section
namespace Go.Eng
open Go Go.RowKit
def aa:=@if_neg
def ab:=@if_pos
def ae:=@Bool.and_eq_true
def af:=@List.mem_cons
def ag:=@congrArg
def ah:=@decide_eq_true_eq
def ai:=@List.getElem?_eq_some_iff
def aj:=@decide_eq_false_iff_not
def ak:=@List.getElem?_eq_getElem
def al:=@Bool.or_eq_false_iff
def am:=@Array.getD_eq_getD_getElem?
def ao:=@Bool.not_eq_true'
def ap:=@Option.some.injEq
def aq:=@List.mem_append
def au:=@List.mem_cons_of_mem
def aw:=@decide_eq_true
def ax:=@List.all_eq_true
def ay:=@cond_true
def az:=@cond_false
def aA:=@Result.andThen_ok
def aB:=@decide_eq_false
def aC:=@List.map_append
def aD:=@Array.getElem?_eq_getElem
def aE:=@run_underlying
def aF:=@List.take_succ_cons
def aG:=@List.length_take
def aH:=@Nat.le_refl
def aI:=@Bool.or_eq_true
def aJ:=@Prod.mk.injEq
def aK:=@List.map_cons
def aL:=@Bool.true_and
def aM:=@List.take_append_drop
def aN:=@List.not_mem_nil
def aO:=@List.mem_singleton
def aP:=@Sem.run_bind
def aQ:=@List.drop_succ_cons
def aR:=@Nat.beq_refl
def aS:=@List.take_of_length_le
def aT:=@List.getD_eq_getElem?_getD
def aU:=@Sem.run_pure
def aV:=@List.eq_nil_of_length_eq_zero
def aW:=@List.all_cons
def aX:=@forall_eq_or_imp
def aY:=@List.drop_zero
def aZ:=@Bool.false_and
def ba:=@List.cons.injEq
def bc:=@List.take_zero
def bf:=@Bool.not_true
def bg:=@List.mem_of_getElem?
def bh:=@List.Perm.refl
def bi:=@List.foldl_cons
def bj:=@World.putObj_heap_other
def bk:=@Nat.eq_of_beq_eq_true
def bm:=@Bool.and_eq_false_iff
def bn:=@Nat.zero_le
def bp:=@List.getElem?_take
def bq:=@List.mem_map
def bt:=@Nat.zero_add
def bu:=@List.getElem?_map
def bv:=@Bool.and_true
def bw:=@Nat.min_eq_left
def bx:=@List.all_append
def bz:=@Bool.eq_iff_iff
def ca:=@Bool.not_false
def cb:=@Array.getElem?_eq_some_iff
def cc:=@Nat.le_trans
def cd:=@Option.getD_some
def cf:=@List.mem_flatMap
def cg:=@List.flatMap_cons
def ci:=@List.drop_eq_nil_of_le
def cj:=@Nat.le_of_ble_eq_true
def ck:=@List.map_nil
def cl:=@Nat.blt_eq
def cm:=@List.nodup_cons
def cn:=@List.mem_range
def co:=@Bool.and_false
def cp:=@or_false
def cq:=@forall_eq
def ct:=@List.length_drop
def cu:=@List.filterMap_cons
def cv:=@List.append_assoc
def cw:=@Option.map_some
def cx:=@Array.getElem?_setIfInBounds
def cy:=@List.map_singleton
def cz:=@List.length_append
def da:=@decide_eq_decide
def dc:=@Nat.mul_le_mul_right
def dg:=@Nat.add_sub_cancel_left
def dh:=@heap_alloc_new
def dj:=@and_true
def dk:=@List.getElem?_set_self
def dl:=@List.getElem?_append_right
def dm:=@List.foldl_append
def dp:=@List.drop_of_length_le
def dq:=@Int.toNat_natCast
def dr:=@Array.all_eq_true_iff_forall_mem
def dt:=@List.getElem?_append_left
def du:=@List.getElem?_eq_none
def dv:=@List.mem_cons_self
def dw:=@List.getElem_mem
def dx:=@Nat.succ_mul
def dy:=@Int.zero_mul
def dz:=@List.take_append_of_le_length
def ec:=@List.mem_of_mem_take
def ed:=@List.length_set
def ee:=@List.getElem?_range
def ef:=@List.flatMap_append
def eg:=@Nat.lt_or_ge
def eh:=@Int.add_zero
def ei:=@Nat.mul_add
def ej:=@Nat.add_mul
def ek:=@List.set_comm
def ep:=@List.any_cons
def eu:=@Bool.false_or
def ey:=@List.range_succ
def ez:=@List.flatten_cons
def fa:=@Option.isSome_iff_exists
def fb:=@List.take_take
def fc:=@List.length_eq_zero_iff
def fe:=@List.any_eq_true
def ff:=@beq_iff_eq
def fg:=@List.getElem?_drop
def fh:=@List.all_nil
def fi:=@Int.zero_add
def fj:=@Bool.not_eq_false'
def fk:=@List.nil_append
def fm:=@List.any_append
def fq:=@List.perm_append_comm
def fu:=@List.length_filter_le
def fv:=@of_decide_eq_true
def fw:=@List.nodup_append
def fx:=@Int.tdiv_eq_ediv_of_nonneg
def fy:=@Ne.symm
def fz:=@List.set_set
def gd:=@List.drop_append
def ge:=@List.mem_or_eq_of_mem_set
def gg:=@Nat.add_assoc
def gi:=@Bool.or_false
def gj:=@Int.natCast_mul
def gk:=@Nat.lt_of_lt_of_le
def gl:=@MapKept.run_getObj_map
def gm:=@List.head?_eq_getElem?
def gn:=@List.ext_getElem?
def gp:=@List.contains_iff_mem
def gq:=@List.length_cons
def gr:=@Nat.mul_assoc
def gt:=@List.getElem?_set_ne
def gu:=@Int.one_mul
def gv:=@beq_eq_false_iff_ne
def gw:=@List.take_set_of_le
def gx:=@List.map_congr_left
def gy:=@List.flatten_append
def gz:=@ByteArray.toList_eq
def ia:=@Nat.mul_comm
def ib:=@wpIn_mono
def ic:=@mem_ready
def ie:=@of_decide_eq_false
def ig:=@Nat.mul_le_mul
def ii:=@List.take_left
def ij:=@Bool.and_assoc
def ik:=@List.drop_eq_getElem_cons
def il:=@run_program
def im:=@getD_set_ne
def io:=@List.any_eq_false
def ip:=@Option.bind_some
def iq:=@List.map_toArray
def ir:=@List.getElem?_cons_zero
def iu:=@List.filter_cons
def iv:=@List.drop_length
def iw:=@List.cons_append
def iy:=@Array.toList_inj
def iz:=@List.map_map
def iH:=@List.length_map
def iI:=@Nat.ble_eq_true_of_le
def iJ:=@List.set_append_right
def iK:=@List.mem_of_mem_drop
def iL:=@Classical.not_forall
def iM:=@Array.toArray_toList
def iN:=@Nat.mul_le_mul_left
def iO:=@Nat.mod_lt
def iP:=@List.set_cons_succ
def iQ:=@List.mem_filterMap
def iR:=@Bool.false_eq_true
def iS:=@List.set_eq_take_append_cons_drop
def iT:=@setRow_other
def iU:=@if_true
def iV:=@UInt8.not_lt
def iW:=@Nat.zero_mul
def iX:=@Nat.pow_succ
def iY:=@Nat.min_self
def iZ:=@List.take_succ_eq_append_getElem
def ja:=@Classical.not_imp
def jb:=@Nat.mod_eq_of_lt
def jc:=@Nat.le_add_right
def jd:=@List.take_append
def je:=@List.perm_middle
def jf:=@decide_true
def jg:=@cell_of_row
def jh:=@Nat.mul_one
def ji:=@wpIn_region_any
def jj:=@UInt8.lt_irrefl
def jk:=@Option.all_some
def jl:=@List.mem_filter
def jm:=@List.append_nil
def jn:=@Int.natCast_add
def jo:=@if_false
def jp:=@List.nodup_nil
def jq:=@List.mapM_cons
def jr:=@IntWalk.i64_in
def js:=@List.findIdx?_eq_none_iff
def jt:=@ByteArray.ext
def ju:=@Option.bind_eq_some_iff
def jv:=@World.putObj_heap_same
def jw:=@Option.map_eq_some_iff
def jx:=@Nat.le_of_eq
def jy:=@Nat.add_zero
def jz:=@MapKept.run_setObj_map
def kc:=@List.mem_append_right
def ke:=@List.filterMap_append
def kf:=@Array.getElem?_toList
def kg:=@World.cell?_of_block
def kh:=@Prod.ext
def ki:=@Nat.pow_le_pow_right
def kj:=@List.getElem?_of_mem
def kl:=@List.mem_map_of_mem
def km:=@List.drop_set_of_lt
def ko:=@run_loadCells_list
def kp:=@grownCap_le_maxLen
def kq:=@World.cells?_block
def kr:=@Nat.gcd_zero_right
def ku:=@Nat.eq_zero_or_pos
def kv:=@Nat.add_sub_cancel
def kw:=@List.pairwise_cons
def kx:=@List.find?_eq_none
def ky:=@run_storeCells_at
def kz:=@nextslicecap_zero
def la:=@World.cells?_some
def lb:=@UInt8.le_antisymm
def ld:=@Oper.uponIn_enter
def lf:=@List.size_toArray
def lg:=@List.mapM_toArray
def lh:=@List.count_append
def li:=@List.all_eq_false
def lj:=@Array.size_append
def lk:=@Array.getElem_mem
def ll:=@List.take_length
def lm:=@IntKind.wrap_u64
def ln:=@run_eqGuard_agg
def lp:=@eqGuard_at_bool
def lq:=@List.length_nil
abbrev lr:=ByteArray
abbrev lu:=TypeId
abbrev lv:=Operand
abbrev lw:List (Option Nat):=[none,none,none,none,none,none,some 1,none]
abbrev lx:List (Option Nat):=[none,none,none,none,none,none,none,none,none,none,some 2,some 4,some 13]
abbrev ly:List (Option Nat):=[none,none,none,none,none,some 4,none,none,none,none,none,none,none,none,none,none,some 2,some 4,some 13,some 20]
abbrev ma:List (Option Nat):=[none,none,none,none,none,some 1,some 2]
abbrev mc:List (Option Nat):=[none,none,none,none,none,some 4,none,none,none,none,none,none,none,none,none,none,some 2,some 4,some 13,none]
abbrev md:List (Option Nat):=[none,some 2,none,some 2]
abbrev me:List (Option Nat):=[none,none,none,none,none,none,none,none,none,none,some 2,none,some 13]
abbrev mf:List (Option Nat):=[some 8,none,none,none]
abbrev mg:List (Option Nat):=[none,none,none,none,none,none,none,none,none,none,none,some 4,some 13]
abbrev mh:List (Option Nat):=[none,none,none,none,none,none,none,none,none,none,some 2,some 4,none]
abbrev mi:List (Option Nat):=[none,none,none,none,none,some 4,none,none,none,none,none,none,none,none,none,none,none,none,none,none]
inductive C where
 |lit (v:Value)
 |sl (size:Nat) (rows:List (List C))
 |iptr (cells:List C)
 |vptr (sv:Value) (size i off:Nat)
 |fn (f:Fn) (first cap:List C)
 |fr (n:Nat) (c:C)
 |gh (P:Value->Prop)
inductive FRep (w:World) (J:Nat->Prop):C->Value->Prop where
 |lit (v:Value) (h1:v.oneCell'=true):FRep w J (.lit v) v
 |nil (size:Nat) (a:Option Addr) (cap:Nat):FRep w J (.sl size []) (.slice a 0 cap)
 |sl (size:Nat) (rows:List (List C)) (g cap:Nat) (cs:Array Value) (t:lu) (us:Nat->Nat->Value) (hI:J g)
   (hl:∀r,r∈rows->r.length=size) (hcap:rows.length<=cap) (hw:w.heap[g]? =some (.cells cs t (0,0)))
   (hc:∀i j,i<rows.length->j<size->cs[i*size+j]? =some (us i j))
   (hr:∀(i:Nat) r,rows[i]? =some r->∀(j:Nat) c,r[j]? =some c->FRep w J c (us i j)):
   FRep w J (.sl size rows) (.slice (some ⟨g,0,none⟩) rows.length cap)
variable {w w':World}
def FRep.mono {J J':Nat->Prop} (hw:∀b,J b->w'.heap[b]? =w.heap[b]?) (hI:∀b,J b->J' b) {c:C} {v:Value} (h:FRep w J c v):FRep w' J' c v:=by
 induction h with
 |lit v h1=>exact .lit v h1
 |nil size a cap=>exact .nil size a cap
 |sl size rows g cap cs t us hIa hl hcap hg hc _ ih=>exact .sl size rows g cap cs t us (hI _ hIa) hl hcap (by rw [hw g hIa];exact hg) hc ih
def FRep.one {J:Nat->Prop} {c:C} {v:Value} (h:FRep w J c v):v.oneCell'=true:=by
 cases h<;>first|assumption|rfl
inductive CRep (w:World) (I:Nat->Prop):C->Value->Prop where
 |lit (v:Value) (h1:v.oneCell'=true):CRep w I (.lit v) v
 |nil (size:Nat) (a:Option Addr) (cap:Nat):CRep w I (.sl size []) (.slice a 0 cap)
 |sl (size:Nat) (rows:List (List C)) (a:Addr) (cap:Nat) (us:Nat->Nat->Value) (hI:I a.block)
   (hl:∀r,r∈rows->r.length=size) (hcap:rows.length<=cap)
   (hc:∀i j,i<rows.length->j<size->w.cell? (a.add (i*size+j))=some (us i j))
   (hr:∀(i:Nat) r,rows[i]? =some r->∀(j:Nat) c,r[j]? =some c->CRep w I c (us i j)):
   CRep w I (.sl size rows) (.slice (some a) rows.length cap)
 |iptr (cells:List C) (a:Addr) (us:Nat->Value) (hI:I a.block)
   (hc:∀j,j<cells.length->w.cell? (a.add j)=some (us j))
   (hr:∀(j:Nat) c,cells[j]? =some c->CRep w I c (us j)):CRep w I (.iptr cells) (.pointer (some a))
 |vptr (b n cap size i off:Nat):CRep w I (.vptr (.slice (some ⟨b,0,none⟩) n cap) size i off) (.pointer (some ⟨b,i*size+off,none⟩))
 |fn (f:Fn) (first cap:List C) (us vs:List Value) (h1:us.length=first.length) (h2:vs.length=cap.length)
   (hr1:∀(j:Nat) c u,first[j]? =some c->us[j]? =some u->CRep w I c u)
   (hr2:∀(j:Nat) c u,cap[j]? =some c->vs[j]? =some u->CRep w I c u):CRep w I (.fn f first cap) (.func f us.toArray vs.toArray)
 |fr (n:Nat) (c:C) (v:Value) (h:FRep w (fun b=>I b/\n<=b) c v):CRep w I (.fr n c) v
 |gh (P:Value->Prop) (v:Value) (h1:v.oneCell'=true) (h:P v):CRep w I (.gh P) v
def CRep.mono {w w':World} {I I':Nat->Prop} (hw:∀b,I b->w'.heap[b]? =w.heap[b]?) (hI:∀b,I b->I' b) {c:C} {v:Value} (h:CRep w I c v):CRep w' I' c v:=by
 induction h with
 |lit v h1=>exact .lit v h1
 |nil size a cap=>exact .nil size a cap
 |sl size rows a cap us hIa hl hcap hc _ ih=>
  refine .sl size rows a cap us (hI _ hIa) hl hcap (fun i j hi hj=>?_) ih
  rw [←hc i j hi hj]
  have hb:(a.add (i*size+j)).block=a.block:=by unfold Addr.add;split<;>rfl
  exact kg (by rw [hb];exact hw _ hIa)
 |iptr cells a us hIa hc _ ih=>
  refine .iptr cells a us (hI _ hIa) (fun j hj=>?_) ih
  rw [←hc j hj]
  have hb:(a.add j).block=a.block:=by unfold Addr.add;split<;>rfl
  exact kg (by rw [hb];exact hw _ hIa)
 |vptr b n cap size i off=>exact .vptr b n cap size i off
 |fn f first cap us vs h1 h2 _ _ ih1 ih2=>exact .fn f first cap us vs h1 h2 ih1 ih2
 |fr n c v h=>exact .fr n c v (h.mono (fun b hb=>hw b hb.1) fun b hb=>⟨hI b hb.1,hb.2⟩)
 |gh P v h1 h=>exact .gh P v h1 h
def CRep.one {w:World} {I:Nat->Prop} {c:C} {v:Value} (h:CRep w I c v):v.oneCell'=true:=by
 cases h<;>first|assumption|rfl|exact FRep.one (by assumption)
inductive CReps (w:World) (I:Nat->Prop):List C->List Value->Prop where
 |nil:CReps w I [] []
 |cons {c:C} {v:Value} {cs:List C} {vs:List Value} (h:CRep w I c v) (t:CReps w I cs vs):CReps w I (c::cs) (v::vs)
def CReps.mono {w w':World} {I I':Nat->Prop} (hw:∀b,I b->w'.heap[b]? =w.heap[b]?) (hI:∀b,I b->I' b) {cs:List C} {vs:List Value} (h:CReps w I cs vs):CReps w' I' cs vs:=by
 induction h with
 |nil=>exact .nil
 |cons h _ ih=>exact .cons (h.mono hw hI) ih
def CReps.length {w:World} {I:Nat->Prop} {cs:List C} {vs:List Value} (h:CReps w I cs vs):cs.length=vs.length:=by
 induction h with
 |nil=>rfl
 |cons _ _ ih=>simp [ih]
variable {I:Nat->Prop}
def CReps.at_ {cs:List C} {vs:List Value} (h:CReps w I cs vs):∀{j:Nat} {c:C},cs[j]? =some c->∃v,vs[j]? =some v/\CRep w I c v:=by
 induction h with
 |nil=>intro j c hc;simp at hc
 |cons h t ih=>
  intro j c hc
  cases j with
  |zero=>simp at hc;subst hc;exact ⟨_,rfl,h⟩
  |succ j=>simpa using ih (by simpa using hc)
def CReps.of_at {w:World} {I:Nat->Prop}:∀{cs:List C} {vs:List Value},cs.length=vs.length->(∀(j:Nat) c v,cs[j]? =some c->vs[j]? =some v->CRep w I c v)->CReps w I cs vs
 |[],[],_,_=>.nil
 |c::cs,v::vs,hl,h=>.cons (h 0 c v rfl rfl) (CReps.of_at (by simpa using hl) fun j c' v' hc hv=>h (j+1) c' v' (by simpa using hc) (by simpa using hv))
 |[],_::_,hl,_=>by simp at hl
 |_::_,[],hl,_=>by simp at hl
def CReps.append {cs ds:List C} {vs us:List Value} (h:CReps w I cs vs) (k:CReps w I ds us):CReps w I (cs++ds) (vs++us):=by
 induction h with
 |nil=>exact k
 |cons h _ ih=>exact .cons h ih
def CReps.take {w:World} {I:Nat->Prop} {cs:List C} {vs:List Value} (h:CReps w I cs vs) (n:Nat):CReps w I (cs.take n) (vs.take n):=by
 induction h generalizing n with
 |nil=>simp;exact .nil
 |cons h _ ih=>cases n with
  |zero=>simp;exact .nil
  |succ n=>exact .cons h (ih n)
def CReps.drop {w:World} {I:Nat->Prop} {cs:List C} {vs:List Value} (h:CReps w I cs vs) (n:Nat):CReps w I (cs.drop n) (vs.drop n):=by
 induction h generalizing n with
 |nil=>simp;exact .nil
 |cons h t ih=>cases n with
  |zero=>exact .cons h t
  |succ n=>exact ih n
def CReps.one {w:World} {I:Nat->Prop} {cs:List C} {vs:List Value} (h:CReps w I cs vs):∀v∈vs,v.oneCell'=true:=by
 induction h with
 |nil=>intro v hv;simp at hv
 |cons h _ ih=>intro v hv;rcases af.1 hv with rfl|hv;exact h.one;exact ih v hv
inductive V where
 |c (x:C)
 |agg (l:List C)
 |tup (l:List V)
 |un
 |ifv (b:Bool) (x:V)
def V1Rep (w:World) (I:Nat->Prop):V->Value->Prop
 |.c x,v=>CRep w I x v
 |.agg l,v=>∃vs:List Value,v=.agg vs.toArray/\CReps w I l vs
 |.un,_=>True
 |.ifv b x,v=>(b=true->(match x with|.c y=>CRep w I y v|.agg l=>∃vs:List Value,v=.agg vs.toArray/\CReps w I l vs|.un=>True|_=>False))/\(b=false->v=undef)
 |.tup _,_=>False
def V1Reps (w:World) (I:Nat->Prop):List V->List Value->Prop
 |[],[]=>True
 |x::xs,v::vs=>V1Rep w I x v/\V1Reps w I xs vs
 |_,_=>False
def VRep (w:World) (I:Nat->Prop):V->Value->Prop
 |.tup l,v=>∃vs:List Value,v=.tuple vs.toArray/\V1Reps w I l vs
 |x,v=>V1Rep w I x v
def V1Rep.mono {w w':World} {I I':Nat->Prop} (hw:∀b,I b->w'.heap[b]? =w.heap[b]?) (hI:∀b,I b->I' b) {x:V} {v:Value} (h:V1Rep w I x v):V1Rep w' I' x v:=by
 cases x with
 |c x=>exact CRep.mono hw hI h
 |agg l=>obtain ⟨vs,e,k⟩:=h;exact ⟨vs,e,k.mono hw hI⟩
 |tup l=>exact h.elim
 |un=>trivial
 |ifv b x=>
  refine ⟨fun hb=>?_,h.2⟩
  have h':=h.1 hb
  cases x with
  |c x=>exact CRep.mono hw hI h'
  |agg l=>obtain ⟨vs,e,k⟩:=h';exact ⟨vs,e,k.mono hw hI⟩
  |un=>trivial
  |tup l=>exact h'.elim
  |ifv b x=>exact h'.elim
def V1Reps.mono {w w':World} {I I':Nat->Prop} (hw:∀b,I b->w'.heap[b]? =w.heap[b]?) (hI:∀b,I b->I' b):∀{l:List V} {vs:List Value},V1Reps w I l vs->V1Reps w' I' l vs
 |[],[],_=>trivial
 |_::_,_::_,h=>⟨h.1.mono hw hI,V1Reps.mono hw hI h.2⟩
 |[],_::_,h=>h.elim
 |_::_,[],h=>h.elim
def VRep.mono {w w':World} {I I':Nat->Prop} (hw:∀b,I b->w'.heap[b]? =w.heap[b]?) (hI:∀b,I b->I' b) {x:V} {v:Value} (h:VRep w I x v):VRep w' I' x v:=by
 cases x with
 |c x=>exact CRep.mono hw hI h
 |agg l=>exact V1Rep.mono (x:=.agg l) hw hI h
 |tup l=>obtain ⟨vs,e,k⟩:=h;exact ⟨vs,e,k.mono hw hI⟩
 |un=>trivial
 |ifv b x=>exact V1Rep.mono (x:=.ifv b x) hw hI h
def V1Rep.up {x:V} {v:Value} (h:V1Rep w I x v):VRep w I x v:=by
 cases x with
 |tup l=>exact h.elim
 |_=>exact h
inductive E where
 |row (b:Nat) (t:lu) (cells:List C)
 |vec (sv:Value) (t:lu) (size:Nat) (rows:List (List C))
 |blk (b:Nat) (R:World->(Nat->Prop)->Obj->Prop)
 |reg (bs:List Nat) (R:World->Prop)
 |any (bs:List Nat) (R:World->(Nat->Prop)->Prop)
def svB:Value->List Nat
 |.slice (some a) _ (_+1)=>[a.block]
 |_=>[]
def svB_own {v:Value} {b:Nat} (h:b∈svB v):v.ownBlock=some b:=by
 unfold svB at h
 split at h
 ·simp only [aO] at h;subst h;rfl
 ·cases h
def svB_of {v:Value} (h:svB v≠[]) {b:Nat} (k:v.ownBlock=some b):b∈svB v:=by
 unfold svB at h⊢
 split at h
 ·simp only [Value.ownBlock,ap] at k;subst k;simp
 ·exact absurd rfl h
def E.blocks:E->List Nat
 |.row b _ _=>[b]
 |.vec sv _ _ _=>svB sv
 |.blk b _=>[b]
 |.reg bs _=>bs
 |.any bs _=>bs
def ERep (w:World) (I:Nat->Prop):E->Prop
 |.row b t cells=>∃vs:List Value,w.heap[b]? =some (.cells vs.toArray t (0,0))/\CReps w I cells vs
 |.vec sv t size rows=>(∃a,sv=.slice a 0 0/\rows=[])∨(svB sv≠[]/\∃xs:List Value,w.ownsRow 0 t size sv rows.length xs/\CReps w I rows.flatten xs/\∀r,r∈rows->r.length=size)
 |.blk b R=>∃o,w.heap[b]? =some o/\R w I o
 |.reg bs R=>(∀b,b∈bs->b<w.heap.size)/\R w
 |.any bs R=>(∀b,b∈bs->b<w.heap.size)/\R w I
def E.Mono:E->Prop
 |.blk _ R=>∀(w w':World) (I I':Nat->Prop),(∀b,I b->w'.heap[b]? =w.heap[b]?)->(∀b,I b->I' b)->∀o,R w I o->R w' I' o
 |.reg bs R=>∀(w w':World),(∀b,b∈bs->w'.heap[b]? =w.heap[b]?)->R w->R w'
 |.any bs R=>∀(w w':World) (I I':Nat->Prop),(∀b,I b->w'.heap[b]? =w.heap[b]?)->(∀b,I b->I' b)->(∀b,b∈bs->w'.heap[b]? =w.heap[b]?)->R w I->R w' I'
 |_=>True
def bC (μ:List E):List Nat:=μ.flatMap E.blocks
structure Cfg where
 P:Program
 N:Nat
 G:World->Prop
 hG:∀w w':World,(∀b,b<N->w'.heap[b]? =w.heap[b]?)->G w->G w'
structure Heap (X:Cfg) (w:World) (I:Nat->Prop) (μ:List E):Prop where
 lo:X.N<=w.heap.size
 glob:X.G w
 nodup:(bC μ).Nodup
 own:∀b,b∈bC μ->X.N<=b/\¬I b
 imm:∀b,I b->b<w.heap.size
 rep:∀e,e∈μ->ERep w I e
 mono:∀e,e∈μ->e.Mono
structure Ext (w:World) (I:Nat->Prop) (μ:List E) (w':World) (I':Nat->Prop) (μ':List E):Prop where
 os:w'.os=w.os
 tape:w'.tape=w.tape
 output:w'.output=w.output
 size:w.heap.size<=w'.heap.size
 block:∀b,b<w.heap.size->b ∉ bC μ->w'.heap[b]? =w.heap[b]?
 imm:∀b,I b->I' b
 imm':∀b,I' b->I b∨b∈bC μ∨w.heap.size<=b
 own':∀b,b∈bC μ'->b∈bC μ∨w.heap.size<=b
def Ext.refl (w:World) (I:Nat->Prop) (μ:List E):Ext w I μ w I μ:=
 ⟨rfl,rfl,rfl,aH _,fun _ _ _=>rfl,fun _ h=>h,fun _ h=>.inl h,fun _ h=>.inl h⟩
def Ext.trans {w1 w2 w3:World} {I1 I2 I3:Nat->Prop} {μ1 μ2 μ3:List E} (h:Ext w1 I1 μ1 w2 I2 μ2) (k:Ext w2 I2 μ2 w3 I3 μ3):Ext w1 I1 μ1 w3 I3 μ3 where
 os:=k.os.trans h.os
 tape:=k.tape.trans h.tape
 output:=k.output.trans h.output
 size:=cc h.size k.size
 block:=fun b hb hn=>by
  rw [←h.block b hb hn]
  exact k.block b (gk hb h.size) fun hm=>by
   rcases h.own' b hm with h'|h'
   ·exact hn h'
   ·omega
 imm:=fun b hb=>k.imm b (h.imm b hb)
 imm':=fun b hb=>by
  rcases k.imm' b hb with h'|h'|h'
  ·exact h.imm' b h'
  ·rcases h.own' b h' with h''|h''
   ·exact .inr (.inl h'')
   ·exact .inr (.inr h'')
  ·exact .inr (.inr (cc h.size h'))
 own':=fun b hb=>by
  rcases k.own' b hb with h'|h'
  ·exact h.own' b h'
  ·exact .inr (cc h.size h')
variable {X:Cfg} {I':Nat->Prop}
def Heap.still {μ μ':List E} (h:Heap X w I μ) (x:Ext w I μ w' I' μ'):∀b,I b->w'.heap[b]? =w.heap[b]? :=
 fun b hb=>x.block b (h.imm b hb) fun hm=>(h.own b hm).2 hb
def Heap.vrep {μ μ':List E} (h:Heap X w I μ) (x:Ext w I μ w' I' μ') {V:V} {v:Value} (r:VRep w I V v):VRep w' I' V v:=
 r.mono (h.still x) x.imm
def zAf {μ:List E} {e:E} (he:e∈μ) {b:Nat} (hb:b∈e.blocks):b∈bC μ:=cf.2 ⟨e,he,hb⟩
def kA (μ φ:List E):bC (μ++φ)=bC μ++bC φ:=by simp [bC]
def wW (e:E) (μ:List E):bC (e::μ)=e.blocks++bC μ:=by simp [bC]
def wV {μ φ:List E} (h:μ.Perm φ):(bC μ).Perm (bC φ):=h.flatMap_right _
def Heap.perm {μ φ:List E} (h:Heap X w I μ) (p:μ.Perm φ):Heap X w I φ:=
 ⟨h.lo,h.glob,(wV p).nodup_iff.1 h.nodup,fun b hb=>h.own b ((wV p).mem_iff.2 hb),h.imm,fun e he=>h.rep e (p.mem_iff.2 he),fun e he=>h.mono e (p.mem_iff.2 he)⟩
def Heap.left {μ φ:List E} (h:Heap X w I (μ++φ)):Heap X w I μ:=by
 have hn:=h.nodup
 have ho:=h.own
 rw [kA] at hn ho
 exact ⟨h.lo,h.glob,(fw.1 hn).1,fun b hb=>ho b (aq.2 (.inl hb)),h.imm,fun e he=>h.rep e (aq.2 (.inl he)),fun e he=>h.mono e (aq.2 (.inl he))⟩
def ERep.lt {w:World} {I:Nat->Prop} {e:E} (h:ERep w I e) {b:Nat} (hb:b∈e.blocks):b<w.heap.size:=by
 cases e with
 |row b' t cells=>
  obtain ⟨vs,hh,_⟩:=h
  simp only [E.blocks,aO] at hb
  subst hb
  exact (cb.1 hh).1
 |vec sv t size rows=>
  simp only [E.blocks] at hb
  rcases h with ⟨a,rfl,rfl⟩|⟨_,xs,hown,_⟩
  ·cases a<;>cases hb
  ·exact (hown.lt _ (svB_own hb)).2
 |blk b' R=>
  obtain ⟨o,hh,_⟩:=h
  simp only [E.blocks,aO] at hb
  subst hb
  exact (cb.1 hh).1
 |reg bs R=>exact h.1 b hb
 |any bs R=>exact h.1 b hb
variable {rows:List (List C)} {sv:Value} {t:lu}
def zOf {size:Nat} {xs:List Value} (h:w.ownsRow 0 t size sv rows.length xs) (hc:CReps w I rows.flatten xs) (hl:∀r,r∈rows->r.length=size):ERep w I (.vec sv t size rows):=by
 rcases h.2 with ⟨rfl,hn⟩|⟨g,cap,cur,rfl,_,_,hle,_⟩
 ·exact .inl ⟨none,rfl,aV hn⟩
 ·cases cap with
  |zero=>
   have:rows.length=0:=by omega
   rw [this]
   exact .inl ⟨_,rfl,aV this⟩
  |succ c=>exact .inr ⟨by simp [svB],xs,h,hc,hl⟩
def Heap.lt {X:Cfg} {w:World} {I:Nat->Prop} {μ:List E} (h:Heap X w I μ) {b:Nat} (hb:b∈bC μ):b<w.heap.size:=by
 obtain ⟨e,he,hb'⟩:=cf.1 hb
 exact (h.rep e he).lt hb'
def ERep.mono {w w':World} {I I':Nat->Prop} {e:E} (hm:e.Mono) (hw:∀b,I b->w'.heap[b]? =w.heap[b]?) (hI:∀b,I b->I' b) (hb:∀b,b∈e.blocks->w'.heap[b]? =w.heap[b]?) (h:ERep w I e):ERep w' I' e:=by
 cases e with
 |row b t cells=>
  obtain ⟨vs,hh,hc⟩:=h
  exact ⟨vs,by rw [hb b (by simp [E.blocks])];exact hh,hc.mono hw hI⟩
 |vec sv t size rows=>
  rcases h with h|⟨hne,xs,⟨hl,hown⟩,hc,hr⟩
  ·exact .inl h
  refine .inr ⟨hne,xs,⟨hl,?_⟩,hc.mono hw hI,hr⟩
  rcases hown with h0|⟨g,cap,cur,rfl,hg,hh,rest⟩
  ·exact .inl h0
  ·exact .inr ⟨g,cap,cur,rfl,hg,by rw [hb g (svB_of hne rfl)];exact hh,rest⟩
 |blk b R=>
  obtain ⟨o,hh,hr⟩:=h
  exact ⟨o,by rw [hb b (by simp [E.blocks])];exact hh,hm _ _ _ _ hw hI _ hr⟩
 |reg bs R=>
  refine ⟨fun b h'=>?_,hm w w' hb h.2⟩
  have h1:=h.1 b h'
  have h2:=hb b h'
  rw [aD h1] at h2
  exact (cb.1 h2).1
 |any bs R=>
  refine ⟨fun b h'=>?_,hm w w' I I' hw hI hb h.2⟩
  have h1:=h.1 b h'
  have h2:=hb b h'
  rw [aD h1] at h2
  exact (cb.1 h2).1
def sx:(∀(p:Prop) [Decidable p],(decide p=true)↔p)/\(∀(p:Prop) [Decidable p],(decide p=false)↔¬p)/\(∀b:Bool,((!b)=true)↔(b=false))/\(∀b:Bool,((!b)=false)↔(b=true))/\
  (∀a b:Bool,((a&&b)=true)↔(a=true/\b=true))/\(∀a b:Bool,((a||b)=true)↔(a=true∨b=true))/\(∀a b:Bool,((a&&b)=false)↔(a=false∨b=false))/\(∀a b:Bool,((a||b)=false)↔(a=false/\b=false))/\
  (∀a b:Int,(¬a<b)↔(b<=a))/\(∀a b:Int,(¬a<=b)↔(b<a))/\(∀(α β:Type) (f:α->β) (l:List α),(l.map f).length=l.length):=
 ⟨fun p _=>decide_eq_true_iff,fun p _=>aj,fun b=>by cases b<;>simp,fun b=>by cases b<;>simp,fun a b=>by cases a<;>cases b<;>simp,fun a b=>by cases a<;>cases b<;>simp,fun a b=>by cases a<;>cases b<;>simp,fun a b=>by cases a<;>cases b<;>simp,
  fun a b=>Int.not_lt,fun a b=>Int.not_le,fun _ _ f l=>iH f⟩
def Heap.frame {μ φ μ':List E} (h:Heap X w I (μ++φ)) (h':Heap X w' I' μ') (x:Ext w I μ w' I' μ'):
  Heap X w' I' (μ'++φ)/\Ext w I (μ++φ) w' I' (μ'++φ):=by
 have hn:=h.nodup
 rw [kA] at hn
 obtain ⟨_,hn2,hn3⟩:=fw.1 hn
 have hφ:∀b,b∈bC φ->b<w.heap.size/\b ∉ bC μ/\¬I b/\X.N<=b:=fun b hb=>
  have hm:b∈bC (μ++φ):=by rw [kA];exact aq.2 (.inr hb)
  ⟨h.lt hm,fun hm'=>hn3 b hm' b hb rfl,(h.own b hm).2,(h.own b hm).1⟩
 have still:∀b,I b->w'.heap[b]? =w.heap[b]? :=h.left.still x
 refine ⟨⟨h'.lo,h'.glob,?_,?_,h'.imm,?_,?_⟩,⟨x.os,x.tape,x.output,x.size,?_,x.imm,?_,?_⟩⟩
 ·rw [kA]
  refine fw.2 ⟨h'.nodup,hn2,fun a ha b hb e=>?_⟩
  subst e
  obtain ⟨h1,h2,_⟩:=hφ a hb
  rcases x.own' a ha with h3|h3
  ·exact h2 h3
  ·omega
 ·intro b hb
  rw [kA] at hb
  rcases aq.1 hb with hb|hb
  ·exact h'.own b hb
  ·obtain ⟨h1,h2,h3,h4⟩:=hφ b hb
   refine ⟨h4,fun hI=>?_⟩
   rcases x.imm' b hI with h5|h5|h5
   ·exact h3 h5
   ·exact h2 h5
   ·omega
 ·intro e he
  rcases aq.1 he with he|he
  ·exact h'.rep e he
  ·refine (h.rep e (aq.2 (.inr he))).mono (h.mono e (aq.2 (.inr he))) still x.imm fun b hb=>?_
   obtain ⟨h1,h2,_⟩:=hφ b (zAf he hb)
   exact x.block b h1 h2
 ·intro e he
  rcases aq.1 he with he|he
  ·exact h'.mono e he
  ·exact h.mono e (aq.2 (.inr he))
 ·intro b hb hm
  rw [kA] at hm
  exact x.block b hb fun h1=>hm (aq.2 (.inl h1))
 ·intro b hb
  rw [kA]
  rcases x.imm' b hb with h1|h1|h1
  ·exact .inl h1
  ·exact .inr (.inl (aq.2 (.inl h1)))
  ·exact .inr (.inr h1)
 ·intro b hb
  rw [kA] at hb⊢
  rcases aq.1 hb with hb|hb
  ·rcases x.own' b hb with h1|h1
   ·exact .inl (aq.2 (.inl h1))
   ·exact .inr h1
  ·exact .inl (aq.2 (.inr hb))
def Ext.perm {μ μ' φ φ':List E} (x:Ext w I μ w' I' μ') (p:μ.Perm φ) (q:μ'.Perm φ'):Ext w I φ w' I' φ':=
 ⟨x.os,x.tape,x.output,x.size,fun b hb hm=>x.block b hb fun h=>hm ((wV p).mem_iff.1 h),x.imm,
  fun b hb=>(x.imm' b hb).imp id (Or.imp (wV p).mem_iff.1 id),
  fun b hb=>(x.own' b ((wV q).mem_iff.2 hb)).imp (wV p).mem_iff.1 id⟩
def Ext.less {μ μ' φ:List E} (x:Ext w I μ w' I' μ') (h:∀b,b∈bC φ->b∈bC μ'):Ext w I μ w' I' φ:=
 ⟨x.os,x.tape,x.output,x.size,x.block,x.imm,x.imm',fun b hb=>x.own' b (h b hb)⟩
/-! ## States -/
structure S where
 regs:List (Nat×V)
 μ:List E
def dF:List (Nat×V)->Nat->V
 |[],_=>.un
 |(t,v)::r,s=>cond (Nat.beq t s) v (dF r s)
def mU (d:Option Tmp) (v:V) (regs:List (Nat×V)):List (Nat×V):=
 match d with
 |some t=>(t,v)::regs
 |none=>regs
def zBt (t s:Nat) (v:V) (regs:List (Nat×V)):dF ((t,v)::regs) s=if t=s then v else dF regs s:=by
 show cond (Nat.beq t s) v (dF regs s)=_
 by_cases h:t=s
 ·subst h
  rw [ab rfl,show Nat.beq t t=true from Nat.beq_eq ▸ rfl]
  rfl
 ·rw [aa h,show Nat.beq t s=false from by cases hb:Nat.beq t s;rfl;exact absurd (bk hb) h]
  rfl
structure Z where
 w:World
 I:Nat->Prop
 μ:List E
 ds:List Deferred
 rd:Option Nat
 nm:Bool
def fen (rd:Option Nat):Fence:={ Fence.wide with round:=rd }
def pC (D:Nat):Deferred:={ target:=.collected D,args:= #[] }
structure ZLe (z z':Z):Prop where
 rd:z'.rd=z.rd
 ext:Ext z.w z.I z.μ z'.w z'.I z'.μ
 nm:z'.nm=z.nm
 same:z.nm=true->z'.ds=z.ds
 marks:∃Ds:List Nat,z'.ds=Ds.map pC++z.ds/\Ds.Nodup/\∀D,D∈Ds->z.w.heap.size<=D/\D<z'.w.heap.size/\¬z'.I D/\D ∉ bC z'.μ/\z'.w.heap[D]? =some (.deferred (some []))
def ZLe.refl (z:Z):ZLe z z:=⟨rfl,Ext.refl _ _ _,rfl,fun _=>rfl,[],rfl,jp,fun D h=>by simp at h⟩
def Ext.stays {μ μ':List E} (x:Ext w I μ w' I' μ') {D:Nat} (h1:D<w.heap.size) (h2:¬I D) (h3:D ∉ bC μ):D<w'.heap.size/\¬I' D/\D ∉ bC μ'/\w'.heap[D]? =w.heap[D]? :=
 ⟨gk h1 x.size,fun h=>by rcases x.imm' D h with h|h|h;exact h2 h;exact h3 h;omega,fun h=>by rcases x.own' D h with h|h;exact h3 h;omega,x.block D h1 h3⟩
def ZLe.trans {z1 z2 z3:Z} (h:ZLe z1 z2) (k:ZLe z2 z3):ZLe z1 z3:=by
 obtain ⟨r1,x1,q1,k1,D1,e1,n1,m1⟩:=h
 obtain ⟨r2,x2,q2,k2,D2,e2,n2,m2⟩:=k
 refine ⟨r2.trans r1,x1.trans x2,q2.trans q1,fun h=>(k2 (q1.trans h)).trans (k1 h),D2++D1,by rw [e2,e1];simp,?_,fun D hD=>?_⟩
 ·rw [fw]
  refine ⟨n2,n1,fun a ha b hb hab=>?_⟩
  subst hab
  have:=(m2 a ha).1
  have:=(m1 a hb).2.1
  omega
 ·rcases aq.1 hD with h|h
  ·obtain ⟨a,b,c,d,e⟩:=m2 D h
   have:=x1.size
   exact ⟨by omega,b,c,d,e⟩
  ·obtain ⟨a,b,c,d,e⟩:=m1 D h
   obtain ⟨b',c',d',e'⟩:=x2.stays b c d
   exact ⟨a,b',c',d',e'.trans e⟩
def RdOk (z:Z):Prop:=z.nm=false/\∀l,z.rd=some l->l<z.w.heap.size/\¬z.I l/\l ∉ bC z.μ/\∃r,z.w.heap[l]? =some (.loop r)
variable {z:Z}
def RdOk.le {z':Z} (h:RdOk z) (k:ZLe z z'):RdOk z':=by
 refine ⟨k.nm.trans h.1,fun l hl=>?_⟩
 obtain ⟨h1,h2,h3,r,h4⟩:=h.2 l (by rw [←k.rd];exact hl)
 obtain ⟨k1,k2,k3,k4⟩:=k.ext.stays h1 h2 h3
 exact ⟨k1,k2,k3,r,k4.trans h4⟩
def St (X:Cfg) (n:Nat) (z:Z) (σ:S) (a:Act) (w:World):Prop:=
 ∃I,Heap X w I σ.μ/\(∀t,VRep w I (dF σ.regs t) (a.tmps.getD t undef))/\Ext z.w z.I z.μ w I σ.μ/\a.defers=z.ds/\a.tmps.size=n
def sL:Value->V
 |.agg cs=>if cs.all Value.oneCell' then .agg (cs.toList.map .lit) else .un
 |.tuple _=>.un
 |v=>.c (.lit v)
def ev (regs:List (Nat×V)):lv->V
 |.tmp t=>dF regs t
 |.const v=>sL v
 |.global g=>.c (.lit (.pointer (some ⟨g,0,none⟩)))
 |.func f=>.c (.fn (.func f) [] [])
def CReps.lits {w:World} {I:Nat->Prop}:∀(l:List Value),(∀v,v∈l->v.oneCell'=true)->CReps w I (l.map .lit) l
 |[],_=>.nil
 |v::l,h=>.cons (.lit v (h v (by simp))) (CReps.lits l fun u hu=>h u (by simp [hu]))
def zTd (w:World) (I:Nat->Prop) (v:Value):VRep w I (sL v) v:=by
 cases v with
 |agg cs=>
  by_cases h:cs.all Value.oneCell'=true
  ·have e:sL (.agg cs)=.agg (cs.toList.map .lit):=by simp only [sL];rw [ab h]
   rw [e]
   refine ⟨cs.toList,by simp,CReps.lits _ fun v hv=>?_⟩
   rw [dr] at h
   exact h v (by simpa using hv)
  ·have e:sL (.agg cs)=.un:=by simp only [sL];rw [aa h]
   rw [e]
   trivial
 |tuple _=>trivial
 |_=>exact CRep.lit _ rfl
variable {a:Act}
def ev_rep {regs:List (Nat×V)} (h:∀t,VRep w I (dF regs t) (a.tmps.getD t undef)) (x:lv):VRep w I (ev regs x) (a.eval x):=by
 cases x with
 |tmp t=>exact h t
 |const v=>exact zTd w I v
 |global g=>exact CRep.lit _ rfl
 |func f=>exact CRep.fn (.func f) [] [] [] [] rfl rfl (fun j c u hc=>by simp at hc) (fun j c u hc=>by simp at hc)
def gU (X:Cfg) (n:Nat) (z:Z) (Q:Exit->S->Prop):Exit->Act->World->Prop:=
 fun e a w=>∃z' σ,ZLe z z'/\Q e σ/\St X n z' σ a w
variable {Q:Exit->S->Prop} {n:Nat}
def liftQ_le {z':Z} (h:ZLe z z') {e:Exit} (k:gU X n z' Q e a w):gU X n z Q e a w:=by
 obtain ⟨z'',σ,h',q,s⟩:=k
 exact ⟨z'',σ,h.trans h',q,s⟩
def AWP (X:Cfg) (n:Nat) (z:Z) (c:Code) (Q:Exit->S->Prop) (σ:S):Prop:=
 ∀z',ZLe z z'->∀a w,St X n z' σ a w->c.wpIn (fen z.rd) 0 X.P (gU X n z' Q) a w
def rM (K:S->Prop) (Q:Exit->S->Prop):Exit->S->Prop
 |.normal,σ=>K σ
 |e,σ=>Q e σ
def tP (id:Nat) (Q:Exit->S->Prop):Exit->S->Prop
 |.exit i,σ=>if i=id then Q .normal σ else Q (.exit i) σ
 |e,σ=>Q e σ
section rules
variable {X:Cfg} {n:Nat} {z:Z} {Q:Exit->S->Prop} {σ:S}
def awp_mono {c:Code} {Q':Exit->S->Prop} (h:AWP X n z c Q σ) (hq:∀e σ,Q e σ->Q' e σ):AWP X n z c Q' σ:=
 fun z' hz a w s=>ib (h z' hz a w s) fun _ _ _ ⟨z'',σ',hz',q,s'⟩=>⟨z'',σ',hz',hq _ _ q,s'⟩
def zI (h:Q .normal σ):AWP X n z .skip Q σ:=fun z' _ _ _ s=>wpIn_skip ⟨z',σ,ZLe.refl _,h,s⟩
def zF (h:Q .ret σ):AWP X n z .ret Q σ:=fun z' _ _ _ s=>wpIn_ret ⟨z',σ,ZLe.refl _,h,s⟩
def qO {id:Nat} (h:Q (.exit id) σ):AWP X n z (.exit id) Q σ:=fun z' _ _ _ s=>wpIn_exit ⟨z',σ,ZLe.refl _,h,s⟩
def zG {x y:Code} (h:AWP X n z x (rM (AWP X n z y Q) Q) σ):AWP X n z (.seq x y) Q σ:=by
 intro z1 hz1 a w s
 refine wpIn_seq (ib (h z1 hz1 a w s) ?_)
 rintro e a' w' ⟨z2,σ',hz2,q,s'⟩
 cases e with
 |normal=>exact ib (q z2 (hz1.trans hz2) a' w' s') fun _ _ _ k=>liftQ_le hz2 k
 |_=>exact ⟨z2,σ',hz2,q,s'⟩
def zQ {id:Nat} {c:Code} (h:AWP X n z c (tP id Q) σ):AWP X n z (.block id c) Q σ:=by
 intro z1 hz1 a w s
 refine wpIn_block (ib (h z1 hz1 a w s) ?_)
 rintro e a' w' ⟨z2,σ',hz2,q,s'⟩
 cases e with
 |exit i=>
  simp only [tP] at q
  simp only [Exit.inBlock]
  split at q
  ·rename_i h;rw [ab h];exact ⟨z2,σ',hz2,q,s'⟩
  ·rename_i h;rw [aa h];exact ⟨z2,σ',hz2,q,s'⟩
 |_=>exact ⟨z2,σ',hz2,q,s'⟩
def zK {regs:List (Nat×V)} {μ:List E} {x:lv} {c d:Code} {b:Bool} (hb:ev regs x=.c (.lit (.bool b))) (h1:b=true->AWP X n z c Q ⟨regs,μ⟩) (h2:b=false->AWP X n z d Q ⟨regs,μ⟩):
  AWP X n z (.cond x c d) Q ⟨regs,μ⟩:=by
 intro z1 hz1 a w s
 obtain ⟨I,hH,hR,hx⟩:=s
 have hv:=ev_rep hR x
 rw [hb] at hv
 have hv':a.eval x=.bool b:=by
  generalize a.eval x=v at hv
  cases hv;rfl
 exact wpIn_cond_split hv' (fun h=>h1 h z1 hz1 a w ⟨I,hH,hR,hx⟩) (fun h=>h2 h z1 hz1 a w ⟨I,hH,hR,hx⟩)
def qK {regs:List (Nat×V)} {μ:List E} {x:lv} {c d:Code} {p:Prop} [Decidable p] (hb:ev regs x=.c (.lit (.bool (decide p)))) (h1:p->AWP X n z c Q ⟨regs,μ⟩) (h2:¬p->AWP X n z d Q ⟨regs,μ⟩):
  AWP X n z (.cond x c d) Q ⟨regs,μ⟩:=zK hb (fun h=>h1 (fv h)) (fun h=>h2 (ie h))
def Weak (σ τ:S):Prop:=∀(X:Cfg) (n:Nat) (z:Z) (a:Act) (w:World),St X n z σ a w->St X n z τ a w
def Weak.refl (σ:S):Weak σ σ:=fun _ _ _ _ _ h=>h
def Weak.trans {σ τ υ:S} (h:Weak σ τ) (k:Weak τ υ):Weak σ υ:=fun X n z a w s=>k X n z a w (h X n z a w s)
def zY {c:Code} (τ:S) (h:Weak σ τ) (k:AWP X n z c Q τ):AWP X n z c Q σ:=fun z1 hz1 a w s=>k z1 hz1 a w (h X n z1 a w s)
def awp_loop {c:Code} (G:Type) (T:G->S) (inv:G->Prop) (m:G->Nat) (h0:∃g,inv g/\Weak σ (T g))
  (round:∀g,inv g->AWP X n z c (rM (fun τ=>∃g',inv g'/\m g'<m g/\Weak τ (T g')) Q) (T g)):AWP X n z (.loop c) Q σ:=by
 intro z1 hz1 a w s
 obtain ⟨g0,i0,w0⟩:=h0
 intro b k cs hro hb hr
 have key:∀N a w g z2,m g=N->inv g->ZLe z1 z2->St X n z2 (T g) a w->
   ∃e a' w',gU X n z1 Q e a' w'/\ArrivesIn (Machine.fenced X.P (fen z.rd)) X.P (lone (b.atR a (.code c::.inLoop c::k)) cs w) b k cs e a' w':=by
  intro N
  induction N using Nat.strongRecOn with
  |_ N ih=>
   intro a w g z2 hN hi hz2 hs
   obtain ⟨e,a₁,w₁,⟨z3,τ,hz3,hq,hτ⟩,harr⟩:=round g hi z2 (hz1.trans hz2) a w hs b (.inLoop c::k) cs hro hb hr
   have hz:=hz2.trans hz3
   cases e with
   |normal=>
    obtain ⟨g',hi',hlt,hw⟩:=hq
    obtain ⟨e₂,a₂,w₂,hq₂,harr₂⟩:=ih (m g') (hN ▸ hlt) a₁ w₁ g' z3 rfl hi' hz (hw _ _ _ _ _ hτ)
    exact ⟨e₂,a₂,w₂,hq₂,.of_steps (StepsIn.trans harr (.one (fenced_calm hb hr rfl) stepR_inLoop)) harr₂⟩
   |exit id=>exact ⟨_,a₁,w₁,⟨z3,τ,hz,hq,hτ⟩,.pass (x:=.inLoop c) rfl (fun _ _=>.inl (by simp)) harr⟩
   |goto l=>exact ⟨_,a₁,w₁,⟨z3,τ,hz,hq,hτ⟩,.pass (x:=.inLoop c) rfl (fun _ _=>.inl (by simp)) harr⟩
   |ret=>exact ⟨_,a₁,w₁,⟨z3,τ,hz,hq,hτ⟩,.pass (x:=.inLoop c) rfl (fun _ _=>.inl (by simp)) harr⟩
   |panic ch=>exact ⟨_,a₁,w₁,⟨z3,τ,hz,hq,hτ⟩,.pass (x:=.inLoop c) rfl (fun _ _=>.inl (by simp)) harr⟩
   |outgrown=>exact ⟨_,a₁,w₁,⟨z3,τ,hz,hq,hτ⟩,.pass (x:=.inLoop c) rfl (fun _ _=>.inl (by simp)) harr⟩
 obtain ⟨e,a',w',hq,harr⟩:=key _ a w g0 z1 rfl i0 (ZLe.refl _) (w0 _ _ _ _ _ s)
 exact ⟨e,a',w',hq,.of_steps (.one (fenced_calm hb hr rfl) stepR_loop) harr⟩
end rules
/-! ## Weakening -/
def VLe (x y:V):Prop:=∀w I v,VRep w I x v->VRep w I y v
def VLe.refl (x:V):VLe x x:=fun _ _ _ h=>h
def VLe.of_eq {x y:V} (h:x=y):VLe x y:=h ▸ VLe.refl x
def cR:List (Nat×V)->List (Nat×V)->Prop
 |[],_=>True
 |(t,v)::r,R=>VLe (dF R t) v/\cR r R
def look_mem (r:List (Nat×V)) (t:Nat):dF r t=.un∨(t,dF r t)∈r:=by
 induction r with
 |nil=>exact .inl rfl
 |cons p r ih=>
  obtain ⟨s,v⟩:=p
  rw [zBt]
  by_cases h:s=t
  ·subst h;rw [ab rfl];exact .inr (by simp)
  ·rw [aa h]
   rcases ih with h'|h'
   ·exact .inl h'
   ·exact .inr (au _ h')
def subR_mem {R:List (Nat×V)}:∀{r:List (Nat×V)},cR r R->∀t v,(t,v)∈r->VLe (dF R t) v
 |[],_,_,_,h=>by simp at h
 |(s,u)::r,h,t,v,hm=>by
  rcases af.1 hm with e|hm
  ·injection e with e1 e2;subst e1;subst e2;exact h.1
  ·exact subR_mem h.2 t v hm
def keep:List Bool->List E->List E
 |true::m,e::μ=>e::keep m μ
 |false::m,_::μ=>keep m μ
 |_,_=>[]
def zQm:∀(m:List Bool) (μ:List E),∃φ,(keep m μ++φ).Perm μ
 |true::m,e::μ=>by
  obtain ⟨φ,p⟩:=zQm m μ
  exact ⟨φ,List.Perm.cons e p⟩
 |false::m,e::μ=>by
  obtain ⟨φ,p⟩:=zQm m μ
  exact ⟨e::φ,je.trans (List.Perm.cons e p)⟩
 |[],μ=>⟨μ,by simp [keep]⟩
 |true::_,[]=>⟨[],by simp [keep]⟩
 |false::_,[]=>⟨[],by simp [keep]⟩
variable {σ:S}
def Weak.mk {τ:S} (m:List Bool) (h:cR τ.regs σ.regs) (hμ:keep m σ.μ=τ.μ):Weak σ τ:=by
 intro X n z a w ⟨I,hH,hR,hx,hd,hs⟩
 obtain ⟨φ,p⟩:=zQm m σ.μ
 rw [hμ] at p
 have hH':Heap X w I (τ.μ++φ):=hH.perm p.symm
 refine ⟨I,hH'.left,fun t=>?_,?_,hd,hs⟩
 ·rcases look_mem τ.regs t with e|hm
  ·rw [e];trivial
  ·exact subR_mem h t _ hm w I _ (hR t)
 ·exact hx.less fun b hb=>(wV p).mem_iff.1 (by rw [kA];exact aq.2 (.inl hb))
/-! ## A loop,the registers and the memory that it leaves alone carried along -/
def xL {α:Type}:Nat->List α->Option (List α)
 |0,l=>some l
 |k+1,_::l=>xL k l
 |_+1,[]=>none
def qL {c:Code} {regs base:List (Nat×V)} {μ bμ:List E} (k kμ:Nat) (_hb:xL k regs=some base) (_hm:xL kμ μ=some bμ) (G:Type) (hd:G->List (Nat×V)) (hμ:G->List E) (inv:G->Prop) (m:G->Nat) (h0:∃g,inv g/\Weak ⟨regs,μ⟩ ⟨hd g++base,hμ g++bμ⟩) (round:∀g,inv g->AWP X n z c (rM (fun τ=>∃g',inv g'/\m g'<m g/\Weak τ ⟨hd g'++base,hμ g'++bμ⟩) Q) ⟨hd g++base,hμ g++bμ⟩):AWP X n z (.loop c) Q ⟨regs,μ⟩:=
 awp_loop G (fun g=>⟨hd g++base,hμ g++bμ⟩) inv m h0 round
def pP (o:Oper):Bool:=match o.op with|.defer _=>false|_=>true
def dstOk (n:Nat) (o:Oper):Bool:=(match o.dst with|some d=>Nat.blt d n|none=>true)&&pP o
variable {o:Oper}
def dstOk.nd (h:dstOk n o=true):pP o=true:=by
 simp only [dstOk,ae] at h;exact h.2
def zPn (h:pP o=true) (rd:Option Nat) (e:lv->Value):o.semAt rd e=execOp e o:=by
 unfold Oper.semAt
 split
 ·rename_i hc;simp [pP,hc] at h
 ·rfl
def RWP (X:Cfg) (n:Nat) (z:Z) (ops:Array Oper) (l:List Oper) (Q:Exit->S->Prop) (σ:S):Prop:=
 l.all (dstOk n)=true->∀z',ZLe z z'->∀a w,St X n z' σ a w->wpListIn (fen z.rd) 0 X.P ops (gU X n z' Q) l a w
def zT {id:Nat} {l:List Oper} (hd:l.all (dstOk n)=true) (h:RWP X n z l.toArray l Q σ):
  AWP X n z (.region id l.toArray false) Q σ:=fun z1 hz1 a w s=>wpIn_region_lit (h hd z1 hz1 a w s)
def OW (P:Program) (o:Oper) (a:Act) (w:World) (K:Act->World->Prop) (Q:Exit->Act->World->Prop):Prop:=
 pP o=true->∀rd,o.wpIn (fen rd) 0 P a w K Q
def OpE (X:Cfg) (o:Oper) (e:lv->V) (μ:List E) (R:V->List E->Prop):Prop:=
 ∀(a:Act) (w:World) (I:Nat->Prop),Heap X w I μ->(∀x,x∈o.op.operands->VRep w I (e x) (a.eval x))->
  ∀(K:Act->World->Prop) (Q:Exit->Act->World->Prop),
   (∀v r μ' I' w',R r μ'->VRep w' I' r v->Heap X w' I' μ'->Ext w I μ w' I' μ'->K (a.put o.dst v) w')->OW X.P o a w K Q
def Det (X:Cfg) (o:Oper) (e:lv->V) (μ:List E) (r:V) (μ':List E):Prop:=OpE X o e μ fun r' μ''=>r'=r/\μ''=μ'
def zUs {d:Tmp} {v:Value} (hs:a.tmps.size=n) (hd:d<n) (t:Nat):(a.put (some d) v).tmps.getD t undef=if d=t then v else a.tmps.getD t undef:=by
 simp only [Act.put,am,cx]
 by_cases h:d=t
 ·subst h;simp [hs,hd]
 ·simp [h]
def St.put {X:Cfg} {n:Nat} {z:Z} {σ:S} {a:Act} {w:World} {I:Nat->Prop} (hH:Heap X w I σ.μ) (hR:∀t,VRep w I (dF σ.regs t) (a.tmps.getD t undef)) (hx:Ext z.w z.I z.μ w I σ.μ)
  (hd:a.defers=z.ds) (hs:a.tmps.size=n) {o:Oper} (ho:dstOk n o=true) {v:Value} {r:V} {μ':List E} {I':Nat->Prop} {w':World} (hr:VRep w' I' r v) (hH':Heap X w' I' μ') (x:Ext w I σ.μ w' I' μ'):
  St X n z ⟨mU o.dst r σ.regs,μ'⟩ (a.put o.dst v) w':=by
 refine ⟨I',hH',fun t=>?_,hx.trans x,?_,?_⟩
 ·cases hdst:o.dst with
  |none=>exact hH.vrep x (hR t)
  |some d=>
   have hlt:d<n:=by
    simp only [dstOk,hdst,ae] at ho
    simpa [cl] using ho.1
   rw [zUs hs hlt]
   simp only [mU]
   rw [zBt]
   split
   ·exact hr
   ·exact hH.vrep x (hR t)
 ·cases hdst:o.dst<;>simp [Act.put,hd]
 ·cases hdst:o.dst<;>simp [Act.put,hs]
section steps
variable {X:Cfg} {n:Nat} {z:Z} {Q:Exit->S->Prop} {regs:List (Nat×V)} {μ:List E} {ops:Array Oper} {rest:List Oper} {o:Oper}
def Y (h:Q .normal ⟨regs,μ⟩):RWP X n z ops [] Q ⟨regs,μ⟩:=fun _ z1 _ _ _ s=>⟨z1,_,ZLe.refl _,h,s⟩
def rwp_op' {R:V->List E->Prop} (hg:o.guard=none) (h:OpE X o (ev regs) μ R) (k:∀r μ',R r μ'->RWP X n z ops rest Q ⟨mU o.dst r regs,μ'⟩):RWP X n z ops (o::rest) Q ⟨regs,μ⟩:=by
 intro hall z1 hz1 a w ⟨I,hH,hR,hx,hd,hs⟩
 simp only [aW,ae] at hall
 refine wpListIn_plain hg fun K hK=>h a w I hH (fun x _=>ev_rep hR x) K _ ?_ (dstOk.nd hall.1) _
 intro v r μ' I' w' hr hv hH' x
 exact hK _ _ (k r μ' hr hall.2 z1 hz1 _ _ (St.put hH hR hx hd hs hall.1 hv hH' x))
def zV {R:V->List E->Prop} {d:Tmp} (hd:o.dst=some d) (hg:o.guard=none) (h:OpE X o (ev regs) μ R) (k:∀r μ',R r μ'->RWP X n z ops rest Q ⟨(d,r)::regs,μ'⟩):RWP X n z ops (o::rest) Q ⟨regs,μ⟩:=
 rwp_op' hg h (by rw [hd];exact k)
def rwp_op0 {R:V->List E->Prop} (hd:o.dst=none) (hg:o.guard=none) (h:OpE X o (ev regs) μ R) (k:∀r μ',R r μ'->RWP X n z ops rest Q ⟨regs,μ'⟩):RWP X n z ops (o::rest) Q ⟨regs,μ⟩:=
 rwp_op' hg h (by rw [hd];exact k)
def zAc {r:V} {μ':List E} {d:Tmp} (hd:o.dst=some d) (hg:o.guard=none) (h:Det X o (ev regs) μ r μ') (k:RWP X n z ops rest Q ⟨(d,r)::regs,μ'⟩):RWP X n z ops (o::rest) Q ⟨regs,μ⟩:=
 zV hd hg h fun _ _ ⟨e1,e2⟩=>e1 ▸ e2 ▸ k
def zA {p:Prop} (h:p:=by omega):p:=h
def zB {p:Prop} (h:p:=by decide):p:=h
def uA {p:Prop} (h:p:=by assumption):p:=h
def uB {p:Prop} (h:p:=by kernel_rfl):p:=h
def uD {p:Prop} (h:p:=by simp):p:=h
def uI {p:Prop} (h:p:=by first|rfl|simp|rw [aS uD]):p:=h
def uE {p:Prop} (h:p:=by simp;omega):p:=h
def O {α:Sort _} {a:α}:a=a:=rfl
def w5 {p:Prop} (h:p:=by
 have hlen2:=zIx hpart zA
 have ho:¬lD e.Op:=by unfold lD;omega
 refine zI<|zG<|zG<|qV 13 mixed uB O O<|mr O (zO O O)<|mr O (zO O O)<|mr O (kM 0 O zAn O O)<|mr O (yB O O O (by simp only [lLm];exact ⟨zA,zA⟩))<|mr O (qT 0 O zAn O O O (by simp only [lLm];omega) (by simp only [lLm];omega))<|mr O (zU O yE O (wX 0 O (hgn 2 zA zA _ (by simp only [lLm];rfl))) O)<|mr O (zO O O)<|mr O (zO O O)<|mr O (kM 0 O zAn O O)<|mr O (yB O O O (by simp only [lLm];exact ⟨zA,zA⟩))<|mr O (qT 0 O zAn O O O (by simp only [lLm];omega) (by simp only [lLm];omega))<|mr O (zU O yE O (wX 0 O (hgn 1 zA zA _ (by simp only [lLm];rfl))) O)<|mr O (zAb O fl48 O O O)<|yQ<|Y<|zK O (fun c11=>?_) (fun c11=>?_)
 ·have h10:=zJa c11
  exact v8
 ·have h10:=zJb c11
  refine zI<|zG<|G O<|zM yY (J 2 O) O<|qD O uB (wI e) (vlr O)<|Y<|zK O ?_ ?_<;>intro c12<;>try simp only [sx] at c12
  ·exact v8
  ·refine zI<|G O<|A O<|A O<|zW O (kM 0 O zAn O O)<|zW O (yB O O O (by simp only [lLm];exact ⟨zA,zA⟩))<|zW O (qT 0 O zAn O O O (by simp only [lLm];omega) (by simp only [lLm];omega))<|zM yE (wX 0 O (hgn 1 zA zA _ (by simp only [lLm];rfl))) O<|rStR 1 sz48 O<|A O<|Y<|zY _ (Weak.mem [false,true,false,true,true,true,true] O)<|zF<|fin2 (zP yE O (J 0 O) O) (rs_c O) ?_
   exact w7):p:=h
def w6 {p:Prop} (h:p:=by
 refine zG<|G O<|yF O<|A O<|Y<|qK O (fun c4=>?_) (fun c4=>?_)
 ·refine zI<|zK O ?_ ?_<;>intro c6<;>try simp only [sx] at c6
  ·exact s7
  ·exact k9
 ·refine G O<|yF O<|A O<|Y<|qK O (fun c5=>?_) (fun c5=>?_)
  ·refine zI<|zK O ?_ ?_<;>intro c6<;>try simp only [sx] at c6
   ·exact s7
   ·exact k9
  ·refine zT O<|yF O<|A O<|Y<|qK O (fun c6=>?_) (fun c6=>?_)
   ·exact s7
   ·exact k9):p:=h
def w7 {p:Prop} (h:p:=by
 exact ⟨by rw [hT];first|(rw [zCo zA];rfl)|(rw [zCw zA];rfl)|(rw [zCn zA];rfl)|(rw [zCv zA];rfl)|(rw [wZ zA];rfl)|(rw [zAa ho h10];rfl)|(rw [zCu ho h10 c12];rfl)|(rw [zCm ho h10 c12];rfl),[_],O⟩):p:=h
def w8 {p:Prop} (h:p:=by
 try simp only [sx] at c3
 obtain ⟨di,hmi⟩:=mIxs_0 c3
 rw [hmi]
 refine zI<|zG<|G O<|A O<|A O<|A O<|A O<|qC O D zA (wL hs)<|qR O zBk<|zM yY zZ O<|A O<|qD O uB (zFp f c P hf s.E hPs.2.1 (by have:=s.E.cnt_le;omega)) (vlr O)<|qP O<|yG O<|qS O<|zW O (qT 0 O D O O O zA uE)<|zW O (kF O zBk O)<|kS O O (yM O sz54 O O O (zDp 0 O (zCx uE) O))<|A O<|Y<|G O<|A O<|yL O<|Y<|zK O ?_ ?_<;>intro c4<;>try simp only [sx] at c4
 ·refine G O<|A O<|yJ 20 O<|A O<|Y<|zF<|fin2 (rs_c O) (rs_c O) ?_
  rw [zSl hs hp (mSt_e2 hmi (mEx_err c4))];rfl
 ·obtain ⟨de,hmE⟩:=mEx_0 c4
  rw [hmE]
  refine zI<|G O<|A O<|A O<|A O<|A O<|qC O D zA (wL hs)<|qR O kV<|zH kX zZ O<|A O<|A O<|qD O uB (ih s (qA hs)) (vlr O)<|qP O<|qS O<|qS O<|zW O (qT 0 O D O O O zA uE)<|zW O (kF O kV O)<|kS O O (yM O sz23 O O O (zDp 0 O (zCx uE) O))<|A O<|Y<|G O<|A O<|yL O<|Y<|zK O ?_ ?_<;>intro c5<;>try simp only [sx] at c5
  ·refine G O<|A O<|yJ 20 O<|A O<|Y<|zF<|fin2 (rs_c O) (rs_c O) ?_
   rw [zSl hs hp (mSt_e3 hmi hmE (mSts_err c5))];rfl
  ·obtain ⟨db,hmb⟩:=mSts_0 c5
   rw [hmb]
   have hms:=mSt_ok hmi hmE hmb
   have hset:∀r,(outs.map St.cells++(l.drop k).map St.cells).set k r=(outs.map St.cells++[r])++(l.drop (k+1)).map St.cells:=fun r=>zSi uE hs
   have hset2:∀r r',((outs.map St.cells++[r])++(l.drop (k+1)).map St.cells).set k r'=(outs.map St.cells++[r'])++(l.drop (k+1)).map St.cells:=fun r r'=>mid_set' (α:=St) (f:=St.cells) (l:=l) uE
   refine zI<|zT O<|qI O ⟨zA,zA⟩<|A O<|Y ?_
   refine ⟨⟨k+1,outs++[.mk s.Op (if s.Op=1 then g s.Name else s.Name) s.Many s.Mark s.Fold di de db]⟩,⟨zA,uE,mSts_next hs hp hms⟩,(by show l.length-(k+1)<l.length-k;omega),Weak.mk [true] ⟨zJ,zJ,zJ,zJ,zJ,zJ,T⟩ (by simp only [dq,fz,hset,hset2];simp only [aC,aK,ck,St.cells_eq (.mk _ _ _ _ _ _ _ _)];first|(rw [ab c2];rfl)|(rw [aa c2];rfl))⟩):p:=h
def w9 {p:Prop} (h:p:=by
 exact ag vI (by first|(exfalso;omega)|(rw [dT,tyk1 zA,c3];rfl)|(rw [dT,zAw zA,fxz c5];rfl)|(rw [dT,zAw zA,fxn c5];rfl)|(rw [dT,tyk0 zA zA zA];rfl))):p:=h
def v6 {p:Prop} (h:p:=by
 rw [hT];first|(rw [zIn q1 q2];rfl)|(rw [zSr hq zA];rfl)|(rw [zUj hq zA];rfl)|(rw [zUi hq zA];rfl)|(rw [zQl hq c9];rfl)|(rw [zQk hq zA c9];rfl)):p:=h
def v7 {p:Prop} (h:p:=by
 try simp only [sx] at c3
 refine zI<|zG<|G O<|A O<|A O<|A O<|A O<|qC O D zA (wL hs)<|qR O zBk<|zM yY zZ O<|A O<|qD O uB (mapEx_id hf s.E hPs.2.1 (by have:=s.E.cnt_le;omega)) (vlr O)<|qP O<|yG O<|qS O<|zW O (qT 0 O D O O O zA (by simpa using rowsI_lt hs))<|zW O (kF O zBk O)<|kS O O (yM O sz54 O O O (zDp 0 O (zCx (by simpa using rowsI_lt hs)) O))<|A O<|Y<|G O<|A O<|yL O<|Y<|zK O ?_ ?_<;>intro c4<;>try simp only [sx] at c4
 ·exact (c4 T).elim
 ·refine zI<|G O<|A O<|A O<|A O<|A O<|qC O D zA (wL hs)<|qR O kV<|zH kX zZ O<|A O<|A O<|zV O O (zJp O uB (ih k s hs) (vlr O)) ?_
  rintro _ _ ⟨μ9,⟨b,v9,rfl,hb⟩,rfl⟩
  refine qP O<|qS O<|qS O<|zW O (qT 0 O D O O O zA (by simpa using rowsI_lt hs))<|zW O (kF O kV O)<|kS O O (yM O sz23 O O O (zDp 0 O (zCx (by simpa using rowsI_lt hs)) O))<|A O<|Y<|G O<|A O<|yL O<|Y<|zK O ?_ ?_<;>intro c5<;>try simp only [sx] at c5
  ·exact (c5 T).elim
  ·refine zI<|zT O<|qI O ⟨zA,zA⟩<|A O<|Y ?_
   refine ⟨⟨k+1,(if k=i then v9 else v),X++μ9⟩,⟨zA,invX hX hb,invQ hX hQ hb⟩,(by show l.length-(k+1)<l.length-k;omega),Weak.regsEq ⟨zJ,zJ,zJ,zJ,zJ,zJ,T⟩ (ag (fun rows=>E.vec sv1 56 20 rows::(X++μ9)) (by simp only [dq,fz];exact rowsI_set hs (hb.imp (fun h=>⟨h.1,h.2.1⟩) (fun h=>⟨h.1,h.2.1⟩))))⟩):p:=h
def v8 {p:Prop} (h:p:=by
 refine G O<|qU O zr48 pl48<|rStR 1 sz48 O<|A O<|Y<|zY _ (Weak.mem [false,true,false,true,true,true,true] O)<|zF<|fin2 (zP yE O (J 0 O) O) (rs_c O) ?_
 exact w7):p:=h
def t6 {p:Prop} (h:p:=by
 have hz:¬(op=7/\b=0):=by omega
 have hx:dX (lB op a b)=true:=by rw [hi];exact n31_t c7
 refine zI<|G O<|A O<|qU O W pl46<|rStR 0 L O<|A O<|Y<|zF<|fin2 (zP yP O (J 0 O) O) (rs_c O) ?_
 first|(rw [zSv zA zA];rfl)|(rw [zSu hz hx];rfl)|(rw [zSs hz hx,hi];rfl)):p:=h
def t7 {p:Prop} (h:p:=by
 have hz:¬(op=7/\b=0):=by omega
 have hx:dX (lB op a b)=false:=by rw [hi];exact n31_f c7
 refine G O<|qU O W pl46<|rStR 0 L O<|A O<|Y<|zF<|fin2 (zP yP O (J 0 O) O) (rs_c O) ?_
 first|(rw [zSv zA zA];rfl)|(rw [zSu hz hx];rfl)|(rw [zSs hz hx,hi];rfl)):p:=h
def t8 {p:Prop} (h:p:=by
 obtain ⟨G,h1,h2,h3⟩:=FX.parts (its:=its) (cm.1 hn).2 (fun it hit=>hd it (by simp [hit])) h
 refine ⟨G,fun j w hj=>?_,h2,fun j hj=>au _ (h3 j hj)⟩
 rcases af.1 hj with e|e
 ·injection e with e1 e2;cases e2
 ·exact h1 j w e):p:=h
def s6 {p:Prop} (h:p:=by
 refine ⟨⟨k+1,jT f x env t⟩,⟨zA,hp.trans (zPq hx hte),zMr x env t hRt⟩,(by show l.length-(k+1)<l.length-k;omega),Weak.mk [true,true] ⟨zJ,zJ,zJ,zJ,zJ,T⟩ (by show _=[E.row b2 165 [.sl 8 [],cI 0,cI 0,cI 0],E.row b1 165 [.sl 8 ((jT f x env t).Mem.map Nmd.cells),cI (jT f x env t).N,cI f,cI (jT f x env t).E]]++_;rw [hrn];rfl)⟩):p:=h
def s7 {p:Prop} (h:p:=by
 refine G O<|A O<|Y<|zF<|zS O ?_
 exact ag vI (by unfold bR;(repeat' split)<;>omega)):p:=h
def s8 {p:Prop} (h:p:=by
 rw [ey,aC,lh]
 by_cases hmN:m<=N
 ·rw [ihN hmN]
  have:decide (N<m)=false:=by simp;omega
  simp [this];omega
 ·have hm':m=N+1:=by omega
  have:decide (N<m)=true:=by simp;omega
  have hz:((List.range N).map fun i=>decide (i<m)).count false=0:=by
   rw [List.count_eq_zero]
   intro hmem
   obtain ⟨i,hi,he⟩:=bq.1 hmem
   have:=cn.1 hi
   simp at he
   omega
  rw [hz]
  simp [this];omega):p:=h
def s9 {p:Prop} (h:p:=by
 intro z hz
 refine G O<|A O<|Y<|zG<|zQ<|zY ⟨[(0,.c _),(1,.c _)],[]⟩ (Weak.mk [] ⟨zJ,zJ,T⟩ O)<|qL 2 0 O O (Nat×Nat) (fun ⟨x,y⟩=>[(0,nC x),(1,nC y)]) (fun ⟨x,y⟩=>[]) (fun ⟨x,y⟩=>Nat.gcd a b=Nat.gcd x y) (fun ⟨x,y⟩=>y) ⟨⟨a,b⟩,O,Weak.mk [] ⟨zJ,zJ,T⟩ O⟩ ?_
 rintro ⟨x,y⟩ hg
 refine zG<|G O<|A O<|yL O<|Y<|zK O ?_ ?_<;>intro c1<;>try simp only [sx] at c1
 ·refine zI<|zQ<|qV 6 mixed uB O O<|mr O (zO O O)<|mr O (zO O O)<|mr O (zO O O)<|mr O (zOv O O O zA)<|mr O (qY O O)<|mr O (qY O O)<|yQ<|Y ?_
  refine ⟨⟨y,x%y⟩,(by rw [hg];exact gcd_step zA),(iO _ zA),Weak.mk [] ⟨zJ,VLe.of_eq (ag nC (Int.ofNat_tmod x y).symm),T⟩ O⟩
 ·refine qO<|G O<|A O<|A O<|Y<|zF<|zS O ?_
  exact ag nC (by rw [hg,show y=0 by omega,kr])):p:=h
def r6 {p:Prop} (h:p:=by
 refine G O<|yF O<|A O<|Y<|qK O (fun c7=>?_) (fun c7=>?_)
 ·have hlen1:=args_len hpart zA
  refine G O<|A O<|zW O (qT 0 O zAn O O O zA (by simp only [lLm];omega))<|zM yE (wX 0 O (hg 0 zA)) O<|rStR 1 sz48 O<|A O<|Y<|zY _ (Weak.mem [false,true,false,true,true,true,true] O)<|zF<|fin2 (zP yE O (J 0 O) O) (rs_c O) ?_
  exact w7
 ·refine zG<|G O<|yF O<|A O<|Y<|qK O (fun c8=>?_) (fun c8=>?_)
  ·refine zI<|zK O ?_ ?_<;>intro c10<;>try simp only [sx] at c10
   ·exact v8
   ·exact w5
  ·refine G O<|yF O<|A O<|Y<|qK O (fun c9=>?_) (fun c9=>?_)
   ·refine zI<|zK O ?_ ?_<;>intro c10<;>try simp only [sx] at c10
    ·exact v8
    ·exact w5
   ·refine zT O<|yF O<|A O<|Y<|qK O (fun c10=>?_) (fun c10=>?_)
    ·exact v8
    ·exact w5):p:=h
def r7 {p:Prop} (h:p:=by
 have key:listed.getD e.on false=true:=by
  by_cases hji:j=i
  ·subst hji
   rw [ho'] at hoj;cases hoj
   exact hedge e he1 he3
  ·rw [im true (fy hji)] at hb
   exact hclo j oj hoj hb e he1 he3
 rw [am,cx]
 by_cases hei:i=e.on
 ·rw [ab hei]
  have:i<listed.size:=by omega
  simp [this]
 ·rw [aa hei,←am];exact key):p:=h
def r8 {p:Prop} (h:p:=by
 exact ag vB (by unfold gD;first|(exfalso;omega)|(simp [*];done)|(rw [bz];simp only [aI,ae,ah];omega))):p:=h
def r9 {p:Prop} (h:p:=by
 obtain ⟨Rfs,h1,h2,more,h3,h4⟩:=TDf.parts (by simpa using hl) (show TDf X regs0 l ks acc K from h)
 refine ⟨(fun _ _=>True)::Rfs,by simp [h1],fun i o' Rf' ho hr' hk=>?_,more,h3,?_⟩
 ·cases i with
  |zero=>simp [kd,Kd.fr] at hk
  |succ i=>exact h2 i o' Rf' (by simpa using ho) (by simpa using hr') (by simpa [kd] using hk)
 ·intro regs ν K' rs es hr he hall hc
  cases rs with
  |nil=>simp at hr
  |cons r rs=>
   cases es with
   |nil=>simp at he
   |cons en es=>
    simp only [xD,xJ,Kd.fr,az]
    exact h4 (by simpa using hr) (by simpa using he) (fun i r' en' Rf' a b c d=>hall (i+1) r' en' Rf' (by simpa using a) (by simpa using b) (by simpa using c) (by simpa [kd] using d)) hc):p:=h
def p6 {p:Prop} (h:p:=by
 try simp only [sx] at c3
 refine zI<|zT O<|A O<|qI O ⟨zA,zA⟩<|A O<|Y ?_
 refine ⟨k+1,⟨zA,zCd hx hy hp c3⟩,zA,Weak.mk [] ⟨zJ,zJ,zJ,T⟩ O⟩):p:=h
def p7 {p:Prop} (h:p:=by
 refine zBe O<|rStR 0 sz87 O<|Y<|zG<|G O<|zC O fd87_2<|zH zDb (J 0 O) O<|yL O<|Y<|zK O ?_ ?_<;>intro c4<;>try simp only [sx] at c4
 ·rw [←hin] at c4
  refine G O<|zM agg87 (J 0 O) O<|rStR 1 sz87 O<|Y<|zF<|fin1 (zP agg87 O (J 1 O) O) ?_
  rw [zFt hs hp c4,hin];rfl
 ·rw [←hin] at c4
  refine zI<|zT O<|zC O fd87_0<|zH one85 (J 0 O) O<|A O<|Y<|zT O<|A O<|qI O ⟨zA,zA⟩<|A O<|Y ?_
  refine ⟨⟨k+1,(jB n.Bufs u (bd.map Bd.Name) (W++[(k:Int)]) s).U⟩,⟨zA,zA,zRh hs hp c4⟩,(by show l.length-(k+1)<l.length-k;omega),Weak.mk [false,true,true] ⟨zJ,VLe.of_eq (ag vSs (by rw [hin])),zJ,zJ,zJ,zJ,zJ,T⟩ O⟩):p:=h
def p8 {p:Prop} (h:p:=by
 refine zI<|zG<|G O<|zM yY (J 2 O) O<|qD O uB (kW e) (vlr O)<|Y<|zK O ?_ ?_<;>intro c9<;>try simp only [sx] at c9
 ·exact j9
 ·have hq1:1<=(jO (e.Args.take k) (bW (kiN n.Bufs) (e.Args.take k)).1).length:=by have h:=ki_one hpart (l:=(bW (kiN n.Bufs) (e.Args.take k)).1) (by rw [hll,hta]) zA c9;rw [hta];rw [hta] at h;exact h
  refine zI<|G O<|A O<|zW O (qT 0 O zAn O O O zA (by simp only [lLm];omega))<|zM yE (wX 0 O (zMn zA)) O<|rStR 1 sz48 O<|A O<|Y<|zF<|fin2 (zP yE O (J 1 O) O) (rs_c O) ?_
  exact v6):p:=h
def p9 {p:Prop} (h:p:=by
 intro z hz
 refine G O<|A O<|Y<|G O<|A O<|zW O (wH O O O)<|A O<|rL0 O (fun g1_2=>zO O O) O<|rL1 6 O (fun g1_2=>wS O O O) O<|yT O (fun h=>h)<|A O<|Y<|zF<|zS O ?_
 exact O):p:=h
def o5 {p:Prop} (h:p:=by
 try simp only [sx] at c3
 refine zI<|zT O<|qI O ⟨zA,zA⟩<|A O<|Y ?_
 refine ⟨k+1,⟨zA,hp.trans (zRd hx hy c3),zA⟩,zA,Weak.mk [false,false] ⟨zJ,zJ,zJ,zJ,zJ,zJ,T⟩ O⟩):p:=h
def o6 {p:Prop} (h:p:=by
 intro i hiN him hb
 by_cases hall:∀j,j<i->listed.getD j true=true
 ·exact ⟨i,him,hb,hall⟩
 ·rcases iL.1 hall with ⟨j,hj⟩
  rcases ja.1 hj with ⟨h1,h2⟩
  exact ihN j zA zA (by cases hb':listed.getD j true;rfl;exact absurd hb' h2)):p:=h
def o7 {p:Prop} (h:p:=by
 refine zI<|zG<|G O<|A O<|Y<|zK O (fun c3=>?_) (fun c3=>?_)
 ·exact absurd c3 zB
 ·refine zI<|zG<|G O<|A O<|A O<|yI O<|Y<|zK O ?_ ?_<;>intro c4<;>try simp only [sx] at c4
  ·refine G O<|A O<|Y<|zF<|zS O ?_
   rw [cmpI_lt c4]
  ·refine zI<|zG<|G O<|A O<|A O<|zW O (yD O O O)<|Y<|zK O ?_ ?_<;>intro c5<;>try simp only [sx] at c5
   ·refine G O<|A O<|Y<|zF<|zS O ?_
    rw [cmpI_gt c5]
   ·refine zI<|G O<|A O<|Y<|zF<|zS O ?_
    rw [cmpI_eq zA zA]):p:=h
def o8 {p:Prop} (h:p:=by
 try simp only [sx] at c2
 obtain ⟨n,hn⟩:=qZ d k zA
 refine zI<|zG<|zQ<|G O<|A O<|A O<|qC O el38 zA (getm uA)<|zH one3 zZ O<|yI O<|Y<|zK O ?_ ?_<;>intro c3<;>try simp only [sx] at c3
 ·have hneg:=dims_neg (d:=d) zA hn c3
  refine G O<|A O<|Y<|zF<|zS O ?_
  rw [hneg]
 ·refine zI<|zT O<|A O<|qI O ⟨zA,zA⟩<|A O<|Y ?_
  refine ⟨k+1,⟨zA,zFo hn hp (by unfold nN;exact aw zA)⟩,zA,Weak.mk [] ⟨zJ,zJ,T⟩ O⟩):p:=h
def n5 {p:Prop} (h:p:=by
 intro z hz
 refine G O<|A O<|Y<|zG<|G O<|A O<|Y<|zQ<|zG<|G O<|yF O<|A O<|Y<|qK O (fun c1=>?_) (fun c1=>?_)
 ·refine zI<|zK O ?_ ?_<;>intro c3<;>try simp only [sx] at c3
  ·exact s7
  ·exact w6
 ·refine G O<|yF O<|A O<|Y<|qK O (fun c2=>?_) (fun c2=>?_)
  ·refine zI<|zK O ?_ ?_<;>intro c3<;>try simp only [sx] at c3
   ·exact s7
   ·exact w6
  ·refine zT O<|yF O<|A O<|Y<|qK O (fun c3=>?_) (fun c3=>?_)
   ·exact s7
   ·exact w6):p:=h
def n6 {p:Prop} (h:p:=by
 rw [hon] at ho2;cases ho2
 have hO':=(hO.wide (zHe (v::rd) m hw2)) a w I hH hops (wpAnyIn (fen z.rd) 0 X.P .any l.toArray (gU X n z1 Q) fuel (listed.setIfInBounds i true)) (gU X n z1 Q) (by
  rintro u r _ I' w' ⟨μ',hrr,rfl⟩ hv hH' hx'
  obtain ⟨en,rfl,hS'⟩:=hS r μ' hrr
  have hpm:=zNm (m:=m) (en:=en) hw2 hw1
  exact step r _ u I' w' hS' (keep v (wrs v rfl) en) hv (hH'.perm hpm) (hx'.perm (bh _) hpm))
 exact v34):p:=h
def n7 {p:Prop} (h:p:=by
 refine ⟨_,O,?_⟩
 refine zBe O<|zW O (yC O O)<|zC O zJz<|rStR 1 sz38 O<|Y<|zY _ (Weak.vecEq 4 O (rows':=W.map fun i=>[cI i]) uI)<|zT O<|qI O ⟨zA,zA⟩<|A O<|Y ?_
 refine ⟨⟨k+1,_,_,_,(jB n.Bufs u S (W++[(k:Int)]) s).U⟩,⟨zA,zA,zRh hs hp c4⟩,(by show l.length-(k+1)<l.length-k;omega),Weak.mk [false,true,true,true,true] ⟨zJ,zJ,zJ,zJ,T⟩ O⟩):p:=h
def n8 {p:Prop} (h:p:=by
 try simp only [sx] at c1
 refine G O<|A O<|Y<|zF<|zS O ?_
 rw [qX (fun h=>c1 (by rw [h]))]):p:=h
def n9 {p:Prop} (h:p:=by
 intro x hx
 rw [wC] at hx
 rcases af.1 hx with rfl|hx
 ·exact h1
 ·have:∀l:List Ex,(∀a,a∈l->a.allF P)->x∈bU l->∀y,y∈dC x->P y:=by
   intro l
   induction l with
   |nil=>intro _ h;simp [bU] at h
   |cons a r ih=>
    intro h hm
    rw [bU] at hm
    rcases aq.1 hm with k|k
    ·exact h a uD x k
    ·exact ih (fun b hb=>h b (by simp [hb])) k
  exact this e.Args h2 hx):p:=h
def m5 {p:Prop} (h:p:=by
 have c1:(!gT a|| !gT b)=true:=c1
 refine G O<|qU O W pl46<|rStR 0 L O<|A O<|Y<|zF<|fin2 (zP yP O (J 0 O) O) (rs_c O) ?_
 rw [frX_no c1];rfl):p:=h
def m6 {p:Prop} (h:p:=by
 exfalso
 have hlt0:i0<l.length:=by omega
 have:i0∈Region.ready .any l.toArray listed:=by
  rw [ic]
  refine ⟨hb0,l[i0],by simp [hlt0],fun e he hb=>?_⟩
  have hlt:=ok.back i0 l[i0] (ak hlt0) e he hb
  have h2:=hmin e.on hlt
  rw [am] at h2⊢
  rw [aD zA] at h2⊢
  simpa using h2
 rw [hnil] at this
 simp at this):p:=h
def m7 {p:Prop} (h:p:=by
 have:∀s:St,s.allF P->s.allF Q:=by
   intro s
   induction s using St.ind with
   |_ s ih=>
     intro hs
     cases s with
     |mk o nm mn mk fo i e b=>
       rw [St.allF] at hs⊢
       exact ⟨fun x hx=>⟨hPQ _ (hs.1 x hx).1,fun y hy=>hPQ _ ((hs.1 x hx).2 y hy)⟩,fun x hx y hy=>hPQ _ (hs.2.1 x hx y hy),zHs fun a ha=>ih a ha (kR hs.2.2 a ha)⟩
 exact zHs fun s hs=>this s (kR h s hs)):p:=h
def m8 {p:Prop} (h:p:=by
 try simp only [sx] at c2
 refine qO<|G O<|A O<|Y<|zF<|zS O ?_
 rw [wU (zEo hp zA zA)]):p:=h
def m9 {p:Prop} (h:p:=by
 refine ⟨⟨_,_,_,_⟩,⟨by first|omega|(simp only [ct];omega),by first|omega|(simp only [ct];omega),hm1,hJ1⟩,hdec,Weak.regs ⟨zJ,zJ,zJ,T⟩⟩):p:=h
def l6 {p:Prop} (h:p:=by
 rintro _ _ ⟨rfl,rfl⟩
 refine Y<|zK O ?_ ?_<;>intro c2<;>try simp only [sx] at c2
 ·refine G O<|A O<|A O<|Y<|zF<|zS O ?_
  exact ⟨by rw [zVd hx c2 hp],O⟩
 ·refine zI<|zT O<|qI O ⟨zA,zA⟩<|A O<|Y ?_
  refine ⟨k+1,⟨zA,zRl hx hp c2⟩,zA,Weak.regs ⟨zJ,zJ,zJ,zJ,T⟩⟩):p:=h
def l7 {p:Prop} (h:p:=by
 rintro _ _ ⟨sv4,rfl,rfl⟩
 refine A O<|Y<|zF<|zS O ?_
 exact ⟨_,O,O⟩):p:=h
def l8 {p:Prop} (h:p:=by
 refine ⟨⟨k+1,_⟩,zA,(by show l.L.length-(k+1)<l.L.length-k;omega),Weak.mk [false,true,true,true,true] ⟨zJ,VLe.of_eq (by rw [zYg hx];first|(rw [ab c3];rfl)|(rw [aa c3];rfl)),zJ,zJ,zJ,zJ,zJ,zJ,T⟩ (by exact mem2c_eq (by rw [rest_next hx];first|(rw [ab c3,lAn])|(rw [aa c3,aC];rfl)))⟩):p:=h
def l9 {p:Prop} (h:p:=by
 unfold hY;rw [aB zA,aB zA];rfl):p:=h
def k8 {p:Prop} (h:p:=by
 refine ⟨_,O,?_⟩
 refine zGl O O zB O O (yM O sz94 O O O (zFu 0 O O)) ?_
 rintro _ _ ⟨rfl,rfl⟩
 refine ⟨_,O,?_⟩
 refine zBe O<|A O<|Y<|G O<|zC O zGy<|zM yE (J 0 O) O<|rStR 2 sz48 O<|A O<|Y<|zY _ (Weak.mem [false,false,true,false,true,true,true,true] O)<|zF<|fin2 (zP yE O (J 0 O) O) (rs_c O) ?_
 exact w7):p:=h
def k9 {p:Prop} (h:p:=by
 refine G O<|yF O<|A O<|Y<|qK O (fun c7=>?_) (fun c7=>?_)
 ·exact s7
 ·refine zI<|G O<|A O<|Y<|zF<|zS O ?_
  exact ag vI (by unfold bR;(repeat' split)<;>omega)):p:=h
def j0 {p:Prop} (h:p:=by
 refine ⟨j+1,⟨zA,by first|(rw [hgo];exact hRv _ _ hRu)|(rw [hgo,hu];exact hRj.step)⟩,zA,Weak.mk [true,true] ⟨zJ,zJ,zJ,zJ,zJ,zJ,T⟩ (by show _=[E.row b2 165 [.sl 8 [],cI 0,cI 0,cI 0],E.row b1 165 [.sl 8 ((F (j+1)).Mem.map Nmd.cells),cI (F (j+1)).N,cI f,cI (F (j+1)).E]]++_;rw [hgo];rfl)⟩):p:=h
def j5 {p:Prop} (h:p:=by
 refine ⟨⟨k+1,_⟩,⟨zA,by rw [zGd hx hp c2]⟩,(by show e.Args.length-(k+1)<e.Args.length-k;omega),Weak.mk [false,true,true,true,true] ⟨zJ,zJ,zJ,zJ,zJ,T⟩ (by exact zGv (by rw [zGd hx hp c2,yR hx,zXl hll.symm];first|(rw [ab c3,lAn])|(rw [aa (by rw [c3];simp),aC];rfl)))⟩):p:=h
def j6 {p:Prop} (h:p:=by
 refine G O<|yF O<|A O<|Y<|qK O (fun c4=>?_) (fun c4=>?_)
 ·refine G O<|zM yE (J 0 O) O<|qD O uB (zEb _) (vlr O)<|yF O<|Y<|qK O (fun c5=>?_) (fun c5=>?_)
  ·refine G O<|A O<|Y<|zF<|zS O ?_
   exact w9
  ·refine zI<|G O<|A O<|Y<|zF<|zS O ?_
   exact w9
 ·refine zI<|G O<|A O<|Y<|zF<|zS O ?_
  exact w9):p:=h
def j7 {p:Prop} (h:p:=by
 try simp only [sx] at c3
 refine G O<|A O<|Y<|zF<|zS O ?_
 rw [qX (zGr hx hy c3)]):p:=h
def j8 {p:Prop} (h:p:=by
 try simp only [sx] at c4
 rw [←hin] at c4 hno
 refine G O<|A O<|A O<|Y<|zY _ (Weak.mem [false,true,true,true,true] O)<|zF<|zS O ?_
 refine ⟨_,_,_,_,_,_,?_,fun h0=>?_,fun _=>?_,O⟩
 · rw [zFt hs hp c4,hin]
 · rw [zFt hs hp c4] at h0;exact absurd h0 c4
 · rw [zFt hs hp c4];exact hno c4):p:=h
def j9 {p:Prop} (h:p:=by
 refine G O<|qU O zr48 pl48<|rStR 1 sz48 O<|A O<|Y<|zF<|fin2 (zP yE O (J 1 O) O) (rs_c O) ?_
 exact v6):p:=h
def v10 {p:Prop} (h:p:=by
 rcases af.1 hl with rfl|hl
 · exact c.1
 · obtain ⟨y,hy,hl⟩:=cf.1 hl
   have h2:=ax.1 c.2 y hy
   unfold xT at h2
   rw [ae] at h2
   rcases af.1 hl with rfl|hl
   · exact h2.1
   · exact ax.1 h2.2 l hl):p:=h
def v11 {p:Prop} (h:p:=by
 refine zI<|zK O ?_ ?_<;>intro c3<;>try simp only [sx] at c3
 ·refine G O<|A O<|Y<|zF<|zS O ?_
  exact r8
 ·refine zI<|G O<|A O<|yF O<|A O<|rL0 O (fun g6_2=>zO O O) O<|rL1 13 O (fun g6_2=>yN O O O) O<|yT O (fun h=>h)<|A O<|Y<|zF<|zS O ?_
  exact r8):p:=h
def v12 {p:Prop} (h:p:=by
 rcases af.1 h with rfl|h
 ·omega
 ·have:=ih h;omega):p:=h
def v13 {p:Prop} (h:p:=by
 split
 ·rename_i hw;rw [ab hw] at hG';exact hG' (dstOk.nd hdo) _
 ·rename_i hw;rw [aa hw] at hG';exact ⟨fun _ _=>trivial,hG'⟩):p:=h
def v14 {p:Prop} (h:p:=by
 try simp only [sx] at c4
 refine zI<|G O<|A O<|Y<|zF<|zS O ?_
 rw [hp,zVo zA zA]):p:=h
def v15 {p:Prop} (h:p:=by
 exact ag vI (by unfold sQ;repeat (first|rw [ab zA]|rw [aa zA]))):p:=h
def v16 {p:Prop} (h:p:=by
 try simp only [sx] at c4
 refine G O<|A O<|Y<|zF<|zS O ?_
 rw [hp,zRe zA zA]):p:=h
def v17 {p:Prop} (h:p:=by
 have hq0:q=0:=by
  rcases ku q with k|k
  ·exact k
  ·have:1*6277101735386680763835789423207666416102355444464034512896<=q*6277101735386680763835789423207666416102355444464034512896:=dc _ k
   omega
 subst hq0
 omega):p:=h
def v18 {p:Prop} (h:p:=by
 have hdn:d<n:=by simp only [dstOk,hod,ae] at hdo;simpa [cl] using hdo.1
 rw [zUs hs hdn]
 by_cases hdt:d=t
 ·subst hdt;rw [ab rfl,ab rfl];exact hv
 ·rw [aa (by simpa using hdt),aa hdt];exact hH.vrep hx' (hR t)):p:=h
def v19 {p:Prop} (h:p:=by
 unfold dW;simp only [c,bf,co,aZ]):p:=h
def v20 {p:Prop} (h:p:=by
 try simp only [sx] at c3
 refine G O<|A O<|A O<|Y<|zF<|zS O ?_
 rw [hp,cmpL_ne hx hy c3]):p:=h
def v22 {p:Prop} (h:p:=by
 obtain ⟨en,he,h⟩:=h r2 μ' hrr
 have hn:w ∉ rd:=fun hin=>by have:=hm w hin;rw [aR] at this;cases this
 refine ⟨en,he,o,ho,hn1,r,?_,?_⟩
 ·rw [wR hn];exact hG.congr fun t ht=>(zNt (f2 t ht)).symm
 ·rw [←zDd f3];exact h):p:=h
def v23 {p:Prop} (h:p:=by
 refine G O<|zM yE (J 0 O) O<|qD O uB (zVz _) (vlr O)<|Y<|zK O ?_ ?_<;>intro c3<;>try simp only [sx] at c3
 ·refine G O<|A O<|Y<|zF<|zS O ?_
  exact w9
 ·refine zI<|G O<|A O<|Y<|zF<|zS O ?_
  exact w9):p:=h
def v24 {p:Prop} (h:p:=by
 have h1:=hedge e he1 he3
 rw [he2,am,aD zA] at h1
 rw [am,aD zA]
 simp only [cd] at h1⊢
 rw [h1]
 simp [hji]):p:=h
def v25 {p:Prop} (h:p:=by
 try simp only [sx] at c2
 refine G O<|A O<|Y<|zF<|zS O ?_
 rw [hp,zVn hx zA]):p:=h
def v26 {p:Prop} (h:p:=by
 try simp only [sx] at c1
 refine qO<|G O<|yH lw O zr94 pl94<|rStR 0 sz94 O<|A O<|Y<|zF<|fin2 (zP zMl O (J 0 O) O) (rs_c O) ?_
 rw [yW zA] at hp;rw [hp,bufD_no hp];rfl):p:=h
def v27 {p:Prop} (h:p:=by
 try simp only [sx] at c4
 refine qO<|G O<|A O<|Y<|zF<|zS O ?_
 rw [dims_ok zA hpos (zLf hs3 zA)]):p:=h
def v28 {p:Prop} (h:p:=by
 intro z hz
 refine G O<|mj O fun b1=>A O<|Y<|G O<|zW O (zFa O O O O O)<|yU _ (yX 0 O 3 (.c (.fn _ _ [_])) (PLe.fn ⟨.inr ⟨O,O⟩,T⟩))<|A O<|Y<|zF<|zS O ?_
 exact O):p:=h
def v29 {p:Prop} (h:p:=by
 rw [substR_no ⟨h1,h2,h3⟩ c (by
   by_cases q:r64 (u.K*bH l.L s)
   · right
     cases k:gJ (bH l.L s) u.L with
     |true=>exact absurd ⟨q,k⟩ c5
     |false=>rfl
   · exact .inl q)] at h
 cases h):p:=h
def v30 {p:Prop} (h:p:=by
 try simp only [sx] at c1
 have hlong:=zYy (d:=d) zA
 refine G O<|A O<|Y<|zF<|zS O ?_
 rw [hlong]):p:=h
def v32 {p:Prop} (h:p:=by
 rw [bz];simp only [ao,ah,aj];omega):p:=h
def v33 {p:Prop} (h:p:=by
 by_cases hji:j=i
 ·subst hji
  rw [ab rfl,am,cx]
  simp [show j<listed.size by omega]
 ·rw [aa hji,im true (fy hji)]):p:=h
def v34 {p:Prop} (h:p:=by
 rw [ab (by simp [Region.wanted,hg])]
 exact hO' (dstOk.nd hdo) _):p:=h
def v35 {p:Prop} (h:p:=by
 have hjl:j<r.length:=(ai.1 hj).1
 rw [cv,dl zA,hA,dg,dt hjl]
 exact hj):p:=h
def v36 {p:Prop} (h:p:=by
 refine G O<|A O<|Y<|zF<|zS O ?_
 exact ag vB (by simp only [lF,c1,ca,aL];rw [hp,qQ ha,gL,show (bJ a==gD e.Op k)=false by simpa using c3,aZ])):p:=h
def v37 {p:Prop} (h:p:=by
 refine qO<|G O<|A O<|A O<|Y<|zF<|zS O ?_
 exact ag vI (by rw [←num_end hp zA])):p:=h
def T:True:=trivial
def dgO (o:Oper):Option Tmp:=match o.guard with
 |none=>o.dst
 |some _=>none
def dgs {o:Oper} {d:Tmp} (hd:dgO o=some d):o.dst=some d/\o.guard=none:=by
 unfold dgO at hd
 split at hd
 ·rename_i hg;exact ⟨hd,hg⟩
 ·cases hd
def kS {r:V} {μ':List E} (hd:o.dst=none) (hg:o.guard=none) (h:Det X o (ev regs) μ r μ') (k:RWP X n z ops rest Q ⟨regs,μ'⟩):RWP X n z ops (o::rest) Q ⟨regs,μ⟩:=
 rwp_op0 hd hg h fun _ _ ⟨_,e2⟩=>e2 ▸ k
def wanted_of {w:World} {I:Nat->Prop} {regs:List (Nat×V)} {a:Act} {n:Nat} (hR:∀t,VRep w I (dF regs t) (a.tmps.getD t undef)) (hs:a.tmps.size=n) {j d:Nat} {want b:Bool} (hg:o.guard=some (j,want)) (hj:(ops[j]?).bind (·.dst)=some d)
  (hdn:d<n) (hb:dF regs d=.c (.lit (.bool b))):Region.wanted o (yielded ops a.tmps)=(b==want):=by
 have h:=hR d
 rw [hb] at h
 have h':a.tmps.getD d undef=.bool b:=by
  generalize a.tmps.getD d undef=v at h
  cases h;rfl
 have h2:a.tmps[d]? =some (.bool b):=by
  rw [am] at h'
  have:d<a.tmps.size:=by omega
  rw [aD this] at h'⊢
  simpa using h'
 simp only [Region.wanted,hg,yielded,hj,ip,h2]
 cases b<;>cases want<;>rfl
def rwp_split {l:List Oper} (d:Nat) {b:Bool} (_hb:dF regs d=.c (.lit (.bool b))) (h1:b=true->RWP X n z ops l Q ⟨regs,μ⟩) (h2:b=false->RWP X n z ops l Q ⟨regs,μ⟩):RWP X n z ops l Q ⟨regs,μ⟩:=by
 cases b
 ·exact h2 rfl
 ·exact h1 rfl
end steps
/-! ## The guard left open: a quiet operation whose result is known wherever it runs -/
def Lz (b want:Bool):Bool:=cond want b (!b)
def V.plain:V->Bool
 |.c _|.agg _|.un=>true
 |_=>false
variable {b:Bool}
def V.ifv_rep (hb:b=true) {y:V} (hp:y.plain=true) {v:Value} (h:VRep w I (.ifv b y) v):VRep w I y v:=by
 have h':V1Rep w I (.ifv b y) v:=h
 have h2:=h'.1 hb
 cases y with
 |c y=>exact h2
 |agg l=>exact h2
 |un=>trivial
 |tup l=>cases hp
 |ifv b x=>cases hp
def xR (g:Bool) (regs:List (Nat×V)):List (Nat×V)->Prop
 |[]=>True
 |(d,y)::r=>dF regs d=.ifv g y/\y.plain=true/\xR g regs r
def ov_rep {w:World} {I:Nat->Prop} {g:Bool} (hg:g=true) {regs:List (Nat×V)} {a:Act} (hR:∀t,VRep w I (dF regs t) (a.tmps.getD t undef)):∀{ov:List (Nat×V)},xR g regs ov->∀t,VRep w I (dF (ov++regs) t) (a.tmps.getD t undef)
 |[],_,t=>hR t
 |(d,y)::r,h,t=>by
  rw [iw,zBt]
  split
  ·rename_i e
   subst e
   have h1:=hR d
   rw [h.1] at h1
   exact V.ifv_rep hg h.2.1 h1
  ·exact ov_rep hg hR h.2.2 t
def mN (x:V) (want g:Bool):Prop:=(∃b,x=.c (.lit (.bool b))/\g=Lz b want)∨∃b0 b,x=.ifv b0 (.c (.lit (.bool b)))/\g=(b0&&Lz b want)
variable {want:Bool}
def gv1:mN (.c (.lit (.bool b))) want (Lz b want):=.inl ⟨b,rfl,rfl⟩
def gv2 {b0:Bool}:mN (.ifv b0 (.c (.lit (.bool b)))) want (b0&&Lz b want):=.inr ⟨b0,b,rfl,rfl⟩
def lzf (h:b=false):Lz b false=true:=by rw [h];rfl
def kD {a:Bool} (h:a=true) (k:b=true):(a&&b)=true:=by rw [h,k];rfl
def zUn {ops:Array Oper} {regs:List (Nat×V)} (hR:∀t,VRep w I (dF regs t) (a.tmps.getD t undef)) (hs:a.tmps.size=n) {j d:Nat} {g:Bool} (hg:o.guard=some (j,want)) (hj:(ops[j]?).bind (·.dst)=some d) (hdn:d<n) (hb:mN (dF regs d) want g):Region.wanted o (yielded ops a.tmps)=g:=by
 rcases hb with ⟨b,hb,rfl⟩|⟨b0,b,hb,rfl⟩
 ·rw [wanted_of hR hs hg hj hdn hb]
  cases b<;>cases want<;>rfl
 ·have h:=hR d
  rw [hb] at h
  have h':V1Rep w I (.ifv b0 (.c (.lit (.bool b)))) (a.tmps.getD d undef):=h
  have hget:a.tmps[d]? =some (a.tmps.getD d undef):=by
   have:d<a.tmps.size:=by omega
   simp [this]
  cases b0
  ·have hu:=h'.2 rfl
   rw [hu] at hget
   simp only [Region.wanted,hg,yielded,hj,ip,hget,undef]
   cases want<;>rfl
  ·have h2:CRep w I (.lit (.bool b)) (a.tmps.getD d undef):=h'.1 rfl
   have h3:a.tmps.getD d undef=.bool b:=by
    generalize a.tmps.getD d undef=v at h2
    cases h2;rfl
   rw [h3] at hget
   simp only [Region.wanted,hg,yielded,hj,ip,hget]
   cases b<;>cases want<;>rfl
section guarded
variable {X:Cfg} {n:Nat} {z:Z} {Q:Exit->S->Prop} {regs:List (Nat×V)} {μ:List E} {ops:Array Oper} {rest:List Oper} {o:Oper} {t j d:Nat} {want g:Bool}
def rwp_yes' {R:V->List E->Prop} (hg:o.guard=some (j,want)) (hj:(ops[j]?).bind (·.dst)=some d) (hdn:Nat.blt d n=true) (hb:mN (dF regs d) want g) (he:g=true)
  (h:OpE X o (ev regs) μ R) (k:∀r μ',R r μ'->RWP X n z ops rest Q ⟨mU o.dst r regs,μ'⟩):RWP X n z ops (o::rest) Q ⟨regs,μ⟩:=by
 intro hall z1 hz1 a w ⟨I,hH,hR,hx,hd,hs⟩
 simp only [aW,ae] at hall
 refine wpListIn_step fun K hK=>?_
 rw [ab (by rw [zUn hR hs hg hj (by simpa [cl] using hdn) hb,he])]
 refine h a w I hH (fun x _=>ev_rep hR x) K _ ?_ (dstOk.nd hall.1) _
 intro v r μ' I' w' hr hv hH' x
 exact hK _ _ (k r μ' hr hall.2 z1 hz1 _ _ (St.put hH hR hx hd hs hall.1 hv hH' x))
def rwp_yes {R:V->List E->Prop} (ht:o.dst=some t) (hg:o.guard=some (j,want)) (hj:(ops[j]?).bind (·.dst)=some d) (hdn:Nat.blt d n=true) (hb:mN (dF regs d) want g) (he:g=true)
  (h:OpE X o (ev regs) μ R) (k:∀r μ',R r μ'->RWP X n z ops rest Q ⟨(t,r)::regs,μ'⟩):RWP X n z ops (o::rest) Q ⟨regs,μ⟩:=
 rwp_yes' hg hj hdn hb he h (by rw [ht];exact k)
def zCf {r:V} {μ':List E} (ht:o.dst=some t) (hg:o.guard=some (j,want)) (hj:(ops[j]?).bind (·.dst)=some d) (hdn:Nat.blt d n=true) (hb:mN (dF regs d) want g) (he:g=true)
  (h:Det X o (ev regs) μ r μ') (k:RWP X n z ops rest Q ⟨(t,r)::regs,μ'⟩):RWP X n z ops (o::rest) Q ⟨regs,μ⟩:=
 rwp_yes ht hg hj hdn hb he h fun _ _ ⟨e1,e2⟩=>e1 ▸ e2 ▸ k
def rwp_no' (hg:o.guard=some (j,want)) (hj:(ops[j]?).bind (·.dst)=some d) (hdn:Nat.blt d n=true) (hb:mN (dF regs d) want g) (he:g=false)
  (k:RWP X n z ops rest Q ⟨mU o.dst (.ifv false (.c (.lit (.bool false)))) regs,μ⟩):RWP X n z ops (o::rest) Q ⟨regs,μ⟩:=by
 intro hall z1 hz1 a w ⟨I,hH,hR,hx,hd,hs⟩
 simp only [aW,ae] at hall
 refine wpListIn_step fun K hK=>?_
 rw [aa (by rw [zUn hR hs hg hj (by simpa [cl] using hdn) hb,he];simp)]
 refine ⟨fun _ _=>trivial,hK _ _ (k hall.2 z1 hz1 _ _ (St.put hH hR hx hd hs hall.1 (r:=.ifv false (.c (.lit (.bool false)))) ?_ hH (Ext.refl _ _ _)))⟩
 show V1Rep w I (.ifv false (.c (.lit (.bool false)))) undef
 exact ⟨fun h=>by simp at h,fun _=>rfl⟩
def zPp (ht:o.dst=some t) (hg:o.guard=some (j,want)) (hj:(ops[j]?).bind (·.dst)=some d) (hdn:Nat.blt d n=true) (hb:mN (dF regs d) want g) (he:g=false)
  (k:RWP X n z ops rest Q ⟨(t,.ifv false (.c (.lit (.bool false))))::regs,μ⟩):RWP X n z ops (o::rest) Q ⟨regs,μ⟩:=rwp_no' hg hj hdn hb he (by rw [ht];exact k)
end guarded
variable {r:V}
def rwp_lazy {regs:List (Nat×V)} {μ:List E} {ops:Array Oper} {rest:List Oper} {t j d:Nat} {g:Bool} (ov:List (Nat×V)) (ht:o.dst=some t) (hg:o.guard=some (j,want)) (hj:(ops[j]?).bind (·.dst)=some d) (hdn:Nat.blt d n=true) (hb:mN (dF regs d) want g) (hov:xR g regs ov) (h:g=true->Det X o (ev (ov++regs)) μ r μ) (hpl:r.plain=true) (k:RWP X n z ops rest Q ⟨(t,.ifv g r)::regs,μ⟩):RWP X n z ops (o::rest) Q ⟨regs,μ⟩:=by
 intro hall z1 hz1 a w ⟨I,hH,hR,hx,hd,hs⟩
 simp only [aW,ae] at hall
 refine wpListIn_step fun K hK=>?_
 replace k:RWP X n z ops rest Q ⟨mU o.dst (.ifv g r) regs,μ⟩:=by rw [ht];exact k
 have hw:=zUn hR hs hg hj (by simpa [cl] using hdn) hb
 cases hgv:g
 ·rw [aa (by rw [hw,hgv];simp)]
  refine ⟨fun _ _=>trivial,hK _ _ (k hall.2 z1 hz1 _ _ (St.put hH hR hx hd hs hall.1 (r:=.ifv g r) ?_ hH (Ext.refl _ _ _)))⟩
  show V1Rep w I (.ifv g r) undef
  exact ⟨fun h=>absurd (hgv.symm.trans h) uD,fun _=>rfl⟩
 ·rw [ab (by rw [hw,hgv])]
  refine h hgv a w I hH (fun x _=>ev_rep (ov_rep hgv hR hov) x) K _ ?_ (dstOk.nd hall.1) _
  rintro v r' μ' I' w' ⟨rfl,rfl⟩ hv hH' x
  refine hK _ _ (k hall.2 z1 hz1 _ _ (St.put hH hR hx hd hs hall.1 (r:=.ifv g r') ?_ hH' x))
  show V1Rep w' I' (.ifv g r') v
  refine ⟨fun _=>?_,fun h=>absurd (hgv.symm.trans h) uD⟩
  cases r' with
  |c y=>exact hv
  |agg l=>exact hv
  |un=>trivial
  |tup l=>cases hpl
  |ifv b x=>cases hpl
/-! ## Facts on types -/
def nE (P:Program) (t:lu):Option Nat:=
 match P.underlying t,P.info? t with
 |some (.struct _),some i=>some i.size
 |some (.array ..),some i=>some i.size
 |_,_=>none
def mM (P:Program) (t:lu):Bool:=
 match P.underlying t,P.info? t with
 |some (.struct _),_=>false
 |some (.array ..),_=>false
 |some _,some i=>i.size==1
 |_,_=>false
def fL (P:Program) (t:lu):Option (List Value):=
 match P.info? t with
 |some i=>match i.zero with
  |some v=>if v.cells.all Value.oneCell' then some v.cells.toList else none
  |none=>none
 |none=>none
def bO (P:Program) (s:lu) (f:Nat):Option (Nat×lu):=
 match P.underlying s with
 |some (.struct fs)=>match fs[f]? with
  |some fd=>match P.info? fd.type with
   |some i=>if i.size=0 then none else some (fd.offset,fd.type)
   |none=>none
  |none=>none
 |_=>none
def fB (P:Program) (t:lu):Option (lu×Nat×Nat):=
 match P.underlying t with
 |some (.slice e)=>match P.info? e with
  |some i=>match i.zero with
   |some zv=>if zv.cells.size=i.size/\0<i.size then some (e,i.size,i.bytes) else none
   |none=>none
  |none=>none
 |_=>none
section inv
variable {w:World} {I:Nat->Prop}
def VRep.lit_inv {v u:Value} (h:VRep w I (.c (.lit v)) u):u=v:=by
 have h':CRep w I (.lit v) u:=h
 cases h';rfl
def VRep.agg_inv {l:List C} {u:Value} (h:VRep w I (.agg l) u):∃vs:List Value,u=.agg vs.toArray/\CReps w I l vs:=h
end inv
variable {P:Program}
def zCa {v:Value} {K:Act->World->Prop} {Q:Exit->Act->World->Prop} (h:(execOp a.eval o).run P w=.ok (.value v) w') (k:K (a.put o.dst v) w'):OW P o a w K Q:=by
 intro hn rd
 refine ⟨fun _ _=>trivial,?_⟩
 rw [zPn hn,h];exact k
def wp_unit {K:Act->World->Prop} {Q:Exit->Act->World->Prop} (h:(execOp a.eval o).run P w=.ok .skip w') (k:K (a.put o.dst undef) w'):OW P o a w K Q:=by
 intro hn rd
 refine ⟨fun _ _=>trivial,?_⟩
 rw [zPn hn,h];exact k
/-! ## Operations that touch no memory -/
section plain
variable {X:Cfg} {o:Oper} {e:lv->V} {μ:List E}
def kN {r:V} (h:∀(a:Act) (w:World) (I:Nat->Prop),Heap X w I μ->(∀x,x∈o.op.operands->VRep w I (e x) (a.eval x))->∃v,(execOp a.eval o).run X.P w=.ok (.value v) w/\VRep w I r v):Det X o e μ r μ:=by
 intro a w I hH hops K Q k
 obtain ⟨v,hrun,hv⟩:=h a w I hH hops
 exact zCa hrun (k v r μ I w ⟨rfl,rfl⟩ hv hH (Ext.refl _ _ _))
def det_mv {x:lv} (ho:o.op=.move x∨o.op=.assign x):Det X o e μ (e x) μ:=
 kN fun a w I _ hops=>⟨a.eval x,by rcases ho with ho|ho<;>simp [execOp,ho],hops x (by rcases ho with ho|ho<;>rw [ho]<;>simp [Op.operands])⟩
def zO {x:lv} {y:C} (ho:o.op=.move x) (hx:e x=.c y):Det X o e μ (.c y) μ:=hx ▸ det_mv (.inl ho)
def qY {x:lv} {y:C} (ho:o.op=.assign x) (hx:e x=.c y):Det X o e μ (.c y) μ:=hx ▸ det_mv (.inr ho)
def kJ {x:lv} {y:List V} (ho:o.op=.move x) (hx:e x=.tup y):Det X o e μ (.tup y) μ:=hx ▸ det_mv (.inl ho)
def qP {n_:Nat} {z_:Z} {Q_:Exit->S->Prop} {rs:List (Nat×V)} {os:Array Oper} {re:List Oper} {d_:Tmp} {x:lv} {y:List V} (hd:(dgO o,o.op,(ev rs) x)=(some d_,.move x,.tup y))  (k_:RWP X n_ z_ os re Q_ ⟨(d_,(.tup y))::rs,μ⟩):RWP X n_ z_ os (o::re) Q_ ⟨rs,μ⟩:=by
 simp only [aJ] at hd
 obtain ⟨h_,q0,q1⟩:=hd
 exact zAc (dgs h_).1 (dgs h_).2 (kJ (e:=ev rs) q0 q1) k_
def det_pick {c x y:lv} {b:Bool} (ho:o.op=.pick c x y) (hc:e c=.c (.lit (.bool b))):Det X o e μ (cond b (e x) (e y)) μ:=
 kN fun a w I _ hops=>by
  have hcv:=hops c (by rw [ho];simp [Op.operands])
  rw [hc] at hcv
  have:=hcv.lit_inv
  cases b
  ·exact ⟨a.eval y,by simp [execOp,ho,this,asBool],hops y (by rw [ho];simp [Op.operands])⟩
  ·exact ⟨a.eval x,by simp [execOp,ho,this,asBool],hops x (by rw [ho];simp [Op.operands])⟩
def wA {c x y:lv} {b d g:Bool} (ho:o.op=.pick c x y) (hc:e c=.c (.lit (.bool b))) (hx:e x=.ifv g (.c (.lit (.bool d)))) (hg:b=true->g=true) (hy:e y=.c (.lit (.bool false))):Det X o e μ (.c (.lit (.bool (b&&d)))) μ:=
 kN fun a w I _ hops=>by
  have hcv:=hops c (by rw [ho];simp [Op.operands])
  rw [hc] at hcv
  have h0:=hcv.lit_inv
  cases b
  ·have hyv:=hops y (by rw [ho];simp [Op.operands])
   rw [hy] at hyv
   have h1:=hyv.lit_inv
   exact ⟨.bool false,by simp [execOp,ho,h0,h1,asBool],CRep.lit _ rfl⟩
  ·have hxv:=hops x (by rw [ho];simp [Op.operands])
   rw [hx] at hxv
   have h2:CRep w I (.lit (.bool d)) (a.eval x):=(show V1Rep w I (.ifv g (.c (.lit (.bool d)))) (a.eval x) from hxv).1 (hg rfl)
   exact ⟨a.eval x,by simp [execOp,ho,h0,asBool],h2⟩
def yT {n_:Nat} {z_:Z} {Q_:Exit->S->Prop} {rs:List (Nat×V)} {os:Array Oper} {re:List Oper} {d_:Tmp} {c x y:lv} {b d g:Bool} (hd:(dgO o,o.op,(ev rs) c,(ev rs) x,(ev rs) y)=(some d_,.pick c x y,.c (.lit (.bool b)),.ifv g (.c (.lit (.bool d))),.c (.lit (.bool false)))) (hg:b=true->g=true) (k_:RWP X n_ z_ os re Q_ ⟨(d_,(.c (.lit (.bool (b&&d)))))::rs,μ⟩):RWP X n_ z_ os (o::re) Q_ ⟨rs,μ⟩:=by
 simp only [aJ] at hd
 obtain ⟨h_,q0,q1,q2,q4⟩:=hd
 exact zAc (dgs h_).1 (dgs h_).2 (wA (e:=ev rs) q0 q1 q2 hg q4) k_
def zAr {c x y:lv} {b d g:Bool} (ho:o.op=.pick c x y) (hc:e c=.c (.lit (.bool b))) (hx:e x=.c (.lit (.bool true))) (hy:e y=.ifv g (.c (.lit (.bool d)))) (hg:b=false->g=true):Det X o e μ (.c (.lit (.bool (b||d)))) μ:=
 kN fun a w I _ hops=>by
  have hcv:=hops c (by rw [ho];simp [Op.operands])
  rw [hc] at hcv
  have h0:=hcv.lit_inv
  cases b
  ·have hyv:=hops y (by rw [ho];simp [Op.operands])
   rw [hy] at hyv
   have h2:CRep w I (.lit (.bool d)) (a.eval y):=(show V1Rep w I (.ifv g (.c (.lit (.bool d)))) (a.eval y) from hyv).1 (hg rfl)
   exact ⟨a.eval y,by simp [execOp,ho,h0,asBool],h2⟩
  ·have hxv:=hops x (by rw [ho];simp [Op.operands])
   rw [hx] at hxv
   have h1:=hxv.lit_inv
   exact ⟨.bool true,by simp [execOp,ho,h0,h1,asBool],CRep.lit _ rfl⟩
def r_or {n_:Nat} {z_:Z} {Q_:Exit->S->Prop} {rs:List (Nat×V)} {os:Array Oper} {re:List Oper} {d_:Tmp} {c x y:lv} {b d g:Bool} (hd:(dgO o,o.op,(ev rs) c,(ev rs) x,(ev rs) y)=(some d_,.pick c x y,.c (.lit (.bool b)),.c (.lit (.bool true)),.ifv g (.c (.lit (.bool d))))) (hg:b=false->g=true) (k_:RWP X n_ z_ os re Q_ ⟨(d_,(.c (.lit (.bool (b||d)))))::rs,μ⟩):RWP X n_ z_ os (o::re) Q_ ⟨rs,μ⟩:=by
 simp only [aJ] at hd
 obtain ⟨h_,q0,q1,q2,q3⟩:=hd
 exact zAc (dgs h_).1 (dgs h_).2 (zAr (e:=ev rs) q0 q1 q2 q3 hg) k_
def zBc {op:BinOp} {t ty:lu} {x y:lv} {u v r:Value} (ho:o.op=.binOp op t x y ty) (hx:e x=.c (.lit u)) (hy:e y=.c (.lit v))
  (hr:∀w,(do eqGuard op t x y u v;binOp op t u v:Sem Value).run X.P w=.ok r w) (h1:r.oneCell'=true):Det X o e μ (.c (.lit r)) μ:=
 kN fun a w I _ hops=>by
  have hxv:=hops x (by rw [ho];simp [Op.operands])
  have hyv:=hops y (by rw [ho];simp [Op.operands])
  rw [hx] at hxv
  rw [hy] at hyv
  have h0:=hxv.lit_inv
  have h2:=hyv.lit_inv
  refine ⟨r,?_,CRep.lit _ h1⟩
  have:=hr w
  simp only [execOp,ho,h0,h2,aP,this,aA,aU]
section ints
variable {t ty:lu} {x y:lv} {k:IntKind} {a b:Int}
def zMh (ho:o.op=.binOp .add t x y ty) (hx:e x=.c (.lit (.int k a))) (hy:e y=.c (.lit (.int k b))):Det X o e μ (.c (.lit (.int k (k.wrap (a+b))))) μ:=zBc ho hx hy (fun w=>by simp [go_sem]) rfl
def zOu (ho:o.op=.binOp .sub t x y ty) (hx:e x=.c (.lit (.int k a))) (hy:e y=.c (.lit (.int k b))):Det X o e μ (.c (.lit (.int k (k.wrap (a-b))))) μ:=zBc ho hx hy (fun w=>by simp [go_sem]) rfl
def zZc (ho:o.op=.binOp .mul t x y ty) (hx:e x=.c (.lit (.int k a))) (hy:e y=.c (.lit (.int k b))):Det X o e μ (.c (.lit (.int k (k.wrap (a*b))))) μ:=zBc ho hx hy (fun w=>by simp [go_sem]) rfl
def zKb (ho:o.op=.binOp .quo t x y ty) (hx:e x=.c (.lit (.int k a))) (hy:e y=.c (.lit (.int k b))) (hb:b≠0):Det X o e μ (.c (.lit (.int k (k.wrap (a.tdiv b))))) μ:=zBc ho hx hy (fun w=>by simp [eqGuard,binOp,Op.intDiv,hb]) rfl
def zOv (ho:o.op=.binOp .rem t x y ty) (hx:e x=.c (.lit (.int k a))) (hy:e y=.c (.lit (.int k b))) (hb:b≠0):Det X o e μ (.c (.lit (.int k (a.tmod b)))) μ:=zBc ho hx hy (fun w=>by simp [eqGuard,binOp,Op.intDiv,hb]) rfl
def yN (ho:o.op=.binOp .eql t x y ty) (hx:e x=.c (.lit (.int k a))) (hy:e y=.c (.lit (.int k b))):Det X o e μ (.c (.lit (.bool (decide (a=b))))) μ:=zBc ho hx hy (fun w=>by simp [go_sem];exact da.2 Iff.rfl) rfl
def yF {n_:Nat} {z_:Z} {Q_:Exit->S->Prop} {rs:List (Nat×V)} {os:Array Oper} {re:List Oper} {d_:Tmp} (hd:(dgO o,o.op,(ev rs) x,(ev rs) y)=(some d_,.binOp .eql t x y ty,.c (.lit (.int k a)),.c (.lit (.int k b))))  (k_:RWP X n_ z_ os re Q_ ⟨(d_,(.c (.lit (.bool (decide (a=b))))))::rs,μ⟩):RWP X n_ z_ os (o::re) Q_ ⟨rs,μ⟩:=by
 simp only [aJ] at hd
 obtain ⟨h_,q0,q1,q2⟩:=hd
 exact zAc (dgs h_).1 (dgs h_).2 (yN (e:=ev rs) q0 q1 q2) k_
def kB (ho:o.op=.binOp .neq t x y ty) (hx:e x=.c (.lit (.int k a))) (hy:e y=.c (.lit (.int k b))):Det X o e μ (.c (.lit (.bool (!decide (a=b))))) μ:=zBc ho hx hy (fun w=>by simp [go_sem];rfl) rfl
def yL {n_:Nat} {z_:Z} {Q_:Exit->S->Prop} {rs:List (Nat×V)} {os:Array Oper} {re:List Oper} {d_:Tmp} (hd:(dgO o,o.op,(ev rs) x,(ev rs) y)=(some d_,.binOp .neq t x y ty,.c (.lit (.int k a)),.c (.lit (.int k b))))  (k_:RWP X n_ z_ os re Q_ ⟨(d_,(.c (.lit (.bool (!decide (a=b))))))::rs,μ⟩):RWP X n_ z_ os (o::re) Q_ ⟨rs,μ⟩:=by
 simp only [aJ] at hd
 obtain ⟨h_,q0,q1,q2⟩:=hd
 exact zAc (dgs h_).1 (dgs h_).2 (kB (e:=ev rs) q0 q1 q2) k_
def zBb (ho:o.op=.binOp .lss t x y ty) (hx:e x=.c (.lit (.int k a))) (hy:e y=.c (.lit (.int k b))):Det X o e μ (.c (.lit (.bool (decide (a<b))))) μ:=zBc ho hx hy (fun w=>by simp [go_sem]) rfl
def yI {n_:Nat} {z_:Z} {Q_:Exit->S->Prop} {rs:List (Nat×V)} {os:Array Oper} {re:List Oper} {d_:Tmp} (hd:(dgO o,o.op,(ev rs) x,(ev rs) y)=(some d_,.binOp .lss t x y ty,.c (.lit (.int k a)),.c (.lit (.int k b))))  (k_:RWP X n_ z_ os re Q_ ⟨(d_,(.c (.lit (.bool (decide (a<b))))))::rs,μ⟩):RWP X n_ z_ os (o::re) Q_ ⟨rs,μ⟩:=by
 simp only [aJ] at hd
 obtain ⟨h_,q0,q1,q2⟩:=hd
 exact zAc (dgs h_).1 (dgs h_).2 (zBb (e:=ev rs) q0 q1 q2) k_
def wS (ho:o.op=.binOp .leq t x y ty) (hx:e x=.c (.lit (.int k a))) (hy:e y=.c (.lit (.int k b))):Det X o e μ (.c (.lit (.bool (decide (a<=b))))) μ:=zBc ho hx hy (fun w=>by simp [go_sem]) rfl
def yD (ho:o.op=.binOp .gtr t x y ty) (hx:e x=.c (.lit (.int k a))) (hy:e y=.c (.lit (.int k b))):Det X o e μ (.c (.lit (.bool (decide (b<a))))) μ:=zBc ho hx hy (fun w=>by simp [go_sem]) rfl
def wH (ho:o.op=.binOp .geq t x y ty) (hx:e x=.c (.lit (.int k a))) (hy:e y=.c (.lit (.int k b))):Det X o e μ (.c (.lit (.bool (decide (b<=a))))) μ:=zBc ho hx hy (fun w=>by simp [go_sem]) rfl
end ints
end plain
def nth {α:Type}:List α->Nat->Option α
 |[],_=>none
 |x::_,0=>some x
 |_::l,i+1=>nth l i
def zGp {α:Type}:∀(l:List α) (i:Nat),nth l i=l[i]?
 |[],_=>by simp [nth]
 |_::_,0=>by simp [nth]
 |_::l,i+1=>by simp [nth,zGp l i]
variable {i:Nat}
def zAy {α:Type} {l:List α} {x:α} (h:nth l i=some x):x∈l:=bg (by rw [←zGp];exact h)
def zNn (a:Addr) (i j:Nat):(a.add i).add j=a.add (i+j):=by
 unfold Addr.add
 by_cases hi:i=0<;>by_cases hj:j=0<;>simp [hi,hj,gg]
def qAc (a:Addr) (n:Nat):(a.add n).block=a.block:=by unfold Addr.add;split<;>rfl
def zFb (b o n:Nat):Addr.add ⟨b,o,none⟩ n=⟨b,o+n,none⟩:=by
 unfold Addr.add;split<;>simp_all
def Holds (w:World) (I:Nat->Prop) (a:Addr) (cells:List C):Prop:=
 ∃us:List Value,CReps w I cells us/\∀j u,us[j]? =some u->w.cell? (a.add j)=some u
def Holds.drop {w:World} {I:Nat->Prop} {a:Addr} {cells:List C} (h:Holds w I a cells) (k:Nat):Holds w I (a.add k) (cells.drop k):=by
 obtain ⟨us,hc,hu⟩:=h
 refine ⟨us.drop k,hc.drop k,fun j u hj=>?_⟩
 rw [zNn]
 exact hu _ u (by rw [←hj,fg])
def pY (μ:List E) (c:C) (cells:List C):Prop:=
 ∀(w:World) (I:Nat->Prop) (v:Value),(∀e,e∈μ->ERep w I e)->CRep w I c v->∃a,v=.pointer (some a)/\Holds w I a cells
def zZ {μ:List E} {cells:List C}:pY μ (.iptr cells) cells:=by
 intro w I v _ h
 cases h with
 |iptr _ a us hI hc hr=>
  refine ⟨a,rfl,(List.range cells.length).map us,CReps.of_at uD ?_,?_⟩
  ·intro j c v hj hv
   have hlt:j<cells.length:=(ai.1 hj).1
   rw [bu,ee hlt] at hv
   simp only [cw,ap] at hv
   subst hv
   exact hr j c hj
  ·intro j u hu
   have hlt:j<cells.length:=by have:=(ai.1 hu).1;simpa using this
   rw [bu,ee hlt] at hu
   simp only [cw,ap] at hu
   subst hu
   exact hc j hlt
variable {off:Nat}
def J {μ:List E} {b:Nat} {cs:List C} (p:Nat) (h:nth μ p=some (.row b t cs)):pY μ (.lit (.pointer (some ⟨b,off,none⟩))) (cs.drop off):=by
 intro w I v hr hv
 cases hv
 obtain ⟨vs,hh,hc⟩:=hr _ (zAy h)
 refine ⟨_,rfl,vs.drop off,hc.drop off,fun j u hu=>?_⟩
 rw [zFb,jg w b (off+j) vs.toArray t (0,0) hh]
 simpa using hu
def flat_at {size:Nat} (hl:∀r,r∈rows->r.length=size):∀{i:Nat} {row:List C},rows[i]? =some row->∃A B,rows.flatten=A++row++B/\A.length=i*size:=by
 induction rows with
 |nil=>intro i row h;simp at h
 |cons r rows ih=>
  intro i row h
  cases i with
  |zero=>simp at h;subst h;exact ⟨[],rows.flatten,uD,uD⟩
  |succ i=>
   obtain ⟨A,B,e,hA⟩:=ih (fun r hr=>hl r (by simp [hr])) (by simpa using h)
   refine ⟨r++A,B,by simp [e],?_⟩
   rw [cz,hA,hl r uD,dx,Nat.add_comm]
def wX {μ:List E} {size:Nat} {row:List C} (p:Nat) (h:nth μ p=some (.vec sv t size rows)) (hi:rows[i]? =some row):pY μ (.vptr sv size i off) (row.drop off):=by
 intro w I v hr hv
 cases hv with
 |vptr b n cap _ _ _=>
  rcases hr _ (zAy h) with ⟨_,_,rfl⟩|⟨_,xs,hown,hc,hl⟩
  ·simp at hi
  obtain ⟨A,B,e,hA⟩:=flat_at hl hi
  rw [e] at hc
  have hcell:=hown.cells (g:=b) rfl
  have hrow:row.length=size:=hl row (bg hi)
  refine ⟨_,rfl,((xs.drop (i*size)).take row.length).drop off,?_,fun j u hu=>?_⟩
  ·have h1:=(hc.drop A.length).take row.length
   rw [cv,List.drop_left,ii,hA] at h1
   exact h1.drop off
  ·rw [zFb]
   have h2:=hcell (i*size+off+j) u
   rw [zFb,bt] at h2
   refine h2 ?_
   rw [fg,bp] at hu
   split at hu
   ·rw [fg] at hu;rw [←hu];congr 1;omega
   ·cases hu
def zNv {m:Nat} (h:nE P t=some m) (w:World):(isAgg t).run P w=.ok true w/\(sizeOf t).run P w=.ok m w:=by
 unfold nE at h
 split at h
 ·rename_i fs i hu hi
  simp only [ap] at h
  constructor
  ·simp [isAgg,aE hu]
  ·simp [sizeOf,typeInfo,program,Sem.run,hi,h]
 ·rename_i len el i hu hi
  simp only [ap] at h
  constructor
  ·simp [isAgg,aE hu]
  ·simp [sizeOf,typeInfo,program,Sem.run,hi,h]
 ·cases h
def zLg (h:mM P t=true) (w:World):(isAgg t).run P w=.ok false w/\(sizeOf t).run P w=.ok 1 w:=by
 unfold mM at h
 cases hu:P.underlying t with
 |none=>simp [hu] at h
 |some d=>
  cases hi:P.info? t with
  |none=>cases d<;>simp [hu,hi] at h
  |some i=>
   have hs:i.size=1:=by cases d<;>simp [hu,hi] at h<;>exact h
   constructor
   ·cases d<;>simp [hu,hi] at h<;>simp [isAgg,aE hu]
   ·simp [sizeOf,typeInfo,hi,hs]
section mem
variable {X:Cfg} {o:Oper} {e:lv->V} {μ:List E}
def zU {t:lu} {x:lv} {c:C} {cells:List C} {m:Nat} (ho:o.op=.load t x) (ht:nE X.P t=some m) (hx:e x=.c c) (hp:pY μ c cells) (hl:Nat.ble m cells.length=true):
  Det X o e μ (.agg (cells.take m)) μ:=
 kN fun a w I hH hops=>by
  have hxv:=hops x (by rw [ho];simp [Op.operands])
  rw [hx] at hxv
  obtain ⟨ad,ha,us,hc,hu⟩:=hp w I _ hH.rep hxv
  obtain ⟨h1,h2⟩:=zNv ht w
  have hlen:m<=us.length:=by rw [←hc.length];exact cj hl
  have hload:=ko (P:=X.P) w ad (us.take m) (fun j v hj=>hu j v (by
   rw [bp] at hj
   split at hj
   ·exact hj
   ·cases hj))
  rw [aG,bw hlen] at hload
  refine ⟨.agg (us.take m).toArray,?_,us.take m,rfl,hc.take m⟩
  simp only [execOp,ho,ha,Instr.loadAt,Instr.sureAddr,loadVar,aP,aU,aA,h1,h2,iU,hload]
def zM {n_:Nat} {z_:Z} {Q_:Exit->S->Prop} {rs:List (Nat×V)} {os:Array Oper} {re:List Oper} {d_:Tmp} {t:lu} {x:lv} {c:C} {cells:List C} {m:Nat} (ht:nE X.P t=some m) (hp:pY μ c cells) (hd:(dgO o,o.op,(ev rs) x,Nat.ble m cells.length)=(some d_,.load t x,.c c,true)) (k_:RWP X n_ z_ os re Q_ ⟨(d_,(.agg (cells.take m)))::rs,μ⟩):RWP X n_ z_ os (o::re) Q_ ⟨rs,μ⟩:=by
 simp only [aJ] at hd
 obtain ⟨h_,q0,q2,q4⟩:=hd
 exact zAc (dgs h_).1 (dgs h_).2 (zU (e:=ev rs) q0 ht q2 hp q4) k_
def zD {t:lu} {x:lv} {c d:C} {cells rest:List C} (ho:o.op=.load t x) (ht:mM X.P t=true) (hx:e x=.c c) (hp:pY μ c cells) (hc:cells=d::rest):
  Det X o e μ (.c d) μ:=
 kN fun a w I hH hops=>by
  subst hc
  have hxv:=hops x (by rw [ho];simp [Op.operands])
  rw [hx] at hxv
  obtain ⟨ad,ha,us,hc,hu⟩:=hp w I _ hH.rep hxv
  obtain ⟨h1,h2⟩:=zLg ht w
  cases hc with
  |cons hd ht'=>
   rename_i u us'
   have h0:w.cell? ad=some u:=by have:=hu 0 u rfl;simpa [Addr.add] using this
   refine ⟨u,?_,hd⟩
   simp only [execOp,ho,ha,Instr.loadAt,Instr.sureAddr,loadVar,aP,aU,aA,h1,iR,jo,run_load,h0]
def zH {n_:Nat} {z_:Z} {Q_:Exit->S->Prop} {rs:List (Nat×V)} {os:Array Oper} {re:List Oper} {d_:Tmp} {t:lu} {x:lv} {c d:C} {cells rest:List C} (ht:mM X.P t=true) (hp:pY μ c cells) (hd:(dgO o,o.op,(ev rs) x,cells)=(some d_,.load t x,.c c,d::rest)) (k_:RWP X n_ z_ os re Q_ ⟨(d_,(.c d))::rs,μ⟩):RWP X n_ z_ os (o::re) Q_ ⟨rs,μ⟩:=by
 simp only [aJ] at hd
 obtain ⟨h_,q0,q2,q4⟩:=hd
 exact zAc (dgs h_).1 (dgs h_).2 (zD (e:=ev rs) q0 ht q2 hp q4) k_
def zOl {P:Program} {s:lu} {f off:Nat} {ft:lu} (h:bO P s f=some (off,ft)) (w:World) (ad:Addr):(Instr.fieldAt s (.pointer (some ad)) f).run P w=.ok (.pointer (some (ad.add off))) w:=by
 unfold bO at h
 split at h
 ·rename_i fs hu
  split at h
  ·rename_i fd hf
   split at h
   ·rename_i i hi
    split at h
    ·cases h
    ·rename_i hz
     simp only [ap,aJ] at h
     obtain ⟨rfl,rfl⟩:=h
     simp [Instr.fieldAt,aE hu,hf,Instr.sureAddr,fieldPlace,sizeOf,typeInfo,hi,hz]
   ·cases h
  ·cases h
 ·cases h
def zE {s:lu} {x:lv} {f off fo b:Nat} {ft:lu} (ho:o.op=.fieldAddr s x f) (hf:bO X.P s f=some (fo,ft)) (hx:e x=.c (.lit (.pointer (some ⟨b,off,none⟩)))):
  Det X o e μ (.c (.lit (.pointer (some ⟨b,off+fo,none⟩)))) μ:=
 kN fun a w I hH hops=>by
  have hxv:=hops x (by rw [ho];simp [Op.operands])
  rw [hx] at hxv
  have h0:=hxv.lit_inv
  refine ⟨.pointer (some ⟨b,off+fo,none⟩),?_,CRep.lit _ rfl⟩
  have:=zOl hf w ⟨b,off,none⟩
  rw [zFb] at this
  simp only [execOp,ho,h0,aP,this,aA,aU]
def zC {n_:Nat} {z_:Z} {Q_:Exit->S->Prop} {rs:List (Nat×V)} {os:Array Oper} {re:List Oper} {d_:Tmp} {s:lu} {x:lv} {f off fo b:Nat} {ft:lu} (hd:(dgO o,o.op,(ev rs) x)=(some d_,.fieldAddr s x f,.c (.lit (.pointer (some ⟨b,off,none⟩))))) (hf:bO X.P s f=some (fo,ft)) (k_:RWP X n_ z_ os re Q_ ⟨(d_,(.c (.lit (.pointer (some ⟨b,off+fo,none⟩)))))::rs,μ⟩):RWP X n_ z_ os (o::re) Q_ ⟨rs,μ⟩:=by
 simp only [aJ] at hd
 obtain ⟨h_,q0,q2⟩:=hd
 exact zAc (dgs h_).1 (dgs h_).2 (zE (e:=ev rs) q0 hf q2) k_
def qN {s:lu} {x:lv} {f fo:Nat} {ft:lu} {cells:List C} (ho:o.op=.fieldAddr s x f) (hf:bO X.P s f=some (fo,ft)) (hx:e x=.c (.iptr cells)):
  Det X o e μ (.c (.iptr (cells.drop fo))) μ:=
 kN fun a w I hH hops=>by
  have hxv:=hops x (by rw [ho];simp [Op.operands])
  rw [hx] at hxv
  have hxv':CRep w I (.iptr cells) (a.eval x):=hxv
  generalize hv:a.eval x=v at hxv'
  cases hxv' with
  |iptr _ ad us hI hc hr=>
   have:=zOl hf w ad
   refine ⟨.pointer (some (ad.add fo)),?_,?_⟩
   ·simp only [execOp,ho,hv,aP,this,aA,aU]
   ·refine CRep.iptr _ _ (fun j=>us (fo+j)) (by rw [qAc];exact hI) (fun j hj=>?_) (fun j c hj=>?_)
    ·rw [zNn];exact hc _ (by simp at hj;omega)
    ·exact hr _ c (by rw [←hj,fg])
def qR {n_:Nat} {z_:Z} {Q_:Exit->S->Prop} {rs:List (Nat×V)} {os:Array Oper} {re:List Oper} {d_:Tmp} {s:lu} {x:lv} {f fo:Nat} {ft:lu} {cells:List C} (hd:(dgO o,o.op,(ev rs) x)=(some d_,.fieldAddr s x f,.c (.iptr cells))) (hf:bO X.P s f=some (fo,ft)) (k_:RWP X n_ z_ os re Q_ ⟨(d_,(.c (.iptr (cells.drop fo))))::rs,μ⟩):RWP X n_ z_ os (o::re) Q_ ⟨rs,μ⟩:=by
 simp only [aJ] at hd
 obtain ⟨h_,q0,q2⟩:=hd
 exact zAc (dgs h_).1 (dgs h_).2 (qN (e:=ev rs) q0 hf q2) k_
def kF {s:lu} {x:lv} {f fo size i off:Nat} {ft:lu} {sv:Value} (ho:o.op=.fieldAddr s x f) (hf:bO X.P s f=some (fo,ft)) (hx:e x=.c (.vptr sv size i off)):
  Det X o e μ (.c (.vptr sv size i (off+fo))) μ:=
 kN fun a w I hH hops=>by
  have hxv:=hops x (by rw [ho];simp [Op.operands])
  rw [hx] at hxv
  have hxv':CRep w I (.vptr sv size i off) (a.eval x):=hxv
  generalize hv:a.eval x=v at hxv'
  cases hxv' with
  |vptr b n cap _ _ _=>
   have:=zOl hf w ⟨b,i*size+off,none⟩
   rw [zFb] at this
   refine ⟨.pointer (some ⟨b,i*size+(off+fo),none⟩),?_,CRep.vptr b n cap size i (off+fo)⟩
   simp only [execOp,ho,hv,aP,this,aA,aU,gg]
end mem
def zDl {μ:List E} (hH:Heap X w I μ) (ob:Obj) (en:E) (hb:en.blocks=[w.heap.size]) (hm:en.Mono) (hr:ERep (w.alloc ob) I en):
  Heap X (w.alloc ob) I (en::μ)/\Ext w I μ (w.alloc ob) I (en::μ):=by
 have hsz:(w.alloc ob).heap.size=w.heap.size+1:=by show (w.heap.push ob).size=_;simp
 have hold:∀b,b<w.heap.size->(w.alloc ob).heap[b]? =w.heap[b]? :=fun b hb=>Below.heap_alloc w ob b hb
 refine ⟨⟨by have:=hH.lo;omega,X.hG _ _ (fun b hb=>hold b (by have:=hH.lo;omega)) hH.glob,?_,?_,fun b hb=>by have:=hH.imm b hb;omega,?_,?_⟩,⟨rfl,rfl,rfl,zA,fun b hb _=>hold b hb,fun _ h=>h,fun _ h=>.inl h,?_⟩⟩
 ·rw [wW,hb]
  refine cm.2 ⟨fun h=>?_,hH.nodup⟩
  have:=hH.lt h
  omega
 ·intro b hb'
  rw [wW,hb] at hb'
  rcases af.1 hb' with rfl|h
  ·exact ⟨hH.lo,fun hi=>by have:=hH.imm _ hi;omega⟩
  ·exact hH.own b h
 ·intro e he
  rcases af.1 he with rfl|h
  ·exact hr
  ·exact (hH.rep e h).mono (hH.mono e h) (fun b hb=>hold b (hH.imm b hb)) (fun _ h=>h) fun b hb=>hold b ((hH.rep e h).lt hb)
 ·intro e he
  rcases af.1 he with rfl|h
  ·exact hm
  ·exact hH.mono e h
 ·intro b hb'
  rw [wW,hb] at hb'
  rcases af.1 hb' with rfl|h
  ·exact .inr (aH _)
  ·exact .inl h
def pN {α:Type}:List α->Nat->α->List α
 |[],_,_=>[]
 |_::l,0,y=>y::l
 |x::l,i+1,y=>x::pN l i y
def pV {α:Type}:List α->Nat->List α
 |[],_=>[]
 |_::l,0=>l
 |x::l,i+1=>x::pV l i
def zHm {α:Type}:∀{l:List α} {p:Nat} {x:α},nth l p=some x->l.Perm (x::pV l p)
 |[],_,_,h=>by simp [nth] at h
 |y::l,0,x,h=>by simp only [nth,ap] at h;subst h;exact bh _
 |y::l,p+1,x,h=>((zHm (l:=l) (p:=p) h).cons y).trans (List.Perm.swap x y _)
def zPm {α:Type} (y:α):∀{l:List α} {p:Nat} {x:α},nth l p=some x->(pN l p y).Perm (y::pV l p)
 |[],_,_,h=>by simp [nth] at h
 |z::l,0,x,h=>bh _
 |z::l,p+1,x,h=>((zPm y (l:=l) (p:=p) h).cons z).trans (List.Perm.swap y z _)
def Heap.write {μ:List E} (hH:Heap X w I μ) {p:Nat} {en en':E} (hp:nth μ p=some en) (hos:w'.os=w.os) (htp:w'.tape=w.tape) (hout:w'.output=w.output) (hsz:w.heap.size<=w'.heap.size) (hb:∀b,b<w.heap.size->b ∉ en.blocks->w'.heap[b]? =w.heap[b]?) (hnd:en'.blocks.Nodup) (hnew:∀b,b∈en'.blocks->b∈en.blocks∨w.heap.size<=b) (hm:en'.Mono) (hr:ERep w' I en'):
  Heap X w' I (pN μ p en')/\Ext w I μ w' I (pN μ p en'):=by
 have p1:=zHm hp
 have p2:=zPm en' hp
 have h1:Heap X w I ([en]++pV μ p):=hH.perm p1
 have hbl:bC [en]=en.blocks:=by simp [bC]
 have hbl':bC [en']=en'.blocks:=by simp [bC]
 have hen:=h1.left
 have still:∀b,I b->w'.heap[b]? =w.heap[b]? :=fun b hI=>hb b (hH.imm b hI) fun hm'=>(hen.own b (by rw [hbl];exact hm')).2 hI
 have glob:∀b,b<X.N->w'.heap[b]? =w.heap[b]? :=fun b hlt=>hb b (by have:=hH.lo;omega) fun hm'=>by have:=(hen.own b (by rw [hbl];exact hm')).1;omega
 have h2:Heap X w' I [en']:=by
  refine ⟨by have:=hH.lo;omega,X.hG _ _ glob hH.glob,by rw [hbl'];exact hnd,fun b hb'=>?_,fun b hI=>by have:=hH.imm b hI;omega,fun e he=>by rw [aO.1 he];exact hr,fun e he=>by rw [aO.1 he];exact hm⟩
  rw [hbl'] at hb'
  rcases hnew b hb' with h|h
  ·exact hen.own b (by rw [hbl];exact h)
  ·exact ⟨by have:=hH.lo;omega,fun hI=>by have:=hH.imm b hI;omega⟩
 have x2:Ext w I [en] w' I [en']:=⟨hos,htp,hout,hsz,fun b hlt hn=>hb b hlt (by rw [hbl] at hn;exact hn),fun _ h=>h,fun _ h=>.inl h,fun b hb'=>by rw [hbl'] at hb';rw [hbl];exact hnew b hb'⟩
 obtain ⟨h3,x3⟩:=h1.frame h2 x2
 exact ⟨h3.perm p2.symm,x3.perm p1.symm p2.symm⟩
def spl:List C->Nat->List C->List C
 |cs,0,new=>new++cs.drop new.length
 |[],_+1,_=>[]
 |c::cs,off+1,new=>c::spl cs off new
def spl_eq:∀(cs:List C) (off:Nat) (new:List C),off<=cs.length->spl cs off new=cs.take off++new++cs.drop (off+new.length)
 |cs,0,new,_=>by cases cs<;>simp [spl]
 |[],off+1,new,h=>by simp at h
 |c::cs,off+1,new,h=>by
  have:=spl_eq cs off new (by simpa using h)
  simp [spl,this,Nat.succ_add]
def spl_length {cs:List C} {new:List C} (h:off+new.length<=cs.length):(spl cs off new).length=cs.length:=by
 rw [spl_eq cs off new zA]
 simp;omega
def mD:V->Option (List C)
 |.c x=>some [x]
 |.agg l=>some l
 |_=>none
def zRr {x:V} {v:Value} {cs:List C} (h:VRep w I x v) (hc:mD x=some cs):CReps w I cs v.cells.toList:=by
 cases x with
 |c x=>
  simp only [mD,ap] at hc
  subst hc
  have h':CRep w I x v:=h
  have:v.cells= #[v]:=by
   have:=h'.one
   cases v<;>first|rfl|(simp [Value.oneCell'] at this)
  rw [this]
  exact .cons h' .nil
 |agg l=>
  simp only [mD,ap] at hc
  subst hc
  obtain ⟨vs,rfl,hv⟩:=h.agg_inv
  simpa [Value.cells] using hv
 |_=>simp [mD] at hc
section mem
variable {X:Cfg} {o:Oper} {e:lv->V} {μ:List E}
def ope_new {t:lu} {cells:List C} (h:∀(a:Act) (w:World) (I:Nat->Prop),(∀x,x∈o.op.operands->VRep w I (e x) (a.eval x))->∃vs:List Value,(execOp a.eval o).run X.P w=.ok (.value (.pointer (some ⟨w.heap.size,0,none⟩))) (w.alloc (.cells vs.toArray t))/\CReps w I cells vs):
  OpE X o e μ fun r μ'=>∃b,r=.c (.lit (.pointer (some ⟨b,0,none⟩)))/\μ'=.row b t cells::μ:=by
 intro a w I hH hops K Q k
 obtain ⟨vs,hrun,hc⟩:=h a w I hops
 have hold:∀b,I b->(w.alloc (.cells vs.toArray t)).heap[b]? =w.heap[b]? :=fun b hb=>Below.heap_alloc w _ b (hH.imm b hb)
 obtain ⟨h1,h2⟩:=zDl hH (.cells vs.toArray t) (.row w.heap.size t cells) rfl trivial ⟨vs,dh w _,hc.mono hold fun _ h=>h⟩
 exact zCa hrun (k _ _ _ _ _ ⟨w.heap.size,rfl,rfl⟩ (CRep.lit _ rfl) h1 h2)
def qJ {t:lu} {x:lv} {cells:List C} (ho:o.op=.box t x) (hx:mD (e x)=some cells):OpE X o e μ fun r μ'=>∃b,r=.c (.lit (.pointer (some ⟨b,0,none⟩)))/\μ'=.row b t cells::μ:=
 ope_new fun a w I hops=>⟨(a.eval x).cells.toList,by simp [execOp,ho,Instr.box,newVar,newRow,go_sem],zRr (hops x (by rw [ho];simp [Op.operands])) hx⟩
def mj {X:Cfg} {n:Nat} {z:Z} {Q:Exit->S->Prop} {r:List (Nat×V)} {u:List E} {os:Array Oper} {re:List Oper} {o:Oper} {d:Tmp} {t:lu} {x:lv} {cs:List C} (h:(dgO o,o.op,mD (ev r x))=(some d,.box t x,some cs)) (k:∀b,RWP X n z os re Q ⟨(d,.c (.lit (.pointer (some ⟨b,0,none⟩))))::r,.row b t cs::u⟩):RWP X n z os (o::re) Q ⟨r,u⟩:=by
 simp only [Prod.mk.injEq] at h
 obtain ⟨h1,h2,h3⟩:=h
 refine zV (dgs h1).1 (dgs h1).2 (qJ h2 h3) ?_
 rintro _ _ ⟨b,rfl,rfl⟩;exact k b
def qW {t:lu} {zs:List Value} (ho:o.op=.alloc t) (hz:fL X.P t=some zs):OpE X o e μ fun r μ'=>∃b,r=.c (.lit (.pointer (some ⟨b,0,none⟩)))/\μ'=.row b t (zs.map .lit)::μ:=
 ope_new fun a w I hops=>by
  unfold fL at hz
  split at hz
  ·rename_i i hi
   split at hz
   ·rename_i v hv
    split at hz
    ·rename_i hall
     simp only [ap] at hz
     subst hz
     refine ⟨v.cells.toList,by simp [execOp,ho,Instr.alloc,zeroValue,typeInfo,hi,hv,newVar,newRow,go_sem],CReps.lits _ fun u hu=>?_⟩
     rw [dr] at hall
     exact hall u (by simpa using hu)
    ·cases hz
   ·cases hz
  ·cases hz
def sD (μ:List E) (c:C) (new:List C) (μ':List E):Prop:=
 ∀(X:Cfg) (w:World) (I:Nat->Prop) (v:Value) (us:List Value),Heap X w I μ->CRep w I c v->CReps w I new us->
  ∃a w',v=.pointer (some a)/\(storeCells a us).run X.P w=.ok () w'/\Heap X w' I μ'/\Ext w I μ w' I μ'
def zFu {μ:List E} {b off:Nat} {t:lu} {cs new:List C} (p:Nat) (h:nth μ p=some (.row b t cs)) (hl:Nat.ble (off+new.length) cs.length=true):
  sD μ (.lit (.pointer (some ⟨b,off,none⟩))) new (pN μ p (.row b t (spl cs off new))):=by
 intro X w I v us hH hv hus
 cases hv
 have hle:=cj hl
 obtain ⟨vs,hh,hc⟩:=hH.rep _ (zAy h)
 have hlen:=hc.length
 have hlen':=hus.length
 have hst:=ky X.P b off t us 0 vs.toArray w hh uE hus.one
 refine ⟨_,_,rfl,hst,?_⟩
 have still:∀k,I k->(w.setRow b (vs.take (off+0)++us++vs.drop (off+0+us.length)).toArray).heap[k]? =w.heap[k]? :=fun k hk=>iT w b k _ (fun e=>(hH.own b (zAf (zAy h) (by simp [E.blocks]))).2 (e ▸ hk))
 refine Heap.write hH h rfl rfl rfl uD (fun k _ hk=>iT w b k _ (by simpa [E.blocks] using hk)) (by simp [E.blocks]) (fun k hk=>.inl hk) trivial ⟨vs.take off++us++vs.drop (off+us.length),?_,?_⟩
 ·simpa using setRow_heap w b vs.toArray (vs.take off++us++vs.drop (off+us.length)).toArray t (0,0) hh
 ·rw [spl_eq cs off new zA]
  refine CReps.mono still (fun _ h=>h) (((hc.take off).append hus).append ?_)
  rw [hlen']
  exact hc.drop _
def flat_set {size:Nat}:∀{rows:List (List C)} {i:Nat} {row new:List C},(∀r,r∈rows->r.length=size)->rows[i]? =some row->(rows.set i new).flatten=rows.flatten.take (i*size)++new++rows.flatten.drop (i*size+size)
 |[],i,row,new,_,h=>by simp at h
 |r::rows,0,row,new,hl,h=>by
  have:=hl r uD
  simp [←this]
 |r::rows,i+1,row,new,hl,h=>by
  have ih:=flat_set (size:=size) (rows:=rows) (i:=i) (row:=row) (new:=new) (fun r hr=>hl r (by simp [hr])) (by simpa using h)
  have hr:=hl r uD
  rw [iP,ez,ih,ez,dx]
  have e1:(r++rows.flatten).take (i*size+size)=r++rows.flatten.take (i*size):=by
   rw [jd,hr,kv,aS zA]
  have e2:(r++rows.flatten).drop (i*size+size+size)=rows.flatten.drop (i*size+size):=by
   rw [gd,hr,kv,dp zA,fk]
  rw [e1,e2]
  simp
def splice_get {α:Type} (A us:List α) (p j:Nat) (h:p+us.length<=A.length):(A.take p++us++A.drop (p+us.length))[j]? =if j<p then A[j]? else if j<p+us.length then us[j-p]? else A[j]?:=by
 by_cases h1:j<p
 ·rw [ab h1,cv,dt uE,bp,ab h1]
 ·rw [aa h1]
  by_cases h2:j<p+us.length
  ·rw [ab h2,cv,dl uE,aG,bw zA,dt zA]
  ·rw [aa h2,dl uE,fg]
   congr 1
   simp;omega
def splice_take {α:Type} (A us:List α) (p n:Nat) (h:p+us.length<=n) (hn:n<=A.length):(A.take p++us++A.drop (p+us.length)).take n=(A.take n).take p++us++(A.take n).drop (p+us.length):=by
 apply gn
 intro j
 rw [bp,splice_get A us p j zA,splice_get (A.take n) us p j uE,bp]
 by_cases h1:j<p
 ·rw [ab h1,ab h1]
 ·rw [aa h1,aa h1]
  by_cases h2:j<p+us.length
  ·rw [ab h2,ab h2,ab zA]
  ·rw [aa h2,aa h2]
def zDp {μ:List E} {sv:Value} {size i off:Nat} {t:lu} {rows:List (List C)} {row new:List C} (p:Nat) (h:nth μ p=some (.vec sv t size rows)) (hi:rows[i]? =some row) (hl:Nat.ble (off+new.length) row.length=true):
  sD μ (.vptr sv size i off) new (pN μ p (.vec sv t size (rows.set i (spl row off new)))):=by
 intro X w I v us hH hv hus
 cases hv with
 |vptr b n cap _ _ _=>
  have hle:=cj hl
  rcases hH.rep _ (zAy h) with ⟨_,_,rfl⟩|⟨hne,xs,hown,hc,hr⟩
  ·simp at hi
  have hsvB:svB (.slice (some ⟨b,0,none⟩) n cap)=[b]:=by cases cap with|zero=>exact absurd rfl hne|succ c=>rfl
  have hrow:row.length=size:=hr row (bg hi)
  have hilt:i<rows.length:=(ai.1 hi).1
  have hlenx:=hown.1
  have hus':=hus.length
  have hmul:i*size+size<=rows.length*size:=by
   have:=dc size (show i+1<=rows.length by omega)
   rwa [dx] at this
  rcases hown.2 with ⟨h0,_⟩|⟨g,cap',cur,h1,_,hh,hcap,hmax,hsz,htake⟩
  ·cases h0
  ·cases h1
   have hcur:rows.length*size<=cur.size:=by rw [hsz];exact dc size hcap
   have hst:=ky X.P b (i*size+off) t us 0 cur w hh zA hus.one
   refine ⟨_,_,rfl,hst,?_⟩
   have still:∀k,I k->(w.setRow b (cur.toList.take (i*size+off+0)++us++cur.toList.drop (i*size+off+0+us.length)).toArray).heap[k]? =w.heap[k]? :=fun k hk=>iT w b k _ (fun e=>(hH.own b (zAf (zAy h) (by simp [E.blocks,hsvB]))).2 (e ▸ hk))
   refine Heap.write hH h rfl rfl rfl uD (fun k _ hk=>iT w b k _ (by simpa [E.blocks,hsvB] using hk)) (by simp [E.blocks,hsvB]) (fun k hk=>.inl (by simpa [E.blocks] using hk)) trivial (.inr ⟨hne,xs.take (i*size+off)++us++xs.drop (i*size+off+us.length),?_,?_,?_⟩)
   ·refine ⟨uE,.inr ⟨b,cap,_,uD,bn _,setRow_heap w b cur _ t (0,0) hh,by simpa using hcap,hmax,uE,?_⟩⟩
    rw [ed,←htake]
    simp only [jy]
    exact splice_take cur.toList us (i*size+off) (rows.length*size) zA (by simpa using hcur)
   ·rw [flat_set hr hi,spl_eq row off new zA]
    obtain ⟨A,B,e',hA⟩:=flat_at hr hi
    have h1:rows.flatten.take (i*size)=A:=by rw [e',cv,←hA,ii]
    have h2:rows.flatten.drop (i*size+size)=B:=by
     rw [e',←hA,←hrow,←cz,List.drop_left]
    rw [h1,h2]
    rw [e'] at hc
    have hc1:=hc.take (i*size+off)
    have hc2:=hc.drop (i*size+off+new.length)
    have e1:(A++row++B).take (i*size+off)=A++row.take off:=by
     rw [cv,jd,hA,dg,aS zA,dz zA]
    have e2:(A++row++B).drop (i*size+off+new.length)=row.drop (off+new.length)++B:=by
     rw [cv,gd,hA,dp zA,fk,show i*size+off+new.length-i*size=off+new.length by omega,List.drop_append_of_le_length zA]
    rw [e1] at hc1
    rw [e2] at hc2
    refine CReps.mono still (fun _ h=>h) ?_
    have:=(hc1.append hus).append hc2
    rw [←hus']
    simpa [cv] using this
   ·intro r hr'
    rcases ge hr' with h|h
    ·exact hr r h
    ·rw [h,spl_length zA,hrow]
def yM {t:lu} {x y:lv} {c:C} {new:List C} {μ':List E} {m:Nat} (ho:o.op=.store t x y) (ht:(X.P.info? t).map (·.size)=some m) (hx:e x=.c c) (hy:mD (e y)=some new) (hnm:Nat.beq new.length m=true) (hst:sD μ c new μ'):Det X o e μ .un μ':=by
 obtain rfl:new.length=m:=bk hnm
 intro a w I hH hops K Q k
 have hxv:=hops x (by rw [ho];simp [Op.operands])
 rw [hx] at hxv
 have hyv:=zRr (hops y (by rw [ho];simp [Op.operands])) hy
 obtain ⟨ad,w',ha,hrun,hH',hx'⟩:=hst X w I _ _ hH hxv hyv
 refine wp_unit ?_ (k undef .un μ' I w' ⟨rfl,rfl⟩ trivial hH' hx')
 obtain ⟨i,hi,hs⟩:=jw.1 ht
 have hsz:(a.eval y).cells.size=i.size:=by rw [hs,hyv.length];simp
 simp only [execOp,ho,ha,Instr.storeAt,Instr.sureAddr,storeVar,aP,aU,aA,sizeOf,typeInfo,il,hi,hsz,ne_eq,not_true_eq_false,jo,hrun]
def rStR {X:Cfg} {n:Nat} {z:Z} {Q:Exit->S->Prop} {rs:List (Nat×V)} {μ:List E} {os:Array Oper} {re:List Oper} {o:Oper} {t tt:lu} {x y:lv} {b off m:Nat} {cs new:List C} (p:Nat) (ht:(X.P.info? t).map (·.size)=some m)
  (h:(o.dst,o.guard,o.op,ev rs x,mD (ev rs y),Nat.beq new.length m,nth μ p,Nat.ble (off+new.length) cs.length)=(none,none,.store t x y,.c (.lit (.pointer (some ⟨b,off,none⟩))),some new,true,some (.row b tt cs),true)) (k:RWP X n z os re Q ⟨rs,pN μ p (.row b tt (spl cs off new))⟩):RWP X n z os (o::re) Q ⟨rs,μ⟩:=by
 simp only [aJ] at h
 obtain ⟨h1,h2,h3,h4,h5,h6,h7,h8⟩:=h
 exact kS h1 h2 (yM h3 ht h4 h5 h6 (zFu p h7 h8)) k
/-! ## Slices -/
def kT {P:Program} {t et:lu} {size bytes:Nat} (h:fB P t=some (et,size,bytes)):P.underlying t=some (.slice et)/\∃i z,P.info? et=some i/\i.zero=some z/\i.size=size/\i.bytes=bytes/\z.cells.size=size/\0<size:=by
 unfold fB at h
 split at h
 ·rename_i e hu
  split at h
  ·rename_i i hi
   split at h
   ·rename_i zv hz
    split at h
    ·rename_i hc
     simp only [ap,aJ] at h
     obtain ⟨rfl,rfl,rfl⟩:=h
     exact ⟨hu,i,zv,hi,hz,rfl,rfl,hc.1,hc.2⟩
    ·cases h
   ·cases h
  ·cases h
 ·cases h
def qE {t et:lu} {x y:lv} {size bytes:Nat} {rows:List (List C)} {row:List C} {k:IntKind} {i:Int} (ho:o.op=.indexAddr t x y) (ht:fB X.P t=some (et,size,bytes)) (hx:e x=.c (.sl size rows)) (hy:e y=.c (.lit (.int k i)))
  (h0:0<=i) (hrow:rows[i.toNat]? =some row):Det X o e μ (.c (.iptr row)) μ:=
 kN fun a w I hH hops=>by
  obtain ⟨hu,inf,z,hi,hz,hs,hby,hzs,hpos⟩:=kT ht
  have hxv:=hops x (by rw [ho];simp [Op.operands])
  have hyv:=hops y (by rw [ho];simp [Op.operands])
  rw [hx] at hxv
  rw [hy] at hyv
  have h2:=hyv.lit_inv
  have hxv':CRep w I (.sl size rows) (a.eval x):=hxv
  have hlt:i.toNat<rows.length:=(ai.1 hrow).1
  generalize hv:a.eval x=v at hxv'
  cases hxv' with
  |nil=>simp at hlt
  |sl _ _ ad cap us hI hl hcap hc hr=>
   have hlt':i<(rows.length:Int):=by omega
   refine ⟨.pointer (some (ad.add (i.toNat*size))),?_,?_⟩
   ·simp [execOp,ho,hv,h2,Instr.indexAt,asIntOf,aE hu,h0,hlt',sizeOf,typeInfo,hi,hs]
   ·refine CRep.iptr _ _ (us i.toNat) (by rw [qAc];exact hI) (fun j hj=>?_) (fun j c hj=>hr _ _ hrow j c hj)
    rw [zNn]
    exact hc _ _ hlt (by rw [hl row (bg hrow)] at hj;exact hj)
def qC {n_:Nat} {z_:Z} {Q_:Exit->S->Prop} {rs:List (Nat×V)} {os:Array Oper} {re:List Oper} {d_:Tmp} {t et:lu} {x y:lv} {size bytes:Nat} {rows:List (List C)} {row:List C} {k:IntKind} {i:Int} (hd:(dgO o,o.op,(ev rs) x,(ev rs) y)=(some d_,.indexAddr t x y,.c (.sl size rows),.c (.lit (.int k i)))) (ht:fB X.P t=some (et,size,bytes)) (h0:0<=i) (hrow:rows[i.toNat]? =some row) (k_:RWP X n_ z_ os re Q_ ⟨(d_,(.c (.iptr row)))::rs,μ⟩):RWP X n_ z_ os (o::re) Q_ ⟨rs,μ⟩:=by
 simp only [aJ] at hd
 obtain ⟨h_,q0,q2,q3⟩:=hd
 exact zAc (dgs h_).1 (dgs h_).2 (qE (e:=ev rs) q0 ht q2 q3 h0 hrow) k_
def qT {t et et':lu} {x y:lv} {size bytes:Nat} {rows:List (List C)} {sv:Value} {k:IntKind} {i:Int} (p:Nat) (ho:o.op=.indexAddr t x y) (ht:fB X.P t=some (et,size,bytes)) (hx:e x=.c (.lit sv)) (hp:nth μ p=some (.vec sv et' size rows)) (hy:e y=.c (.lit (.int k i)))
  (h0:0<=i) (hlt:i.toNat<rows.length):Det X o e μ (.c (.vptr sv size i.toNat 0)) μ:=
 kN fun a w I hH hops=>by
  obtain ⟨hu,inf,z,hi,hz,hs,hby,hzs,hpos⟩:=kT ht
  have hxv:=hops x (by rw [ho];simp [Op.operands])
  have hyv:=hops y (by rw [ho];simp [Op.operands])
  rw [hx] at hxv
  rw [hy] at hyv
  have h1:=hxv.lit_inv
  have h2:=hyv.lit_inv
  rcases hH.rep _ (zAy hp) with ⟨_,_,rfl⟩|⟨_,xs,⟨hl,hown⟩,hc,hr⟩
  ·simp at hlt
  rcases hown with ⟨_,hn⟩|⟨g,cap,cur,rfl,_⟩
  ·omega
  ·have hlt':i<(rows.length:Int):=by omega
   refine ⟨.pointer (some ⟨g,i.toNat*size+0,none⟩),?_,CRep.vptr g rows.length cap size i.toNat 0⟩
   have:=zFb g 0 (i.toNat*size)
   rw [bt] at this
   simp [execOp,ho,h1,h2,Instr.indexAt,asIntOf,aE hu,h0,hlt',sizeOf,typeInfo,hi,hs,this]
def det_len_sl {t et:lu} {x:lv} {size bytes:Nat} {rows:List (List C)} (ho:o.op=.call { callee:=.builtin .len,args:= #[x],argTypes:= #[t] }) (ht:fB X.P t=some (et,size,bytes)) (hx:e x=.c (.sl size rows)):Det X o e μ (.c (.lit (.int .i64 rows.length))) μ:=
 kN fun a w I hH hops=>by
  obtain ⟨hu,_⟩:=kT ht
  have hxv:=hops x (by rw [ho];simp [Op.operands,Call.operands])
  rw [hx] at hxv
  have hxv':CRep w I (.sl size rows) (a.eval x):=hxv
  refine ⟨.int .i64 rows.length,?_,CRep.lit _ rfl⟩
  generalize hv:a.eval x=v at hxv'
  cases hxv' with
  |nil=>simp [execOp,ho,hv,resolve,invoke,builtin,Builtin.len_,aE hu,goInt]
  |sl _ _ ad cap us hI hl hcap hc hr=>simp [execOp,ho,hv,resolve,invoke,builtin,Builtin.len_,aE hu,goInt]
def kM {t et et':lu} {x:lv} {size bytes:Nat} {rows:List (List C)} {sv:Value} (p:Nat) (ho:o.op=.call { callee:=.builtin .len,args:= #[x],argTypes:= #[t] }) (ht:fB X.P t=some (et,size,bytes)) (hx:e x=.c (.lit sv)) (hp:nth μ p=some (.vec sv et' size rows)):Det X o e μ (.c (.lit (.int .i64 rows.length))) μ:=
 kN fun a w I hH hops=>by
  obtain ⟨hu,_⟩:=kT ht
  have hxv:=hops x (by rw [ho];simp [Op.operands,Call.operands])
  rw [hx] at hxv
  have h1:=hxv.lit_inv
  refine ⟨.int .i64 rows.length,?_,CRep.lit _ rfl⟩
  rcases hH.rep _ (zAy hp) with ⟨_,rfl,rfl⟩|⟨_,xs,⟨hl,hown⟩,hc,hr⟩
  ·simp [execOp,ho,h1,resolve,invoke,builtin,Builtin.len_,aE hu,goInt]
  rcases hown with ⟨rfl,hn⟩|⟨g,cap,cur,rfl,_⟩
  ·simp [execOp,ho,h1,resolve,invoke,builtin,Builtin.len_,aE hu,goInt,hn]
  ·simp [execOp,ho,h1,resolve,invoke,builtin,Builtin.len_,aE hu,goInt]
def zBr {t:lu} {x:lv} {s:lr} (ho:o.op=.call { callee:=.builtin .len,args:= #[x],argTypes:= #[t] }) (ht:X.P.underlying t=some .string) (hx:e x=.c (.lit (.string s))):Det X o e μ (.c (.lit (.int .i64 s.size))) μ:=
 kN fun a w I hH hops=>by
  have hxv:=hops x (by rw [ho];simp [Op.operands,Call.operands])
  rw [hx] at hxv
  have h1:=hxv.lit_inv
  exact ⟨.int .i64 s.size,by simp [execOp,ho,h1,resolve,invoke,builtin,Builtin.len_,aE ht,goInt],CRep.lit _ rfl⟩
def rows_of_flat {w:World} {I:Nat->Prop} {size:Nat}:∀{rows:List (List C)} {us:List Value},(∀r,r∈rows->r.length=size)->CReps w I rows.flatten us->us.length=rows.length*size
 |[],us,_,h=>by simpa using h.length.symm
 |r::rows,us,hl,h=>by
  have:=h.length
  have h2:∀rows:List (List C),(∀r,r∈rows->r.length=size)->rows.flatten.length=rows.length*size:=by
   intro rows hl
   induction rows with
   |nil=>simp
   |cons r rows ih=>simp [ih fun r hr=>hl r (by simp [hr]),hl r uD,dx,Nat.add_comm]
  rw [←this,h2 _ hl]
def sl_flat {w:World} {I:Nat->Prop} {size:Nat} {rows:List (List C)} {v:Value} (h:CRep w I (.sl size rows) v):
  (rows=[]/\∃a cap,v=.slice a 0 cap)∨∃ad cap us,v=.slice (some ad) rows.length cap/\CReps w I rows.flatten us/\us.length=rows.length*size/\(∀r,r∈rows->r.length=size)/\∀j u,us[j]? =some u->w.cell? (ad.add j)=some u:=by
 cases h with
 |nil _ a cap=>exact .inl ⟨rfl,a,cap,rfl⟩
 |sl _ _ ad cap us hI hl hcap hc hr=>
  refine .inr ⟨ad,cap,(List.range rows.length).flatMap fun i=>(List.range size).map fun j=>us i j,rfl,?_,?_,hl,?_⟩
  ·clear hc hcap
   induction rows generalizing us with
   |nil=>simp;exact .nil
   |cons r rows ih=>
    have ih':=ih (fun i=>us (i+1)) (fun i r' h j c=>hr (i+1) r' (by simpa using h) j c) (fun r hr'=>hl r (by simp [hr']))
    rw [gq,List.range_succ_eq_map,cg,ez]
    refine CReps.append ?_ (by simpa [List.flatMap_map] using ih')
    refine CReps.of_at (by simp [hl r uD]) fun j c v hj hv=>?_
    have hlt:j<size:=by rw [←hl r uD];exact (ai.1 hj).1
    rw [bu,ee hlt] at hv
    simp only [cw,ap] at hv
    subst hv
    exact hr 0 r uD j c hj
  ·have:∀n,((List.range n).flatMap fun i=>(List.range size).map fun j=>us i j).length=n*size:=by
    intro n
    induction n with
    |zero=>simp
    |succ n ih=>rw [ey,ef,cz,ih];simp [dx]
   exact this _
  ·have key:∀n,n<=rows.length->∀j u,((List.range n).flatMap fun i=>(List.range size).map fun j=>us i j)[j]? =some u->w.cell? (ad.add j)=some u:=by
    intro n
    induction n with
    |zero=>intro _ j u h;simp at h
    |succ n ih=>
     intro hn j u h
     have hlen:((List.range n).flatMap fun i=>(List.range size).map fun j=>us i j).length=n*size:=by
      clear ih h hn
      induction n with
      |zero=>simp
      |succ n ih=>rw [ey,ef,cz,ih];simp [dx]
     rw [ey,ef] at h
     by_cases hj:j<n*size
     ·rw [dt (by rw [hlen];exact hj)] at h
      exact ih zA j u h
     ·rw [dl (by rw [hlen];omega),hlen] at h
      simp only [cg,List.flatMap_nil,jm] at h
      have hlt:j-n*size<size:=by have:=(ai.1 h).1;simpa using this
      rw [bu,ee hlt] at h
      simp only [cw,ap] at h
      subst h
      have:=hc n (j-n*size) zA hlt
      rwa [show n*size+(j-n*size)=j by omega] at this
   exact key _ (aH _)
def zPr {P:Program} (w:World) (base:Nat) (t ty e:lu) (i:TypeInfo) (size:Nat) (ht:P.underlying t=some (.slice e)) (hi:P.info? e=some i)
  (v:Value) (n:Nat) (xs:List Value) (hown:w.ownsRow base e size v n xs) (a:Option Addr) (c:Nat):(Builtin.append_ #[t,t] ty #[v,.slice a 0 c]).run P w=.ok v w:=by
 have hl:∀ad:Addr,(loadCells ad 0).run P w=.ok #[] w:=fun ad=>by simp [loadCells,loadCellsFrom]
 rcases hown.2 with ⟨rfl,rfl⟩|⟨g,cap,cur,rfl,_,_,hnc,_⟩
 ·cases a<;>simp [Builtin.append_,aE ht,sizeOf,typeInfo,hi,Builtin.lenOf,Builtin.firstCells,hl]
 ·cases a<;>simp [Builtin.append_,aE ht,sizeOf,typeInfo,hi,Builtin.lenOf,Builtin.firstCells,hnc,storeCells,hl]
def zWt {P:Program} (w:World) (base:Nat) (t ty et:lu) (size bytes:Nat) (ht:fB P t=some (et,size,bytes)) (v:Value) (n:Nat) (xs:List Value) (hown:w.ownsRow base et size v n xs)
  {I:Nat->Prop} {news:List (List C)} {u:Value} (hu:CRep w I (.sl size news) u) (h63:n+news.length<=maxLen) (hbytes:(n+news.length)*bytes<=140737488355328) (hbase:base<=w.heap.size):
  ∃v' w' us,(Builtin.append_ #[t,t] ty #[v,u]).run P w=.ok v' w'/\w'.ownsRow base et size v' (n+news.length) (xs++us)/\w.grownBy w' v.ownBlock/\(v'.ownBlock=v.ownBlock∨v'.ownBlock=some w.heap.size)/\CReps w I news.flatten us/\(∀r,r∈news->r.length=size):=by
 obtain ⟨htu,i,z,hi,hz,hs,hby,hzs,hpos⟩:=kT ht
 rcases sl_flat hu with ⟨rfl,a,cap,rfl⟩|⟨ad,cap,us,rfl,hc,hl,hrl,hcell⟩
 ·exact ⟨v,w,[],zPr w base t ty et i size htu hi v n xs hown a cap,by simpa using hown,World.grownBy.refl w _,.inl rfl,by simp;exact .nil,uD⟩
 ·obtain ⟨v',w',hrun,h2,h3,_,h5⟩:=run_append_own_at (P:=P) w base t ty et i z size bytes htu hi hz hs hby hzs hpos v n xs hown ad news.length cap us hl hcell hc.one h63 hbytes hbase
  exact ⟨v',w',us,hrun,h2,h3,h5,hc,hrl⟩
def zLi {P:Program} (w:World) (t ty e:lu) (i:TypeInfo) (ht:P.underlying t=some (.slice e)) (hi:P.info? e=some i) (a a':Option Addr) (c:Nat):
  (Builtin.append_ #[t,t] ty #[.slice a 0 0,.slice a' 0 c]).run P w=.ok (.slice a 0 0) w:=by
 have hl:∀ad:Addr,(loadCells ad 0).run P w=.ok #[] w:=fun ad=>by simp [loadCells,loadCellsFrom]
 cases a<;>cases a'<;>simp [Builtin.append_,aE ht,sizeOf,typeInfo,hi,Builtin.lenOf,Builtin.firstCells,storeCells,hl]
def zNw {P:Program} {w:World} {I:Nat->Prop} {t ty et:lu} {size bytes:Nat} (ht:fB P t=some (et,size,bytes)) {sv:Value} {rows:List (List C)} (hrep:ERep w I (.vec sv et size rows)) {news:List (List C)} {u:Value} (hu:CRep w I (.sl size news) u)
  (himm:∀b,I b->b<w.heap.size/\b ∉ svB sv) (h63:rows.length+news.length<=maxLen) (hbytes:(rows.length+news.length)*bytes<=140737488355328):
  ∃v' w',(Builtin.append_ #[t,t] ty #[sv,u]).run P w=.ok v' w'/\w'.os=w.os/\w'.tape=w.tape/\w'.output=w.output/\w.heap.size<=w'.heap.size/\(∀b,b<w.heap.size->b ∉ (E.vec sv et size rows).blocks->w'.heap[b]? =w.heap[b]?)/\
   (∀b,b∈(E.vec v' et size (rows++news)).blocks->b∈(E.vec sv et size rows).blocks∨w.heap.size<=b)/\ERep w' I (.vec v' et size (rows++news))/\v'.oneCell'=true:=by
 rcases hrep with ⟨a,rfl,rfl⟩|⟨hne,xs,hown,hc,hr⟩
 ·obtain ⟨htu,i,z,hi,hz,hs,hby,hzs,hpos⟩:=kT ht
  by_cases h0:news=[]
  ·subst h0
   rcases sl_flat hu with ⟨_,a',cap,rfl⟩|⟨ad,cap,us,rfl,_⟩
   ·exact ⟨_,w,zLi w t ty et i htu hi a a' cap,rfl,rfl,rfl,aH _,fun _ _ _=>rfl,fun b h=>.inl h,.inl ⟨a,rfl,rfl⟩,rfl⟩
   ·exact ⟨_,w,zLi w t ty et i htu hi a (some ad) cap,rfl,rfl,rfl,aH _,fun _ _ _=>rfl,fun b h=>.inl h,.inl ⟨a,rfl,rfl⟩,rfl⟩
  ·have hlen:0<news.length:=List.length_pos_iff.2 h0
   rcases sl_flat hu with ⟨h,_⟩|⟨ad,cap,us,rfl,hcu,hl,hrl,hcell⟩
   ·exact absurd h h0
   ·simp only [lq,bt] at h63 hbytes
    have h63':(news.length:Int)<=9223372036854775807:=by simp only [maxLen] at h63;omega
    subst hs hby
    have hrun:(Builtin.append_ #[t,t] ty #[.slice a 0 0,.slice (some ad) news.length cap]).run P w=
      .ok (.slice (some ⟨w.heap.size,0,none⟩) news.length (grownCap w news.length 0 et)) (w.drew.alloc (.cells (us.toArray++Builtin.zeroCells z.cells (grownCap w news.length 0 et-news.length)) et)):=by
     cases a with
     |none=>exact run_append_nil (P:=P) w t ty et i z htu hi hz ad news.length cap us hl hcell hlen h63' zA
     |some a=>
      have:=run_append_grow (P:=P) w t ty et i z htu hi hz a 0 0 [] uD (fun j v h=>by simp at h) ad news.length cap us hl hcell zA zA (by rw [bt,kz hlen];omega)
      simpa using this
    have hge:=grownCap_ge w news.length 0 et
    have hcm:grownCap w news.length 0 et<=maxLen:=kp w news.length 0 et h63
    generalize grownCap w news.length 0 et=gc at *
    have hold:∀b,b<w.heap.size->(w.drew.alloc (.cells (us.toArray++Builtin.zeroCells z.cells (gc-news.length)) et)).heap[b]? =w.heap[b]? :=fun b hb=>heap_alloc_old w.drew _ hb
    refine ⟨_,_,hrun,rfl,rfl,rfl,uD,fun b hb _=>hold b hb,fun b hb=>?_,?_,rfl⟩
    ·have:=svB_own hb
     simp only [Value.ownBlock,ap] at this
     exact .inr (jx this)
    ·refine zOf (xs:=us) ⟨by simpa using hl,.inr ⟨w.heap.size,gc,_,uD,bn _,dh w.drew _,by simpa using hge,hcm,?_,?_⟩⟩ ?_ (by simpa using hrl)
     ·simp only [lj,lf,size_zeroCells,hzs,hl,←ej]
      congr 1
      omega
     ·simp only [Array.toList_append,fk]
      rw [←hl]
      exact ii
     ·simpa using hcu.mono (fun b hb=>hold b (himm b hb).1) fun _ h=>h
 ·obtain ⟨v',w',us,hrun,hown',hg,hblk,hcu,hrl⟩:=zWt (P:=P) w 0 t ty et size bytes ht sv rows.length xs hown hu h63 hbytes (bn _)
  have still:∀b,I b->w'.heap[b]? =w.heap[b]? :=fun b hb=>hg.block b (himm b hb).1 fun e'=>(himm b hb).2 (svB_of hne e'.symm)
  have hone:v'.oneCell'=true:=by
   rcases hown'.2 with ⟨rfl,_⟩|⟨g,cap,cur,rfl,_⟩<;>rfl
  refine ⟨v',w',hrun,hg.os,hg.tape,hg.output,hg.size,fun b hb hnb=>hg.block b hb fun e'=>hnb (svB_of hne e'.symm),fun b hb'=>?_,?_,hone⟩
  ·have h1:=svB_own hb'
   rcases hblk with h|h
   ·rw [h] at h1;exact .inl (svB_of hne h1)
   ·rw [h] at h1;simp only [ap] at h1;exact .inr (jx h1)
  ·exact zOf (xs:=xs++us) (by rw [cz];exact hown') (by rw [gy];exact (hc.mono still fun _ h=>h).append (hcu.mono still fun _ h=>h)) fun r hr'=>by
    rcases aq.1 hr' with h|h
    ·exact hr r h
    ·exact hrl r h
def yO {t et:lu} {x y:lv} {size bytes:Nat} {rows news:List (List C)} {sv:Value} (p:Nat) (ho:o.op=.call { callee:=.builtin .append,args:= #[x,y],argTypes:= #[t,t] }) (ht:fB X.P t=some (et,size,bytes))
  (hx:e x=.c (.lit sv)) (hp:nth μ p=some (.vec sv et size rows)) (hy:e y=.c (.sl size news)) (hb:(rows.length+news.length)*bytes<=140737488355328) (hn:rows.length+news.length<=140737488355328):
  OpE X o e μ fun r μ'=>∃sv',r=.c (.lit sv')/\μ'=pN μ p (.vec sv' et size (rows++news)):=by
 intro a w I hH hops K Q k
 have hxv:=hops x (by rw [ho];simp [Op.operands,Call.operands])
 have hyv:=hops y (by rw [ho];simp [Op.operands,Call.operands])
 rw [hx] at hxv
 rw [hy] at hyv
 have h1:=hxv.lit_inv
 obtain ⟨v',w',hrun,e1,e2,e3,e4,e5,e6,e7,hone⟩:=zNw (P:=X.P) (ty:=o.type) ht (hH.rep _ (zAy hp)) hyv (fun b hb=>⟨hH.imm b hb,fun h=>(hH.own b (zAf (zAy hp) h)).2 hb⟩) (by simp only [maxLen];omega) hb
 obtain ⟨hH',hx'⟩:=Heap.write (w':=w') hH (en':=.vec v' et size (rows++news)) hp e1 e2 e3 e4 e5 (by simp only [E.blocks];unfold svB;split<;>simp) e6 trivial e7
 refine zCa ?_ (k v' _ _ I w' ⟨v',rfl,rfl⟩ (CRep.lit _ hone) hH' hx')
 simp only [execOp,ho,resolve,invoke,builtin,aP,aU,aA,iq,aK,ck,h1,hrun]
end mem
def Con (X:Cfg) (f:FuncId) (args:List V) (μ:List E) (Q:V->List E->Prop):Prop:=
 ∀(w:World) (I:Nat->Prop) (vs:List Value),Heap X w I μ->V1Reps w I args vs->
  Calls X.P f vs.toArray w fun en w'=>∃v r μ' I',en=.returned v/\Q r μ'/\VRep w' I' r v/\Heap X w' I' μ'/\Ext w I μ w' I' μ'
abbrev Pur (X:Cfg) (f:FuncId) (args:List V) (r:V):Prop:=Con X f args [] fun r' _=>r'=r
def Con.mono {X:Cfg} {f:FuncId} {args:List V} {μ:List E} {Q Q':V->List E->Prop} (h:Con X f args μ Q) (hq:∀r μ',Q r μ'->Q' r μ'):Con X f args μ Q':=
 fun w I vs hH ha=>(h w I vs hH ha).mono fun _ _ ⟨v,r,μ',I',h1,h2,h3⟩=>⟨v,r,μ',I',h1,hq _ _ h2,h3⟩
def Con.frame {X:Cfg} {f:FuncId} {args:List V} {μ:List E} {Q:V->List E->Prop} (h:Con X f args μ Q) (φ:List E):Con X f args (μ++φ) fun r μ''=>∃μ',Q r μ'/\μ''=μ'++φ:=by
 intro w I vs hH ha
 refine (h w I vs hH.left ha).mono ?_
 rintro en w' ⟨v,r,μ',I',h1,h2,h3,h4,h5⟩
 obtain ⟨h6,h7⟩:=hH.frame h4 h5
 exact ⟨v,r,μ'++φ,I',h1,⟨μ',h2,rfl⟩,h3,h6,h7⟩
def Con.perm {X:Cfg} {f:FuncId} {args:List V} {μ φ:List E} {Q:V->List E->Prop} (h:Con X f args μ Q) (p:φ.Perm μ):Con X f args φ Q:=by
 intro w I vs hH ha
 refine (h w I vs (hH.perm p) ha).mono ?_
 rintro en w' ⟨v,r,μ',I',h1,h2,h3,h4,h5⟩
 exact ⟨v,r,μ',I',h1,h2,h3,h4,h5.perm p.symm (bh _)⟩
variable {f:FuncId}
def Con.pure_frame {args:List V} {Q:V->Prop} (h:Con X f args [] fun r _=>Q r) (φ:List E):Con X f args φ fun r μ'=>Q r/\μ'=φ:=by
 intro w I vs hH ha
 refine (h.frame φ w I vs (by simpa using hH) ha).mono ?_
 rintro en w' ⟨v,r,μ'',I',h1,⟨μ',h2,rfl⟩,h3,h4,h5⟩
 have p:(μ'++φ).Perm (φ++μ'):=fq
 refine ⟨v,r,φ,I',h1,⟨h2,rfl⟩,h3,(h4.perm p).left,?_⟩
 have h5':Ext w I φ w' I' (μ'++φ):=by simpa using h5
 exact h5'.less fun b hb=>by rw [kA];exact aq.2 (.inr hb)
/-! ## Results -/
def tH (P:Program) (σ:S):ResultVar->V->Prop
 |.tmp t,r=>r=dF σ.regs t/\r.plain=true
 |.cell a t,r=>∃c cells,dF σ.regs a=.c c/\pY σ.μ c cells/\
   ((∃m,nE P t=some m/\Nat.ble m cells.length=true/\r=.agg (cells.take m))∨(mM P t=true/\∃d rest,cells=d::rest/\r=.c d))
def eW (P:Program) (σ:S):List ResultVar->List V->Prop
 |[],[]=>True
 |x::xs,r::rs=>tH P σ x r/\eW P σ xs rs
 |_,_=>False
def cA (P:Program) (σ:S) (l:List ResultVar) (r:V):Prop:=
 ∃rs,eW P σ l rs/\(match rs with|[x]=>r=x|_=>r=.tup rs)
def V.plain_v1 {x:V} {v:Value} (hp:x.plain=true) (h:VRep w I x v):V1Rep w I x v:=by
 cases x with
 |tup l=>cases hp
 |ifv b x=>cases hp
 |_=>exact h
def tG (tmps:Array Value):ResultVar->Sem Value
 |.tmp t=>Pure.pure (tmps.getD t undef)
 |.cell ad t=>do loadVar t (←asAddr (tmps.getD ad undef))
def zSe (fn:Func) (tmps:Array Value):results fn tmps=(do let vs ←fn.results.mapM (tG tmps);Pure.pure (if h:vs.size=1 then vs[0] else .tuple vs)):=by
 have:(fun x=>match x with|ResultVar.tmp t=>(Pure.pure (tmps.getD t undef):Sem Value)|ResultVar.cell a t=>do loadVar t (←asAddr (tmps.getD a undef)))=tG tmps:=by
  funext x;cases x<;>rfl
 rw [←this]
 rfl
def res1_run (hH:Heap X w I σ.μ) (hR:∀t,VRep w I (dF σ.regs t) (a.tmps.getD t undef)) {x:ResultVar} (h:tH X.P σ x r):
  ∃v,(tG a.tmps x).run X.P w=.ok v w/\V1Rep w I r v:=by
 cases x with
 |tmp t=>
  obtain ⟨rfl,hp⟩:=h
  exact ⟨_,rfl,V.plain_v1 hp (hR t)⟩
 |cell ad t=>
  obtain ⟨c,cells,hl,hp,hc⟩:=h
  have hv:=hR ad
  rw [hl] at hv
  obtain ⟨addr,ha,us,hcs,hu⟩:=hp w I _ hH.rep hv
  rcases hc with ⟨m,ht,hlen,rfl⟩|⟨ht,d,rest,rfl,rfl⟩
  ·obtain ⟨h1,h2⟩:=zNv ht w
   have hlen':m<=us.length:=by rw [←hcs.length];exact cj hlen
   have hload:=ko (P:=X.P) w addr (us.take m) (fun j v hj=>hu j v (by
    rw [bp] at hj
    split at hj
    ·exact hj
    ·cases hj))
   rw [aG,bw hlen'] at hload
   refine ⟨.agg (us.take m).toArray,?_,us.take m,rfl,hcs.take m⟩
   simp only [tG,ha,asAddr,loadVar,aP,aU,aA,h1,h2,iU,hload]
  ·obtain ⟨h1,h2⟩:=zLg ht w
   cases hcs with
   |cons hd ht'=>
    rename_i u us'
    have h0:w.cell? addr=some u:=by have:=hu 0 u rfl;simpa [Addr.add] using this
    refine ⟨u,?_,hd⟩
    simp only [tG,ha,asAddr,loadVar,aP,aU,aA,h1,iR,jo,run_load,h0]
def resN_run {X:Cfg} {σ:S} {a:Act} {w:World} {I:Nat->Prop} (hH:Heap X w I σ.μ) (hR:∀t,VRep w I (dF σ.regs t) (a.tmps.getD t undef)):∀{l:List ResultVar} {rs:List V},eW X.P σ l rs->
  ∃vs:List Value,(l.mapM (tG a.tmps)).run X.P w=.ok vs w/\V1Reps w I rs vs/\vs.length=rs.length
 |[],[],_=>⟨[],uD,trivial,rfl⟩
 |x::l,r::rs,h=>by
  obtain ⟨v,h1,h2⟩:=res1_run hH hR h.1
  obtain ⟨vs,h3,h4,h5⟩:=resN_run hH hR h.2
  refine ⟨v::vs,?_,⟨h2,h4⟩,by simp [h5]⟩
  rw [jq,aP,h1,aA,aP,h3,aA,aU]
 |[],_::_,h=>h.elim
 |_::_,[],h=>h.elim
def resOf_run (hH:Heap X w I σ.μ) (hR:∀t,VRep w I (dF σ.regs t) (a.tmps.getD t undef)) {fn:Func} {l:List ResultVar} (hl:fn.results=l.toArray) (h:cA X.P σ l r):
  ∃v,(results fn a.tmps).run X.P w=.ok v w/\VRep w I r v:=by
 obtain ⟨rs,h1,h2⟩:=h
 obtain ⟨vs,h3,h4,h5⟩:=resN_run hH hR h1
 have h6:(fn.results.mapM (tG a.tmps)).run X.P w=.ok vs.toArray w:=by
  rw [hl,lg,Sem.run_map,h3]
  rfl
 match rs,vs,h2,h4,h5 with
 |[x],[v],h2,h4,_=>
  subst h2
  exact ⟨v,by simp only [zSe,aP,h6,aA,aU];rfl,h4.1.up⟩
 |[],[],h2,h4,_=>
  subst h2
  exact ⟨.tuple #[],by simp only [zSe,aP,h6,aA,aU];rfl,[],rfl,h4⟩
 |x::y::rs,v::u::vs,h2,h4,_=>
  subst h2
  refine ⟨.tuple (v::u::vs).toArray,?_,v::u::vs,rfl,h4⟩
  simp only [zSe,aP,h6,aA,aU]
  rw [dif_neg uD]
/-! ## From the body to the contract -/
def fK (P:Program) (l:List ResultVar) (Q:V->List E->Prop):Exit->S->Prop
 |.normal,σ=>∃r,cA P σ l r/\Q r σ.μ
 |.ret,σ=>∃r,cA P σ l r/\Q r σ.μ
 |_,_=>False
def eG:Nat->List V->List (Nat×V)
 |_,[]=>[]
 |i,x::xs=>(i,x)::eG (i+1) xs
def look_enum {w:World} {I:Nat->Prop}:∀{args:List V} {vs:List Value} (i:Nat),V1Reps w I args vs->∀t,VRep w I (dF (eG i args) t) (if i<=t then (vs[t-i]?).getD undef else undef)
 |[],_,_,_,_=>trivial
 |x::xs,v::vs,i,h,t=>by
  simp only [eG]
  rw [zBt]
  by_cases hit:i=t
  ·subst hit
   simp only [iU,aH,Nat.sub_self]
   exact h.1.up
  ·rw [aa hit]
   have ih:=look_enum (i+1) h.2 t
   by_cases hle:i<=t
   ·rw [ab hle]
    rw [ab zA] at ih
    have e:t-i=(t-(i+1))+1:=by omega
    rw [e,List.getElem?_cons_succ]
    exact ih
   ·rw [aa hle]
    rw [aa zA] at ih
    exact ih
 |_::_,[],_,h,_=>h.elim
def Heap.except {μ:List E} (h:Heap X w I μ) (hs:w'.heap.size=w.heap.size) (heq:∀b,(b<X.N∨I b∨b∈bC μ)->w'.heap[b]? =w.heap[b]?):Heap X w' I μ:=
 ⟨by rw [hs];exact h.lo,X.hG _ _ (fun b hb=>heq b (.inl hb)) h.glob,h.nodup,h.own,fun b hb=>by rw [hs];exact h.imm b hb,
  fun e he=>(h.rep e he).mono (h.mono e he) (fun b hb=>heq b (.inr (.inl hb))) (fun _ h=>h) (fun b hb=>heq b (.inr (.inr (zAf he hb)))),h.mono⟩
def zTp {P:Program} {fn:Func} {tmps:Array Value} {R:Ending->World->Prop}:∀(Ds:List Nat) (w:World),Ds.Nodup->(∀D,D∈Ds->w.heap[D]? =some (.deferred (some [])))->
  (∀w',w'.heap.size=w.heap.size->w'.os=w.os->w'.tape=w.tape->w'.output=w.output->(∀b,b ∉ Ds->w'.heap[b]? =w.heap[b]?)->∃v,(results fn tmps).run P w'=.ok v w'/\R (.returned v) w')->
  LeavesInM (fen none) 0 P fn tmps R (Ds.map pC) .returning w
 |[],w,_,_,h=>h w rfl rfl rfl rfl fun _ _=>rfl
 |D::Ds,w,hn,hD,h=>by
  have hn':=cm.1 hn
  have hlt:D<w.heap.size:=(cb.1 (hD D uD)).1
  refine ⟨uD,.inl ⟨D,_,rfl,run_takeDeferred (hD D uD),?_⟩⟩
  refine zTp Ds _ hn'.2 (fun D' h'=>(bj (k:=D') (r:=D) (fun e:D'=D=>hn'.1 (by rw [←e];exact h'))).trans (hD D' (by simp [h']))) fun w' hs ho ht hp hb=>?_
  refine h w' (by rw [hs];simp [World.putObj]) ho ht hp fun b hb'=>?_
  rw [hb b fun h=>hb' (by simp [h])]
  exact bj (fun e=>hb' (by simp [e]))
def zOx {args:Array Value} {R:Ending->World->Prop} (rd:Option Nat) (n:Nat) (h:Calls P f args w R):CallsIn (fen rd) n P f args w R:=
 (callsIn_wide (n:=n)).2 h
def zR {fn:Func} {c:Code} {l:List ResultVar} {args:List V} {μ:List E} {Q:V->List E->Prop} (hf:X.P.funcs[f]? =some fn) (hb:fn.body=some c) (hn:fn.ntmps=n) (hl:fn.results=l.toArray) (hle:Nat.ble args.length n=true) (h:∀z:Z,RdOk z->AWP X n z c (fK X.P l Q) ⟨eG 0 args,μ⟩):Con X f args μ Q:=by
 intro w I vs hH ha
 refine (callsIn_wide (n:=0)).1 (callsIn_of_wp_marks (F:=fen none) (n:=0) hf hb trivial ?_)
 have hlen:∀{args:List V} {vs:List Value},V1Reps w I args vs->vs.length=args.length:=by
  intro args
  induction args with
  |nil=>intro vs h;cases vs with
   |nil=>rfl
   |cons v vs=>exact h.elim
  |cons x xs ih=>intro vs h;cases vs with
   |nil=>exact h.elim
   |cons v vs=>simp [ih h.2]
 have hl1:=hlen ha
 have hl2:=cj hle
 refine ib (h ⟨w,I,μ,[],none,false⟩ ⟨rfl,fun _ h=>by cases h⟩ _ (ZLe.refl _) _ w ⟨I,hH,fun t=>?_,Ext.refl _ _ _,rfl,?_⟩) ?_
 ·have:=look_enum 0 ha t
  rw [ab (bn _),Nat.sub_zero] at this
  have e:(vs.toArray++Array.replicate (fn.ntmps-vs.toArray.size) undef).getD t undef=(vs[t]?).getD undef:=by
   rw [am,Array.getElem?_append]
   by_cases ht:t<vs.length
   ·simp [ht]
   ·rw [aa (by simpa using ht),du zA]
    by_cases h2:t-vs.length<fn.ntmps-vs.length
    ·simp [h2]
    ·simp [h2]
  rw [e]
  exact this
 ·simp [hn];omega
 ·rintro e a' w' ⟨z',σ',hz,hq,I',hH',hR',hx',hd',_⟩
  obtain ⟨_,xz,_,_,Ds,eds,hnd,hDs⟩:=hz
  have hD:∀D,D∈Ds->w.heap.size<=D/\¬I' D/\D ∉ bC σ'.μ/\w'.heap[D]? =some (.deferred (some [])):=fun D h=>by
   obtain ⟨h1,h2,h3,h4,h5⟩:=hDs D h
   obtain ⟨_,k2,k3,k4⟩:=hx'.stays h2 h3 h4
   exact ⟨h1,k2,k3,k4.trans h5⟩
  have hN:X.N<=w.heap.size:=hH.lo
  have fin:(∃r,cA X.P σ' l r/\Q r σ'.μ)->LeavesInM (fen none) 0 X.P fn a'.tmps (fun en w'=>∃v r μ' I',en=.returned v/\Q r μ'/\VRep w' I' r v/\Heap X w' I' μ'/\Ext w I μ w' I' μ') a'.defers .returning w':=by
   rintro ⟨r,hr,hQ⟩
   rw [hd',eds,jm]
   refine zTp Ds w' hnd (fun D h=>(hD D h).2.2.2) fun w'' hs ho ht hp hb=>?_
   have hI:∀b,I' b->w''.heap[b]? =w'.heap[b]? :=fun b h=>hb b fun h'=>(hD b h').2.1 h
   have hH'':Heap X w'' I' σ'.μ:=hH'.except hs fun b h=>hb b fun h'=>by
    obtain ⟨k1,k2,k3,_⟩:=hD b h'
    rcases h with h|h|h
    ·omega
    ·exact k2 h
    ·exact k3 h
   obtain ⟨v,hv,hrep⟩:=resOf_run hH'' (fun t=>(hR' t).mono hI fun _ h=>h) hl hr
   have x:=xz.trans hx'
   exact ⟨v,hv,v,r,σ'.μ,I',rfl,hQ,hrep,hH'',ho.trans x.os,ht.trans x.tape,hp.trans x.output,by rw [hs];exact x.size,fun b h1 h2=>(hb b fun h'=>by have:=(hD b h').1;omega).trans (x.block b h1 h2),x.imm,x.imm',x.own'⟩
  cases e with
  |normal=>exact fin hq
  |ret=>exact fin hq
  |_=>exact hq.elim
/-! ## Ends -/
section ends
variable {P:Program} {Q:V->List E->Prop} {regs:List (Nat×V)} {μ:List E} {l:List ResultVar}
def rs_c {t:Nat} {y:C} (h:dF regs t=.c y):tH P ⟨regs,μ⟩ (.tmp t) (.c y):=⟨h.symm,rfl⟩
def zP {a t m:Nat} {c:C} {cells:List C} (ht:nE P t=some m) (h:dF regs a=.c c) (hp:pY μ c cells) (hl:Nat.ble m cells.length=true):tH P ⟨regs,μ⟩ (.cell a t) (.agg (cells.take m)):=⟨c,cells,h,hp,.inl ⟨m,ht,hl,rfl⟩⟩
def kZ {a t:Nat} {c d:C} {cells rest:List C} (ht:mM P t=true) (h:dF regs a=.c c) (hp:pY μ c cells) (hc:cells=d::rest):tH P ⟨regs,μ⟩ (.cell a t) (.c d):=⟨c,cells,h,hp,.inr ⟨ht,d,rest,hc,rfl⟩⟩
def fin1 {x:ResultVar} {r:V} (h:tH P ⟨regs,μ⟩ x r) (hq:Q r μ):fK P [x] Q .ret ⟨regs,μ⟩:=⟨r,⟨[r],⟨h,trivial⟩,rfl⟩,hq⟩
def fin0 (hq:Q (.tup []) μ):fK P [] Q .ret ⟨regs,μ⟩:=⟨.tup [],⟨[],trivial,rfl⟩,hq⟩
def fin2 {x y:ResultVar} {r s:V} (h:tH P ⟨regs,μ⟩ x r) (h':tH P ⟨regs,μ⟩ y s) (hq:Q (.tup [r,s]) μ):fK P [x,y] Q .ret ⟨regs,μ⟩:=⟨.tup [r,s],⟨[r,s],⟨h,h',trivial⟩,rfl⟩,hq⟩
def fin3 {x y u:ResultVar} {r s v:V} (h:tH P ⟨regs,μ⟩ x r) (h':tH P ⟨regs,μ⟩ y s) (h'':tH P ⟨regs,μ⟩ u v) (hq:Q (.tup [r,s,v]) μ):fK P [x,y,u] Q .ret ⟨regs,μ⟩:=⟨.tup [r,s,v],⟨[r,s,v],⟨h,h',h'',trivial⟩,rfl⟩,hq⟩
def zPe {K:S->Prop} {R:Exit->S->Prop} {σ:S} (h:R .ret σ):rM K R .ret σ:=h
def zNl {id:Nat} {R:Exit->S->Prop} {σ:S} (h:R .ret σ):tP id R .ret σ:=h
def zYq (h:fK P l Q .ret ⟨regs,μ⟩):fK P l Q .normal ⟨regs,μ⟩:=h
end ends
/-! ## Calls -/
def bA (P:Program) (f:FuncId):Bool:=
 match P.funcs[f]? with
 | some fn => fn.body.isSome && !(fn.name == "runtime.NumGoroutine")
 |none=>false
def zLh (h:bA P f=true) (args:Array Value) (w:World):(callFunc f args).run P w=.ok (.enter f args) w:=by
 unfold bA at h
 cases hf:P.funcs[f]? with
 |none=>rw [hf] at h;cases h
 |some fn=>
  rw [hf] at h
  simp only [ae,ao,gv] at h
  have hb:fn.body≠none:=fun hb=>by simp [hb] at h
  simp [callFunc,hf,h.2,hb]
def nB:List V->List V->Prop
 |[],[]=>True
 |x::xs,y::ys=>VLe x y/\y.plain=true/\nB xs ys
 |_,_=>False
def vlr:∀{l:List V},l.all V.plain=true->nB l l
 |[],_=>trivial
 |x::r,h=>by
  simp only [aW,ae] at h
  exact ⟨VLe.refl _,h.1,vlr h.2⟩
universe u
def lAa {α:Type u} (a b c:List α):a++b++c=a++(b++c):=cv a b c
def lCa {α:Type u} {a:α} {x y:List α}:(a::x)++y=a::(x++y):=iw
def lNa {α:Type u} (x:List α):[]++x=x:=fk x
def lAn {α:Type u} (x:List α):x++[]=x:=jm x
def lLa {α:Type u} {x y:List α}:(x++y).length=x.length+y.length:=cz
def lLm {α:Type u} {β:Type u} {x:List α} (f:α->β):(x.map f).length=x.length:=iH f
def lLc {α:Type u} {a:α} {x:List α}:(a::x).length=x.length+1:=gq
def lLn {α:Type u}:([]:List α).length=0:=lq
variable {p:Prop}
def uG (h:p:=by simp only [lLm,lLn,bt];omega):p:=h
def uF (h:p:=by simp only [lLm,lLa,lLc,lLn];omega):p:=h
def uC (h:p:=by simp only [lLm,lLa,lLc,lLn,aG,ct];omega):p:=h
def lMd {α:Type u} {a:α} {l:List α} (h:a∈l.drop i):a∈l:=iK h
def lMc {α:Type u} {a b:α} {l:List α}:a∈b::l↔a=b∨a∈l:=af
def lAe {α:Type u} {p:α->Bool} {l:List α}:l.all p=true↔∀x,x∈l->p x=true:=ax
def zUo {w:World} {I:Nat->Prop} {a:Act} {e:lv->V}:∀{arg_:List lv} {args:List V},(∀x,x∈arg_->VRep w I (e x) (a.eval x))->nB (arg_.map e) args->V1Reps w I args (arg_.map a.eval)
 |[],[],_,_=>trivial
 |x::_,_::_,hops,h=>⟨V.plain_v1 h.2.1 (h.1 w I _ (hops x uD)),zUo (fun y hy=>hops y (by simp [hy])) h.2.2⟩
 |[],_::_,_,h=>h.elim
 |_::_,[],_,h=>h.elim
def V1Reps.append {w:World} {I:Nat->Prop}:∀{l l':List V} {vs vs':List Value},V1Reps w I l vs->V1Reps w I l' vs'->V1Reps w I (l++l') (vs++vs')
 |[],_,[],_,_,k=>k
 |_::_,_,_::_,_,h,k=>⟨h.1,h.2.append k⟩
 |[],_,_::_,_,h,_=>h.elim
 |_::_,_,[],_,h,_=>h.elim
def V1Reps.of_c {w:World} {I:Nat->Prop}:∀{l:List C} {vs:List Value},CReps w I l vs->V1Reps w I (l.map .c) vs
 |_,_,.nil=>trivial
 |_,_,.cons h t=>⟨h,V1Reps.of_c t⟩
section calls
variable {X:Cfg} {o:Oper} {e:lv->V} {μ:List E}
def zBm {f:FuncId} {arg_:List lv} {ts:Array lu} {args:List V} {Q:V->List E->Prop} (ho:o.op=.call { callee:=.value (.func f),args:=arg_.toArray,argTypes:=ts }) (hf:bA X.P f=true) (hc:Con X f args μ Q) (ha:nB (arg_.map e) args):OpE X o e μ Q:=by
 intro a w I hH hops K Q' k
 have hrun:(execOp a.eval o).run X.P w=.ok (.enter f (arg_.map a.eval).toArray) w:=by
  simp [execOp,ho,resolve,Act.eval,Deferred.ofValue,invoke,zLh hf]
 intro hn rd
 refine ⟨fun _ _=>trivial,?_⟩
 rw [zPn hn,hrun,ld]
 refine ⟨fun h=>by simp [fen,Fence.wide] at h,zOx _ _ ?_⟩
 refine (hc w I _ hH (zUo (fun y hy=>hops y (by rw [ho];simp [Op.operands,Call.operands,hy])) ha)).mono ?_
 rintro en w' ⟨v,r,μ',I',rfl,h2,h3,h4,h5⟩
 exact k v r μ' I' w' h2 h3 h4 h5
def ope_pure {f:FuncId} {arg_:List lv} {ts:Array lu} {args:List V} {Q:V->Prop} (ho:o.op=.call { callee:=.value (.func f),args:=arg_.toArray,argTypes:=ts }) (hf:bA X.P f=true) (hc:Con X f args [] fun r _=>Q r) (ha:nB (arg_.map e) args):OpE X o e μ fun r μ'=>Q r/\μ'=μ:=
 zBm ho hf (hc.pure_frame μ) ha
def qG {f:FuncId} {arg_:List lv} {ts:Array lu} {args:List V} {r:V} (ho:o.op=.call { callee:=.value (.func f),args:=arg_.toArray,argTypes:=ts }) (hf:bA X.P f=true) (hc:Pur X f args r) (ha:nB (arg_.map e) args):Det X o e μ r μ:=
 ope_pure ho hf hc ha
def qD {n_:Nat} {z_:Z} {Q_:Exit->S->Prop} {rs:List (Nat×V)} {os:Array Oper} {re:List Oper} {d_:Tmp} {f:FuncId} {arg_:List lv} {ts:Array lu} {args:List V} {r:V} (hd:(dgO o,o.op)=(some d_,.call { callee:=.value (.func f),args:=arg_.toArray,argTypes:=ts })) (hf:bA X.P f=true) (hc:Pur X f args r) (ha:nB (arg_.map (ev rs)) args) (k_:RWP X n_ z_ os re Q_ ⟨(d_,r)::rs,μ⟩):RWP X n_ z_ os (o::re) Q_ ⟨rs,μ⟩:=by
 simp only [aJ] at hd
 obtain ⟨h_,q0⟩:=hd
 exact zAc (dgs h_).1 (dgs h_).2 (qG (e:=ev rs) q0 hf hc ha) k_
def zXi {f:FuncId} {x:lv} {arg_:List lv} {ts:Array lu} {first cap:List C} {args:List V} {Q:V->List E->Prop} (ho:o.op=.call { callee:=.value x,args:=arg_.toArray,argTypes:=ts }) (hx:e x=.c (.fn (.func f) first cap)) (hf:bA X.P f=true)
  (hc:Con X f (first.map .c++args++cap.map .c) μ Q) (ha:nB (arg_.map e) args):OpE X o e μ Q:=by
 intro a w I hH hops K Q' k
 have hxv:=hops x (by rw [ho];simp [Op.operands,Call.operands])
 rw [hx] at hxv
 have hxv':CRep w I (.fn (.func f) first cap) (a.eval x):=hxv
 generalize hv:a.eval x=v at hxv'
 cases hxv' with
 |fn _ _ _ us vs h1 h2 hr1 hr2=>
  have hrun:(execOp a.eval o).run X.P w=.ok (.enter f (us++arg_.map a.eval++vs).toArray) w:=by
   simp [execOp,ho,resolve,hv,Deferred.ofValue,invoke,zLh hf]
  intro hn rd
  refine ⟨fun _ _=>trivial,?_⟩
  rw [zPn hn,hrun,ld]
  refine ⟨fun h=>by simp [fen,Fence.wide] at h,zOx _ _ ?_⟩
  have c1:=V1Reps.of_c (CReps.of_at (w:=w) (I:=I) h1.symm hr1)
  have c2:=V1Reps.of_c (CReps.of_at (w:=w) (I:=I) h2.symm hr2)
  refine (hc w I _ hH ((c1.append (zUo (fun y hy=>hops y (by rw [ho];simp [Op.operands,Call.operands,hy])) ha)).append c2)).mono ?_
  rintro en w' ⟨v,r,μ',I',rfl,h2,h3,h4,h5⟩
  exact k v r μ' I' w' h2 h3 h4 h5
def det_call_fn {f:FuncId} {x:lv} {arg_:List lv} {ts:Array lu} {first cap:List C} {args:List V} {r:V} (ho:o.op=.call { callee:=.value x,args:=arg_.toArray,argTypes:=ts }) (hx:e x=.c (.fn (.func f) first cap)) (hf:bA X.P f=true)
  (hc:Pur X f (first.map .c++args++cap.map .c) r) (ha:nB (arg_.map e) args):Det X o e μ r μ:=
 zXi ho hx hf (hc.pure_frame μ) ha
def det_call_fn0 {f:FuncId} {x:lv} {arg_:List lv} {ts:Array lu} {args:List V} {r:V} (ho:o.op=.call { callee:=.value x,args:=arg_.toArray,argTypes:=ts }) (hx:e x=.c (.fn (.func f) [] [])) (hf:bA X.P f=true)
  (hc:Pur X f args r) (ha:nB (arg_.map e) args):Det X o e μ r μ:=
 det_call_fn (args:=args) ho hx hf (by simpa using hc) ha
end calls
/-! ## Ghost steps -/
def wE {regs:List (Nat×V)} {μ:List E} (et:lu) (size:Nat):Weak ⟨regs,μ⟩ ⟨regs,.vec (.slice none 0 0) et size []::μ⟩:=by
 intro X n z a w ⟨I,hH,hR,hx,hd,hs⟩
 have e:bC (.vec (.slice none 0 0) et size []::μ)=bC μ:=by simp [bC,E.blocks,svB]
 refine ⟨I,⟨hH.lo,hH.glob,by rw [e];exact hH.nodup,fun b hb=>hH.own b (by rw [e] at hb;exact hb),hH.imm,fun en hen=>?_,fun en hen=>?_⟩,hR,hx.less fun b hb=>by rw [e] at hb;exact hb,hd,hs⟩
 ·rcases af.1 hen with rfl|h
  ·exact .inl ⟨none,rfl,rfl⟩
  ·exact hH.rep en h
 ·rcases af.1 hen with rfl|h
  ·trivial
  ·exact hH.mono en h
def FLe (sv:Value) (size:Nat) (rows:List (List C)) (x y:V):Prop:=∀w I v,CRep w I (.sl size rows) sv->VRep w I x v->VRep w I y v
def FLe.sl {sv:Value} {size:Nat} {rows:List (List C)}:FLe sv size rows (.c (.lit sv)) (.c (.sl size rows)):=by
 intro w I v h hv
 rw [hv.lit_inv]
 exact h
def FLe.refl {sv:Value} {size:Nat} {rows:List (List C)} (x:V):FLe sv size rows x x:=fun _ _ _ _ h=>h
def sW (sv:Value) (size:Nat) (rows:List (List C)):List C->List C->Prop
 |[],[]=>True
 |x::xs,y::ys=>(x=y∨(x=.lit sv/\y=.sl size rows))/\sW sv size rows xs ys
 |_,_=>False
def zRi {sv:Value} {size:Nat} {rows:List (List C)} {w:World} {I:Nat->Prop} (h:CRep w I (.sl size rows) sv):∀{xs ys:List C} {vs:List Value},sW sv size rows xs ys->CReps w I xs vs->CReps w I ys vs
 |[],[],_,_,k=>k
 |x::xs,y::ys,_,hc,.cons hd tl=>by
  refine .cons ?_ (zRi h hc.2 tl)
  rcases hc.1 with rfl|⟨rfl,rfl⟩
  ·exact hd
  ·cases hd;exact h
 |[],_::_,_,h,_=>h.elim
 |_::_,[],_,h,_=>h.elim
def FLe.agg {sv:Value} {size:Nat} {rows:List (List C)} {xs ys:List C} (h:sW sv size rows xs ys):FLe sv size rows (.agg xs) (.agg ys):=by
 intro w I v hs hv
 obtain ⟨vs,rfl,hc⟩:=hv.agg_inv
 exact ⟨vs,rfl,zRi hs h hc⟩
def vec_sl {et:lu} {size:Nat} (h:ERep w I (.vec sv et size rows)) (hI:∀b,b∈(E.vec sv et size rows).blocks->I b):CRep w I (.sl size rows) sv:=by
 rcases h with ⟨a,rfl,rfl⟩|⟨hne,xs,hown,hc,hl⟩
 ·exact .nil size a 0
 have hlen:=hown.1
 rcases hown.2 with ⟨rfl,hn⟩|⟨g,cap,cur,rfl,_,hh,hle,_,hsz,htake⟩
 ·have:rows=[]:=aV hn
  subst this
  exact .nil size none 0
 ·have hcell:=hown.cells (g:=g) rfl
  have hat:∀(i:Nat) r,rows[i]? =some r->∀(j:Nat) c,r[j]? =some c->∃u,xs[i*size+j]? =some u/\CRep w I c u:=by
   intro i r hi j c hj
   obtain ⟨A,B,e,hA⟩:=flat_at hl hi
   rw [e] at hc
   refine hc.at_ ?_
   exact v35
  refine .sl size rows _ cap (fun i j=>(xs[i*size+j]?).getD undef) (hI g (svB_of hne rfl)) hl hle (fun i j hi hj=>?_) (fun i r hi j c hj=>?_)
  ·obtain ⟨u,hu,_⟩:=hat i rows[i] (ak hi) j ((rows[i])[j]'(by rw [hl _ (dw hi)];exact hj)) (ak _)
   rw [hcell _ u hu,hu]
   rfl
  ·obtain ⟨u,hu,hcu⟩:=hat i r hi j c hj
   simp only [hu,cd]
   exact hcu
end Go.Eng
end
section
namespace Go.Eng
open Go Go.RowKit
def str_beq (a b:lr):(a.toList==b.toList)=decide (a=b):=by
 rw [bz]
 simp only [ff,ah]
 constructor
 ·intro h
  rw [gz,gz] at h
  exact jt (iy.mp h)
 ·rintro rfl;rfl
def dQ (a b:lr):Bool:=Op.bytesLess a.toList b.toList
section ops
variable {X:Cfg} {o:Oper} {e:lv->V} {μ:List E} {t ty:lu} {x y:lv}
def zNi {a b:lr} (ho:o.op=.binOp .eql t x y ty) (hx:e x=.c (.lit (.string a))) (hy:e y=.c (.lit (.string b))):Det X o e μ (.c (.lit (.bool (decide (a=b))))) μ:=zBc ho hx hy (fun w=>by simp [eqGuard,binOp,Op.stringOp,str_beq]) rfl
def wP {n_:Nat} {z_:Z} {Q_:Exit->S->Prop} {rs:List (Nat×V)} {os:Array Oper} {re:List Oper} {d_:Tmp} {a b:lr} (hd:(dgO o,o.op,(ev rs) x,(ev rs) y)=(some d_,.binOp .eql t x y ty,.c (.lit (.string a)),.c (.lit (.string b))))  (k_:RWP X n_ z_ os re Q_ ⟨(d_,(.c (.lit (.bool (decide (a=b))))))::rs,μ⟩):RWP X n_ z_ os (o::re) Q_ ⟨rs,μ⟩:=by
 simp only [aJ] at hd
 obtain ⟨h_,q0,q1,q2⟩:=hd
 exact zAc (dgs h_).1 (dgs h_).2 (zNi (e:=ev rs) q0 q1 q2) k_
def zBq {a b:lr} (ho:o.op=.binOp .neq t x y ty) (hx:e x=.c (.lit (.string a))) (hy:e y=.c (.lit (.string b))):Det X o e μ (.c (.lit (.bool (!decide (a=b))))) μ:=zBc ho hx hy (fun w=>by simp [eqGuard,binOp,Op.stringOp,str_beq]) rfl
def det_slss {a b:lr} (ho:o.op=.binOp .lss t x y ty) (hx:e x=.c (.lit (.string a))) (hy:e y=.c (.lit (.string b))):Det X o e μ (.c (.lit (.bool (dQ a b)))) μ:=zBc ho hx hy (fun w=>by simp only [eqGuard,binOp,Op.stringOp];rfl) rfl
def det_beql {a b:Bool} (ho:o.op=.binOp .eql t x y ty) (ht:X.P.underlying t=some .bool) (hx:e x=.c (.lit (.bool a))) (hy:e y=.c (.lit (.bool b))):Det X o e μ (.c (.lit (.bool (a==b)))) μ:=zBc ho hx hy (fun w=>by
 rw [lp,aP,aU,aA,run_eql_bool w t a b ht]) rfl
def zQz {a b:Bool} (ho:o.op=.binOp .neq t x y ty) (ht:X.P.underlying t=some .bool) (hx:e x=.c (.lit (.bool a))) (hy:e y=.c (.lit (.bool b))):Det X o e μ (.c (.lit (.bool (!(a==b))))) μ:=zBc ho hx hy (fun w=>by
 rw [lp,aP,aU,aA]
 simp only [binOp,aP,run_equal_bool w t a b ht,aA,aU]) rfl
def kG {b:Bool} (ho:o.op=.unOp .not t x) (hx:e x=.c (.lit (.bool b))):Det X o e μ (.c (.lit (.bool (!b)))) μ:=
 kN fun a w I _ hops=>by
  have hxv:=hops x (by rw [ho];simp [Op.operands])
  rw [hx] at hxv
  exact ⟨.bool (!b),by simp [execOp,ho,hxv.lit_inv,Op.unary],CRep.lit _ rfl⟩
def kO {n_:Nat} {z_:Z} {Q_:Exit->S->Prop} {rs:List (Nat×V)} {os:Array Oper} {re:List Oper} {d_:Tmp} {b:Bool} (hd:(dgO o,o.op,(ev rs) x)=(some d_,.unOp .not t x,.c (.lit (.bool b))))  (k_:RWP X n_ z_ os re Q_ ⟨(d_,(.c (.lit (.bool (!b)))))::rs,μ⟩):RWP X n_ z_ os (o::re) Q_ ⟨rs,μ⟩:=by
 simp only [aJ] at hd
 obtain ⟨h_,q0,q1⟩:=hd
 exact zAc (dgs h_).1 (dgs h_).2 (kG (e:=ev rs) q0 q1) k_
def zHz {k:IntKind} {n:Int} (ho:o.op=.unOp .neg t x) (hx:e x=.c (.lit (.int k n))):Det X o e μ (.c (.lit (.int k (k.wrap (-n))))) μ:=
 kN fun a w I _ hops=>by
  have hxv:=hops x (by rw [ho];simp [Op.operands])
  rw [hx] at hxv
  exact ⟨.int k (k.wrap (-n)),by simp [execOp,ho,hxv.lit_inv,Op.unary,Op.intArith],CRep.lit _ rfl⟩
def tU (P:Program) (t:lu):Option IntKind:=match P.underlying t with|some (.int k)=>some k|_=>none
def zAo {src dst:lu} {k k':IntKind} {n:Int} (ho:o.op=.convert src dst x) (hs:(X.P.underlying src).isSome=true) (hd:tU X.P dst=some k) (hx:e x=.c (.lit (.int k' n))):Det X o e μ (.c (.lit (.int k (k.wrap n)))) μ:=
 kN fun a w I _ hops=>by
  have hxv:=hops x (by rw [ho];simp [Op.operands])
  rw [hx] at hxv
  have hd':X.P.underlying dst=some (.int k):=by
   unfold tU at hd
   split at hd
   ·rename_i h;simp only [ap] at hd;rw [h,hd]
   ·cases hd
  obtain ⟨d,hs'⟩:=fa.1 hs
  exact ⟨.int k (k.wrap n),by simp [execOp,ho,hxv.lit_inv,convert,aE hs',aE hd',Conv.intToInt],CRep.lit _ rfl⟩
def det_sindex {k:IntKind} {i:Int} {s:lr} {b:UInt8} (ho:o.op=.index t x y) (ht:X.P.underlying t=some .string) (hx:e x=.c (.lit (.string s))) (hy:e y=.c (.lit (.int k i))) (h0:0<=i) (hb:s.data.toList[i.toNat]? =some b):Det X o e μ (.c (.lit (.int .u8 b.toNat))) μ:=
 kN fun a w I _ hops=>by
  have hxv:=hops x (by rw [ho];simp [Op.operands])
  have hyv:=hops y (by rw [ho];simp [Op.operands])
  rw [hx] at hxv
  rw [hy] at hyv
  have hb':s[i.toNat]? =some b:=by
   have hlt:i.toNat<s.size:=by have:=(ai.1 hb).1;simpa using this
   rw [getElem?_pos s i.toNat hlt]
   have:=(ai.1 hb).2
   rw [←this]
   rfl
  exact ⟨.int .u8 b.toNat,by simp [execOp,ho,hxv.lit_inv,hyv.lit_inv,Instr.index,asIntOf,aE ht,h0,hb'],CRep.lit _ rfl⟩
def zEr {k:IntKind} {i:Int} {s:lr} (ho:o.op=.index t x y) (ht:X.P.underlying t=some .string) (hx:e x=.c (.lit (.string s))) (hy:e y=.c (.lit (.int k i))) (h0:0<=i) (hlt:i.toNat<s.size):Det X o e μ (.c (.lit (.int .u8 (s.data.toList.getD i.toNat 0).toNat))) μ:=by
 refine det_sindex ho ht hx hy h0 ?_
 have:i.toNat<s.data.toList.length:=by simpa using hlt
 simp [List.getD,ak this]
def zKc {ts:Array lu} {k:IntKind} {m n:Int} (ho:o.op=.call { callee:=.builtin .max,args:= #[x,y],argTypes:=ts }) (hx:e x=.c (.lit (.int k m))) (hy:e y=.c (.lit (.int k n))):Det X o e μ (.c (.lit (.int k (max m n)))) μ:=
 kN fun a w I _ hops=>by
  have hxv:=hops x (by rw [ho];simp [Op.operands,Call.operands])
  have hyv:=hops y (by rw [ho];simp [Op.operands,Call.operands])
  rw [hx] at hxv
  rw [hy] at hyv
  refine ⟨.int k (max m n),?_,CRep.lit _ rfl⟩
  have h:(if n>m then n else m)=max m n:=by split<;>omega
  simp [execOp,ho,hxv.lit_inv,hyv.lit_inv,resolve,invoke,builtin,run_max_int2]
  omega
def det_min {ts:Array lu} {k:IntKind} {m n:Int} (ho:o.op=.call { callee:=.builtin .min,args:= #[x,y],argTypes:=ts }) (hx:e x=.c (.lit (.int k m))) (hy:e y=.c (.lit (.int k n))):Det X o e μ (.c (.lit (.int k (min m n)))) μ:=
 kN fun a w I _ hops=>by
  have hxv:=hops x (by rw [ho];simp [Op.operands,Call.operands])
  have hyv:=hops y (by rw [ho];simp [Op.operands,Call.operands])
  rw [hx] at hxv
  rw [hy] at hyv
  refine ⟨.int k (min m n),?_,CRep.lit _ rfl⟩
  simp [execOp,ho,hxv.lit_inv,hyv.lit_inv,resolve,invoke,builtin,run_min_int2]
  omega
def V1Reps.nth {w:World} {I:Nat->Prop}:∀{l:List V} {vs:List Value} {i:Nat} {r:V},V1Reps w I l vs->nth l i=some r->∃v,vs[i]? =some v/\V1Rep w I r v
 |[],_,_,_,_,h=>by simp [Eng.nth] at h
 |_::_,[],_,_,h,_=>h.elim
 |x::_,v::_,0,r,h,hn=>by
  simp only [Eng.nth,ap] at hn
  subst hn
  exact ⟨v,rfl,h.1⟩
 |_::_,_::_,i+1,r,h,hn=>by
  obtain ⟨v,h1,h2⟩:=V1Reps.nth h.2 hn
  exact ⟨v,by simpa using h1,h2⟩
def det_ex {i:Nat} {l:List V} {r:V} (ho:o.op=.extract x i) (hx:e x=.tup l) (hr:nth l i=some r):Det X o e μ r μ:=
 kN fun a w I _ hops=>by
  have hxv:=hops x (by rw [ho];simp [Op.operands])
  rw [hx] at hxv
  obtain ⟨vs,hv,hvs⟩:=hxv
  obtain ⟨v,h1,h2⟩:=hvs.nth hr
  exact ⟨v,by simp [execOp,ho,hv,Instr.extract,h1],h2.up⟩
def wF {i:Nat} {l:List V} {r:C} (ho:o.op=.extract x i) (hx:e x=.tup l) (hr:nth l i=some (.c r)):Det X o e μ (.c r) μ:=det_ex ho hx hr
def qS {n_:Nat} {z_:Z} {Q_:Exit->S->Prop} {rs:List (Nat×V)} {os:Array Oper} {re:List Oper} {d_:Tmp} {i:Nat} {l:List V} {r:C} (hd:(dgO o,o.op,(ev rs) x,nth l i)=(some d_,.extract x i,.tup l,some (.c r)))  (k_:RWP X n_ z_ os re Q_ ⟨(d_,(.c r))::rs,μ⟩):RWP X n_ z_ os (o::re) Q_ ⟨rs,μ⟩:=by
 simp only [aJ] at hd
 obtain ⟨h_,q0,q1,q2⟩:=hd
 exact zAc (dgs h_).1 (dgs h_).2 (wF (e:=ev rs) q0 q1 q2) k_
def wG {i:Nat} {l:List V} {r:List C} (ho:o.op=.extract x i) (hx:e x=.tup l) (hr:nth l i=some (.agg r)):Det X o e μ (.agg r) μ:=det_ex ho hx hr
def yG {n_:Nat} {z_:Z} {Q_:Exit->S->Prop} {rs:List (Nat×V)} {os:Array Oper} {re:List Oper} {d_:Tmp} {i:Nat} {l:List V} {r:List C} (hd:(dgO o,o.op,(ev rs) x,nth l i)=(some d_,.extract x i,.tup l,some (.agg r)))  (k_:RWP X n_ z_ os re Q_ ⟨(d_,(.agg r))::rs,μ⟩):RWP X n_ z_ os (o::re) Q_ ⟨rs,μ⟩:=by
 simp only [aJ] at hd
 obtain ⟨h_,q0,q1,q2⟩:=hd
 exact zAc (dgs h_).1 (dgs h_).2 (wG (e:=ev rs) q0 q1 q2) k_
def cOf:V->C
 |.c x=>x
 |_=>.lit (.tuple #[])
def cP:List V->Bool
 |[]=>true
 |.c _::l=>cP l
 |_::_=>false
def cOf_reps {w:World} {I:Nat->Prop} {a:Act} {e:lv->V}:∀{arg_:List lv},(∀x,x∈arg_->VRep w I (e x) (a.eval x))->cP (arg_.map e)=true->CReps w I ((arg_.map e).map cOf) (arg_.map a.eval)
 |[],_,_=>.nil
 |x::arg_,h,hc=>by
  simp only [aK]
  cases hx:e x with
  |c y=>
   have h1:=h x uD
   rw [hx] at h1
   refine .cons h1 (cOf_reps (fun z hz=>h z (by simp [hz])) ?_)
   simpa [cP,hx] using hc
  |_=>simp [cP,hx] at hc
def zFa {f:Fn} {first cap:List lv} {fs cs:List C} (ho:o.op=.makeFunc f first.toArray cap.toArray) (h1:cP (first.map e)=true) (h2:cP (cap.map e)=true) (hf:(first.map e).map cOf=fs) (hc:(cap.map e).map cOf=cs):Det X o e μ (.c (.fn f fs cs)) μ:=
 kN fun a w I _ hops=>by
  subst hf hc
  have c1:=cOf_reps (w:=w) (I:=I) (a:=a) (e:=e) (arg_:=first) (fun x hx=>hops x (by rw [ho];simp [Op.operands,hx])) h1
  have c2:=cOf_reps (w:=w) (I:=I) (a:=a) (e:=e) (arg_:=cap) (fun x hx=>hops x (by rw [ho];simp [Op.operands,hx])) h2
  refine ⟨.func f (first.map a.eval).toArray (cap.map a.eval).toArray,by simp [execOp,ho,Instr.makeFunc],CRep.fn _ _ _ _ _ c1.length.symm c2.length.symm (fun j c u hj hu=>?_) (fun j c u hj hu=>?_)⟩
  ·obtain ⟨v,hv,hr⟩:=c1.at_ hj
   rw [hu] at hv;cases hv;exact hr
  ·obtain ⟨v,hv,hr⟩:=c2.at_ hj
   rw [hu] at hv;cases hv;exact hr
def yC {ad:Addr} (ho:o.op=.nilCheck x) (hx:e x=.c (.lit (.pointer (some ad)))):Det X o e μ (.c (.lit (.pointer (some ad)))) μ:=
 kN fun a w I _ hops=>by
  have hxv:=hops x (by rw [ho];simp [Op.operands])
  rw [hx] at hxv
  exact ⟨.pointer (some ad),by simp [execOp,ho,hxv.lit_inv],CRep.lit _ rfl⟩
def bnd (e:lv->V) (o:Option lv) (dflt v:Nat):Prop:=
 match o with
 |none=>v=dflt
 |some x=>∃k i,e x=.c (.lit (.int k i))/\i=(v:Int)
def bnd_run {P:Program} {w:World} {I:Nat->Prop} {a:Act} {k:IntKind} {v m:Nat} {xo:lv} {code:BoundsCode} {i:Int} (h:VRep w I (.c (.lit (.int k i))) (a.eval xo)) (hi:i=(v:Int)) (hm:v<=m):(Instr.sliceBound (a.eval xo) m code).run P w=.ok v w:=by
 rw [h.lit_inv]
 subst hi
 have h1:(0:Int)<=v/\(v:Int)<=m:=by omega
 simp [Instr.sliceBound,asIntOf,h1.2]
def cut_rep {w:World} {I:Nat->Prop} {size:Nat} {rows:List (List C)} {a:Option Addr} {n cap m:Nat} (h:CRep w I (.sl size rows) (.slice a n cap)) (l k:Nat) (hl:l<=k) (hk:k<=rows.length) (hm:k<=m):
  CRep w I (.sl size ((rows.take k).drop l)) (.slice (if m=l then a else a.map (·.add (l*size))) (k-l) (m-l)):=by
 by_cases hz:k-l=0
 ·rw [hz]
  have:(rows.take k).drop l=[]:=by
   apply aV
   simp;omega
  rw [this]
  exact .nil _ _ _
 ·rw [aa zA]
  have hlen:((rows.take k).drop l).length=k-l:=by simp;omega
  cases h with
  |nil=>simp at hk;omega
  |sl _ _ ad _ us hI hl' hcap hc hr=>
   rw [←hlen]
   simp only [cw]
   have hget:∀i,i<k-l->((rows.take k).drop l)[i]? =rows[l+i]?:=by
    intro i hi
    rw [fg,bp,ab zA]
   refine .sl size _ _ _ (fun i j=>us (l+i) j) (by rw [qAc];exact hI) (fun r hr'=>hl' r (ec (iK hr'))) zA (fun i j hi hj=>?_) (fun i r hi j c hj=>?_)
   ·rw [zNn]
    have:=hc (l+i) j zA hj
    rwa [ej,gg] at this
   ·have hlt:i<k-l:=by have:=(ai.1 hi).1;omega
    exact hr (l+i) r (by rw [←hget i hlt];exact hi) j c hj
def det_cut_sl {et:lu} {size bytes:Nat} {rows:List (List C)} {lo hi:Option lv} (l k:Nat) (ho:o.op=.slice t x lo hi none) (ht:fB X.P t=some (et,size,bytes)) (hx:e x=.c (.sl size rows))
  (h1:bnd e lo 0 l) (h2:bnd e hi rows.length k) (hl:l<=k) (hk:k<=rows.length):Det X o e μ (.c (.sl size ((rows.take k).drop l))) μ:=
 kN fun a w I _ hops=>by
  obtain ⟨hu,inf,z,hinf,hz,hs,hby,hzs,hpos⟩:=kT ht
  have hxv:=hops x (by rw [ho];simp [Op.operands])
  rw [hx] at hxv
  have hxv':CRep w I (.sl size rows) (a.eval x):=hxv
  have hform:∃ad n cap,a.eval x=.slice ad n cap/\n=rows.length/\rows.length<=cap:=by
   generalize a.eval x=v at hxv'
   cases hxv' with
   |nil _ ad cap=>exact ⟨ad,0,cap,rfl,rfl,uD⟩
   |sl _ _ ad cap us hI hl' hcap hc hr=>exact ⟨some ad,rows.length,cap,rfl,rfl,hcap⟩
  obtain ⟨ad,n,cap,hv,hn,hcap⟩:=hform
  rw [hv] at hxv'
  have hres:=cut_rep hxv' l k hl hk (m:=cap) zA
  refine ⟨_,?_,hres⟩
  have hB:(Instr.sliceBounds true n cap (lo.map a.eval) (hi.map a.eval) none).run X.P w=.ok (l,k,cap) w:=by
   have hH:∀xh,hi=some xh->∀code,(Instr.sliceBound (a.eval xh) cap code).run X.P w=.ok k w:=by
    rintro xh rfl code
    obtain ⟨kd,i,he,hi'⟩:=h2
    have hxh:=hops xh (by rw [ho];simp [Op.operands])
    rw [he] at hxh
    exact bnd_run hxh hi' zA
   have hL:∀xl,lo=some xl->∀code,(Instr.sliceBound (a.eval xl) k code).run X.P w=.ok l w:=by
    rintro xl rfl code
    obtain ⟨kd,i,he,hi'⟩:=h1
    have hxl:=hops xl (by rw [ho];simp [Op.operands])
    rw [he] at hxl
    exact bnd_run hxl hi' hl
   cases hi with
   |none=>
    have h2':k=n:=by simp only [bnd] at h2;omega
    subst h2'
    cases lo with
    |none=>
     have h1':l=0:=h1
     subst h1'
     simp [Instr.sliceBounds]
    |some xl=>simp [Instr.sliceBounds,hL xl rfl]
   |some xh=>
    cases lo with
    |none=>
     have h1':l=0:=h1
     subst h1'
     simp [Instr.sliceBounds,hH xh rfl]
    |some xl=>simp [Instr.sliceBounds,hH xh rfl,hL xl rfl]
  simp only [execOp,ho,hv,Instr.sliceAt,Instr.slice,aP,aE hu,aA,Option.map_none,hB,sizeOf,typeInfo,il,hinf,aU,hs]
/-! ## Composite literals -/
def fold_set (off:Nat):∀(vs:List Value) (k:Nat) (cells:List Value),off+k+vs.length<=cells.length->
  (vs.zipIdx k).foldl (fun (cs:Array Value) (p:Value×Nat)=>cs.setIfInBounds (off+p.2) p.1) cells.toArray=(cells.take (off+k)++vs++cells.drop (off+k+vs.length)).toArray
 |[],k,cells,_=>by simp
 |v::vs,k,cells,h=>by
  simp only [gq] at h
  rw [List.zipIdx_cons,bi]
  have e:cells.toArray.setIfInBounds (off+k) v=(cells.set (off+k) v).toArray:=by simp
  rw [e,fold_set off vs (k+1) _ uE]
  congr 1
  rw [show off+(k+1)=off+k+1 by omega]
  rw [List.take_set,iZ zA,List.drop_set]
  rw [ab zA,iJ _ _ uE]
  simp only [aG,gq]
  rw [show off+k-min (off+k) cells.length=0 by omega]
  simp only [List.set_cons_zero,cv,iw,fk]
  rw [show off+k+1+vs.length=off+k+(vs.length+1) by omega]
def pX (place:Nat->Option (Nat×Nat)) (cells:List C):List (Nat×V)->Option (List C)
 |[]=>some cells
 |(i,v)::rest=>
  match place i,mD v with
  |some (off,size),some cs=>cond (Nat.beq cs.length size&&Nat.ble (off+size) cells.length) (pX place (spl cells off cs) rest) none
  |_,_=>none
def qAb {w:World} {I:Nat->Prop} (place:Nat->Option (Nat×Nat)) {e:lv->V} {a:Act}:∀{parts:List (Nat×lv)} {cells out:List C} {vs:List Value},(∀p,p∈parts->VRep w I (e p.2) (a.eval p.2))->CReps w I cells vs->
  pX place cells (parts.map fun p=>(p.1,e p.2))=some out->∃us:List Value,Instr.fill place vs.toArray (parts.map fun p=>(p.1,a.eval p.2))=some us.toArray/\CReps w I out us
 |[],cells,out,vs,_,hc,h=>by
  simp only [ck,pX,ap] at h
  subst h
  exact ⟨vs,by simp [Instr.fill],hc⟩
 |(i,x)::parts,cells,out,vs,hops,hc,h=>by
  simp only [aK,pX] at h
  cases hp:place i with
  |none=>rw [hp] at h;cases h
  |some q=>
   obtain ⟨off,size⟩:=q
   cases hv:mD (e x) with
   |none=>rw [hp,hv] at h;cases h
   |some cs=>
    rw [hp,hv] at h
    simp only at h
    have hxr:=zRr (hops (i,x) uD) hv
    cases hcond:(Nat.beq cs.length size&&Nat.ble (off+size) cells.length) with
    |false=>rw [hcond] at h;cases h
    |true=>
     rw [hcond] at h
     simp only [ae] at hcond
     have h1:cs.length=size:=bk hcond.1
     have h2:off+size<=cells.length:=cj hcond.2
     have h3:(a.eval x).cells.size=size:=by rw [←h1,hxr.length];simp
     have h4:=hc.length
     have hs:CReps w I (spl cells off cs) (vs.take off++(a.eval x).cells.toList++vs.drop (off+(a.eval x).cells.toList.length)):=by
      rw [spl_eq cells off cs zA]
      refine ((hc.take off).append hxr).append ?_
      have:(a.eval x).cells.toList.length=cs.length:=hxr.length.symm
      rw [this]
      exact hc.drop _
     obtain ⟨us,hf,hu⟩:=qAb place (parts:=parts) (fun p hp'=>hops p (by simp [hp'])) hs h
     refine ⟨us,?_,hu⟩
     simp only [aK,Instr.fill,hp]
     rw [aa (by simp [h3];omega)]
     have hfold:=fold_set off (a.eval x).cells.toList 0 vs (by simp [h3];omega)
     rw [jy] at hfold
     rw [←hf]
     congr 1
     rw [←Array.foldl_toList,Array.toList_zipIdx]
     exact hfold
def fW (P:Program) (t:lu):Option (List (Nat×Nat)):=
 match P.underlying t with
 |some (.struct fs)=>fs.toList.mapM fun f=>(P.info? f.type).map fun i=>(f.offset,i.size)
 |_=>none
def run_places {P:Program} {w:World}:∀{fs:List Field} {ps:List (Nat×Nat)},(fs.mapM fun f=>(P.info? f.type).map fun i=>(f.offset,i.size))=some ps->
  (fs.mapM fun f=>(do pure (f.offset,←sizeOf f.type):Sem (Nat×Nat))).run P w=.ok ps w
 |[],ps,h=>by simp at h;subst h;simp
 |f::fs,ps,h=>by
  rw [jq] at h
  cases hi:P.info? f.type with
  |none=>simp [hi] at h
  |some i=>
   cases hr:(fs.mapM fun f=>(P.info? f.type).map fun i=>(f.offset,i.size)) with
   |none=>simp [hi,hr] at h
   |some qs=>
    simp [hi,hr] at h
    subst h
    have ih:=run_places (P:=P) (w:=w) hr
    rw [jq,aP]
    simp only [aP,sizeOf,typeInfo,il,hi,aU,aA] at ih⊢
    rw [ih]
    rfl
def zDc {zs:List Value} {ps:List (Nat×Nat)} {parts:List (Nat×lv)} {cells:List C} (ho:o.op=.build t parts.toArray) (hz:fL X.P t=some zs) (hp:fW X.P t=some ps) (hf:pX (nth ps) (zs.map .lit) (parts.map fun p=>(p.1,e p.2))=some cells):
  Det X o e μ (.agg cells) μ:=
 kN fun a w I _ hops=>by
  unfold fL at hz
  split at hz
  ·rename_i i hi
   split at hz
   ·rename_i v hv
    split at hz
    ·rename_i hall
     simp only [ap] at hz
     subst hz
     have hc:CReps w I (v.cells.toList.map .lit) v.cells.toList:=CReps.lits _ fun u hu=>by
      rw [dr] at hall
      exact hall u (by simpa using hu)
     unfold fW at hp
     split at hp
     ·rename_i fs hu
      obtain ⟨us,hfill,hcs⟩:=qAb (w:=w) (I:=I) (a:=a) (nth ps) (parts:=parts) (fun p hp'=>hops p.2 (by rw [ho];simp [Op.operands];exact ⟨p.1,hp'⟩)) hc hf
      refine ⟨.agg us.toArray,?_,us,rfl,hcs⟩
      have hpl:=run_places (P:=X.P) (w:=w) hp
      have hmap:(fs.mapM fun f=>(do pure (f.offset,←sizeOf f.type):Sem (Nat×Nat))).run X.P w=.ok ps.toArray w:=by
       rw [←iM (xs:=fs),lg,Sem.run_map,hpl]
       rfl
      have hpn:(fun i=>ps.toArray[i]?)=nth ps:=by funext i;rw [zGp];simp
      simp only [execOp,ho,Instr.build,zeroValue,aP,typeInfo,il,hi,hv,aU,aA,aE hu,hmap]
      rw [hpn]
      simp only [iq,iM] at hfill⊢
      rw [hfill]
      rfl
     ·cases hp
    ·cases hz
   ·cases hz
  ·cases hz
def qU {n_:Nat} {z_:Z} {Q_:Exit->S->Prop} {rs:List (Nat×V)} {os:Array Oper} {re:List Oper} {d_:Tmp} {zs:List Value} {ps:List (Nat×Nat)} {parts:List (Nat×lv)} {cells:List C} (hd:(dgO o,o.op,pX (nth ps) (zs.map .lit) (parts.map fun p=>(p.1,(ev rs) p.2)))=(some d_,.build t parts.toArray,some cells)) (hz:fL X.P t=some zs) (hp:fW X.P t=some ps) (k_:RWP X n_ z_ os re Q_ ⟨(d_,(.agg cells))::rs,μ⟩):RWP X n_ z_ os (o::re) Q_ ⟨rs,μ⟩:=by
 simp only [aJ] at hd
 obtain ⟨h_,q0,q3⟩:=hd
 exact zAc (dgs h_).1 (dgs h_).2 (zDc (e:=ev rs) q0 hz hp q3) k_
end ops
/-! ## Slice literals -/
def vC:Nat->List (Nat×lv)->Bool
 |_,[]=>true
 |k,(i,_)::r=>Nat.beq i k&&vC (k+1) r
def mL (size:Nat):List V->Option (List (List C))
 |[]=>some []
 |v::r=>match mD v,mL size r with
  |some cs,some rs=>cond (Nat.beq cs.length size) (some (cs::rs)) none
  |_,_=>none
def rowsOf_len {size:Nat}:∀{vs:List V} {rows:List (List C)},mL size vs=some rows->rows.length=vs.length/\∀r,r∈rows->r.length=size
 |[],rows,h=>by simp only [mL,ap] at h;subst h;simp
 |v::vs,rows,h=>by
  simp only [mL] at h
  cases h1:mD v with
  |none=>rw [h1] at h;cases h
  |some cs=>
   cases h2:mL size vs with
   |none=>rw [h1,h2] at h;cases h
   |some rs=>
    rw [h1,h2] at h
    simp only at h
    cases hb:Nat.beq cs.length size with
    |false=>rw [hb] at h;cases h
    |true=>
     rw [hb] at h
     simp only [ay,ap] at h
     subst h
     obtain ⟨h3,h4⟩:=rowsOf_len h2
     refine ⟨by simp [h3],fun r hr=>?_⟩
     rcases af.1 hr with rfl|hr
     ·exact bk hb
     ·exact h4 r hr
def afill_rows {size:Nat} {e:lv->V}:∀{parts:List (Nat×lv)} {rows:List (List C)} (k:Nat) (A Zs:List C),vC k parts=true->mL size (parts.map fun p=>e p.2)=some rows->A.length=k*size->Zs.length=parts.length*size->
  pX (fun i=>some (i*size,size)) (A++Zs) (parts.map fun p=>(p.1,e p.2))=some (A++rows.flatten)
 |[],rows,k,A,Zs,_,h,_,hz=>by
  simp only [ck,mL,ap] at h
  subst h
  have:Zs=[]:=aV (by simpa using hz)
  subst this
  simp [pX]
 |(i,x)::parts,rows,k,A,Zs,hi,h,hA,hz=>by
  simp only [vC,ae] at hi
  have hik:i=k:=bk hi.1
  subst hik
  simp only [aK,mL] at h
  cases h1:mD (e x) with
  |none=>rw [h1] at h;cases h
  |some cs=>
   cases h2:mL size (parts.map fun p=>e p.2) with
   |none=>rw [h1,h2] at h;cases h
   |some rs=>
    rw [h1,h2] at h
    simp only at h
    cases hb:Nat.beq cs.length size with
    |false=>rw [hb] at h;cases h
    |true=>
     rw [hb] at h
     simp only [ay,ap] at h
     subst h
     have hcs:cs.length=size:=bk hb
     simp only [gq,dx] at hz
     simp only [aK,pX,h1,hb,aL]
     have hle:Nat.ble (i*size+size) (A++Zs).length=true:=iI (by rw [cz,hA];omega)
     rw [hle,ay,spl_eq _ _ _ (by rw [cz,hA];omega),←hA,ii,gd]
     rw [dp zA,fk,dg]
     have ih:=afill_rows (size:=size) (e:=e) (parts:=parts) (rows:=rs) (i+1) (A++cs) (Zs.drop cs.length) hi.2 h2 (by rw [cz,hA,hcs,dx]) (by rw [ct,hcs];omega)
     rw [ih]
     simp
section lits
variable {X:Cfg} {o:Oper} {e:lv->V} {μ:List E} {t:lu}
def zSc {et:lu} {size bytes len:Nat} {zs:List Value} {parts:List (Nat×lv)} {rows:List (List C)} {a:Act} {w:World} {I:Nat->Prop} (ho:o.op=.buildSlice t len parts.toArray) (ht:fB X.P t=some (et,size,bytes)) (hz0:fL X.P et=some zs) (hlim:Nat.ble (len*size) 16777216=true)
  (hidx:vC 0 parts=true) (hlen:Nat.beq parts.length len=true) (hrows:mL size (parts.map fun p=>e p.2)=some rows) (hops:∀x,x∈o.op.operands->VRep w I (e x) (a.eval x)):
  ∃us:List Value,(execOp a.eval o).run X.P w=.ok (.value (.slice (some ⟨w.heap.size,0,none⟩) len len)) (w.alloc (.cells us.toArray et))/\CReps w I rows.flatten us/\us.length=len*size:=by
 obtain ⟨hu,inf,z,hinf,hz,hs,hby,hzs,hpos⟩:=kT ht
 have hl:parts.length=len:=bk hlen
 have hlim':len*size<=16777216:=cj hlim
 have hall:∀i,i<z.cells.size->(z.cells[i]!).oneCell'=true:=by
  unfold fL at hz0
  rw [hinf] at hz0
  simp only [hz] at hz0
  split at hz0
  ·rename_i h
   rw [dr] at h
   intro i hi
   rw [getElem!_pos z.cells i hi]
   exact h _ (lk hi)
  ·cases hz0
 let zv:Array Value:=if len*size=0 then #[] else z.cells
 let Z:List Value:=(List.range (len*size)).map fun i=>zv[i%zv.size]!
 have hZ:∀v,v∈Z->v.oneCell'=true:=by
  intro v hv
  obtain ⟨i,hi,rfl⟩:=bq.1 hv
  have hi':=cn.1 hi
  have e1:zv=z.cells:=aa zA
  simp only [e1]
  exact hall _ (iO _ zA)
 have hfill:=afill_rows (size:=size) (e:=e) (parts:=parts) 0 [] (Z.map .lit) hidx hrows uD (by simp [Z,hl])
 simp only [fk] at hfill
 obtain ⟨us,hf,hc⟩:=qAb (w:=w) (I:=I) (a:=a) (e:=e) (fun i=>some (i*size,size)) (parts:=parts) (fun p hp=>hops p.2 (by rw [ho];simp [Op.operands];exact ⟨p.1,hp⟩)) (CReps.lits Z hZ) hfill
 have hul:=rows_of_flat (size:=size) (rowsOf_len hrows).2 hc
 have hrl:=(rowsOf_len hrows).1
 simp only [iH] at hrl
 refine ⟨us,?_,hc,by rw [hul,hrl,hl]⟩
 have hZa:(Array.range (len*size)).map (fun i=>zv[i%zv.size]!)=Z.toArray:=by
  apply iy.1
  simp [Z]
 have hparts:(Array.map (fun (p:Nat×lv)=>(p.1,a.eval p.2)) parts.toArray).toList=parts.map fun p=>(p.1,a.eval p.2):=by simp
 simp only [execOp,ho,Instr.buildSlice,aP,aE hu,aA,sizeOf,typeInfo,il,hinf,aU,hs]
 rw [aa zA]
 by_cases h0:len*size=0
 ·have e1:zv= #[]:=ab h0
  rw [ab h0]
  simp only [aP,aU,aA,←e1]
  rw [hZa,hparts,hf]
  simp [newRow,go_sem]
 ·have e1:zv=z.cells:=aa h0
  rw [aa h0]
  simp only [aP,aU,aA,zeroValue,typeInfo,il,hinf,hz,←e1]
  rw [hZa,hparts,hf]
  simp [newRow,go_sem]
def yA {et:lu} {size bytes len:Nat} {zs:List Value} {parts:List (Nat×lv)} {rows:List (List C)} (ho:o.op=.buildSlice t len parts.toArray) (ht:fB X.P t=some (et,size,bytes)) (hz:fL X.P et=some zs) (hlim:Nat.ble (len*size) 16777216=true)
  (hidx:vC 0 parts=true) (hlen:Nat.beq parts.length len=true) (hrows:mL size (parts.map fun p=>e p.2)=some rows):Det X o e μ (.c (.sl size rows)) μ:=by
 intro a w I hH hops K Q k
 obtain ⟨us,hrun,hc,hul⟩:=zSc (X:=X) (I:=I) ho ht hz hlim hidx hlen hrows hops
 have hl:parts.length=len:=bk hlen
 obtain ⟨hrl,hrs⟩:=rowsOf_len hrows
 simp only [iH] at hrl
 have hpos:=(kT ht).2
 obtain ⟨_,_,_,_,_,_,_,hpos⟩:=hpos
 let w':=w.alloc (.cells us.toArray et)
 have hsz:w'.heap.size=w.heap.size+1:=by show (w.heap.push _).size=_;simp
 have hold:∀b,b<w.heap.size->w'.heap[b]? =w.heap[b]? :=fun b hb=>Below.heap_alloc w _ b hb
 let I':Nat->Prop:=fun b=>I b∨b=w.heap.size
 have hII:∀b,I b->I' b:=fun b h=>.inl h
 have still:∀b,I b->w'.heap[b]? =w.heap[b]? :=fun b hb=>hold b (hH.imm b hb)
 have hH':Heap X w' I' μ:=by
  refine ⟨by have:=hH.lo;omega,X.hG _ _ (fun b hb=>hold b (by have:=hH.lo;omega)) hH.glob,hH.nodup,fun b hb=>⟨(hH.own b hb).1,?_⟩,?_,fun en hen=>?_,hH.mono⟩
  ·rintro (h|h)
   ·exact (hH.own b hb).2 h
   ·have:=hH.lt hb;omega
  ·rintro b (h|h)
   ·have:=hH.imm b h;omega
   ·omega
  ·exact (hH.rep en hen).mono (hH.mono en hen) still hII fun b hb=>hold b ((hH.rep en hen).lt hb)
 have hx':Ext w I μ w' I' μ:=⟨rfl,rfl,rfl,zA,fun b hb _=>hold b hb,hII,fun b hb=>hb.imp id fun h=>.inr zA,fun b hb=>.inl hb⟩
 refine zCa hrun (k _ _ μ I' w' ⟨rfl,rfl⟩ ?_ hH' hx')
 have hcell:∀j u,us[j]? =some u->w'.cell? ⟨w.heap.size,j,none⟩=some u:=fun j u hj=>by
  rw [jg w' w.heap.size j us.toArray et (0,0) (dh w _)]
  simpa using hj
 have hc':CReps w' I' rows.flatten us:=hc.mono still hII
 have hat:∀(i:Nat) r,rows[i]? =some r->∀(j:Nat) c,r[j]? =some c->∃u,us[i*size+j]? =some u/\CRep w' I' c u:=by
  intro i r hi j c hj
  obtain ⟨A,B,e',hA⟩:=flat_at hrs hi
  rw [e'] at hc'
  refine hc'.at_ ?_
  exact v35
 show CRep w' I' (.sl size rows) (.slice (some ⟨w.heap.size,0,none⟩) len len)
 have hlr:len=rows.length:=by omega
 rw [hlr]
 refine .sl size rows _ _ (fun i j=>(us[i*size+j]?).getD undef) (.inr rfl) hrs (aH _) (fun i j hi hj=>?_) (fun i r hi j c hj=>?_)
 ·obtain ⟨u,hu,_⟩:=hat i rows[i] (ak hi) j ((rows[i])[j]'(by rw [hrs _ (dw hi)];exact hj)) (ak _)
  rw [zFb,bt,hcell _ u hu,hu]
  rfl
 ·obtain ⟨u,hu,hcu⟩:=hat i r hi j c hj
  simp only [hu,cd]
  exact hcu
end lits
variable {X:Cfg} {n:Nat}
def St.drew {z:Z} {σ:S} {a:Act} {w:World} (h:St X n z σ a w):St X n z σ a { w with drawn:=w.drawn+1 }:=by
 obtain ⟨I,hH,hR,hx,hd,hs⟩:=h
 have same:∀b:Nat,({ w with drawn:=w.drawn+1 }:World).heap[b]? =w.heap[b]? :=fun _=>rfl
 refine ⟨I,⟨hH.lo,X.hG w _ (fun b _=>same b) hH.glob,hH.nodup,hH.own,hH.imm,fun e he=>(hH.rep e he).mono (hH.mono e he) (fun b _=>same b) (fun _ h=>h) fun b _=>same b,hH.mono⟩,fun t=>(hR t).mono (fun b _=>same b) fun _ h=>h,⟨hx.os,hx.tape,hx.output,hx.size,fun b hb hm=>hx.block b hb hm,hx.imm,hx.imm',hx.own'⟩,hd,hs⟩
def pZ (X:Cfg) (n:Nat) (ops:Array Oper) (o:Oper) (regs:List (Nat×V)) (μ:List E) (r:V):Prop:=
 ∀(a:Act) (w:World) (I:Nat->Prop),Heap X w I μ->(∀t,t∈o.looksAt ops->VRep w I (dF regs t) (a.tmps.getD t undef))->a.tmps.size=n->
  ∀(K:Act->World->Prop) (Q:Exit->Act->World->Prop),(∀v I' w',VRep w' I' r v->Heap X w' I' μ->Ext w I μ w' I' μ->K (a.put o.dst v) w')->
   if Region.wanted o (yielded ops a.tmps) then OW X.P o a w K Q else K (a.put o.dst undef) w
variable {ops:Array Oper} {o:Oper}
def looks_op {t:Tmp} (h:Operand.tmp t∈o.op.operands):t∈o.looksAt ops:=by
 unfold Oper.looksAt
 refine aq.2 (.inl (iQ.2 ⟨.tmp t,by simpa using h,rfl⟩))
def ev_looks {w:World} {I:Nat->Prop} {regs:List (Nat×V)} {a:Act} (h:∀t,t∈o.looksAt ops->VRep w I (dF regs t) (a.tmps.getD t undef)) (x:lv) (hx:x∈o.op.operands):VRep w I (ev regs x) (a.eval x):=by
 cases x with
 |tmp t=>exact h t (looks_op hx)
 |const v=>exact zTd w I v
 |global g=>exact CRep.lit _ rfl
 |func f=>exact CRep.fn (.func f) [] [] [] [] rfl rfl (fun j c u hc=>by simp at hc) (fun j c u hc=>by simp at hc)
def zIq {regs:List (Nat×V)} {μ:List E} {r:V} (hg:o.guard=none) (h:Det X o (ev regs) μ r μ):pZ X n ops o regs μ r:=by
 intro a w I hH hR hs K Q k
 rw [ab (by simp [Region.wanted,hg])]
 refine h a w I hH (ev_looks hR) K Q ?_
 rintro v r' μ' I' w' ⟨rfl,rfl⟩ hv hH' hx
 exact k v I' w' hv hH' hx
def ov_looks {w:World} {I:Nat->Prop} {g:Bool} (hg:g=true) {regs:List (Nat×V)} {a:Act} {L:List Nat} (hR:∀t,t∈L->VRep w I (dF regs t) (a.tmps.getD t undef)):∀{ov:List (Nat×V)},xR g regs ov->∀t,t∈L->VRep w I (dF (ov++regs) t) (a.tmps.getD t undef)
 |[],_,t,ht=>hR t ht
 |(d,y)::r,h,t,ht=>by
  rw [iw,zBt]
  split
  ·rename_i e
   subst e
   have h1:=hR d ht
   rw [h.1] at h1
   exact V.ifv_rep hg h.2.1 h1
  ·exact ov_looks hg hR h.2.2 t ht
variable {j:Nat}
def gdet_lazy {regs:List (Nat×V)} {μ:List E} {r:V} {d:Nat} {want g:Bool} (ov:List (Nat×V)) (hg:o.guard=some (j,want)) (hj:(ops[j]?).bind (·.dst)=some d) (hdn:Nat.blt d n=true) (hb:mN (dF regs d) want g) (hov:xR g regs ov) (h:g=true->Det X o (ev (ov++regs)) μ r μ) (hpl:r.plain=true):pZ X n ops o regs μ (.ifv g r):=by
 intro a w I hH hR hs K Q k
 have hlt:d<n:=by simpa [cl] using hdn
 have hdl:d∈o.looksAt ops:=by
  unfold Oper.looksAt
  refine aq.2 (.inr ?_)
  simp [hg,hj]
 have hw:Region.wanted o (yielded ops a.tmps)=g:=by
  have hR2:∀t,VRep w I (dF [(d,dF regs d)] t) (a.tmps.getD t undef):=fun t=>by
   rw [zBt]
   split
   ·rename_i e;subst e;exact hR d hdl
   ·trivial
  refine zUn hR2 hs hg hj hlt ?_
  rw [zBt,ab rfl]
  exact hb
 rw [hw]
 cases hgv:g
 ·rw [aa uD]
  refine k undef I w ?_ hH (Ext.refl _ _ _)
  show V1Rep w I (.ifv g r) undef
  exact ⟨fun h=>absurd (hgv.symm.trans h) uD,fun _=>rfl⟩
 ·rw [ab rfl]
  refine h hgv a w I hH (ev_looks (ov_looks hgv hR hov)) K Q ?_
  rintro v r' μ' I' w' ⟨rfl,rfl⟩ hv hH' hx
  refine k v I' w' ?_ hH' hx
  show V1Rep w' I' (.ifv g r') v
  refine ⟨fun _=>?_,fun h=>absurd (hgv.symm.trans h) uD⟩
  cases r' with
  |c y=>exact hv
  |agg l=>exact hv
  |un=>trivial
  |tup l=>cases hpl
  |ifv b x=>cases hpl
def TD (X:Cfg) (n:Nat) (ops:Array Oper) (μ:List E):List Oper->List (Nat×V)->(List (Nat×V)->Prop)->Prop
 |[],regs,K=>K regs
 |o::rest,regs,K=>∃r,pZ X n ops o regs μ r/\TD X n ops μ rest (mU o.dst r regs) K
section rules
variable {X:Cfg} {n:Nat} {ops:Array Oper} {μ:List E} {o:Oper} {rest:List Oper} {regs:List (Nat×V)} {K:List (Nat×V)->Prop}
def yQ (h:K regs):TD X n ops μ [] regs K:=h
def zN {r:V} {d:Tmp} (hd:o.dst=some d) (hg:o.guard=none) (h:Det X o (ev regs) μ r μ) (k:TD X n ops μ rest ((d,r)::regs) K):TD X n ops μ (o::rest) regs K:=
 ⟨r,zIq hg h,by rw [hd];exact k⟩
def mr {r:V} {d:Tmp} (q:dgO o=some d) (h:Det X o (ev regs) μ r μ) (k:TD X n ops μ rest ((d,r)::regs) K):TD X n ops μ (o::rest) regs K:=zN (dgs q).1 (dgs q).2 h k
def qM {r:V} {t j d:Nat} {want g:Bool} (ov:List (Nat×V)) (ht:o.dst=some t)
  (hg:o.guard=some (j,want)) (hj:(ops[j]?).bind (·.dst)=some d) (hdn:Nat.blt d n=true) (hb:mN (dF regs d) want g) (hov:xR g regs ov)
  (h:g=true->Det X o (ev (ov++regs)) μ r μ) (hpl:r.plain=true) (k:TD X n ops μ rest ((t,.ifv g r)::regs) K):TD X n ops μ (o::rest) regs K:=
 ⟨.ifv g r,gdet_lazy ov hg hj hdn hb hov h hpl,by rw [ht];exact k⟩
end rules
def fS:List Oper->List V->List (Nat×V)->List (Nat×V)
 |o::l,r::rs,regs=>fS l rs (mU o.dst r regs)
 |_,_,regs=>regs
def TD.parts {X:Cfg} {n:Nat} {ops:Array Oper} {μ:List E} {K:List (Nat×V)->Prop}:∀{l:List Oper} {regs:List (Nat×V)},TD X n ops μ l regs K->
  ∃rs:List V,rs.length=l.length/\(∀(i:Nat) o r,l[i]? =some o->rs[i]? =some r->pZ X n ops o (fS (l.take i) (rs.take i) regs) μ r)/\K (fS l rs regs)
 |[],regs,h=>⟨[],rfl,fun i o r h=>by simp at h,h⟩
 |o::l,regs,⟨r,hr,h⟩=>by
  obtain ⟨rs,h1,h2,h3⟩:=TD.parts h
  refine ⟨r::rs,by simp [h1],fun i o' r' ho hr'=>?_,h3⟩
  cases i with
  |zero=>simp at ho hr';subst ho hr';exact hr
  |succ i=>exact h2 i o' r' (by simpa using ho) (by simpa using hr')
def gY:List Oper->List V->(Nat->Bool)->V->Nat->V
 |o::l,r::rs,f,dflt,t=>gY l rs (fun i=>f (i+1)) (if f 0=true/\o.dst=some t then r else dflt) t
 |_,_,_,dflt,_=>dflt
def zDg {t:Nat}:∀{l:List Oper} {rs:List V} {f g:Nat->Bool} {d:V},(∀(i:Nat) o,l[i]? =some o->o.dst=some t->f i=g i)->gY l rs f d t=gY l rs g d t
 |[],_,_,_,_,_=>by simp [gY]
 |_::_,[],_,_,_,_=>by simp [gY]
 |o::l,r::rs,f,g,d,h=>by
  simp only [gY]
  have h0:(f 0=true/\o.dst=some t)↔(g 0=true/\o.dst=some t):=by
   constructor
   ·rintro ⟨h1,h2⟩;exact ⟨by rw [←h 0 o rfl h2];exact h1,h2⟩
   ·rintro ⟨h1,h2⟩;exact ⟨by rw [h 0 o rfl h2];exact h1,h2⟩
  simp only [h0]
  exact zDg fun i o' ho hd=>h (i+1) o' (by simpa using ho) hd
def zIc {t:Nat}:∀{l:List Oper} {rs:List V} {f:Nat->Bool} {d:V},(∀(i:Nat) o,l[i]? =some o->f i=true->o.dst≠some t)->gY l rs f d t=d
 |[],_,_,_,_=>by simp [gY]
 |_::_,[],_,_,_=>by simp [gY]
 |o::l,r::rs,f,d,h=>by
  simp only [gY]
  rw [aa (fun hh=>h 0 o rfl hh.1 hh.2)]
  exact zIc fun i o' ho hf=>h (i+1) o' (by simpa using ho) hf
def zDk {t:Nat}:∀{l:List Oper} {rs:List V} {regs:List (Nat×V)} (i:Nat),dF (fS (l.take i) (rs.take i) regs) t=gY l rs (fun j=>decide (j<i)) (dF regs t) t
 |[],_,_,i=>by simp [fS,gY]
 |_::_,[],_,i=>by cases i<;>simp [fS,gY]
 |o::l,r::rs,regs,0=>by
  simp only [bc,fS,gY]
  rw [aa uD]
  exact (zIc fun i o' _ hf=>by simp at hf).symm
 |o::l,r::rs,regs,i+1=>by
  simp only [aF,fS,gY]
  rw [zDk i]
  have e:dF (mU o.dst r regs) t=if (decide (0<i+1)=true/\o.dst=some t) then r else dF regs t:=by
   cases hd:o.dst with
   |none=>simp [mU]
   |some d=>
    simp only [mU]
    rw [zBt]
    by_cases h:d=t<;>simp [h]
  rw [e]
  congr 1
  funext j
  simp
def zRt {t:Nat}:∀{l:List Oper} {rs:List V} {f:Nat->Bool} {d:V} {i:Nat} {o:Oper} {r:V},l[i]? =some o->rs[i]? =some r->(∀(j:Nat) o',l[j]? =some o'->j≠i->o.dst≠none->o'.dst≠o.dst)->
  gY l rs (fun j=>if j=i then true else f j) d t=if o.dst=some t then r else gY l rs (fun j=>if j=i then false else f j) d t
 |[],_,_,_,i,o,r,h,_,_=>by simp at h
 |_::_,[],_,_,i,o,r,_,h,_=>by simp at h
 |o0::l,r0::rs,f,d,0,o,r,ho,hr,hu=>by
  simp only [ir,ap] at ho hr
  subst ho hr
  simp only [gY]
  by_cases hd:o0.dst=some t
  ·rw [ab (by simp [hd]),ab hd]
   refine zIc fun j o' hj _ hd'=>hu (j+1) o' (by simpa using hj) zA (by simp [hd]) (by rw [hd',hd])
  ·rw [aa (by simp [hd]),aa hd,aa uD]
   rfl
 |o0::l,r0::rs,f,d,i+1,o,r,ho,hr,hu=>by
  have ih:=zRt (t:=t) (l:=l) (rs:=rs) (f:=fun j=>f (j+1)) (d:=if f 0=true/\o0.dst=some t then r0 else d) (i:=i) (by simpa using ho) (by simpa using hr) (fun j o' hj hne hnn=>hu (j+1) o' (by simpa using hj) zA hnn)
  simp only [gY]
  have e1:(if (0:Nat)=i+1 then true else f 0)=f 0:=aa zA
  have e2:(if (0:Nat)=i+1 then false else f 0)=f 0:=aa zA
  simp only [e1,e2]
  have e3:(fun j=>if j+1=i+1 then true else f (j+1))=(fun j=>if j=i then true else f (j+1)):=by funext j;simp
  have e4:(fun j=>if j+1=i+1 then false else f (j+1))=(fun j=>if j=i then false else f (j+1)):=by funext j;simp
  simp only [e3,e4]
  exact ih
def pE (o:Oper) (j:Nat):Bool:=o.after.any fun e=>Nat.beq e.on j&&Region.binds .any e
def zCi (h:pE o j=true):∃e,e∈o.after/\e.on=j/\Region.binds .any e=true:=by
 unfold pE at h
 rw [Array.any_eq_true] at h
 obtain ⟨i,hi,he⟩:=h
 simp only [ae] at he
 exact ⟨_,lk hi,bk he.1,he.2⟩
def pO (l:List Oper):Nat->Nat->Nat->Bool
 |0,_,_=>false
 |f+1,s,i=>match nth l s with
  |some o=>pE o i||(List.range s).any fun j=>pE o j&&pO l f j i
  |none=>false
def vZ (l:List Oper) (listed:Array Bool):Prop:=∀(j:Nat) o,l[j]? =some o->listed.getD j true=true->∀e,e∈o.after->Region.binds .any e=true->listed.getD e.on false=true
variable {listed:Array Bool}
def getD_tf (h:listed.getD j false=true):listed.getD j true=true:=by
 rw [am] at h⊢
 cases hj:listed[j]? with
 |none=>rw [hj] at h;cases h
 |some b=>rw [hj] at h;exact h
def zLn {l:List Oper} {listed:Array Bool} (hc:vZ l listed):∀(f s i:Nat),pO l f s i=true->listed.getD s true=true->listed.getD i false=true
 |0,_,_,h,_=>by simp [pO] at h
 |f+1,s,i,h,hs=>by
  unfold pO at h
  split at h
  ·rename_i o ho
   rw [zGp] at ho
   simp only [aI,fe,ae] at h
   rcases h with h|⟨j,_,h1,h2⟩
   ·obtain ⟨e,he1,he2,he3⟩:=zCi h
    have:=hc s o ho hs e he1 he3
    rwa [he2] at this
   ·obtain ⟨e,he1,he2,he3⟩:=zCi h1
    have h3:=hc s o ho hs e he1 he3
    rw [he2] at h3
    exact zLn hc f j i h2 (getD_tf h3)
  ·cases h
variable {l:List Oper} {i:Nat}
def zJm (hc:vZ l listed) {f s:Nat} (ho:l[s]? =some o) (hedge:∀e,e∈o.after->Region.binds .any e=true->listed.getD e.on false=true) (h:pO l (f+1) s i=true):listed.getD i false=true:=by
 unfold pO at h
 rw [zGp,ho] at h
 simp only [aI,fe,ae] at h
 rcases h with h|⟨j,_,h1,h2⟩
 ·obtain ⟨e,he1,he2,he3⟩:=zCi h
  have:=hedge e he1 he3
  rwa [he2] at this
 ·obtain ⟨e,he1,he2,he3⟩:=zCi h1
  have h3:=hedge e he1 he3
  rw [he2] at h3
  exact zLn hc f j i h2 (getD_tf h3)
def rZ (l:List Oper) (m:Nat):Bool:=
 l.zipIdx.all fun p=>
  p.1.after.all (fun e=> !Region.binds .any e||Nat.blt e.on p.2)&&
  cond (Nat.blt p.2 m)
   ((p.1.looksAt l.toArray).all (fun t=>l.zipIdx.all fun q=> !Nat.blt q.2 m|| !(q.1.dst==some t)||(Nat.blt q.2 p.2&&pE p.1 q.2)||(Nat.blt p.2 q.2&&pE q.1 p.2))&&
    l.zipIdx.all fun q=> !Nat.blt q.2 m||Nat.beq q.2 p.2||p.1.dst==none|| !(q.1.dst==p.1.dst))
   (cond (Nat.beq p.2 m) ((List.range m).all (pO l 40 m)) (pE p.1 (p.2-1)))
structure DrawOk (l:List Oper) (m:Nat):Prop where
 back:∀(i:Nat) o,l[i]? =some o->∀e,e∈o.after->Region.binds .any e=true->e.on<i
 looks:∀(i:Nat) o,l[i]? =some o->i<m->∀t,t∈o.looksAt l.toArray->∀(j:Nat) o',l[j]? =some o'->j<m->o'.dst=some t->(j<i/\∃e,e∈o.after/\e.on=j/\Region.binds .any e=true)∨(i<j/\∃e,e∈o'.after/\e.on=i/\Region.binds .any e=true)
 own:∀(i:Nat) o,l[i]? =some o->i<m->∀(j:Nat) o',l[j]? =some o'->j<m->j≠i->o.dst≠none->o'.dst≠o.dst
 tail1:∀(i:Nat) o,l[i]? =some o->m<i->∃e,e∈o.after/\e.on=i-1/\Region.binds .any e=true
 tail0:∀o,l[m]? =some o->∀j,j<m->pO l 40 m j=true
def zOq (h:l[i]? =some o):(o,i)∈l.zipIdx:=by
 rw [List.mem_zipIdx_iff_getElem?]
 exact h
def drawOk {m:Nat} (h:rZ l m=true):DrawOk l m:=by
 unfold rZ at h
 rw [ax] at h
 refine ⟨fun i o ho e he hb=>?_,fun i o ho him t ht j o' ho' hjm hd=>?_,fun i o ho him j o' ho' hjm hne hnn=>?_,fun i o ho him=>?_,fun o ho j hj=>?_⟩
 ·have h1:=h _ (zOq ho)
  simp only [ae] at h1
  have h2:=h1.1
  rw [dr] at h2
  have h3:=h2 e he
  simp only [hb,bf,eu] at h3
  simpa [cl] using h3
 ·have h1:=h _ (zOq ho)
  simp only [ae,show Nat.blt i m=true from by simpa [cl] using him,ay] at h1
  have h2:=h1.2.1
  rw [ax] at h2
  have h3:=h2 t ht
  rw [ax] at h3
  have h4:=h3 _ (zOq ho')
  simp only [show Nat.blt j m=true from by simpa [cl] using hjm,hd,beq_self_eq_true,bf,eu,aI,ae] at h4
  rcases h4 with h4|h4
  ·exact .inl ⟨by simpa [cl] using h4.1,zCi h4.2⟩
  ·exact .inr ⟨by simpa [cl] using h4.1,zCi h4.2⟩
 ·have h1:=h _ (zOq ho)
  simp only [ae,show Nat.blt i m=true from by simpa [cl] using him,ay] at h1
  have h2:=h1.2.2
  rw [ax] at h2
  have h4:=h2 _ (zOq ho')
  have hbeq:Nat.beq j i=false:=by cases hb:Nat.beq j i;rfl;exact absurd (bk hb) hne
  have hnone:(o.dst==none)=false:=by cases hod:o.dst with
   |none=>exact absurd hod hnn
   |some d=>rfl
  simp only [show Nat.blt j m=true from by simpa [cl] using hjm,hbeq,hnone,bf,eu,ao,gv] at h4
  exact h4
 ·have h1:=h _ (zOq ho)
  have hbl:Nat.blt i m=false:=by cases hb:Nat.blt i m;rfl;rw [cl] at hb;omega
  have hbe:Nat.beq i m=false:=by cases hb:Nat.beq i m;rfl;have:=bk hb;omega
  simp only [ae,hbl,hbe,az] at h1
  exact zCi h1.2
 ·have h1:=h _ (zOq ho)
  have hbl:Nat.blt m m=false:=by cases hb:Nat.blt m m;rfl;rw [cl] at hb;omega
  have hbe:Nat.beq m m=true:=Nat.beq_eq ▸ rfl
  simp only [ae,hbl,hbe,az,ay] at h1
  have h2:=h1.2
  rw [ax] at h2
  exact h2 j (cn.2 hj)
def unl (listed:Array Bool):Nat:=listed.toList.count false
def zRu (h:listed.getD i true=false):unl (listed.setIfInBounds i true)+1=unl listed:=by
 have hlt:i<listed.size:=by
  rcases eg i listed.size with h'|h'
  ·exact h'
  ·simp [Array.getElem?_eq_none h'] at h
 have hi:listed[i]=false:=by simpa [hlt] using h
 unfold unl
 rw [Array.toList_setIfInBounds]
 have hlt':i<listed.toList.length:=by simpa using hlt
 rw [iS,ab hlt']
 have e:listed.toList=listed.toList.take i++listed.toList[i]::listed.toList.drop (i+1):=by
  rw [←ik hlt',aM]
 have e2:listed.toList[i]=false:=by simpa using hi
 rw [e2] at e
 generalize listed.toList.take i=A at e⊢
 generalize listed.toList.drop (i+1)=B at e⊢
 rw [e]
 simp [lh]
 omega
section draw
variable {X:Cfg} {n:Nat} {z:Z} {Q:Exit->S->Prop} {regs:List (Nat×V)} {μ:List E} {l:List Oper} {m:Nat}
def zIs {z1:Z} (ok:DrawOk l m):∀(fuel p:Nat) (listed:Array Bool) (a:Act) (w:World),listed.size=l.length->m<=p->p<=l.length->(∀i,i<l.length->listed.getD i true=decide (i<p))->l.length=p+fuel->wpListIn (fen z.rd) 0 X.P l.toArray (gU X n z1 Q) (l.drop p) a w->
  wpAnyIn (fen z.rd) 0 X.P .any l.toArray (gU X n z1 Q) fuel listed a w:=by
 intro fuel
 induction fuel with
 |zero=>
  intro p listed a w hsz hmp hpl hl hf h
  have hp:p=l.length:=by omega
  subst hp
  rw [iv] at h
  refine ⟨?_,h⟩
  apply List.eq_nil_iff_forall_not_mem.2
  intro i hi
  rw [ic] at hi
  obtain ⟨h0,o,ho,_⟩:=hi
  have hlt:i<l.length:=by simpa using (cb.1 ho).1
  rw [hl i hlt] at h0
  simp at h0
  omega
 |succ fuel ih=>
  intro p listed a w hsz hmp hpl hl hf h
  have hplt:p<l.length:=by omega
  have hop:l[p]? =some l[p]:=ak hplt
  have only:∀i,i∈Region.ready .any l.toArray listed->i=p:=by
   intro i hi
   rw [ic] at hi
   obtain ⟨h0,o,ho,he⟩:=hi
   have hlt:i<l.length:=by simpa using (cb.1 ho).1
   rw [hl i hlt] at h0
   have hip:¬i<p:=by simpa using h0
   rcases eg p i with hpi|hpi
   ·obtain ⟨e,he1,he2,he3⟩:=ok.tail1 i o (by simpa using ho) zA
    have h1:=he e he1 he3
    rw [he2] at h1
    have h2:=hl (i-1) zA
    have hnp:¬i-1<p:=by omega
    rw [am] at h1 h2
    rw [aD zA] at h1 h2
    simp only [cd,hnp,decide_false] at h1 h2
    rw [h1] at h2
    cases h2
   ·omega
  rw [ik hplt] at h
  refine ⟨fun hnil=>?_,fun i hi=>?_⟩
  ·exfalso
   have:p∈Region.ready .any l.toArray listed:=by
    rw [ic]
    refine ⟨by rw [hl p hplt];simp,l[p],by simp [hplt],fun e he hb=>?_⟩
    have hlt:=ok.back p l[p] hop e he hb
    have h2:=hl e.on zA
    rw [am] at h2⊢
    rw [aD zA] at h2⊢
    simpa [hlt] using h2
   rw [hnil] at this
   simp at this
  ·have hip:=only i hi
   subst hip
   have hget:(l.toArray)[i]? =some l[i]:=by simp [hplt]
   simp only [wpOpIn,hget]
   have hl':∀j,j<l.length->(listed.setIfInBounds i true).getD j true=decide (j<i+1):=by
    intro j hj
    rw [am,cx]
    by_cases hji:i=j
    ·subst hji;simp [hsz,hj]
    ·rw [aa hji,←am,hl j hj]
     exact da.2 zA
   have next:=fun a w=>ih (i+1) (listed.setIfInBounds i true) a w (by simp [hsz]) zA zA hl' zA
   unfold wpListIn at h
   split
   ·rename_i hw
    rw [ab hw] at h
    exact Oper.wpIn_mono next h
   ·rename_i hw
    rw [aa hw] at h
    exact ⟨h.1,next _ _ h.2⟩
def draw_quiet {z1:Z} (hz:ZLe z z1) (ok:DrawOk l m) (hml:m<=l.length) (hdst:l.all (dstOk n)=true) {rs:List V} (hrs:rs.length=m) (hg:∀(i:Nat) o r,(l.take m)[i]? =some o->rs[i]? =some r->pZ X n l.toArray o (fS ((l.take m).take i) (rs.take i) regs) μ r)
  (hk:RWP X n z l.toArray (l.drop m) Q ⟨fS (l.take m) rs regs,μ⟩):∀(fuel:Nat) (listed:Array Bool) (a:Act) (w:World) (I:Nat->Prop),listed.size=l.length->unl listed=fuel->(∀i,m<=i->i<l.length->listed.getD i true=false)->
   (∀(j:Nat) o,l[j]? =some o->listed.getD j true=true->∀e,e∈o.after->Region.binds .any e=true->listed.getD e.on false=true)->
   Heap X w I μ->(∀t,VRep w I (gY (l.take m) rs (fun i=>listed.getD i true) (dF regs t) t) (a.tmps.getD t undef))->Ext z1.w z1.I z1.μ w I μ->a.defers=z1.ds->a.tmps.size=n->
   wpAnyIn (fen z.rd) 0 X.P .any l.toArray (gU X n z1 Q) fuel listed a w:=by
 intro fuel
 induction fuel with
 |zero=>
  intro listed a w I hsz hun htail hclo hH hR hx hd hs
  have hall:∀i,i<l.length->listed.getD i true=true:=by
   intro i hi
   cases hb:listed.getD i true with
   |true=>rfl
   |false=>have:=zRu hb;omega
  have hml':m=l.length:=by
   rcases eg m l.length with h|h
   ·have h1:=htail m (aH _) h;rw [hall m h] at h1;cases h1
   ·omega
  refine zIs ok 0 l.length listed a w hsz hml (aH _) (fun i hi=>by rw [hall i hi];simp [hi]) zA ?_
  have hreg:∀t,VRep w I (dF (fS (l.take m) rs regs) t) (a.tmps.getD t undef):=by
   intro t
   have e:=zDk (l:=l.take m) (rs:=rs) (regs:=regs) (t:=t) m
   rw [fb,iY,aS (l:=rs) zA] at e
   rw [e]
   have:=hR t
   rwa [zDg (g:=fun j=>decide (j<m)) (fun i o ho _=>by
    have hlt:i<m:=by have:=(ai.1 ho).1;simp at this;omega
    rw [hall i zA];simp [hlt])] at this
  have:=hk (by rw [hml'];simp) z1 hz a w ⟨I,hH,hreg,hx,hd,hs⟩
  rwa [hml'] at this
 |succ fuel ih=>
  intro listed a w I hsz hun htail hclo hH hR hx hd hs
  by_cases hq:∀i,i<m->listed.getD i true=true
  ·-- all quiet ones have run
   refine zIs ok (fuel+1) m listed a w hsz (aH _) hml (fun i hi=>?_) ?_ ?_
   ·by_cases him:i<m
    ·rw [hq i him];simp [him]
    ·rw [htail i zA hi];simp [him]
   ·-- the number that is left
    have hcount:∀(k:Nat) (L:List Bool),L.length=l.length->(∀i b,L[i]? =some b->b=decide (i<m))->L.count false=l.length-m:=by
     intro _ L hL hb
     have:L=(List.range l.length).map fun i=>decide (i<m):=by
      apply gn
      intro i
      by_cases hi:i<l.length
      ·rw [bu,ee hi,ak zA]
       simp only [cw,ap]
       exact hb i _ (ak zA)
      ·rw [du zA,du uE]
     rw [this]
     have hr:∀N,m<=N->((List.range N).map fun i=>decide (i<m)).count false=N-m:=by
      intro N hN
      induction N with
      |zero=>simp
      |succ N ihN=>
       exact s8
     exact hr _ hml
    have:=hcount 0 listed.toList (by simpa using hsz) (fun i b hb=>by
     have hlt:i<l.length:=by have:=(ai.1 hb).1;simp at this;omega
     have hv:listed.getD i true=b:=by
      rw [am]
      have:listed[i]? =some b:=by simpa using hb
      rw [this];rfl
     rw [←hv]
     by_cases him:i<m
     ·rw [hq i him];simp [him]
     ·rw [htail i zA hlt];simp [him])
    unfold unl at hun
    omega
   ·have hreg:∀t,VRep w I (dF (fS (l.take m) rs regs) t) (a.tmps.getD t undef):=by
     intro t
     have e:=zDk (l:=l.take m) (rs:=rs) (regs:=regs) (t:=t) m
     rw [fb,iY,aS (l:=rs) zA] at e
     rw [e]
     have:=hR t
     rwa [zDg (g:=fun j=>decide (j<m)) (fun i o ho _=>by
      have hlt:i<m:=by have:=(ai.1 ho).1;simp at this;omega
      rw [hq i hlt];simp [hlt])] at this
    exact hk (by
     rw [ax] at hdst⊢
     exact fun o ho=>hdst o (iK ho)) z1 hz a w ⟨I,hH,hreg,hx,hd,hs⟩
  ·-- a quiet one is left
   have hex:∃i,i<m/\listed.getD i true=false/\∀j,j<i->listed.getD j true=true:=by
    have:∃i,i<m/\listed.getD i true=false:=by
     rcases iL.1 hq with ⟨i,hi⟩
     rcases ja.1 hi with ⟨h1,h2⟩
     exact ⟨i,h1,by cases hb:listed.getD i true;rfl;exact absurd hb h2⟩
    obtain ⟨i,hi,hb⟩:=this
    have strong:∀N i,i<N->i<m->listed.getD i true=false->∃i,i<m/\listed.getD i true=false/\∀j,j<i->listed.getD j true=true:=by
     intro N
     induction N with
     |zero=>intro i h;omega
     |succ N ihN=>
      exact o6
    exact strong (i+1) i zA hi hb
   obtain ⟨i0,hi0,hb0,hmin⟩:=hex
   refine ⟨fun hnil=>?_,fun i hi=>?_⟩
   ·exact m6
   ·rw [ic] at hi
    obtain ⟨hbi,o,ho,hedge⟩:=hi
    have ho':l[i]? =some o:=by simpa using ho
    have hil:i<l.length:=(ai.1 ho').1
    have him:i<m:=by
     rcases eg i m with h|h
     ·exact h
     ·exfalso
      have hun:∀j,j<l.length->listed.getD j true=false->¬listed.getD j false=true:=fun j hj h1 h2=>by
       rw [am] at h1 h2
       rw [aD zA] at h1 h2
       simp only [cd] at h1 h2
       rw [h2] at h1
       cases h1
      rcases eg (m) i with hgt|hge
      ·obtain ⟨e,he1,he2,he3⟩:=ok.tail1 i o ho' hgt
       have h1:=hedge e he1 he3
       rw [he2] at h1
       exact hun (i-1) zA (htail (i-1) zA zA) h1
      ·have him:i=m:=by omega
       subst him
       exact hun i0 zA hb0 (zJm hclo ho' hedge (ok.tail0 o ho' i0 hi0))
    have hot:(l.take m)[i]? =some o:=by rw [bp,ab him];exact ho'
    obtain ⟨r,hr⟩:∃r,rs[i]? =some r:=⟨rs[i]'zA,ak _⟩
    have hG:=hg i o r hot hr
    have hlook:∀t,t∈o.looksAt l.toArray->VRep w I (dF (fS ((l.take m).take i) (rs.take i) regs) t) (a.tmps.getD t undef):=by
     intro t ht
     rw [zDk (l:=l.take m) (rs:=rs) (regs:=regs) (t:=t) i]
     have:=hR t
     rwa [zDg (g:=fun j=>decide (j<i)) (fun j oj hoj hdj=>by
      have hjm:j<m:=by have:=(ai.1 hoj).1;simp at this;omega
      have hoj':l[j]? =some oj:=by rw [bp,ab hjm] at hoj;exact hoj
      rcases ok.looks i o ho' him t ht j oj hoj' hjm hdj with ⟨hji,e,he1,he2,he3⟩|⟨hij,e,he1,he2,he3⟩
      ·exact v24
      ·have hnot:¬j<i:=by omega
       cases hb:listed.getD j true with
       |false=>simp [hnot]
       |true=>
        exfalso
        have h1:=hclo j oj hoj' hb e he1 he3
        rw [he2,am,aD zA] at h1
        rw [am,aD zA] at hbi
        simp only [cd] at h1 hbi
        rw [h1] at hbi
        cases hbi)] at this
    have hdo:dstOk n o=true:=by
     rw [ax] at hdst
     exact hdst o (bg ho')
    simp only [wpOpIn,ho]
    have step:∀v I' w',VRep w' I' r v->Heap X w' I' μ->Ext w I μ w' I' μ->wpAnyIn (fen z.rd) 0 X.P .any l.toArray (gU X n z1 Q) fuel (listed.setIfInBounds i true) (a.put o.dst v) w':=by
     intro v I' w' hv hH' hx'
     have hu:=zRu hbi
     refine ih (listed.setIfInBounds i true) _ w' I' (by simp [hsz]) zA (fun j hj hjl=>?_) (fun j oj hoj hb e he1 he3=>?_) hH' (fun t=>?_) (hx.trans hx') ?_ ?_
     ·rw [im true zA];exact htail j hj hjl
     ·exact r7
     ·have hvs:=zRt (t:=t) (l:=l.take m) (rs:=rs) (f:=fun j=>listed.getD j true) (d:=dF regs t) hot hr (fun j o' hj hne hnn=>by
       have hjm:j<m:=by have:=(ai.1 hj).1;simp at this;omega
       exact ok.own i o ho' him j o' (by rw [bp,ab hjm] at hj;exact hj) hjm hne hnn)
      have e1:(fun j=>(listed.setIfInBounds i true).getD j true)=(fun j=>if j=i then true else listed.getD j true):=by
       funext j
       exact v33
      have e2:(fun j=>if j=i then false else listed.getD j true)=(fun j=>listed.getD j true):=by
       funext j
       by_cases hji:j=i
       ·subst hji;rw [ab rfl,hbi]
       ·rw [aa hji]
      rw [e1,hvs,e2]
      cases hod:o.dst with
      |none=>
       rw [aa uD]
       exact hH.vrep hx' (hR t)
      |some d=>
       exact v18
     ·cases hod:o.dst<;>simp [Act.put,hd]
     ·cases hod:o.dst<;>simp [Act.put,hs]
    have hG':=hG a w I hH hlook hs (wpAnyIn (fen z.rd) 0 X.P .any l.toArray (gU X n z1 Q) fuel (listed.setIfInBounds i true)) (gU X n z1 Q) step
    exact v13
def qV {id:Nat} (m:Nat) (hm:X.P.follows .mixedOrders=true) (hchk:rZ l m=true) (hml:Nat.ble m l.length=true) (hd:l.all (dstOk n)=true)
  (h:TD X n l.toArray μ (l.take m) regs fun regs'=>RWP X n z l.toArray (l.drop m) Q ⟨regs',μ⟩):AWP X n z (.region id l.toArray true) Q ⟨regs,μ⟩:=by
 intro z1 hz a w s
 obtain ⟨I,hH,hR,hx,hdf,hs⟩:=s.drew
 obtain ⟨rs,h1,h2,h3⟩:=h.parts
 have hml':=cj hml
 refine ji hm ?_
 refine draw_quiet hz (rs:=rs) (regs:=regs) (drawOk hchk) hml' hd (by rw [h1];simp;omega) h2 h3 _ _ a _ I uD ?_ (fun i _ hi=>by simp [hi]) (fun j o ho hb=>by
  have hlt:j<l.length:=(ai.1 ho).1
  simp [hlt] at hb) hH (fun t=>?_) hx hdf hs
 ·unfold unl
  simp
 ·rw [zIc fun i o ho hf=>by
   have hlt:i<l.length:=by have:=(ai.1 ho).1;simp at this;omega
   simp [hlt] at hf]
  exact hR t
end draw
abbrev vI (n:Int):V:=.c (.lit (.int .i64 n))
abbrev vB (b:Bool):V:=.c (.lit (.bool b))
abbrev vS (s:lr):V:=.c (.lit (.string s))
abbrev cI (n:Int):C:=.lit (.int .i64 n)
abbrev cB (b:Bool):C:=.lit (.bool b)
abbrev cS (s:lr):C:=.lit (.string s)
def VLe.un (x:V):VLe x .un:=fun _ _ _ _=>trivial
def tQ (n:Int):Prop:= -9223372036854775808<=n/\n<=9223372036854775807
def zDf {n:Int} (h:tQ n):IntKind.i64.wrap n=n:=by
 unfold tQ at h
 exact jr n h
section nw
variable {X:Cfg} {o:Oper} {e:lv->V} {μ:List E} {t ty:lu} {x y:lv} {a b:Int}
def zEs (ho:o.op=.binOp .add t x y ty) (hx:e x=.c (.lit (.int .i64 a))) (hy:e y=.c (.lit (.int .i64 b))) (h:tQ (a+b)):Det X o e μ (.c (.lit (.int .i64 (a+b)))) μ:=by
 have:=zMh (X:=X) (μ:=μ) ho hx hy
 rwa [zDf h] at this
def qI {n_:Nat} {z_:Z} {Q_:Exit->S->Prop} {rs:List (Nat×V)} {os:Array Oper} {re:List Oper} {d_:Tmp} (hd:(dgO o,o.op,(ev rs) x,(ev rs) y)=(some d_,.binOp .add t x y ty,.c (.lit (.int .i64 a)),.c (.lit (.int .i64 b)))) (h:tQ (a+b)) (k_:RWP X n_ z_ os re Q_ ⟨(d_,(.c (.lit (.int .i64 (a+b)))))::rs,μ⟩):RWP X n_ z_ os (o::re) Q_ ⟨rs,μ⟩:=by
 simp only [aJ] at hd
 obtain ⟨h_,q0,q1,q2⟩:=hd
 exact zAc (dgs h_).1 (dgs h_).2 (zEs (e:=ev rs) q0 q1 q2 h) k_
def yB (ho:o.op=.binOp .sub t x y ty) (hx:e x=.c (.lit (.int .i64 a))) (hy:e y=.c (.lit (.int .i64 b))) (h:tQ (a-b)):Det X o e μ (.c (.lit (.int .i64 (a-b)))) μ:=by
 have:=zOu (X:=X) (μ:=μ) ho hx hy
 rwa [zDf h] at this
def kC (ho:o.op=.binOp .mul t x y ty) (hx:e x=.c (.lit (.int .i64 a))) (hy:e y=.c (.lit (.int .i64 b))) (h:tQ (a*b)):Det X o e μ (.c (.lit (.int .i64 (a*b)))) μ:=by
 have:=zZc (X:=X) (μ:=μ) ho hx hy
 rwa [zDf h] at this
end nw
variable {α:Type} {k:Nat} {x:α}
def getm {β:Type} {f:α->β} {l:List α} (h:l[k]? =some x):(l.map f)[k]? =some (f x):=by
 rw [bu,h];rfl
def qZ (l:List α) (k:Nat) (h:k<l.length):∃x,l[k]? =some x:=⟨l[k],ak h⟩
def yR {l:List α} (h:l[k]? =some x):l.take (k+1)=l.take k++[x]:=by
 have hlt:=(ai.1 h).1
 rw [iZ hlt,(ai.1 h).2]
def yW {l:List α} (h:¬k<l.length):l.take k=l:=aS zA
open Go.MapKept
section
variable {α:Type}
def mE:List (lr×α)->lr->Option α
 |[],_=>none
 |(k',a)::r,k=>if k'=k then some a else mE r k
def mI:List (lr×α)->lr->α->List (lr×α)
 |[],k,a=>[(k,a)]
 |(k',b)::r,k,a=>if k'=k then (k,a)::r else (k',b)::mI r k a
inductive ERs (enc:α->V) (w:World) (I:Nat->Prop):List MapEntry->List (lr×α)->Prop where
 |nil:ERs enc w I [] []
 |cons {e:MapEntry} {k:lr} {a:α} {es:List MapEntry} {m:List (lr×α)} (hk:e.key=.string k) (hv:V1Rep w I (enc a) e.val) (t:ERs enc w I es m):ERs enc w I (e::es) ((k,a)::m)
def MapR (enc:α->V) (m:List (lr×α)) (w:World) (I:Nat->Prop) (o:Obj):Prop:=∃es clock,o=.map es clock/\ERs enc w I es.toList m
def ERs.mono {enc:α->V} {w w':World} {I I':Nat->Prop} (hw:∀b,I b->w'.heap[b]? =w.heap[b]?) (hI:∀b,I b->I' b) {es:List MapEntry} {m:List (lr×α)} (h:ERs enc w I es m):ERs enc w' I' es m:=by
 induction h with
 |nil=>exact .nil
 |cons hk hv _ ih=>exact .cons hk (hv.mono hw hI) ih
def MapR.mono (enc:α->V) (m:List (lr×α)) (b:Nat):(E.blk b (MapR enc m)).Mono:=by
 intro w w' I I' hw hI o ⟨es,clock,ho,h⟩
 exact ⟨es,clock,ho,h.mono hw hI⟩
def zUw (a b:lr):Instr.sameNow .string (.string a) (.string b)=some (decide (a=b)):=by
 simp only [Instr.sameNow]
 congr 1
 rw [beq_toListBytes,str_beq]
def find_str {enc:α->V} {w:World} {I:Nat->Prop} (k:lr) {es:List MapEntry} {m:List (lr×α)} (h:ERs enc w I es m):∀i:Nat,
  (mE m k=none/\Instr.findNow .string (.string k) es i=some none)∨∃a j v,mE m k=some a/\Instr.findNow .string (.string k) es i=some (some (i+j,v))/\V1Rep w I (enc a) v/\∃e,es[j]? =some e/\e.key=.string k/\e.val=v:=by
 induction h with
 |nil=>intro i;exact .inl ⟨rfl,rfl⟩
 |cons hk hv _ ih=>
  rename_i e k' a es m t
  intro i
  by_cases hkk:k=k'
  ·subst hkk
   refine .inr ⟨a,0,e.val,by simp [mE],?_,hv,e,rfl,hk,rfl⟩
   simp [Instr.findNow,hk,zUw]
  ·have h1:Instr.sameNow .string (.string k) e.key=some false:=by rw [hk,zUw];simp [hkk]
   rcases ih (i+1) with ⟨h2,h3⟩|⟨b,j,v,h2,h3,h4,e',h5,h6⟩
   ·refine .inl ⟨?_,?_⟩
    ·simp only [mE];rw [aa (fy hkk)];exact h2
    ·simp only [Instr.findNow,h1];exact h3
   ·refine .inr ⟨b,j+1,v,?_,?_,h4,e',by simpa using h5,h6⟩
    ·simp only [mE];rw [aa (fy hkk)];exact h2
    ·simp only [Instr.findNow,h1];rw [h3];congr 3;omega
def vA (P:Program) (t:lu):Option Value:=
 match P.underlying t with
 |some (.map k e)=>match P.underlying k,P.info? e with
  |some .string,some i=>i.zero
  |_,_=>none
 |_=>none
def zWl {P:Program} {t:lu} {z:Value} (h:vA P t=some z):∃k e i,P.underlying t=some (.map k e)/\P.underlying k=some .string/\P.info? e=some i/\i.zero=some z:=by
 unfold vA at h
 split at h
 ·rename_i k e hu
  split at h
  ·rename_i i hk hi
   exact ⟨k,e,i,hu,hk,hi,h⟩
  ·cases h
 ·cases h
def zDe {P:Program} {w:World} {kt:lu} {k:lr} (h:P.underlying kt=some .string) (em:Bool):(Instr.checkKey em 10000 kt (.string k)).run P w=.ok () w:=run_checkKey h (by simp [IsKey]) em 9999
section ops
variable {X:Cfg} {o:Oper} {e:lv->V} {μ:List E} {t:lu} {x y:lv}
def ope_mkmap (enc:α->V) {r:Option lv} (ho:o.op=.makeMap t r) (hr:r=none):OpE X o e μ fun v μ'=>∃b,v=.c (.lit (.map (some b)))/\μ'=.blk b (MapR enc ([]:List (lr×α)))::μ:=by
 intro a w I hH hops K Q k
 subst hr
 obtain ⟨h1,h2⟩:=zDl hH (.map #[] 0) (.blk w.heap.size (MapR enc [])) rfl (MapR.mono enc [] _) ⟨_,dh w _,#[],0,rfl,.nil⟩
 refine zCa (v:=.map (some w.heap.size)) ?_ (k _ _ _ _ _ ⟨w.heap.size,rfl,rfl⟩ (CRep.lit _ rfl) h1 h2)
 simp [execOp,ho,Instr.makeMap,go_sem]
def run_lookup_str {enc:α->V} {m:List (lr×α)} {z:Value} {b p:Nat} {k:lr} {w:World} {I:Nat->Prop} (ht:vA X.P t=some z) (z0:α) (hz:V1Rep w I (enc z0) z) (hH:Heap X w I μ) (hp:nth μ p=some (.blk b (MapR enc m))) (ok:Bool):
  ∃v,(Instr.lookup t (.map (some b)) (.string k) ok).run X.P w=.ok (if ok then .tuple #[v,.bool (mE m k).isSome] else v) w/\V1Rep w I (enc ((mE m k).getD z0)) v:=by
 obtain ⟨kt,et,i,hu,hk,hi,hzr⟩:=zWl ht
 obtain ⟨ob,hb,es,clock,rfl,hers⟩:=hH.rep _ (zAy hp)
 have hfind:=find_str k hers 0
 rcases hfind with ⟨h1,h2⟩|⟨a,j,v,h1,h2,h3,_⟩
 ·refine ⟨z,?_,by rw [h1];exact hz⟩
  have hf:=run_findKey (P:=X.P) (w:=w) hk h2
  cases ok<;>simp [Instr.lookup,aE hu,gl hb,zDe hk,hf,zeroValue,typeInfo,hi,hzr,h1]
 ·refine ⟨v,?_,by rw [h1];exact h3⟩
  have hf:=run_findKey (P:=X.P) (w:=w) hk h2
  cases ok<;>simp [Instr.lookup,aE hu,gl hb,zDe hk,hf,h1]
def det_lookup {enc:α->V} {m:List (lr×α)} {z:Value} {b:Nat} {k:lr} (p:Nat) (z0:α) (ho:o.op=.lookup t x y false) (ht:vA X.P t=some z) (hx:e x=.c (.lit (.map (some b)))) (hp:nth μ p=some (.blk b (MapR enc m))) (hy:e y=.c (.lit (.string k)))
  (hz:∀w I,V1Rep w I (enc z0) z):Det X o e μ (enc ((mE m k).getD z0)) μ:=
 kN fun a w I hH hops=>by
  have hxv:=hops x (by rw [ho];simp [Op.operands])
  have hyv:=hops y (by rw [ho];simp [Op.operands])
  rw [hx] at hxv
  rw [hy] at hyv
  obtain ⟨v,h1,h2⟩:=run_lookup_str (k:=k) ht z0 (hz w I) hH hp false
  exact ⟨v,by simp [execOp,ho,hxv.lit_inv,hyv.lit_inv,h1],h2.up⟩
def ERs.length {enc:α->V} {w:World} {I:Nat->Prop} {es:List MapEntry} {m:List (lr×α)} (h:ERs enc w I es m):es.length=m.length:=by
 induction h with
 |nil=>rfl
 |cons _ _ _ ih=>simp [ih]
def ers_put_new {enc:α->V} {w:World} {I:Nat->Prop} {es:List MapEntry} {m:List (lr×α)} (h:ERs enc w I es m) {k:lr} {a:α} {u:Value} (hu:V1Rep w I (enc a) u) (hn:mE m k=none) (born:Nat):ERs enc w I (es++[{ key:=.string k,val:=u,born }]) (mI m k a):=by
 induction h with
 |nil=>exact .cons rfl hu .nil
 |cons hk hv _ ih=>
  rename_i e k' b es m t
  simp only [mE] at hn
  by_cases hkk:k'=k
  ·rw [ab hkk] at hn;cases hn
  ·rw [aa hkk] at hn
   simp only [mI]
   rw [aa hkk]
   exact .cons hk hv (ih hn)
def ers_put_old {enc:α->V} {w:World} {I:Nat->Prop} {es:List MapEntry} {m:List (lr×α)} (h:ERs enc w I es m) {k:lr} {a:α} {u:Value} (hu:V1Rep w I (enc a) u):∀{j:Nat} {i:Nat} {v:Value},Instr.findNow .string (.string k) es i=some (some (i+j,v))->ERs enc w I (es.modify j fun e=>{ e with key:=.string k,val:=u }) (mI m k a):=by
 induction h with
 |nil=>intro j i v hf;simp [Instr.findNow] at hf
 |cons hk hv t ih=>
  rename_i e k' b es m
  intro j i v hf
  by_cases hkk:k=k'
  ·subst hkk
   simp only [Instr.findNow,hk,zUw,jf,ap,aJ] at hf
   have hj:j=0:=by omega
   subst hj
   simp only [mI,iU,List.modify_zero_cons]
   exact .cons rfl hu t
  ·have h1:Instr.sameNow .string (.string k) e.key=some false:=by rw [hk,zUw];simp [hkk]
   simp only [Instr.findNow,h1] at hf
   cases j with
   |zero=>
    exfalso
    have:∀(es:List MapEntry) (i n:Nat) (v:Value),Instr.findNow .string (.string k) es i=some (some (n,v))->i<=n:=by
     intro es
     induction es with
     |nil=>intro i n v h;simp [Instr.findNow] at h
     |cons e es ih=>
      intro i n v h
      simp only [Instr.findNow] at h
      split at h
      ·simp only [ap,aJ] at h;omega
      ·have:=ih _ _ _ h;omega
      ·cases h
    have:=this _ _ _ _ hf
    omega
   |succ j=>
    have:=ih (j:=j) (i:=i+1) (v:=v) (by rw [hf];congr 3;omega)
    simp only [mI,List.modify_succ_cons]
    rw [aa (fy hkk)]
    exact .cons hk hv this
def det_mapput {enc:α->V} {m:List (lr×α)} {z:Value} {b:Nat} {k:lr} {vx:lv} (p:Nat) (a:α) (ho:o.op=.mapUpdate t x y vx) (ht:vA X.P t=some z) (hx:e x=.c (.lit (.map (some b)))) (hp:nth μ p=some (.blk b (MapR enc m))) (hy:e y=.c (.lit (.string k)))
  (hv:VLe (e vx) (enc a)) (hpl:(enc a).plain=true):Det X o e μ .un (pN μ p (.blk b (MapR enc (mI m k a)))):=by
 intro ac w I hH hops K Q kk
 obtain ⟨kt,et,i,hu,hk,hi,hzr⟩:=zWl ht
 obtain ⟨ob,hb,es,clock,rfl,hers⟩:=hH.rep _ (zAy hp)
 have hxv:=hops x (by rw [ho];simp [Op.operands])
 have hyv:=hops y (by rw [ho];simp [Op.operands])
 rw [hx] at hxv
 rw [hy] at hyv
 have hvv:V1Rep w I (enc a) (ac.eval vx):=V.plain_v1 hpl (hv w I _ (hops vx (by rw [ho];simp [Op.operands])))
 have hlt:b<w.heap.size:=(cb.1 hb).1
 have main:∀es' clock',(Instr.mapUpdate t (.map (some b)) (.string k) (ac.eval vx)).run X.P w=.ok () { w with heap:=w.heap.setIfInBounds b (.map es' clock') }->ERs enc w I es'.toList (mI m k a)->OW X.P o ac w K Q:=by
  intro es' clock' hrun hers'
  have hother:∀k',k'≠b->({ w with heap:=w.heap.setIfInBounds b (.map es' clock') }:World).heap[k']? =w.heap[k']? :=fun k' hne=>by
   show (w.heap.setIfInBounds b _)[k']? =_
   rw [Array.getElem?_setIfInBounds_ne (fy hne)]
  have still:∀k',I k'->({ w with heap:=w.heap.setIfInBounds b (.map es' clock') }:World).heap[k']? =w.heap[k']? :=fun k' hk'=>hother k' fun e'=>(hH.own b (zAf (zAy hp) (by simp [E.blocks]))).2 (e' ▸ hk')
  obtain ⟨h1,h2⟩:=Heap.write (w':={ w with heap:=w.heap.setIfInBounds b (.map es' clock') }) hH (en':=.blk b (MapR enc (mI m k a))) hp rfl rfl rfl uD (fun k' _ hk'=>hother k' (by simpa [E.blocks] using hk')) (by simp [E.blocks]) (fun k' hk'=>.inl (by simpa [E.blocks] using hk')) (MapR.mono enc _ b)
   ⟨.map es' clock',by simp [hlt],es',clock',rfl,hers'.mono still fun _ h=>h⟩
  refine wp_unit ?_ (kk undef .un _ I _ ⟨rfl,rfl⟩ trivial h1 h2)
  simp only [execOp,ho,hxv.lit_inv,hyv.lit_inv,aP,hrun,aA,aU]
 rcases find_str k hers 0 with ⟨h1,h2⟩|⟨a',j,v,h1,h2,h3,en,h4,h5,h6⟩
 ·have hf:=run_findKey (P:=X.P) (w:=w) hk h2
  refine main (es.push { key:=.string k,val:=ac.eval vx,born:=clock }) (clock+1) ?_ (by rw [Array.toList_push];exact ers_put_new hers hvv h1 clock)
  simp [Instr.mapUpdate,aE hu,gl hb,jz _ hb,zDe hk,hf]
 ·have hf:=run_findKey (P:=X.P) (w:=w) hk h2
  have hen:es[0+j]? =some en:=by rw [bt];simpa using h4
  refine main (es.modify (0+j) fun e=>{ e with key:=.string k,val:=ac.eval vx }) clock ?_ ?_
  ·have hold:((es[0+j]?).map (·.key)).getD (.string k)=.string k:=by rw [hen];exact h5
   have hkeep:(Instr.keyThatStays (.string k) (.string k)).run X.P w=.ok (.string k) w:=by
    unfold Instr.keyThatStays
    rw [ab (by simp [Instr.sameBits,MapKept.bytes_beq])]
    rfl
   simp only [Instr.mapUpdate,aP,aE hu,aA,gl hb,zDe hk,hf,hold,hkeep,jz _ hb]
  ·have:=ers_put_old hers hvv h2
   simpa using this
end ops
end
end Go.Eng
end
