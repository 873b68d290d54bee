/-
  The engine,part A: abstract cells,values and owned memory,and what it means that a world holds them.
  And what the laws need besides.
  Conditions: none.
-/
import Derived.WalkKit
import Derived.Below
import Derived.Laws.OwnMore
import Derived.Deep.Draws
import Derived.OrdersIn
import Derived.TacticsIn
import Derived.RangeFuncIn
import Derived.RangeFuncLeaves
import Derived.RangeFuncRecord
import Derived.Laws.CopyRow
import Derived.Laws.Rows
import Derived.Maps.AppendAt
import Derived.Orders
import Derived.IntWalk
import Derived.MapKept
set_option linter.unusedSimpArgs false
set_option linter.unusedVariables false
set_option linter.defProp false
section
namespace Go.Eng
open Go Go.RowKit
abbrev pn:Value:=Value.int IntKind.i64 0
abbrev Vw:Value:=Value.int IntKind.u64 0
abbrev Hj:Value:=Value.string (ByteArray.mk #[])
abbrev qn:Value:=Value.slice none 0 0
def aa:=@if_neg
def ab:=@if_pos
def ae:=@Bool.and_eq_true
def af:=@List.getElem?_eq_some_iff
def ag:=@List.mem_cons
def ah:=@List.map_append
def ai:=@congrArg
def aj:=@decide_eq_true_eq
def ak:=@List.getElem?_eq_getElem
def al:=@decide_eq_true
def am:=@decide_eq_false
def ao:=@decide_eq_false_iff_not
def ap:=@List.length_take
def aq:=@List.mem_append
def au:=@Array.getD_eq_getD_getElem?
def av:=@List.take_succ_cons
def aw:=@cond_false
def ax:=@Bool.or_eq_false_iff
def ay:=@Option.some.injEq
def az:=@List.getElem?_take
def aA:=@Bool.not_eq_true'
def aB:=@cond_true
def aC:=@Nat.le_refl
def aD:=@Bool.or_eq_true
def aE:=@List.take_of_length_le
def aF:=@List.drop_succ_cons
def aG:=@List.map_cons
def aH:=@List.mem_cons_of_mem
def aI:=@Result.andThen_ok
def aJ:=@List.not_mem_nil
def aK:=@run_underlying
def aL:=@Nat.le_trans
def aM:=@Bool.true_and
def aN:=@Array.getElem?_eq_getElem
def aO:=@Prod.mk.injEq
def aP:=@forall_eq_or_imp
def aQ:=@List.drop_zero
def aR:=@List.mem_singleton
def aS:=@List.take_zero
def aT:=@List.all_eq_true
def aU:=@Bool.not_true
def aV:=@List.getElem?_append_left
def aW:=@Sem.run_bind
def aX:=@Nat.beq_refl
def aY:=@List.mem_map
def aZ:=@List.take_append_drop
def ba:=@Sem.run_pure
def bb:=@List.Perm.refl
def bc:=@List.getElem?_set_self
def bf:=@Bool.false_and
def bg:=@Nat.min_eq_left
def bh:=@List.getElem?_of_mem
def bi:=@List.eq_nil_of_length_eq_zero
def bj:=@Nat.eq_of_beq_eq_true
def bk:=@Bool.and_eq_false_iff
def bm:=@List.all_cons
def bn:=@List.drop_eq_nil_of_le
def bp:=@List.mem_cons_self
def bq:=@Bool.and_true
def bt:=@List.map_nil
def bu:=@Int.toNat_natCast
def bv:=@Array.getElem?_eq_some_iff
def bw:=@List.mem_of_getElem?
def bx:=@World.putObj_heap_other
def bz:=@Nat.lt_or_ge
def ca:=@of_decide_eq_true
def cb:=@Nat.zero_le
def cc:=@List.flatMap_cons
def cd:=@Nat.zero_add
def cf:=@Bool.not_false
def cg:=@List.getElem?_map
def ci:=@Nat.le_of_ble_eq_true
def cj:=@List.all_append
def ck:=@forall_eq
def cl:=@List.drop_of_length_le
def cm:=@or_false
def cn:=@List.any_eq_true
def co:=@List.nodup_cons
def cp:=@List.foldl_cons
def cq:=@List.take_append_of_le_length
def cr:=@Nat.blt_eq
def ct:=@Decidable.byContradiction
def cu:=@List.length_drop
def cv:=@Bool.eq_iff_iff
def cw:=@List.mem_range
def cx:=@List.getElem?_set_ne
def cy:=@List.getElem?_eq_none
def cz:=@List.take_take
def da:=@List.getElem?_append_right
def dc:=@List.getD_eq_getElem?_getD
def dd:=@Nat.mul_le_mul_right
def dg:=@List.mem_filter
def dh:=@List.cons.injEq
def dj:=@Bool.and_false
def dk:=@decide_eq_decide
def dl:=@Option.getD_some
def dm:=@List.mem_flatMap
def dn:=@List.flatMap_append
def dp:=@List.mem_append_right
def dq:=@Bool.false_or
def dr:=@List.map_congr_left
def dt:=@List.filterMap_cons
def du:=@List.foldl_append
def dv:=@List.append_assoc
def dw:=@List.length_filter_le
def dx:=@Nat.succ_mul
def dy:=@Array.getElem?_setIfInBounds
def dz:=@List.length_append
def d6:=@Nat.add_sub_cancel_left
def d7:=@List.mem_append_left
def d8:=@heap_alloc_new
def d9:=@List.nodup_append
def ec:=@Array.all_eq_true_iff_forall_mem
def ed:=@List.drop_eq_getElem_cons
def ee:=@List.pairwise_cons
def ef:=@List.any_cons
def eg:=@Ne.symm
def eh:=@List.flatten_cons
def ei:=@List.filter_cons_of_neg
def ej:=@List.ext_getElem?
def ek:=@List.any_eq_false
def ep:=@List.length_set
def eq:=@List.getElem?_range
def eu:=@List.set_comm
def ew:=@List.getElem?_drop
def ey:=@Bool.not_eq_false'
def ez:=@List.set_eq_take_append_cons_drop
def e8:=@List.pairwise_map
def e9:=@List.mem_of_mem_take
def fc:=@List.all_nil
def fe:=@ByteArray.toList_eq
def ff:=@List.filter_cons_of_pos
def fg:=@getD_set_ne
def fh:=@Option.map_some
def fi:=@List.nil_append
def fj:=@List.any_append
def fk:=@Except.ok.injEq
def fm:=@List.set_append_right
def fq:=@List.all_eq_false
def fu:=@beq_iff_eq
def fv:=@Classical.not_forall
def fw:=@mem_ready
def fx:=@List.map_map
def fy:=@List.drop_append
def fz:=@Array.toList_inj
def ga:=@List.mem_or_eq_of_mem_set
def gb:=@List.getElem?_zip_eq_some
def gd:=@List.mem_map_of_mem
def ge:=@and_true
def gg:=@Nat.mul_assoc
def gi:=@Nat.lt_of_lt_of_le
def gj:=@List.set_cons_succ
def gk:=@Bool.false_eq_true
def gl:=@Nat.add_mul
def gm:=@List.getElem?_cons_zero
def gn:=@if_false
def gp:=@Nat.mul_le_mul
def gq:=@Nat.mul_comm
def gr:=@MapKept.run_getObj_map
def gt:=@List.size_toArray
def gu:=@List.head?_eq_getElem?
def gv:=@Int.mul_le_mul
def gw:=@List.perm_append_comm
def gx:=@List.contains_iff_mem
def gy:=@ByteArray.size_append
def gz:=@Array.getElem?_toList
def g7:=@Nat.mod_lt
def g8:=@List.take_append
def g9:=@List.perm_middle
def ia:=@List.length_cons
def ib:=@List.drop_length
def ic:=@IntKind.wrap_u64
def ie:=@wpIn_region_any
def ig:=@List.range_succ
def ii:=@List.length_zip
def ij:=@beq_eq_false_iff_ne
def ik:=@if_true
def il:=@getElem!_pos
def im:=@UInt8.not_lt
def io:=@Nat.min_self
def ip:=@List.set_set
def iq:=@wpIn_mono
def ir:=@of_decide_eq_false
def iu:=@List.take_left
def iv:=@List.nodup_nil
def iw:=@List.mem_filterMap
def ix:=@List.pairwise_iff_getElem
def iy:=@run_program
def iz:=@Bool.eq_false_iff
def i4:=@Nat.add_assoc
def i5:=@ByteArray.ext
def i6:=@Option.bind_some
def i7:=@Nat.mod_eq_of_lt
def i8:=@Nat.le_add_right
def i9:=@List.map_toArray
def ja:=@List.length_eq_zero_iff
def jb:=@List.getElem_mem
def jc:=@List.cons_append
def jd:=@Nat.pow_succ
def je:=@List.length_pos_of_mem
def jf:=@Int.zero_add
def jg:=@List.mem_zipIdx
def jh:=@List.length_map
def ji:=@Nat.ble_eq_true_of_le
def jj:=@List.filterMap_append
def jk:=@decide_true
def jl:=@Nat.pow_le_pow_right
def jm:=@List.mem_of_mem_drop
def jn:=@Bool.and_assoc
def jo:=@Array.toArray_toList
def jp:=@Nat.mul_le_mul_left
def jq:=@List.take_set_of_le
def jr:=@List.mergeSort_perm
def js:=@List.drop_set_of_lt
def jt:=@Nat.eq_zero_or_pos
def ju:=@List.zip_cons_cons
def jv:=@List.set_cons_zero
def jw:=@setRow_other
def jx:=@UInt8.le_antisymm
def jy:=@List.take_succ_eq_append_getElem
def jz:=@List.filter_congr
def kc:=@Int.zero_mul
def ke:=@Int.add_zero
def kf:=@List.zipIdx_cons
def kg:=@List.take_length
def kh:=@List.filter_cons
def ki:=@Array.eq_empty_of_size_eq_zero
def kj:=@cell_of_row
def kl:=@Nat.mul_one
def km:=@Nat.mul_add
def ko:=@UInt8.lt_irrefl
def kp:=@Option.all_some
def kq:=@List.append_nil
def kr:=@List.nodup_iff_pairwise_ne
def ku:=@List.mapM_cons
def kv:=@Int.tdiv_eq_ediv_of_nonneg
def kw:=@Int.fdiv_eq_ediv_of_nonneg
def kx:=@List.mem_take_iff_getElem
def ky:=@List.mem_of_find?_eq_some
def kz:=@List.findIdx?_eq_none_iff
def la:=@Option.isSome_iff_exists
def lb:=@List.length_filterMap_le
def lc:=@List.getElem?_take_of_lt
def ld:=@Int.add_assoc
def lf:=@Bool.or_false
def lg:=@Option.bind_eq_some_iff
def lh:=@decide_false
def li:=@World.putObj_heap_same
def lj:=@Option.map_eq_some_iff
def lk:=@Nat.zero_mul
def ll:=@Nat.le_of_eq
def lm:=@Nat.add_zero
def lp:=@Nat.add_comm
def lq:=@MapKept.run_setObj_map
def lr:=@List.flatMap_singleton
def lu:=@List.Perm.append_right
def lv:=@Array.getElem?_modify
def lw:=@World.cell?_of_block
def lx:=@Int.one_mul
def ly:=@List.getD_cons_zero
def lz:=@List.flatten_append
def ma:=@Array.toList_append
def mc:=@run_loadCells_list
def me:=@grownCap_le_maxLen
def mf:=@World.cells?_block
def mg:=@Nat.gcd_zero_right
def mh:=@Nat.add_sub_cancel
def mi:=@List.map_singleton
def mj:=@List.find?_eq_none
def ml:=@List.filter_append
def mm:=@Array.extract_size
def mo:=@run_storeCells_at
def mq:=@nextslicecap_zero
def mr:=@World.cells?_some
def ms:=@Oper.uponIn_enter
def mt:=@List.mapM_toArray
def mu:=@List.getElem_take
def mw:=@List.count_append
def mx:=@Int.ofNat_eq_zero
def my:=@Function.comp_def
def mz:=@Classical.not_imp
def nc:=@Array.size_append
def ne:=@Array.getElem_mem
def nf:=@exists_eq_or_imp
def ng:=@beq_self_eq_true
def nh:=@List.flatMap_nil
def ni:=@run_eqGuard_agg
def nj:=@eqGuard_at_bool
def nk:=@List.length_nil
def nl:=@List.find?_some
def nn:=@Int.natCast_mul
def np:=@Int.natCast_add
abbrev nq:=ByteArray
abbrev nr:=TypeId
abbrev ns:=Operand
abbrev nt:List (Option Nat):=[none,none,none,none,none,none,none,none,none,none,some 2,some 4,some 13]
abbrev nu:List (Option Nat):=[none,none,none,none,none,none,some 1,none]
abbrev nv:List (Option Nat):=[none,some 2,none,some 2]
abbrev nx:List (Option Nat):=[none,none,none,none,none,some 4,none,none,none,none,none,none,none,none,none,none,some 2,some 4,some 13,some 20]
abbrev ny:List (Option Nat):=[none,none,none,none,none,none,none,none,none,none,some 2,none,some 13]
abbrev nz:List (Option Nat):=[none,none,none,none,none,none,none,none,none,none,none,none,none,none,none,none,none,none,none,some 20]
abbrev oa:List (Option Nat):=[none,none,none,none,none,none,some 3,some 3,none,none,none,none,none,none,none,none,none,none,none,some 2,some 4,some 13]
abbrev oc:List (Option Nat):=[none,none,none,none,none,none,some 2]
abbrev od:List (Option Nat):=[none,none,none,none,none,some 4,none,none,none,none,none,none,none,none,none,none,none,none,none,none]
abbrev oe:List (Option Nat):=[none,none,none,some 2]
abbrev og:List (Option Nat):=[some 1,some 3,some 7,some 22,some 1]
abbrev oh:List (Option Nat):=[none,none,none,none,none,some 4,none,none,none,none,none,none,none,none,none,none,some 2,some 4,some 13,none]
inductive C where
 |lit (v:Value)
 |sl (size:Nat) (rows:List (List C))
 |iptr (cells:List C)
 |vptr (sv:Value) (size i off:Nat)
 |fn (f:Fn) (first cap:List C)
 |fr (n:Nat) (c:C)
 |gh (P:Value->Prop)
inductive FRep (w:World) (J:Nat->Prop):C->Value->Prop where
 |lit (v:Value) (h1:v.oneCell'=true):FRep w J (.lit v) v
 |nil (size:Nat) (a:Option Addr) (cap:Nat):FRep w J (.sl size []) (.slice a 0 cap)
 |sl (size:Nat) (rows:List (List C)) (g cap:Nat) (cs:Array Value) (t:nr) (us:Nat->Nat->Value) (hI:J g)
   (hl:∀r,r∈rows->r.length=size) (hcap:rows.length<=cap) (hw:w.heap[g]? =some (.cells cs t (0,0)))
   (hc:∀i j,i<rows.length->j<size->cs[i*size+j]? =some (us i j))
   (hr:∀(i:Nat) r,rows[i]? =some r->∀(j:Nat) c,r[j]? =some c->FRep w J c (us i j)):
   FRep w J (.sl size rows) (.slice (some ⟨g,0,none⟩) rows.length cap)
variable {w w':World}
def FRep.mono {J J':Nat->Prop} (hw:∀b,J b->w'.heap[b]? =w.heap[b]?) (hI:∀b,J b->J' b) {c:C} {v:Value} (h:FRep w J c v):FRep w' J' c v:=by
 induction h with
 |lit v h1=>exact .lit v h1
 |nil size a cap=>exact .nil size a cap
 |sl size rows g cap cs t us hIa hl hcap hg hc _ ih=>exact .sl size rows g cap cs t us (hI _ hIa) hl hcap (by rw [hw g hIa];exact hg) hc ih
def FRep.one {J:Nat->Prop} {c:C} {v:Value} (h:FRep w J c v):v.oneCell'=true:=by
 cases h<;>first|assumption|rfl
inductive CRep (w:World) (I:Nat->Prop):C->Value->Prop where
 |lit (v:Value) (h1:v.oneCell'=true):CRep w I (.lit v) v
 |nil (size:Nat) (a:Option Addr) (cap:Nat):CRep w I (.sl size []) (.slice a 0 cap)
 |sl (size:Nat) (rows:List (List C)) (a:Addr) (cap:Nat) (us:Nat->Nat->Value) (hI:I a.block)
   (hl:∀r,r∈rows->r.length=size) (hcap:rows.length<=cap)
   (hc:∀i j,i<rows.length->j<size->w.cell? (a.add (i*size+j))=some (us i j))
   (hr:∀(i:Nat) r,rows[i]? =some r->∀(j:Nat) c,r[j]? =some c->CRep w I c (us i j)):
   CRep w I (.sl size rows) (.slice (some a) rows.length cap)
 |iptr (cells:List C) (a:Addr) (us:Nat->Value) (hI:I a.block)
   (hc:∀j,j<cells.length->w.cell? (a.add j)=some (us j))
   (hr:∀(j:Nat) c,cells[j]? =some c->CRep w I c (us j)):CRep w I (.iptr cells) (.pointer (some a))
 |vptr (b n cap size i off:Nat):CRep w I (.vptr (.slice (some ⟨b,0,none⟩) n cap) size i off) (.pointer (some ⟨b,i*size+off,none⟩))
 |fn (f:Fn) (first cap:List C) (us vs:List Value) (h1:us.length=first.length) (h2:vs.length=cap.length)
   (hr1:∀(j:Nat) c u,first[j]? =some c->us[j]? =some u->CRep w I c u)
   (hr2:∀(j:Nat) c u,cap[j]? =some c->vs[j]? =some u->CRep w I c u):CRep w I (.fn f first cap) (.func f us.toArray vs.toArray)
 |fr (n:Nat) (c:C) (v:Value) (h:FRep w (λb=>I b/\n<=b) c v):CRep w I (.fr n c) v
 |gh (P:Value->Prop) (v:Value) (h1:v.oneCell'=true) (h:P v):CRep w I (.gh P) v
def CRep.mono {w w':World} {I I':Nat->Prop} (hw:∀b,I b->w'.heap[b]? =w.heap[b]?) (hI:∀b,I b->I' b) {c:C} {v:Value} (h:CRep w I c v):CRep w' I' c v:=by
 induction h with
 |lit v h1=>exact .lit v h1
 |nil size a cap=>exact .nil size a cap
 |sl size rows a cap us hIa hl hcap hc _ ih=>
  refine .sl size rows a cap us (hI _ hIa) hl hcap (λi j hi hj=>?_) ih
  rw [<-hc i j hi hj]
  have hb:(a.add (i*size+j)).block=a.block:=by unfold Addr.add;split<;>rfl
  exact lw (by rw [hb];exact hw _ hIa)
 |iptr cells a us hIa hc _ ih=>
  refine .iptr cells a us (hI _ hIa) (λj hj=>?_) ih
  rw [<-hc j hj]
  have hb:(a.add j).block=a.block:=by unfold Addr.add;split<;>rfl
  exact lw (by rw [hb];exact hw _ hIa)
 |vptr b n cap size i off=>exact .vptr b n cap size i off
 |fn f first cap us vs h1 h2 _ _ ih1 ih2=>exact .fn f first cap us vs h1 h2 ih1 ih2
 |fr n c v h=>exact .fr n c v (h.mono (λb hb=>hw b hb.1) λb hb=>⟨hI b hb.1,hb.2⟩)
 |gh P v h1 h=>exact .gh P v h1 h
def CRep.one {w:World} {I:Nat->Prop} {c:C} {v:Value} (h:CRep w I c v):v.oneCell'=true:=by
 cases h<;>first|assumption|rfl|exact FRep.one (by assumption)
inductive CReps (w:World) (I:Nat->Prop):List C->List Value->Prop where
 |nil:CReps w I [] []
 |cons {c:C} {v:Value} {cs:List C} {vs:List Value} (h:CRep w I c v) (t:CReps w I cs vs):CReps w I (c::cs) (v::vs)
def CReps.mono {w w':World} {I I':Nat->Prop} (hw:∀b,I b->w'.heap[b]? =w.heap[b]?) (hI:∀b,I b->I' b) {cs:List C} {vs:List Value} (h:CReps w I cs vs):CReps w' I' cs vs:=by
 induction h with
 |nil=>exact .nil
 |cons h _ ih=>exact .cons (h.mono hw hI) ih
def CReps.length {w:World} {I:Nat->Prop} {cs:List C} {vs:List Value} (h:CReps w I cs vs):cs.length=vs.length:=by
 induction h with
 |nil=>rfl
 |cons _ _ ih=>simp [ih]
variable {I:Nat->Prop}
def CReps.at_ {cs:List C} {vs:List Value} (h:CReps w I cs vs):∀{j:Nat} {c:C},cs[j]? =some c->∃v,vs[j]? =some v/\CRep w I c v:=by
 induction h with
 |nil=>intro j c hc;simp at hc
 |cons h t ih=>
  intro j c hc
  cases j with
  |zero=>simp at hc;subst hc;exact ⟨_,rfl,h⟩
  |succ j=>simpa using ih (by simpa using hc)
def CReps.of_at {w:World} {I:Nat->Prop}:∀{cs:List C} {vs:List Value},cs.length=vs.length->(∀(j:Nat) c v,cs[j]? =some c->vs[j]? =some v->CRep w I c v)->CReps w I cs vs
 |[],[],_,_=>.nil
 |c::cs,v::vs,hl,h=>.cons (h 0 c v rfl rfl) (CReps.of_at (by simpa using hl) λj c' v' hc hv=>h (j+1) c' v' (by simpa using hc) (by simpa using hv))
 |[],_::_,hl,_=>by simp at hl
 |_::_,[],hl,_=>by simp at hl
def CReps.append {cs ds:List C} {vs us:List Value} (h:CReps w I cs vs) (k:CReps w I ds us):CReps w I (cs++ds) (vs++us):=by
 induction h with
 |nil=>exact k
 |cons h _ ih=>exact .cons h ih
def CReps.take {w:World} {I:Nat->Prop} {cs:List C} {vs:List Value} (h:CReps w I cs vs) (n:Nat):CReps w I (cs.take n) (vs.take n):=by
 induction h generalizing n with
 |nil=>simp;exact .nil
 |cons h _ ih=>cases n with
  |zero=>simp;exact .nil
  |succ n=>exact .cons h (ih n)
def CReps.drop {w:World} {I:Nat->Prop} {cs:List C} {vs:List Value} (h:CReps w I cs vs) (n:Nat):CReps w I (cs.drop n) (vs.drop n):=by
 induction h generalizing n with
 |nil=>simp;exact .nil
 |cons h t ih=>cases n with
  |zero=>exact .cons h t
  |succ n=>exact ih n
def CReps.one {w:World} {I:Nat->Prop} {cs:List C} {vs:List Value} (h:CReps w I cs vs):∀v∈vs,v.oneCell'=true:=by
 induction h with
 |nil=>intro v hv;simp at hv
 |cons h _ ih=>intro v hv;rcases ag.1 hv with rfl|hv;exact h.one;exact ih v hv
inductive V where
 |c (x:C)
 |agg (l:List C)
 |tup (l:List V)
 |un
 |ifv (b:Bool) (x:V)
def V1Rep (w:World) (I:Nat->Prop):V->Value->Prop
 |.c x,v=>CRep w I x v
 |.agg l,v=>∃vs:List Value,v=.agg vs.toArray/\CReps w I l vs
 |.un,_=>True
 |.ifv b x,v=>(b=true->(match x with|.c y=>CRep w I y v|.agg l=>∃vs:List Value,v=.agg vs.toArray/\CReps w I l vs|.un=>True|_=>False))/\(b=false->v=undef)
 |.tup _,_=>False
def V1Reps (w:World) (I:Nat->Prop):List V->List Value->Prop
 |[],[]=>True
 |x::xs,v::vs=>V1Rep w I x v/\V1Reps w I xs vs
 |_,_=>False
def VRep (w:World) (I:Nat->Prop):V->Value->Prop
 |.tup l,v=>∃vs:List Value,v=.tuple vs.toArray/\V1Reps w I l vs
 |x,v=>V1Rep w I x v
def V1Rep.mono {w w':World} {I I':Nat->Prop} (hw:∀b,I b->w'.heap[b]? =w.heap[b]?) (hI:∀b,I b->I' b) {x:V} {v:Value} (h:V1Rep w I x v):V1Rep w' I' x v:=by
 cases x with
 |c x=>exact CRep.mono hw hI h
 |agg l=>obtain ⟨vs,e,k⟩:=h;exact ⟨vs,e,k.mono hw hI⟩
 |tup l=>exact h.elim
 |un=>trivial
 |ifv b x=>
  refine ⟨λhb=>?_,h.2⟩
  have h':=h.1 hb
  cases x with
  |c x=>exact CRep.mono hw hI h'
  |agg l=>obtain ⟨vs,e,k⟩:=h';exact ⟨vs,e,k.mono hw hI⟩
  |un=>trivial
  |tup l=>exact h'.elim
  |ifv b x=>exact h'.elim
def V1Reps.mono {w w':World} {I I':Nat->Prop} (hw:∀b,I b->w'.heap[b]? =w.heap[b]?) (hI:∀b,I b->I' b):∀{l:List V} {vs:List Value},V1Reps w I l vs->V1Reps w' I' l vs
 |[],[],_=>trivial
 |_::_,_::_,h=>⟨h.1.mono hw hI,V1Reps.mono hw hI h.2⟩
 |[],_::_,h=>h.elim
 |_::_,[],h=>h.elim
def VRep.mono {w w':World} {I I':Nat->Prop} (hw:∀b,I b->w'.heap[b]? =w.heap[b]?) (hI:∀b,I b->I' b) {x:V} {v:Value} (h:VRep w I x v):VRep w' I' x v:=by
 cases x with
 |c x=>exact CRep.mono hw hI h
 |agg l=>exact V1Rep.mono (x:=.agg l) hw hI h
 |tup l=>obtain ⟨vs,e,k⟩:=h;exact ⟨vs,e,k.mono hw hI⟩
 |un=>trivial
 |ifv b x=>exact V1Rep.mono (x:=.ifv b x) hw hI h
def V1Rep.up {x:V} {v:Value} (h:V1Rep w I x v):VRep w I x v:=by
 cases x with
 |tup l=>exact h.elim
 |_=>exact h
inductive E where
 |row (b:Nat) (t:nr) (cells:List C)
 |vec (sv:Value) (t:nr) (size:Nat) (rows:List (List C))
 |blk (b:Nat) (R:World->(Nat->Prop)->Obj->Prop)
 |reg (bs:List Nat) (R:World->Prop)
 |any (bs:List Nat) (R:World->(Nat->Prop)->Prop)
def BV:Value->List Nat
 |.slice (some a) _ (_+1)=>[a.block]
 |_=>[]
def DT {v:Value} {b:Nat} (h:b∈BV v):v.ownBlock=some b:=by
 unfold BV at h
 split at h
 ·simp only [aR] at h;subst h;rfl
 ·cases h
def tz {v:Value} (h:BV v≠[]) {b:Nat} (k:v.ownBlock=some b):b∈BV v:=by
 unfold BV at h⊢
 split at h
 ·simp only [Value.ownBlock,ay] at k;subst k;simp
 ·exact absurd rfl h
def E.blocks:E->List Nat
 |.row b _ _=>[b]
 |.vec sv _ _ _=>BV sv
 |.blk b _=>[b]
 |.reg bs _=>bs
 |.any bs _=>bs
def ERep (w:World) (I:Nat->Prop):E->Prop
 |.row b t cells=>∃vs:List Value,w.heap[b]? =some (.cells vs.toArray t (0,0))/\CReps w I cells vs
 |.vec sv t size rows=>(∃a,sv=.slice a 0 0/\rows=[])∨(BV sv≠[]/\∃xs:List Value,w.ownsRow 0 t size sv rows.length xs/\CReps w I rows.flatten xs/\∀r,r∈rows->r.length=size)
 |.blk b R=>∃o,w.heap[b]? =some o/\R w I o
 |.reg bs R=>(∀b,b∈bs->b<w.heap.size)/\R w
 |.any bs R=>(∀b,b∈bs->b<w.heap.size)/\R w I
def E.Mono:E->Prop
 |.blk _ R=>∀(w w':World) (I I':Nat->Prop),(∀b,I b->w'.heap[b]? =w.heap[b]?)->(∀b,I b->I' b)->∀o,R w I o->R w' I' o
 |.reg bs R=>∀(w w':World),(∀b,b∈bs->w'.heap[b]? =w.heap[b]?)->R w->R w'
 |.any bs R=>∀(w w':World) (I I':Nat->Prop),(∀b,I b->w'.heap[b]? =w.heap[b]?)->(∀b,I b->I' b)->(∀b,b∈bs->w'.heap[b]? =w.heap[b]?)->R w I->R w' I'
 |_=>True
def bC (μ:List E):List Nat:=μ.flatMap E.blocks
structure Cfg where
 P:Program
 N:Nat
 G:World->Prop
 hG:∀w w':World,(∀b,b<N->w'.heap[b]? =w.heap[b]?)->G w->G w'
structure Heap (X:Cfg) (w:World) (I:Nat->Prop) (μ:List E):Prop where
 lo:X.N<=w.heap.size
 glob:X.G w
 nodup:(bC μ).Nodup
 own:∀b,b∈bC μ->X.N<=b/\¬I b
 imm:∀b,I b->b<w.heap.size
 rep:∀e,e∈μ->ERep w I e
 mono:∀e,e∈μ->e.Mono
structure Ext (w:World) (I:Nat->Prop) (μ:List E) (w':World) (I':Nat->Prop) (μ':List E):Prop where
 os:w'.os=w.os
 tape:w'.tape=w.tape
 output:w'.output=w.output
 size:w.heap.size<=w'.heap.size
 block:∀b,b<w.heap.size->b ∉ bC μ->w'.heap[b]? =w.heap[b]?
 imm:∀b,I b->I' b
 imm':∀b,I' b->I b∨b∈bC μ∨w.heap.size<=b
 own':∀b,b∈bC μ'->b∈bC μ∨w.heap.size<=b
def Ext.refl (w:World) (I:Nat->Prop) (μ:List E):Ext w I μ w I μ:=
 ⟨rfl,rfl,rfl,aC _,λ_ _ _=>rfl,λ_ h=>h,λ_ h=>.inl h,λ_ h=>.inl h⟩
def Ext.trans {w1 w2 w3:World} {I1 I2 I3:Nat->Prop} {μ1 μ2 μ3:List E} (h:Ext w1 I1 μ1 w2 I2 μ2) (k:Ext w2 I2 μ2 w3 I3 μ3):Ext w1 I1 μ1 w3 I3 μ3 where
 os:=k.os.trans h.os
 tape:=k.tape.trans h.tape
 output:=k.output.trans h.output
 size:=aL h.size k.size
 block:=λb hb hn=>by
  rw [<-h.block b hb hn]
  exact k.block b (gi hb h.size) λhm=>by
   rcases h.own' b hm with h'|h'
   ·exact hn h'
   ·omega
 imm:=λb hb=>k.imm b (h.imm b hb)
 imm':=λb hb=>by
  rcases k.imm' b hb with h'|h'|h'
  ·exact h.imm' b h'
  ·rcases h.own' b h' with h''|h''
   ·exact .inr (.inl h'')
   ·exact .inr (.inr h'')
  ·exact .inr (.inr (aL h.size h'))
 own':=λb hb=>by
  rcases k.own' b hb with h'|h'
  ·exact h.own' b h'
  ·exact .inr (aL h.size h')
variable {X:Cfg} {I':Nat->Prop}
def Heap.still {μ μ':List E} (h:Heap X w I μ) (x:Ext w I μ w' I' μ'):∀b,I b->w'.heap[b]? =w.heap[b]? :=
 λb hb=>x.block b (h.imm b hb) λhm=>(h.own b hm).2 hb
def Heap.vrep {μ μ':List E} (h:Heap X w I μ) (x:Ext w I μ w' I' μ') {V:V} {v:Value} (r:VRep w I V v):VRep w' I' V v:=
 r.mono (h.still x) x.imm
def VD {μ:List E} {e:E} (he:e∈μ) {b:Nat} (hb:b∈e.blocks):b∈bC μ:=dm.2 ⟨e,he,hb⟩
def kU (μ φ:List E):bC (μ++φ)=bC μ++bC φ:=by simp [bC]
def VB (e:E) (μ:List E):bC (e::μ)=e.blocks++bC μ:=by simp [bC]
def SS {μ φ:List E} (h:μ.Perm φ):(bC μ).Perm (bC φ):=h.flatMap_right _
def Heap.perm {μ φ:List E} (h:Heap X w I μ) (p:μ.Perm φ):Heap X w I φ:=
 ⟨h.lo,h.glob,(SS p).nodup_iff.1 h.nodup,λb hb=>h.own b ((SS p).mem_iff.2 hb),h.imm,λe he=>h.rep e (p.mem_iff.2 he),λe he=>h.mono e (p.mem_iff.2 he)⟩
def Heap.left {μ φ:List E} (h:Heap X w I (μ++φ)):Heap X w I μ:=by
 have hn:=h.nodup
 have ho:=h.own
 rw [kU] at hn ho
 exact ⟨h.lo,h.glob,(d9.1 hn).1,λb hb=>ho b (aq.2 (.inl hb)),h.imm,λe he=>h.rep e (aq.2 (.inl he)),λe he=>h.mono e (aq.2 (.inl he))⟩
def ERep.lt {w:World} {I:Nat->Prop} {e:E} (h:ERep w I e) {b:Nat} (hb:b∈e.blocks):b<w.heap.size:=by
 cases e with
 |row b' t cells=>
  obtain ⟨vs,hh,_⟩:=h
  simp only [E.blocks,aR] at hb
  subst hb
  exact (bv.1 hh).1
 |vec sv t size rows=>
  simp only [E.blocks] at hb
  rcases h with ⟨a,rfl,rfl⟩|⟨_,xs,hown,_⟩
  ·cases a<;>cases hb
  ·exact (hown.lt _ (DT hb)).2
 |blk b' R=>
  obtain ⟨o,hh,_⟩:=h
  simp only [E.blocks,aR] at hb
  subst hb
  exact (bv.1 hh).1
 |reg bs R=>exact h.1 b hb
 |any bs R=>exact h.1 b hb
variable {rows:List (List C)} {sv:Value} {t:nr}
def zPd {size:Nat} {xs:List Value} (h:w.ownsRow 0 t size sv rows.length xs) (hc:CReps w I rows.flatten xs) (hl:∀r,r∈rows->r.length=size):ERep w I (.vec sv t size rows):=by
 rcases h.2 with ⟨rfl,hn⟩|⟨g,cap,cur,rfl,_,_,hle,_⟩
 ·exact .inl ⟨none,rfl,bi hn⟩
 ·cases cap with
  |zero=>
   have:rows.length=0:=by omega
   rw [this]
   exact .inl ⟨_,rfl,bi this⟩
  |succ c=>exact .inr ⟨by simp [BV],xs,h,hc,hl⟩
def Heap.lt {X:Cfg} {w:World} {I:Nat->Prop} {μ:List E} (h:Heap X w I μ) {b:Nat} (hb:b∈bC μ):b<w.heap.size:=by
 obtain ⟨e,he,hb'⟩:=dm.1 hb
 exact (h.rep e he).lt hb'
def ERep.mono {w w':World} {I I':Nat->Prop} {e:E} (hm:e.Mono) (hw:∀b,I b->w'.heap[b]? =w.heap[b]?) (hI:∀b,I b->I' b) (hb:∀b,b∈e.blocks->w'.heap[b]? =w.heap[b]?) (h:ERep w I e):ERep w' I' e:=by
 cases e with
 |row b t cells=>
  obtain ⟨vs,hh,hc⟩:=h
  exact ⟨vs,by rw [hb b (by simp [E.blocks])];exact hh,hc.mono hw hI⟩
 |vec sv t size rows=>
  rcases h with h|⟨hne,xs,⟨hl,hown⟩,hc,hr⟩
  ·exact .inl h
  refine .inr ⟨hne,xs,⟨hl,?_⟩,hc.mono hw hI,hr⟩
  rcases hown with h0|⟨g,cap,cur,rfl,hg,hh,rest⟩
  ·exact .inl h0
  ·exact .inr ⟨g,cap,cur,rfl,hg,by rw [hb g (tz hne rfl)];exact hh,rest⟩
 |blk b R=>
  obtain ⟨o,hh,hr⟩:=h
  exact ⟨o,by rw [hb b (by simp [E.blocks])];exact hh,hm _ _ _ _ hw hI _ hr⟩
 |reg bs R=>
  refine ⟨λb h'=>?_,hm w w' hb h.2⟩
  have h1:=h.1 b h'
  have h2:=hb b h'
  rw [aN h1] at h2
  exact (bv.1 h2).1
 |any bs R=>
  refine ⟨λb h'=>?_,hm w w' I I' hw hI hb h.2⟩
  have h1:=h.1 b h'
  have h2:=hb b h'
  rw [aN h1] at h2
  exact (bv.1 h2).1
def sx:(∀(p:Prop) [Decidable p],(decide p=true)↔p)/\(∀(p:Prop) [Decidable p],(decide p=false)↔¬p)/\(∀b:Bool,((!b)=true)↔(b=false))/\(∀b:Bool,((!b)=false)↔(b=true))/\
  (∀a b:Bool,((a&&b)=true)↔(a=true/\b=true))/\(∀a b:Bool,((a||b)=true)↔(a=true∨b=true))/\(∀a b:Bool,((a&&b)=false)↔(a=false∨b=false))/\(∀a b:Bool,((a||b)=false)↔(a=false/\b=false))/\
  (∀a b:Int,(¬a<b)↔(b<=a))/\(∀a b:Int,(¬a<=b)↔(b<a))/\(∀(α β:Type) (f:α->β) (l:List α),(l.map f).length=l.length):=
 ⟨λp _=>decide_eq_true_iff,λp _=>ao,λb=>by cases b<;>simp,λb=>by cases b<;>simp,λa b=>by cases a<;>cases b<;>simp,λa b=>by cases a<;>cases b<;>simp,λa b=>by cases a<;>cases b<;>simp,λa b=>by cases a<;>cases b<;>simp,
  λa b=>Int.not_lt,λa b=>Int.not_le,λ_ _ f l=>jh f⟩
def Heap.frame {μ φ μ':List E} (h:Heap X w I (μ++φ)) (h':Heap X w' I' μ') (x:Ext w I μ w' I' μ'):
  Heap X w' I' (μ'++φ)/\Ext w I (μ++φ) w' I' (μ'++φ):=by
 have hn:=h.nodup
 rw [kU] at hn
 obtain ⟨_,hn2,hn3⟩:=d9.1 hn
 have hφ:∀b,b∈bC φ->b<w.heap.size/\b ∉ bC μ/\¬I b/\X.N<=b:=λb hb=>
  have hm:b∈bC (μ++φ):=by rw [kU];exact aq.2 (.inr hb)
  ⟨h.lt hm,λhm'=>hn3 b hm' b hb rfl,(h.own b hm).2,(h.own b hm).1⟩
 have still:∀b,I b->w'.heap[b]? =w.heap[b]? :=h.left.still x
 refine ⟨⟨h'.lo,h'.glob,?_,?_,h'.imm,?_,?_⟩,⟨x.os,x.tape,x.output,x.size,?_,x.imm,?_,?_⟩⟩
 ·rw [kU]
  refine d9.2 ⟨h'.nodup,hn2,λa ha b hb e=>?_⟩
  subst e
  obtain ⟨h1,h2,_⟩:=hφ a hb
  rcases x.own' a ha with h3|h3
  ·exact h2 h3
  ·omega
 ·intro b hb
  rw [kU] at hb
  rcases aq.1 hb with hb|hb
  ·exact h'.own b hb
  ·obtain ⟨h1,h2,h3,h4⟩:=hφ b hb
   refine ⟨h4,λhI=>?_⟩
   rcases x.imm' b hI with h5|h5|h5
   ·exact h3 h5
   ·exact h2 h5
   ·omega
 ·intro e he
  rcases aq.1 he with he|he
  ·exact h'.rep e he
  ·refine (h.rep e (aq.2 (.inr he))).mono (h.mono e (aq.2 (.inr he))) still x.imm λb hb=>?_
   obtain ⟨h1,h2,_⟩:=hφ b (VD he hb)
   exact x.block b h1 h2
 ·intro e he
  rcases aq.1 he with he|he
  ·exact h'.mono e he
  ·exact h.mono e (aq.2 (.inr he))
 ·intro b hb hm
  rw [kU] at hm
  exact x.block b hb λh1=>hm (aq.2 (.inl h1))
 ·intro b hb
  rw [kU]
  rcases x.imm' b hb with h1|h1|h1
  ·exact .inl h1
  ·exact .inr (.inl (aq.2 (.inl h1)))
  ·exact .inr (.inr h1)
 ·intro b hb
  rw [kU] at hb⊢
  rcases aq.1 hb with hb|hb
  ·rcases x.own' b hb with h1|h1
   ·exact .inl (aq.2 (.inl h1))
   ·exact .inr h1
  ·exact .inl (aq.2 (.inr hb))
def Ext.perm {μ μ' φ φ':List E} (x:Ext w I μ w' I' μ') (p:μ.Perm φ) (q:μ'.Perm φ'):Ext w I φ w' I' φ':=
 ⟨x.os,x.tape,x.output,x.size,λb hb hm=>x.block b hb λh=>hm ((SS p).mem_iff.1 h),x.imm,
  λb hb=>(x.imm' b hb).imp id (Or.imp (SS p).mem_iff.1 id),
  λb hb=>(x.own' b ((SS q).mem_iff.2 hb)).imp (SS p).mem_iff.1 id⟩
def Ext.less {μ μ' φ:List E} (x:Ext w I μ w' I' μ') (h:∀b,b∈bC φ->b∈bC μ'):Ext w I μ w' I' φ:=
 ⟨x.os,x.tape,x.output,x.size,x.block,x.imm,x.imm',λb hb=>x.own' b (h b hb)⟩
/-! ## States -/
structure S where
 regs:List (Nat×V)
 μ:List E
def bJ:List (Nat×V)->Nat->V
 |[],_=>.un
 |(t,v)::r,s=>cond (Nat.beq t s) v (bJ r s)
def lF (d:Option Tmp) (v:V) (regs:List (Nat×V)):List (Nat×V):=
 match d with
 |some t=>(t,v)::regs
 |none=>regs
def Oj (t s:Nat) (v:V) (regs:List (Nat×V)):bJ ((t,v)::regs) s=if t=s then v else bJ regs s:=by
 show cond (Nat.beq t s) v (bJ regs s)=_
 by_cases h:t=s
 ·subst h
  rw [ab rfl,show Nat.beq t t=true from Nat.beq_eq ▸ rfl]
  rfl
 ·rw [aa h,show Nat.beq t s=false from by cases hb:Nat.beq t s;rfl;exact absurd (bj hb) h]
  rfl
structure Z where
 w:World
 I:Nat->Prop
 μ:List E
 ds:List Deferred
 rd:Option Nat
 nm:Bool
def se (rd:Option Nat):Fence:={ Fence.wide with round:=rd }
def xC (D:Nat):Deferred:={ target:=.collected D,args:= #[] }
structure ZLe (z z':Z):Prop where
 rd:z'.rd=z.rd
 ext:Ext z.w z.I z.μ z'.w z'.I z'.μ
 nm:z'.nm=z.nm
 same:z.nm=true->z'.ds=z.ds
 marks:∃Ds:List Nat,z'.ds=Ds.map xC++z.ds/\Ds.Nodup/\∀D,D∈Ds->z.w.heap.size<=D/\D<z'.w.heap.size/\¬z'.I D/\D ∉ bC z'.μ/\z'.w.heap[D]? =some (.deferred (some []))
def ZLe.refl (z:Z):ZLe z z:=⟨rfl,Ext.refl _ _ _,rfl,λ_=>rfl,[],rfl,iv,λD h=>by simp at h⟩
def Ext.stays {μ μ':List E} (x:Ext w I μ w' I' μ') {D:Nat} (h1:D<w.heap.size) (h2:¬I D) (h3:D ∉ bC μ):D<w'.heap.size/\¬I' D/\D ∉ bC μ'/\w'.heap[D]? =w.heap[D]? :=
 ⟨gi h1 x.size,λh=>by rcases x.imm' D h with h|h|h;exact h2 h;exact h3 h;omega,λh=>by rcases x.own' D h with h|h;exact h3 h;omega,x.block D h1 h3⟩
def ZLe.trans {z1 z2 z3:Z} (h:ZLe z1 z2) (k:ZLe z2 z3):ZLe z1 z3:=by
 obtain ⟨r1,x1,q1,k1,D1,e1,n1,m1⟩:=h
 obtain ⟨r2,x2,q2,k2,D2,e2,n2,m2⟩:=k
 refine ⟨r2.trans r1,x1.trans x2,q2.trans q1,λh=>(k2 (q1.trans h)).trans (k1 h),D2++D1,by rw [e2,e1];simp,?_,λD hD=>?_⟩
 ·rw [d9]
  refine ⟨n2,n1,λa ha b hb hab=>?_⟩
  subst hab
  have:=(m2 a ha).1
  have:=(m1 a hb).2.1
  omega
 ·rcases aq.1 hD with h|h
  ·obtain ⟨a,b,c,d,e⟩:=m2 D h
   have:=x1.size
   exact ⟨by omega,b,c,d,e⟩
  ·obtain ⟨a,b,c,d,e⟩:=m1 D h
   obtain ⟨b',c',d',e'⟩:=x2.stays b c d
   exact ⟨a,b',c',d',e'.trans e⟩
def RdOk (z:Z):Prop:=z.nm=false/\∀l,z.rd=some l->l<z.w.heap.size/\¬z.I l/\l ∉ bC z.μ/\∃r,z.w.heap[l]? =some (.loop r)
variable {z:Z}
def RdOk.le {z':Z} (h:RdOk z) (k:ZLe z z'):RdOk z':=by
 refine ⟨k.nm.trans h.1,λl hl=>?_⟩
 obtain ⟨h1,h2,h3,r,h4⟩:=h.2 l (by rw [<-k.rd];exact hl)
 obtain ⟨k1,k2,k3,k4⟩:=k.ext.stays h1 h2 h3
 exact ⟨k1,k2,k3,r,k4.trans h4⟩
def St (X:Cfg) (n:Nat) (z:Z) (σ:S) (a:Act) (w:World):Prop:=
 ∃I,Heap X w I σ.μ/\(∀t,VRep w I (bJ σ.regs t) (a.tmps.getD t undef))/\Ext z.w z.I z.μ w I σ.μ/\a.defers=z.ds/\a.tmps.size=n
def sO:Value->V
 |.agg cs=>if cs.all Value.oneCell' then .agg (cs.toList.map .lit) else .un
 |.tuple _=>.un
 |v=>.c (.lit v)
def ev (regs:List (Nat×V)):ns->V
 |.tmp t=>bJ regs t
 |.const v=>sO v
 |.global g=>.c (.lit (.pointer (some ⟨g,0,none⟩)))
 |.func f=>.c (.fn (.func f) [] [])
def CReps.lits {w:World} {I:Nat->Prop}:∀(l:List Value),(∀v,v∈l->v.oneCell'=true)->CReps w I (l.map .lit) l
 |[],_=>.nil
 |v::l,h=>.cons (.lit v (h v (by simp))) (CReps.lits l λu hu=>h u (by simp [hu]))
def zTv (w:World) (I:Nat->Prop) (v:Value):VRep w I (sO v) v:=by
 cases v with
 |agg cs=>
  by_cases h:cs.all Value.oneCell'=true
  ·have e:sO (.agg cs)=.agg (cs.toList.map .lit):=by simp only [sO];rw [ab h]
   rw [e]
   refine ⟨cs.toList,by simp,CReps.lits _ λv hv=>?_⟩
   rw [ec] at h
   exact h v (by simpa using hv)
  ·have e:sO (.agg cs)=.un:=by simp only [sO];rw [aa h]
   rw [e]
   trivial
 |tuple _=>trivial
 |_=>exact CRep.lit _ rfl
variable {a:Act}
def CF {regs:List (Nat×V)} (h:∀t,VRep w I (bJ regs t) (a.tmps.getD t undef)) (x:ns):VRep w I (ev regs x) (a.eval x):=by
 cases x with
 |tmp t=>exact h t
 |const v=>exact zTv w I v
 |global g=>exact CRep.lit _ rfl
 |func f=>exact CRep.fn (.func f) [] [] [] [] rfl rfl (λj c u hc=>by simp at hc) (λj c u hc=>by simp at hc)
def dY (X:Cfg) (n:Nat) (z:Z) (Q:Exit->S->Prop):Exit->Act->World->Prop:=
 λe a w=>∃z' σ,ZLe z z'/\Q e σ/\St X n z' σ a w
variable {Q:Exit->S->Prop} {n:Nat}
def P4 {z':Z} (h:ZLe z z') {e:Exit} (k:dY X n z' Q e a w):dY X n z Q e a w:=by
 obtain ⟨z'',σ,h',q,s⟩:=k
 exact ⟨z'',σ,h.trans h',q,s⟩
def oU (X:Cfg) (n:Nat) (z:Z) (c:Code) (Q:Exit->S->Prop) (σ:S):Prop:=
 ∀z',ZLe z z'->∀a w,St X n z' σ a w->c.wpIn (se z.rd) 0 X.P (dY X n z' Q) a w
def sA (K:S->Prop) (Q:Exit->S->Prop):Exit->S->Prop
 |.normal,σ=>K σ
 |e,σ=>Q e σ
def tX (id:Nat) (Q:Exit->S->Prop):Exit->S->Prop
 |.exit i,σ=>if i=id then Q .normal σ else Q (.exit i) σ
 |e,σ=>Q e σ
section rules
variable {X:Cfg} {n:Nat} {z:Z} {Q:Exit->S->Prop} {σ:S}
def vk {c:Code} {Q':Exit->S->Prop} (h:oU X n z c Q σ) (hq:∀e σ,Q e σ->Q' e σ):oU X n z c Q' σ:=
 λz' hz a w s=>iq (h z' hz a w s) λ_ _ _ ⟨z'',σ',hz',q,s'⟩=>⟨z'',σ',hz',hq _ _ q,s'⟩
def zJ (h:Q .normal σ):oU X n z .skip Q σ:=λz' _ _ _ s=>wpIn_skip ⟨z',σ,ZLe.refl _,h,s⟩
def zM (h:Q .ret σ):oU X n z .ret Q σ:=λz' _ _ _ s=>wpIn_ret ⟨z',σ,ZLe.refl _,h,s⟩
def qL {id:Nat} (h:Q (.exit id) σ):oU X n z (.exit id) Q σ:=λz' _ _ _ s=>wpIn_exit ⟨z',σ,ZLe.refl _,h,s⟩
def zF {x y:Code} (h:oU X n z x (sA (oU X n z y Q) Q) σ):oU X n z (.seq x y) Q σ:=by
 intro z1 hz1 a w s
 refine wpIn_seq (iq (h z1 hz1 a w s) ?_)
 rintro e a' w' ⟨z2,σ',hz2,q,s'⟩
 cases e with
 |normal=>exact iq (q z2 (hz1.trans hz2) a' w' s') λ_ _ _ k=>P4 hz2 k
 |_=>exact ⟨z2,σ',hz2,q,s'⟩
def zS {id:Nat} {c:Code} (h:oU X n z c (tX id Q) σ):oU X n z (.block id c) Q σ:=by
 intro z1 hz1 a w s
 refine wpIn_block (iq (h z1 hz1 a w s) ?_)
 rintro e a' w' ⟨z2,σ',hz2,q,s'⟩
 cases e with
 |exit i=>
  simp only [tX] at q
  simp only [Exit.inBlock]
  split at q
  ·rename_i h;rw [ab h];exact ⟨z2,σ',hz2,q,s'⟩
  ·rename_i h;rw [aa h];exact ⟨z2,σ',hz2,q,s'⟩
 |_=>exact ⟨z2,σ',hz2,q,s'⟩
def zK {regs:List (Nat×V)} {μ:List E} {x:ns} {c d:Code} {b:Bool} (hb:ev regs x=.c (.lit (.bool b))) (h1:b=true->oU X n z c Q ⟨regs,μ⟩) (h2:b=false->oU X n z d Q ⟨regs,μ⟩):
  oU X n z (.cond x c d) Q ⟨regs,μ⟩:=by
 intro z1 hz1 a w s
 obtain ⟨I,hH,hR,hx⟩:=s
 have hv:=CF hR x
 rw [hb] at hv
 have hv':a.eval x=.bool b:=by
  generalize a.eval x=v at hv
  cases hv;rfl
 exact wpIn_cond_split hv' (λh=>h1 h z1 hz1 a w ⟨I,hH,hR,hx⟩) (λh=>h2 h z1 hz1 a w ⟨I,hH,hR,hx⟩)
def qQ {regs:List (Nat×V)} {μ:List E} {x:ns} {c d:Code} {p:Prop} [Decidable p] (hb:ev regs x=.c (.lit (.bool (decide p)))) (h1:p->oU X n z c Q ⟨regs,μ⟩) (h2:¬p->oU X n z d Q ⟨regs,μ⟩):
  oU X n z (.cond x c d) Q ⟨regs,μ⟩:=zK hb (λh=>h1 (ca h)) (λh=>h2 (ir h))
def Weak (σ τ:S):Prop:=∀(X:Cfg) (n:Nat) (z:Z) (a:Act) (w:World),St X n z σ a w->St X n z τ a w
def Weak.refl (σ:S):Weak σ σ:=λ_ _ _ _ _ h=>h
def Weak.trans {σ τ υ:S} (h:Weak σ τ) (k:Weak τ υ):Weak σ υ:=λX n z a w s=>k X n z a w (h X n z a w s)
def zT {c:Code} (τ:S) (h:Weak σ τ) (k:oU X n z c Q τ):oU X n z c Q σ:=λz1 hz1 a w s=>k z1 hz1 a w (h X n z1 a w s)
def Ef {c:Code} (G:Type) (T:G->S) (inv:G->Prop) (m:G->Nat) (h0:∃g,inv g/\Weak σ (T g))
  (round:∀g,inv g->oU X n z c (sA (λτ=>∃g',inv g'/\m g'<m g/\Weak τ (T g')) Q) (T g)):oU X n z (.loop c) Q σ:=by
 intro z1 hz1 a w s
 obtain ⟨g0,i0,w0⟩:=h0
 intro b k cs hro hb hr
 have key:∀N a w g z2,m g=N->inv g->ZLe z1 z2->St X n z2 (T g) a w->
   ∃e a' w',dY X n z1 Q e a' w'/\ArrivesIn (Machine.fenced X.P (se z.rd)) X.P (lone (b.atR a (.code c::.inLoop c::k)) cs w) b k cs e a' w':=by
  intro N
  induction N using Nat.strongRecOn with
  |_ N ih=>
   intro a w g z2 hN hi hz2 hs
   obtain ⟨e,a₁,w₁,⟨z3,τ,hz3,hq,hτ⟩,harr⟩:=round g hi z2 (hz1.trans hz2) a w hs b (.inLoop c::k) cs hro hb hr
   have hz:=hz2.trans hz3
   cases e with
   |normal=>
    obtain ⟨g',hi',hlt,hw⟩:=hq
    obtain ⟨e₂,a₂,w₂,hq₂,harr₂⟩:=ih (m g') (hN ▸ hlt) a₁ w₁ g' z3 rfl hi' hz (hw _ _ _ _ _ hτ)
    exact ⟨e₂,a₂,w₂,hq₂,.of_steps (StepsIn.trans harr (.one (fenced_calm hb hr rfl) stepR_inLoop)) harr₂⟩
   |exit id=>exact ⟨_,a₁,w₁,⟨z3,τ,hz,hq,hτ⟩,.pass (x:=.inLoop c) rfl (λ_ _=>.inl (by simp)) harr⟩
   |goto l=>exact ⟨_,a₁,w₁,⟨z3,τ,hz,hq,hτ⟩,.pass (x:=.inLoop c) rfl (λ_ _=>.inl (by simp)) harr⟩
   |ret=>exact ⟨_,a₁,w₁,⟨z3,τ,hz,hq,hτ⟩,.pass (x:=.inLoop c) rfl (λ_ _=>.inl (by simp)) harr⟩
   |panic ch=>exact ⟨_,a₁,w₁,⟨z3,τ,hz,hq,hτ⟩,.pass (x:=.inLoop c) rfl (λ_ _=>.inl (by simp)) harr⟩
   |outgrown=>exact ⟨_,a₁,w₁,⟨z3,τ,hz,hq,hτ⟩,.pass (x:=.inLoop c) rfl (λ_ _=>.inl (by simp)) harr⟩
 obtain ⟨e,a',w',hq,harr⟩:=key _ a w g0 z1 rfl i0 (ZLe.refl _) (w0 _ _ _ _ _ s)
 exact ⟨e,a',w',hq,.of_steps (.one (fenced_calm hb hr rfl) stepR_loop) harr⟩
end rules
/-! ## Weakening -/
def VLe (x y:V):Prop:=∀w I v,VRep w I x v->VRep w I y v
def VLe.refl (x:V):VLe x x:=λ_ _ _ h=>h
def VLe.of_eq {x y:V} (h:x=y):VLe x y:=h ▸ VLe.refl x
def eX:List (Nat×V)->List (Nat×V)->Prop
 |[],_=>True
 |(t,v)::r,R=>VLe (bJ R t) v/\eX r R
def Fp (r:List (Nat×V)) (t:Nat):bJ r t=.un∨(t,bJ r t)∈r:=by
 induction r with
 |nil=>exact .inl rfl
 |cons p r ih=>
  obtain ⟨s,v⟩:=p
  rw [Oj]
  by_cases h:s=t
  ·subst h;rw [ab rfl];exact .inr (by simp)
  ·rw [aa h]
   rcases ih with h'|h'
   ·exact .inl h'
   ·exact .inr (aH _ h')
def ze {R:List (Nat×V)}:∀{r:List (Nat×V)},eX r R->∀t v,(t,v)∈r->VLe (bJ R t) v
 |[],_,_,_,h=>by simp at h
 |(s,u)::r,h,t,v,hm=>by
  rcases ag.1 hm with e|hm
  ·injection e with e1 e2;subst e1;subst e2;exact h.1
  ·exact ze h.2 t v hm
def keep:List Bool->List E->List E
 |true::m,e::μ=>e::keep m μ
 |false::m,_::μ=>keep m μ
 |_,_=>[]
def zRc:∀(m:List Bool) (μ:List E),∃φ,(keep m μ++φ).Perm μ
 |true::m,e::μ=>by
  obtain ⟨φ,p⟩:=zRc m μ
  exact ⟨φ,List.Perm.cons e p⟩
 |false::m,e::μ=>by
  obtain ⟨φ,p⟩:=zRc m μ
  exact ⟨e::φ,g9.trans (List.Perm.cons e p)⟩
 |[],μ=>⟨μ,by simp [keep]⟩
 |true::_,[]=>⟨[],by simp [keep]⟩
 |false::_,[]=>⟨[],by simp [keep]⟩
variable {σ:S}
def Weak.mk {τ:S} (m:List Bool) (h:eX τ.regs σ.regs) (hμ:keep m σ.μ=τ.μ):Weak σ τ:=by
 intro X n z a w ⟨I,hH,hR,hx,hd,hs⟩
 obtain ⟨φ,p⟩:=zRc m σ.μ
 rw [hμ] at p
 have hH':Heap X w I (τ.μ++φ):=hH.perm p.symm
 refine ⟨I,hH'.left,λt=>?_,?_,hd,hs⟩
 ·rcases Fp τ.regs t with e|hm
  ·rw [e];trivial
  ·exact ze h t _ hm w I _ (hR t)
 ·exact hx.less λb hb=>(SS p).mem_iff.1 (by rw [kU];exact aq.2 (.inl hb))
def oH {p:Prop} (h:p:=by repeat (first|exact trivial|refine ⟨VLe.refl _,?_⟩)):p:=h
def oz:=@Weak.mk
/-! ## A loop,the registers and the memory that it leaves alone carried along -/
def cA {α:Type}:Nat->List α->Option (List α)
 |0,l=>some l
 |k+1,_::l=>cA k l
 |_+1,[]=>none
def qG {c:Code} {regs base:List (Nat×V)} {μ bμ:List E} (k kμ:Nat) (_hb:cA k regs=some base) (_hm:cA kμ μ=some bμ) (G:Type) (hd:G->List (Nat×V)) (hμ:G->List E) (inv:G->Prop) (m:G->Nat) (h0:∃g,inv g/\Weak ⟨regs,μ⟩ ⟨hd g++base,hμ g++bμ⟩) (round:∀g,inv g->oU X n z c (sA (λτ=>∃g',inv g'/\m g'<m g/\Weak τ ⟨hd g'++base,hμ g'++bμ⟩) Q) ⟨hd g++base,hμ g++bμ⟩):oU X n z (.loop c) Q ⟨regs,μ⟩:=
 Ef G (λg=>⟨hd g++base,hμ g++bμ⟩) inv m h0 round
def rE (o:Oper):Bool:=match o.op with|.defer _=>false|_=>true
def dstOk (n:Nat) (o:Oper):Bool:=(match o.dst with|some d=>Nat.blt d n|none=>true)&&rE o
variable {o:Oper}
def dstOk.nd (h:dstOk n o=true):rE o=true:=by
 simp only [dstOk,ae] at h;exact h.2
def zQi (h:rE o=true) (rd:Option Nat) (e:ns->Value):o.semAt rd e=execOp e o:=by
 unfold Oper.semAt
 split
 ·rename_i hc;simp [rE,hc] at h
 ·rfl
def oX (X:Cfg) (n:Nat) (z:Z) (ops:Array Oper) (l:List Oper) (Q:Exit->S->Prop) (σ:S):Prop:=
 l.all (dstOk n)=true->∀z',ZLe z z'->∀a w,St X n z' σ a w->wpListIn (se z.rd) 0 X.P ops (dY X n z' Q) l a w
def zP {id:Nat} {l:List Oper} (hd:l.all (dstOk n)=true) (h:oX X n z l.toArray l Q σ):
  oU X n z (.region id l.toArray false) Q σ:=λz1 hz1 a w s=>wpIn_region_lit (h hd z1 hz1 a w s)
def OW (P:Program) (o:Oper) (a:Act) (w:World) (K:Act->World->Prop) (Q:Exit->Act->World->Prop):Prop:=
 rE o=true->∀rd,o.wpIn (se rd) 0 P a w K Q
def OpE (X:Cfg) (o:Oper) (e:ns->V) (μ:List E) (R:V->List E->Prop):Prop:=
 ∀(a:Act) (w:World) (I:Nat->Prop),Heap X w I μ->(∀x,x∈o.op.operands->VRep w I (e x) (a.eval x))->
  ∀(K:Act->World->Prop) (Q:Exit->Act->World->Prop),
   (∀v r μ' I' w',R r μ'->VRep w' I' r v->Heap X w' I' μ'->Ext w I μ w' I' μ'->K (a.put o.dst v) w')->OW X.P o a w K Q
def Det (X:Cfg) (o:Oper) (e:ns->V) (μ:List E) (r:V) (μ':List E):Prop:=OpE X o e μ λr' μ''=>r'=r/\μ''=μ'
def zKf {d:Tmp} {v:Value} (hs:a.tmps.size=n) (hd:d<n) (t:Nat):(a.put (some d) v).tmps.getD t undef=if d=t then v else a.tmps.getD t undef:=by
 simp only [Act.put,au,dy]
 by_cases h:d=t
 ·subst h;simp [hs,hd]
 ·simp [h]
def St.put {X:Cfg} {n:Nat} {z:Z} {σ:S} {a:Act} {w:World} {I:Nat->Prop} (hH:Heap X w I σ.μ) (hR:∀t,VRep w I (bJ σ.regs t) (a.tmps.getD t undef)) (hx:Ext z.w z.I z.μ w I σ.μ)
  (hd:a.defers=z.ds) (hs:a.tmps.size=n) {o:Oper} (ho:dstOk n o=true) {v:Value} {r:V} {μ':List E} {I':Nat->Prop} {w':World} (hr:VRep w' I' r v) (hH':Heap X w' I' μ') (x:Ext w I σ.μ w' I' μ'):
  St X n z ⟨lF o.dst r σ.regs,μ'⟩ (a.put o.dst v) w':=by
 refine ⟨I',hH',λt=>?_,hx.trans x,?_,?_⟩
 ·cases hdst:o.dst with
  |none=>exact hH.vrep x (hR t)
  |some d=>
   have hlt:d<n:=by
    simp only [dstOk,hdst,ae] at ho
    simpa [cr] using ho.1
   rw [zKf hs hlt]
   simp only [lF]
   rw [Oj]
   split
   ·exact hr
   ·exact hH.vrep x (hR t)
 ·cases hdst:o.dst<;>simp [Act.put,hd]
 ·cases hdst:o.dst<;>simp [Act.put,hs]
section steps
variable {X:Cfg} {n:Nat} {z:Z} {Q:Exit->S->Prop} {regs:List (Nat×V)} {μ:List E} {ops:Array Oper} {rest:List Oper} {o:Oper}
def zA (h:Q .normal ⟨regs,μ⟩):oX X n z ops [] Q ⟨regs,μ⟩:=λ_ z1 _ _ _ s=>⟨z1,_,ZLe.refl _,h,s⟩
def Lq {R:V->List E->Prop} (hg:o.guard=none) (h:OpE X o (ev regs) μ R) (k:∀r μ',R r μ'->oX X n z ops rest Q ⟨lF o.dst r regs,μ'⟩):oX X n z ops (o::rest) Q ⟨regs,μ⟩:=by
 intro hall z1 hz1 a w ⟨I,hH,hR,hx,hd,hs⟩
 simp only [bm,ae] at hall
 refine wpListIn_plain hg λK hK=>h a w I hH (λx _=>CF hR x) K _ ?_ (dstOk.nd hall.1) _
 intro v r μ' I' w' hr hv hH' x
 exact hK _ _ (k r μ' hr hall.2 z1 hz1 _ _ (St.put hH hR hx hd hs hall.1 hv hH' x))
def qB {R:V->List E->Prop} {d:Tmp} (hd:o.dst=some d) (hg:o.guard=none) (h:OpE X o (ev regs) μ R) (k:∀r μ',R r μ'->oX X n z ops rest Q ⟨(d,r)::regs,μ'⟩):oX X n z ops (o::rest) Q ⟨regs,μ⟩:=
 Lq hg h (by rw [hd];exact k)
def U3 {R:V->List E->Prop} (hd:o.dst=none) (hg:o.guard=none) (h:OpE X o (ev regs) μ R) (k:∀r μ',R r μ'->oX X n z ops rest Q ⟨regs,μ'⟩):oX X n z ops (o::rest) Q ⟨regs,μ⟩:=
 Lq hg h (by rw [hd];exact k)
def ua {r:V} {μ':List E} {d:Tmp} (hd:o.dst=some d) (hg:o.guard=none) (h:Det X o (ev regs) μ r μ') (k:oX X n z ops rest Q ⟨(d,r)::regs,μ'⟩):oX X n z ops (o::rest) Q ⟨regs,μ⟩:=
 qB hd hg h λ_ _ ⟨e1,e2⟩=>e1 ▸ e2 ▸ k
def zB {p:Prop} (h:p:=by omega):p:=h
def uA {p:Prop} (h:p:=by decide):p:=h
def uB {p:Prop} (h:p:=by kernel_rfl):p:=h
def qr {p:Prop} (h:p:=by rw [ho];simp [Op.operands]):p:=h
def tk {p:Prop} (h:p:=by simpa using h):p:=h
def Ac {p:Prop} (h:p:=by simp [hy]):p:=h
def AC {p:Prop} (h:p:=by rw [ho];simp [Op.operands,Call.operands]):p:=h
def Ca {p:Prop} (h:p:=by rw [h2];simp):p:=h
def Cb {p:Prop} (h:p:=by simp at h⊢;omega):p:=h
def G7 {p:Prop} (h:p:=by simp [hx]):p:=h
def Oe {p:Prop} (h:p:=by decide+kernel):p:=h
def Ox {p:Prop} (h:p:=by simpa using ho):p:=h
def Oy {p:Prop} (h:p:=by simp [ht]):p:=h
def Sj {p:Prop} (h:p:=by simp [hsz]):p:=h
def Sk {p:Prop} (h:p:=by unfold oQ;omega):p:=h
def Sl {p:Prop} (h:p:=by simp [hm]):p:=h
def SR {p:Prop} (h:p:=by simp only [pc];omega):p:=h
def Vx {p:Prop} (h:p:=by simp [hb]):p:=h
def Vy {p:Prop} (h:p:=by simp [h]):p:=h
def WN {p:Prop} (h:p:=by simpa using hr'):p:=h
def WO {p:Prop} (h:p:=by simpa using c3):p:=h
def WP {p:Prop} (h:p:=by simp [fB];omega):p:=h
def WQ {p:Prop} (h:p:=by rw [h];simp):p:=h
def ZK {p:Prop} (h:p:=by simpa using hl):p:=h
def ZL {p:Prop} (h:p:=by dsimp only;omega):p:=h
def ZM {p:Prop} (h:p:=by rw [G8];simp):p:=h
def xZ9 {p:Prop} (h:p:=by simpa using h1):p:=h
def xJ0 {p:Prop} (h:p:=by simpa using c):p:=h
def xJ1 {p:Prop} (h:p:=by simp only [pc,pw,qw,hll,ap];omega):p:=h
def xJ2 {p:Prop} (h:p:=by rw [Z1,zIv];rfl):p:=h
def xJ3 {p:Prop} (h:p:=by rw [h3];simp):p:=h
def xJ4 {p:Prop} (h:p:=by rw [c];simp):p:=h
def xJ5 {p:Prop} (h:p:=by have:=hH.lo;omega):p:=h
def xJ6 {p:Prop} (h:p:=by simpa [kd] using hk):p:=h
def xJ7 {p:Prop} (h:p:=by simp [E.blocks]):p:=h
def xJ8 {p:Prop} (h:p:=by simpa using hj):p:=h
def xJ9 {p:Prop} (h:p:=by simpa using hx):p:=h
def xK0 {p:Prop} (h:p:=by simpa using hi):p:=h
def xK1 {p:Prop} (h:p:=by have:=hs1.wt;omega):p:=h
def xK2 {p:Prop} (h:p:=by unfold lB;omega):p:=h
def xK3 {p:Prop} (h:p:=by simp only [ap,pc,pw,qw];omega):p:=h
def xK4 {p:Prop} (h:p:=by rw [yG zB] at hp;exact hp):p:=h
def xK5 {p:Prop} (h:p:=by simp only [Lz,aB,aw,sx] at g3_7;omega):p:=h
def xK6 {p:Prop} (h:p:=by simp only [Lz,aB,aw,sx] at g6_3;omega):p:=h
def xK7 {p:Prop} (h:p:=by simp only [Lz,aB,aw,sx] at g6_11;omega):p:=h
def xK8 {p:Prop} (h:p:=by simp only [Lz,aB,aw,sx] at g10_5;omega):p:=h
def xK9 {p:Prop} (h:p:=by have:=St.body_wt a;have:=Og ha;omega):p:=h
def xV0 {p:Prop} (h:p:=by simp only [Lz,aB,aj,pc] at g10_3⊢;omega):p:=h
def xV1 {p:Prop} (h:p:=by simp only [pc];exact ⟨zB,zB⟩):p:=h
def xV2 {p:Prop} (h:p:=by simp only [E.blocks];unfold BV;split<;>simp):p:=h
def xV3 {p:Prop} (h:p:=by rw [ho];simp [Op.operands,Call.operands,hy]):p:=h
def xV4 {p:Prop} (h:p:=by rw [az,ab hjm] at hj;exact hj):p:=h
def xV5 {p:Prop} (h:p:=by rintro _ _ ⟨rfl,rfl⟩;exact ⟨[_],rfl⟩):p:=h
def xV6 {p:Prop} (h:p:=by have:=Og hs;have:=St.body_wt s;omega):p:=h
def xV7 {p:Prop} (h:p:=by simp only [Lz,aB,aw,sx] at g5_2;omega):p:=h
def xV8 {p:Prop} (h:p:=by simp only [bu,ip];rw [zMs uD hx];simp only [ah,aG,bt];rfl):p:=h
def uC {p:Prop} (h:p:=by assumption):p:=h
def uD {p:Prop} (h:p:=by simp;omega):p:=h
def uF {p:Prop} (h:p:=by simp):p:=h
def uK {p:Prop} (h:p:=by first|rfl|simp|rw [aE uF]):p:=h
def O {α:Sort _} {a:α}:a=a:=rfl
def q7 {p:Prop} (h:p:=by
 have hlen2:=zDs hpart zB
 have ho:¬lB e.Op:=by unfold lB;omega
 refine zJ<|zF<|zF<|yE 13 mixed uB O O<|ou O (zQ O O)<|ou O (zQ O O)<|ou O (kT 0 O wR O O)<|ou O (yM O O O xV1)<|ou O (qU 0 O wR O O O SR SR)<|ou O (qA O yD O (kP 0 O (hgn 2 zB zB _ (by simp only [pc];rfl))) O)<|ou O (zQ O O)<|ou O (zQ O O)<|ou O (kT 0 O wR O O)<|ou O (yM O O O xV1)<|ou O (qU 0 O wR O O O SR SR)<|ou O (qA O yD O (kP 0 O (hgn 1 zB zB _ (by simp only [pc];rfl))) O)<|ou O (JE O tf O O O)<|yY<|zA<|zK O (λc11=>?_) (λc11=>?_)
 ·have h10:=Z0 c11
  exact r4
 ·have h10:=WY c11
  refine zJ<|zF<|Y O<|zN yX (J 2 O) O<|qK O uB (wT e) (oy O)<|zA<|zK O ?_ ?_<;>intro c12<;>try simp only [sx] at c12
  ·exact r4
  ·refine zJ<|Y O<|G O<|G O<|zX O (kT 0 O wR O O)<|zX O (yM O O O xV1)<|zX O (qU 0 O wR O O O SR SR)<|zN yD (kP 0 O (hgn 1 zB zB _ (by simp only [pc];rfl))) O<|ow 1 D O<|G O<|zA<|zT _ (Weak.mem [false,true,false,true,true,true,true] O)<|zM<|oJ (zY yD O (J 0 O) O) (ox O) ?_
   exact w6):p:=h
def q8 {p:Prop} (h:p:=by
 refine zJ<|Y O<|G O<|zZ O<|zC O Z6<|zE uB (J 0 O) O<|G O<|zX O (qT O O O )<|zZ O<|zC O Z6<|ow 0 So O<|zA<|Y O<|G O<|zA<|zF<|Y O<|G O<|zZ O<|zC O Z6<|zE uB (J 0 O) O<|G O<|yC O<|zA<|zK O (λc4=>?_) (λc4=>?_)
 ·exact v67
 ·exact v72):p:=h
def q9 {p:Prop} (h:p:=by
 refine zF<|Y O<|yR O<|G O<|zA<|qQ O (λc4=>?_) (λc4=>?_)
 ·refine zJ<|zK O ?_ ?_<;>intro c6<;>try simp only [sx] at c6
  ·exact o5
  ·exact v28
 ·refine Y O<|yR O<|G O<|zA<|qQ O (λc5=>?_) (λc5=>?_)
  ·refine zJ<|zK O ?_ ?_<;>intro c6<;>try simp only [sx] at c6
   ·exact o5
   ·exact v28
  ·refine zP O<|yR O<|G O<|zA<|qQ O (λc6=>?_) (λc6=>?_)
   ·exact o5
   ·exact v28):p:=h
def w5 {p:Prop} (h:p:=by
 exact ai vI (by unfold gR;(repeat' split)<;>first|rfl|(exfalso;(try simp only [Lz,aB,aw,ae,aD,Bool.not_eq_true,ax,aj,ao] at *);omega))):p:=h
def w6 {p:Prop} (h:p:=by
 exact ⟨by rw [hT];first|(rw [zDx zB];rfl)|(rw [zEg zB];rfl)|(rw [zDw zB];rfl)|(rw [zEf zB];rfl)|(rw [zAu zB];rfl)|(rw [zAv ho h10];rfl)|(rw [zEe ho h10 c12];rfl)|(rw [zDv ho h10 c12];rfl),[_],O⟩):p:=h
def w7 {p:Prop} (h:p:=by
 repeat (first|refine kJ ?_|refine kB ?_)
 refine wK<|CQ ?_
 exact ⟨O,by rw [hx];exact zBg (by simp only [LM,GZ]<;>((repeat' split)<;>omega)) (by simp only [LM,GZ]<;>((repeat' split)<;>omega)) (by simp only [LM,GZ]<;>((repeat' split)<;>omega))⟩):p:=h
def w8 {p:Prop} (h:p:=by
 exact ⟨by rw [hT];first|(rw [zSz zB];rfl)|(rw [zSy zB];rfl)|(rw [zQr zB];rfl)|(rw [zSx zB];rfl)|(rw [zJu zB];rfl)|(rw [zJs zB];rfl)|(rw [zJt zB];rfl)|(rw [zSw zB];rfl),[_],O⟩):p:=h
def w9 {p:Prop} (h:p:=by
 try simp only [sx] at c3
 obtain ⟨di,hmi⟩:=Qq c3
 rw [hmi]
 refine zJ<|zF<|Y O<|G O<|G O<|G O<|G O<|qF O oT zB (ta hs)<|qS O D4<|zN yX qE O<|G O<|qK O uB (zLl f c P hf s.E hPs.2.1 (by have:=s.E.cnt_le;omega)) (oy O)<|qW O<|kG O<|yF O<|zX O (qU 0 O oT O O O zB uD)<|zX O (wL O D4 O)<|wO O O (yP O ph O O O (Hl 0 O (VN uD) O))<|G O<|zA<|Y O<|G O<|yL O<|zA<|zK O ?_ ?_<;>intro c4<;>try simp only [sx] at c4
 ·refine Y O<|G O<|qY 20 O<|G O<|zA<|zM<|oJ (ox O) (ox O) ?_
  rw [zTe hs hp (YG hmi (Ue c4))];rfl
 ·obtain ⟨de,hmE⟩:=Ql c4
  rw [hmE]
  refine zJ<|Y O<|G O<|G O<|G O<|G O<|qF O oT zB (ta hs)<|qS O Cf<|zE uB qE O<|G O<|G O<|qK O uB (ih s (qD hs)) (oy O)<|qW O<|yF O<|yF O<|zX O (qU 0 O oT O O O zB uD)<|zX O (wL O Cf O)<|wO O O (yP O RO O O O (Hl 0 O (VN uD) O))<|G O<|zA<|Y O<|G O<|yL O<|zA<|zK O ?_ ?_<;>intro c5<;>try simp only [sx] at c5
  ·refine Y O<|G O<|qY 20 O<|G O<|zA<|zM<|oJ (ox O) (ox O) ?_
   rw [zTe hs hp (YH hmi hmE (Qv c5))];rfl
  ·obtain ⟨db,hmb⟩:=YL c5
   rw [hmb]
   have hms:=YK hmi hmE hmb
   have hset:∀r,(outs.map St.cells++(l.drop k).map St.cells).set k r=(outs.map St.cells++[r])++(l.drop (k+1)).map St.cells:=λr=>zMs uD hs
   have hset2:∀r r',((outs.map St.cells++[r])++(l.drop (k+1)).map St.cells).set k r'=(outs.map St.cells++[r'])++(l.drop (k+1)).map St.cells:=λr r'=>Qz (α:=St) (f:=St.cells) (l:=l) uD
   refine zJ<|zP O<|qH O ⟨zB,zB⟩<|G O<|zA ?_
   refine ⟨⟨k+1,outs++[.mk s.Op (if s.Op=1 then g s.Name else s.Name) s.Many s.Mark s.Fold di de db]⟩,⟨zB,uD,MY hs hp hms⟩,(by show l.length-(k+1)<l.length-k;omega),oz [true] oH (by simp only [bu,ip,hset,hset2];simp only [ah,aG,bt,St.cells_eq (.mk _ _ _ _ _ _ _ _)];first|(rw [ab c2];rfl)|(rw [aa c2];rfl))⟩):p:=h
def v6 {p:Prop} (h:p:=by
 have key:listed.getD e.on false=true:=by
  by_cases hji:j=i
  ·subst hji
   rw [ho'] at hoj;cases hoj
   exact hedge e he1 he3
  ·rw [fg true (eg hji)] at hb
   exact hclo j oj hoj hb e he1 he3
 rw [au,dy]
 by_cases hei:i=e.on
 ·rw [ab hei]
  have:i<listed.size:=by omega
  simp [this]
 ·rw [aa hei,<-au];exact key):p:=h
def v7 {p:Prop} (h:p:=by
 try simp only [sx] at c5
 refine zP O<|G O<|zA<|Y O<|G O<|G O<|G O<|zX O (qT O O O )<|zZ O<|zC O kY<|ow 0 So O<|zA<|zF<|Y O<|G O<|zZ O<|zC O kY<|zE uB (J 0 O) O<|G O<|yC O<|zA<|zK O (λc6=>?_) (λc6=>?_)
 ·exact v73
 ·try simp only [sx] at c6
  refine zJ<|zP O<|G O<|zZ O<|zC O kC<|zE uB (J 0 O) O<|G O<|G O<|zX O (qT O O O )<|zX O (qT O O O )<|zZ O<|zC O kC<|ow 0 So O<|zA ?_
  exact w7):p:=h
def v8 {p:Prop} (h:p:=by
 exact ai vI (by first|(exfalso;omega)|(rw [bZ,tyk1 zB,c3];rfl)|(rw [bZ,ZV zB,fxz c5];rfl)|(rw [bZ,ZV zB,fxn c5];rfl)|(rw [bZ,tyk0 zB zB zB];rfl))):p:=h
def t6 {p:Prop} (h:p:=by
 try simp only [sx] at c5
 refine zJ<|Y O<|G O<|G O<|G O<|zX O (qT O O O )<|zZ O<|zC O kY<|ow 0 So O<|zA<|zF<|Y O<|G O<|zZ O<|zC O kY<|zE uB (J 0 O) O<|G O<|yC O<|zA<|zK O (λc6=>?_) (λc6=>?_)
 ·exact v73
 ·try simp only [sx] at c6
  refine zJ<|zP O<|G O<|zZ O<|zC O kC<|zE uB (J 0 O) O<|G O<|G O<|zX O (qT O O O )<|zX O (qT O O O )<|zZ O<|zC O kC<|ow 0 So O<|zA ?_
  exact w7):p:=h
def t7 {p:Prop} (h:p:=by
 try simp only [sx] at c3
 refine Y O<|G O<|zX O (zWi O O w2)<|G O<|zA<|Y O<|G O<|zX O (zKy O O w1)<|G O<|zA<|Y O<|G O<|yR O<|zA<|qQ O (λc4=>?_) (λc4=>?_)
 ·refine zP O<|G O<|zX O (qT O O O )<|G O<|zA<|Y O<|G O<|zX O (wA O uB PR O)<|G O<|G O<|G O<|zA<|zM<|oJ (ox O) (ox O) ?_
  obtain ⟨e1,e2⟩:=zPw hx hy c3 (by exact mx.1 c4)
  rw [<-e2,<-e1];rfl
 ·refine zJ<|Y O<|G O<|zX O (wA O uB PR O)<|G O<|G O<|G O<|zA<|zM<|oJ (ox O) (ox O) ?_
  obtain ⟨e1,e2⟩:=zPv hx hy c3 (λh=>c4 (by exact mx.2 h))
  rw [<-e2,<-e1];rfl):p:=h
def t8 {p:Prop} (h:p:=by
 rw [hT];first|(rw [zJw q1 q2];rfl)|(rw [zTn hq zB];rfl)|(rw [zVc hq zB];rfl)|(rw [zVb hq zB];rfl)|(rw [zRb hq c9];rfl)|(rw [zRa hq zB c9];rfl)):p:=h
def s5 {p:Prop} (h:p:=by
 refine zJ<|zK O ?_ ?_<;>intro c6<;>try simp only [sx] at c6
 ·exact v85
 ·exact k9):p:=h
def s6 {p:Prop} (h:p:=by
 have hcount:∀(k:Nat) (L:List Bool),L.length=l.length->(∀i b,L[i]? =some b->b=decide (i<m))->L.count false=l.length-m:=by
  intro _ L hL hb
  have:L=(List.range l.length).map λi=>decide (i<m):=by
   apply ej
   intro i
   by_cases hi:i<l.length
   ·rw [cg,eq hi,ak zB]
    simp only [fh,ay]
    exact hb i _ (ak zB)
   ·rw [cy zB,cy uD]
  rw [this]
  have hr:∀N,m<=N->((List.range N).map λi=>decide (i<m)).count false=N-m:=by
   intro N hN
   induction N with
   |zero=>simp
   |succ N ihN=>
    exact o6
  exact hr _ hml
 have:=hcount 0 listed.toList (by simpa using hsz) (λi b hb=>by
  have hlt:i<l.length:=by have:=(af.1 hb).1;simp at this;omega
  have hv:listed.getD i true=b:=by
   rw [au]
   have:listed[i]? =some b:=by simpa using hb
   rw [this];rfl
  rw [<-hv]
  by_cases him:i<m
  ·rw [hq i him];simp [him]
  ·rw [htail i zB hlt];simp [him])
 unfold B2 at hun
 omega):p:=h
def s7 {p:Prop} (h:p:=by
 exfalso
 have hlt0:i0<l.length:=by omega
 have:i0∈Region.ready .any l.toArray listed:=by
  rw [fw]
  refine ⟨hb0,l[i0],by simp [hlt0],λe he hb=>?_⟩
  have hlt:=ok.back i0 l[i0] (ak hlt0) e he hb
  have h2:=hmin e.on hlt
  rw [au] at h2⊢
  rw [aN zB] at h2⊢
  simpa using h2
 rw [hnil] at this
 simp at this):p:=h
def s8 {p:Prop} (h:p:=by
 intro t ht
 rw [hlF t]
 have:=hR t
 have e:bL (l.take (i+1)) rs (λj=>listed.getD j true) (bJ regs t) t=bL (l.take i) (rs.take i) (λ_=>true) (bJ regs t) t:=by
  have e1:rs=rs.take i++[rs[i]'zB]:=by
   have:=aZ i rs
   rw [ed zB,cl zB] at this
   exact this.symm
  have app:∀(l:List Oper) (rs:List V) (f:Nat->Bool) (d:V) (o:Oper) (r:V),rs.length=l.length->f l.length=false->bL (l++[o]) (rs++[r]) f d t=bL l rs f d t:=by
   intro l
   induction l with
   |nil=>intro rs f d o r h1 h2;cases rs with
    |nil=>simp at h2;simp [bL,h2]
    |cons _ _=>simp at h1
   |cons x l ihl=>intro rs f d o r h1 h2;cases rs with
    |nil=>simp at h1
    |cons y rs=>simp only [xn,bL];exact ihl rs _ _ o r xZ9 (by simpa using h2)
  rw [hts]
  have:bL (l.take i++[o]) rs (λj=>listed.getD j true) (bJ regs t) t=bL (l.take i++[o]) (rs.take i++[rs[i]'zB]) (λj=>listed.getD j true) (bJ regs t) t:=ai (λq=>bL (l.take i++[o]) q (λj=>listed.getD j true) (bJ regs t) t) e1
  rw [this,app _ _ _ _ _ _ uD (by simpa [bg (Nat.le_of_lt hsl)] using hbi)]
  refine wP λj oj hoj hdj=>?_
  have hj:j<i:=by have:=(af.1 hoj).1;simp at this;omega
  rcases hwr t ht j oj (by rw [az,ab zB];rw [az,ab hj] at hoj;exact hoj) hdj with ⟨_,h2⟩|⟨h1,_⟩
  ·exact h2
  ·omega
 rwa [e] at this):p:=h
def s9 {p:Prop} (h:p:=by
 first|exact ⟨rfl,[],rfl⟩|exact ⟨rfl,[_],rfl⟩|exact ⟨rfl,[_,_],rfl⟩|exact ⟨rfl,[_,_,_],rfl⟩|exact ⟨rfl,[_,_,_,_],rfl⟩|exact ⟨rfl,[_,_,_,_,_],rfl⟩):p:=h
def r3 {p:Prop} (h:p:=by
 intro i CU him hb
 by_cases hall:∀j,j<i->listed.getD j true=true
 ·exact ⟨i,him,hb,hall⟩
 ·rcases fv.1 hall with ⟨j,hj⟩
  rcases mz.1 hj with ⟨h1,h2⟩
  exact ihN j zB zB (by cases hb':listed.getD j true;rfl;exact absurd hb' h2)):p:=h
def r4 {p:Prop} (h:p:=by
 refine Y O<|yI O v pr<|ow 1 D O<|G O<|zA<|zT _ (Weak.mem [false,true,false,true,true,true,true] O)<|zM<|oJ (zY yD O (J 0 O) O) (ox O) ?_
 exact w6):p:=h
def r5 {p:Prop} (h:p:=by
 intro t ht
 have e:=zFb (t:=t) (l:=l.take (s+1)) (ks:=ks++[.f]) (rs:=qs++[.un]) (regs:=regs) (s+1) uD
 rw [cz,io,aE (l:=ks++[Kd.f]) uD,aE (l:=qs++[V.un]) uD,hts,zSr uD uD,<-hts] at e
 rw [e]
 have:=hR t
 rwa [zCm (rs':=qs++[.un]) (g:=λj=>decide (j<s+1)&& !(kd (ks++[.f]) j).fr) zB uD (λj oj hoj hdj=>by
  have hjm:j<s+1:=by have:=(af.1 hoj).1;simp at this;omega
  have hoj':l[j]? =some oj:=by rw [az,ab hjm] at hoj;exact hoj
  rcases bz j s with hjs|hjs
  ·obtain ⟨hkj,hlt⟩:=hlk2 t ht j oj hoj' hjs hdj
   have hji:=hlt hk
   have hkk:(kd (ks++[.f]) j).fr=false:=by rw [show kd (ks++[Kd.f]) j=kd ks j by simp [kd,List.getD,aV (show j<ks.length by omega)]];exact hkj
   rcases hwr t ht j oj hoj hdj with ⟨h1,h2⟩|⟨h1,h2⟩
   ·refine ⟨by rw [h2];simp [hkk,hjm],λ_=>?_⟩
    rw [aV zB]
    exact hqr j hjs hkj
   ·omega
  ·have hjs':j=s:=by omega
   subst hjs'
   have hkk:(kd (ks++[.f]) j).fr=true:=by simp [kd,List.getD,hkl,Kd.fr]
   exact ⟨by rw [hbs];simp [hkk],λh=>by simp [hbs] at h⟩)] at this):p:=h
def r6 {p:Prop} (h:p:=by
 intro z hz
 refine Y O<|G O<|G O<|zA<|zF<|Y O<|G O<|zA<|zS<|zT ⟨[(6,.c _),(0,.c _),(1,.c _)],[]⟩ (oz [] oH O)<|qG 1 0 O O (Nat) (λk=>[(6,vI k)]) (λk=>[]) (λk=>k<=env.length/\((env.take k).any (λy=>decide (y.Name=s))=false)) (λk=>env.length-k) ⟨0,⟨zB,O⟩,oz [] oH O⟩ ?_
 rintro k ⟨hk,hp⟩
 refine zF<|Y O<|G O<|G O<|qC O qa<|yC O<|zA<|zK O ?_ ?_<;>intro c1<;>try simp only [sx] at c1
 ·obtain ⟨x,hx⟩:=qX env k zB
  refine zJ<|zF<|zS<|Y O<|G O<|G O<|qF O qa zB (oI hx)<|qS O S9<|zE uB qE O<|G O<|wF O<|zA<|zK O (λc2=>?_) (λc2=>?_)
  ·try simp only [sx] at c2
   refine Y O<|G O<|G O<|qF O qa zB (oI hx)<|qS O zUo<|zE W qE O<|G O<|G O<|zA<|zM<|oJ (ox O) (ox O) ?_
   rw [wn hx c2 hp];rfl
  ·exact v82
 ·refine qL<|Y O<|G O<|G O<|zA<|zM<|oJ (ox O) (ox O) ?_
  rw [yG zB] at hp
  rw [wo hp];rfl):p:=h
def r7 {p:Prop} (h:p:=by
 intro t ht
 have e:=zFb (t:=t) (l:=l.take (s+1)) (ks:=ks++[.f]) (rs:=qs++[.un]) (regs:=regs) i uD
 rw [show (l.take (s+1)).take i=(l.take s).take i by rw [cz,cz,bg zB,bg zB],
  cq zB,cq zB] at e
 rw [e]
 have:=hR t
 rwa [zCm (rs':=qs++[.un]) (g:=λj=>decide (j<i)&& !(kd (ks++[.f]) j).fr) zB uD (λj oj hoj hdj=>by
  have hjm:j<s+1:=by have:=(af.1 hoj).1;simp at this;omega
  have hoj':l[j]? =some oj:=by rw [az,ab hjm] at hoj;exact hoj
  rcases hwr t ht j oj hoj hdj with ⟨h1,h2⟩|⟨h1,h2⟩
  ·have hjs:j<s:=by omega
   have hkj:=(hlk2 t ht j oj hoj' hjs hdj).1
   have hkk:(kd (ks++[.f]) j).fr=false:=by rw [show kd (ks++[Kd.f]) j=kd ks j by simp [kd,List.getD,aV (show j<ks.length by omega)]];exact hkj
   refine ⟨by rw [h2];simp [h1,hkk],λ_=>?_⟩
   rw [aV zB]
   exact hqr j hjs hkj
  ·exact ⟨by rw [h2];simp [show ¬j<i by omega],λh=>by simp [h2] at h⟩)] at this):p:=h
def r8 {p:Prop} (h:p:=by
 try simp only [sx] at c2
 refine zP O<|G O<|zX O (S6 O O) ?_
 rw [zVx hy c2]
 refine G O<|zA<|Y O<|G O<|zX O (wC O O O )<|G O<|zX O (JD O O O zB)<|G O<|zX O (wC O O O )<|G O<|zX O (JD O O O zB)<|G O<|G O<|G O<|G O<|zA<|Y O<|G O<|G O<|zX O (wZ O O O zB)<|G O<|G O<|zX O (wZ O O O zB)<|G O<|G O<|zX O (wZ O O O zB)<|G O<|G O<|zX O (wZ O O O zB)<|G O<|G O<|G O<|G O<|zA<|Y O<|G O<|zX O (wC O O O )<|G O<|zX O (JD O O O zB)<|zX O (wD O O O zB)<|G O<|zX O (JD O O O zB)<|zX O (wD O O O zB)<|G O<|zA<|Y O<|G O<|zX O (JD O O O zB)<|G O<|zX O (zWf O O O )<|zX O (Ka O O O )<|G O<|zA<|Y O<|G O<|G O<|zX O (wC O O O )<|zX O (wD O O O zB)<|G O<|zX O (wC O O O )<|zX O (wD O O O zB) ?_
 refine G O<|zX O (wC O O O )<|zX O (wD O O O (by unfold WK at w1;unfold xB at w1;omega))<|G O<|zA<|zF<|Y O<|G O<|zA<|zK O (λc3=>?_) (λc3=>?_)
 ·exact t7
 ·try simp only [sx] at c3
  refine zJ<|Y O<|G O<|zX O (wA O uB PR O)<|G O<|G O<|G O<|zA<|zM<|oJ (ox O) (ox O) ?_
  obtain ⟨e1,e2⟩:=zVg hx hy c3
  rw [<-e2,<-e1];rfl):p:=h
def p5 {p:Prop} (h:p:=by
 intro t
 rw [zTk uD]
 have e:=zFb (t:=t) (l:=l.take i) (ks:=ks) (rs:=qs) (regs:=regs) i uD
 rw [cz,io,aE (l:=ks) zB,aE (l:=qs) zB] at e
 rw [e]
 have hone':eH (l.take i):=by
  intro p op hop q oq hoq hne hnn
  have hp:p<i:=by have:=(af.1 hop).1;simp at this;omega
  have hq':q<i:=by have:=(af.1 hoq).1;simp at this;omega
  rw [az,ab hp] at hop
  rw [az,ab hq'] at hoq
  exact ok.own p op hop zB q oq hoq zB hne hnn
 rw [zCm (rs:=qs) (rs':=rs.take i) (f:=λj=>decide (j<i)&& !(kd ks j).fr) (g:=λj=>decide (j<i)&& !(kd ks j).fr) uD uD (λj oj hoj hdj=>⟨rfl,λhf=>by
  simp only [ae,aj,aA] at hf
  rw [az,ab hf.1]
  exact (hqr j hf.1 hf.2).symm⟩)]
 rw [Jy hone' uD]
 refine wP λj oj hoj _=>?_
 have hj:j<i:=by have:=(af.1 hoj).1;simp at this;omega
 cases (kd ks j).fr<;>simp [hj]):p:=h
def p6 {p:Prop} (h:p:=by
 try simp only [sx] at c2
 rw [zVw hy zB]
 refine zJ<|Y O<|G O<|zX O (wC O O O )<|G O<|zX O (JD O O O zB)<|G O<|zX O (wC O O O )<|G O<|zX O (JD O O O zB)<|G O<|G O<|G O<|G O<|zA<|Y O<|G O<|G O<|zX O (wZ O O O zB)<|G O<|G O<|zX O (wZ O O O zB)<|G O<|G O<|zX O (wZ O O O zB)<|G O<|G O<|zX O (wZ O O O zB)<|G O<|G O<|G O<|G O<|zA<|Y O<|G O<|zX O (wC O O O )<|G O<|zX O (JD O O O zB)<|zX O (wD O O O zB)<|G O<|zX O (JD O O O zB)<|zX O (wD O O O zB)<|G O<|zA<|Y O<|G O<|zX O (JD O O O zB)<|G O<|zX O (zWf O O O )<|zX O (Ka O O O )<|G O<|zA<|Y O<|G O<|G O<|zX O (wC O O O )<|zX O (wD O O O zB)<|G O<|zX O (wC O O O )<|zX O (wD O O O zB)<|G O ?_
 refine zX O (wC O O O )<|zX O (wD O O O (by unfold WK at w1;unfold xB at w1;omega))<|G O<|zA<|zF<|Y O<|G O<|zA<|zK O (λc3=>?_) (λc3=>?_)
 ·exact t7
 ·try simp only [sx] at c3
  refine zJ<|Y O<|G O<|zX O (wA O uB PR O)<|G O<|G O<|G O<|zA<|zM<|oJ (ox O) (ox O) ?_
  obtain ⟨e1,e2⟩:=zVg hx hy c3
  rw [<-e2,<-e1];rfl):p:=h
def p7 {p:Prop} (h:p:=by
 have hlen2:=zDs hpart zB
 refine zF<|yE 9 mixed uB O O<|ou O (LU O v pr O)<|ou O (zQ O O)<|ou O (zQ O O)<|ou O (qU 0 O wR O O O zB SR)<|ou O (qA O yD O (kP 0 O (hg 0 zB)) O)<|ou O (zQ O O)<|ou O (qU 0 O wR O O O zB SR)<|ou O (qA O yD O (kP 0 O (hg 1 zB)) O)<|ou O (zFd O O uB (zJm _ _) (oy O))<|yY<|ow 1 D O<|G O<|zA<|zT _ (Weak.mem [false,true,false,true,true] O)<|zM<|oJ (zY yD O (J 0 O) O) (ox O) ?_
 exact w8):p:=h
def p8 {p:Prop} (h:p:=by
 obtain ⟨G,h1,h2,h3⟩:=FX.parts (its:=its) (co.1 hn).2 (λit hit=>hd it (by simp [hit])) h
 refine ⟨G,λj w hj=>?_,h2,λj hj=>aH _ (h3 j hj)⟩
 rcases ag.1 hj with e|e
 ·injection e with e1 e2;cases e2
 ·exact h1 j w e):p:=h
def p9 {p:Prop} (h:p:=by
 intro t ht
 rw [VF (l:=l.take m) (rs:=rs) (regs:=regs) (t:=t) i]
 have:=hR t
 rwa [wP (g:=λj=>decide (j<i)) (λj oj hoj hdj=>by
  have hjm:j<m:=by have:=(af.1 hoj).1;simp at this;omega
  have hoj':l[j]? =some oj:=by rw [az,ab hjm] at hoj;exact hoj
  rcases ok.looks i o ho' him t ht j oj hoj' hjm hdj with ⟨hji,e,he1,he2,he3⟩|⟨hij,e,he1,he2,he3⟩
  ·exact v63
  ·have hnot:¬j<i:=by omega
   cases hb:listed.getD j true with
   |false=>simp [hnot]
   |true=>
    exfalso
    have h1:=hclo j oj hoj' hb e he1 he3
    rw [he2,au,aN zB] at h1
    rw [au,aN zB] at hbi
    simp only [dl] at h1 hbi
    rw [h1] at hbi
    cases hbi)] at this):p:=h
def o4 {p:Prop} (h:p:=by
 have hdn:d<n:=by simp only [dstOk,hod,ae] at hdo;simpa [cr] using hdo.1
 rw [zKf hs hdn]
 by_cases hdt:d=t
 ·subst hdt;rw [ab rfl,ab rfl];exact hv
 ·rw [aa (by simpa using hdt),aa hdt];exact hH.vrep hx' (hR t)):p:=h
def o5 {p:Prop} (h:p:=by
 refine Y O<|G O<|zA<|zM<|zV O ?_
 exact ai vI (by unfold bW;(repeat' split)<;>omega)):p:=h
def o6 {p:Prop} (h:p:=by
 rw [ig,ah,mw]
 by_cases hmN:m<=N
 ·rw [ihN hmN]
  have:decide (N<m)=false:=by simp;omega
  simp [this];omega
 ·have hm':m=N+1:=by omega
  have:decide (N<m)=true:=by simp;omega
  have hz:((List.range N).map λi=>decide (i<m)).count false=0:=by
   rw [List.count_eq_zero]
   intro hmem
   obtain ⟨i,hi,he⟩:=aY.1 hmem
   have:=cw.1 hi
   simp at he
   omega
  rw [hz]
  simp [this];omega):p:=h
def o7 {p:Prop} (h:p:=by
 refine Y O<|yR O<|G O<|zA<|qQ O (λc7=>?_) (λc7=>?_)
 ·have hlen1:=zWs hpart zB
  refine Y O<|G O<|zX O (qU 0 O wR O O O zB SR)<|zN yD (kP 0 O (hg 0 zB)) O<|ow 1 D O<|G O<|zA<|zT _ (Weak.mem [false,true,false,true,true,true,true] O)<|zM<|oJ (zY yD O (J 0 O) O) (ox O) ?_
  exact w6
 ·refine zF<|Y O<|yR O<|G O<|zA<|qQ O (λc8=>?_) (λc8=>?_)
  ·refine zJ<|zK O ?_ ?_<;>intro c10<;>try simp only [sx] at c10
   ·exact r4
   ·exact q7
  ·refine Y O<|yR O<|G O<|zA<|qQ O (λc9=>?_) (λc9=>?_)
   ·refine zJ<|zK O ?_ ?_<;>intro c10<;>try simp only [sx] at c10
    ·exact r4
    ·exact q7
   ·refine zP O<|yR O<|G O<|zA<|qQ O (λc10=>?_) (λc10=>?_)
    ·exact r4
    ·exact q7):p:=h
def o8 {p:Prop} (h:p:=by
 have hG':=hG a w I hH hlook hs (wpAnyIn (se z.rd) 0 X.P .any l.toArray (dY X n z1 Q) fuel (listed.setIfInBounds i true)) (dY X n z1 Q) step
 exact v48):p:=h
def n5 {p:Prop} (h:p:=by
 refine Y O<|G O<|qY 20 O<|G O<|zA<|zM<|oJ (ox O) (ox O) ?_
 rw [hE];rfl):p:=h
def n7 {p:Prop} (h:p:=by
 try simp only [sx] at c5
 obtain ⟨a,ha⟩:=qX d.Dims j zB
 refine zJ<|zF<|zS<|zP O<|G O<|zC O ry<|zE uB (J 2 O) O<|G O<|qF O pt zB (oI uC)<|qS O D8<|zE uB qE O<|G O<|qF O pg zB (oI uC)<|qS O zZm<|zN yV qE O<|yT O oS U<|qB O O (qZ 0 O oS O O O xK3 xK3) ?_
 rintro _ _ ⟨sv4,rfl,rfl⟩
 refine G O<|zA<|zP O<|G O<|qH O ⟨zB,zB⟩<|G O<|zA ?_
 refine ⟨⟨j+1,sv4⟩,zB,(by show d.Dims.length-(j+1)<d.Dims.length-j;omega),oz [true,true,true] oH (by show _=[E.vec sv4 _ 2 ((d.Dims.take (j+1)).map λa=>a.Size.cells)]++_;rw [yB ha,ah (f:=λa:Ax=>a.Size.cells)];rfl)⟩):p:=h
def n8 {p:Prop} (h:p:=by
 exact ai vB (by unfold jL;first|(exfalso;omega)|(simp [*];done)|(rw [cv];simp only [aD,ae,aj];omega))):p:=h
def n9 {p:Prop} (h:p:=by
 try simp only [sx] at c2
 refine zP O<|G O<|zX O (yM O O O ⟨zB,zB⟩)<|G O<|zA<|Y O<|G O<|zX O (wA O uB PR O)<|G O<|zA<|Y O<|G O<|G O<|yR O<|G O<|oL O (λg10_3=>zQ O O) O<|oG 40 O (λg10_3=>wN O O O) O<|kF O (λh=>h)<|G O<|oL O (λg10_7=>zQ O O) O<|oG 44 O (λg10_7=>yU O O O) O<|oG 45 O (λg10_7=>zQ O O) O<|oV [] O oW T (λg10_10=>zQ O O) O<|oV [(47,_)] O oW ⟨O,O,T⟩ (λg10_10=>Ad O O O) O<|oG 46 O (λg10_7=>wX O O O (λh=>kO uC h) O) O<|oN O (λh=>(oY h))<|G O<|G O<|zA<|zM<|oJ (ox O) (ox O) ?_
 obtain ⟨S,hS,s0,s1,s2,s3⟩:=zWp (z:=b*c) ha
 rw [<-hS,s3] at c1
 rw [<-hS]
 clear hS
 unfold oQ at ha
 exact zWq s0 s1 (by generalize b*c=z at *;omega)):p:=h
def m5 {p:Prop} (h:p:=by
 by_cases hji:j=i
 ·subst hji
  rw [ab rfl,au,dy]
  simp [show j<listed.size by omega]
 ·rw [aa hji,fg true (eg hji)]):p:=h
def m6 {p:Prop} (h:p:=by
 obtain ⟨Rfs,h1,h2,more,h3,h4⟩:=TDf.parts ZK (show TDf X regs0 l ks acc K from h)
 refine ⟨(λ_ _=>True)::Rfs,by simp [h1],λi o' Rf' ho hr' hk=>?_,more,h3,?_⟩
 ·cases i with
  |zero=>simp [kd,Kd.fr] at hk
  |succ i=>exact h2 i o' Rf' Ox WN xJ6
 ·intro regs ν K' rs es hr he hall hc
  cases rs with
  |nil=>simp at hr
  |cons r rs=>
   cases es with
   |nil=>simp at he
   |cons en es=>
    simp only [mA,nS,Kd.fr,aw]
    exact h4 (by simpa using hr) (by simpa using he) (λi r' en' Rf' a b c d=>hall (i+1) r' en' Rf' (by simpa using a) (by simpa using b) xJ0 (by simpa [kd] using d)) hc):p:=h
def m7 {p:Prop} (h:p:=by
 refine wE O<|ow 0 GM O<|zA<|zF<|Y O<|zC O Ko<|zE uB (J 0 O) O<|yL O<|zA<|zK O ?_ ?_<;>intro c4<;>try simp only [sx] at c4
 ·rw [<-hin] at c4
  refine Y O<|zN Cm (J 0 O) O<|ow 1 GM O<|zA<|zM<|pu (zY Cm O (J 1 O) O) ?_
  rw [W9 hs hp c4,hin];rfl
 ·rw [<-hin] at c4
  refine zJ<|zP O<|zC O TN<|zE uB (J 0 O) O<|G O<|zA<|zP O<|G O<|qH O ⟨zB,zB⟩<|G O<|zA ?_
  refine ⟨⟨k+1,(pT n.Bufs u (bd.map Bd.Name) (W++[(k:Int)]) s).U⟩,⟨zB,zB,zRr hs hp c4⟩,(by show l.length-(k+1)<l.length-k;omega),oz [false,true,true] ⟨zD,VLe.of_eq (ai sy (by rw [hin])),zD,zD,zD,zD,zD,T⟩ O⟩):p:=h
def m8 {p:Prop} (h:p:=by
 try simp only [sx] at c3
 refine zJ<|zP O<|G O<|qH O ⟨zB,zB⟩<|G O<|zA ?_
 refine ⟨k+1,⟨zB,zDl hx hy hp c3⟩,zB,oz [] oH O⟩):p:=h
def m9 {p:Prop} (h:p:=by
 try simp only [sx] at c2
 refine zJ<|Y O<|G O<|zX O (wA O uB PR O)<|G O<|zA<|Y O<|G O<|G O<|yR O<|G O<|oL O (λg10_3=>zQ O O) O<|oG 40 O (λg10_3=>wN O O O) O<|kF O (λh=>h)<|G O<|oL O (λg10_7=>zQ O O) O<|oG 44 O (λg10_7=>yU O O O) O<|oG 45 O (λg10_7=>zQ O O) O<|oV [] O oW T (λg10_10=>zQ O O) O<|oV [(47,_)] O oW ⟨O,O,T⟩ (λg10_10=>Ad O O O) O<|oG 46 O (λg10_7=>wX O O O (λh=>kO uC h) O) O<|oN O (λh=>(oY h))<|G O<|G O<|zA<|zM<|oJ (ox O) (ox O) ?_
 obtain ⟨S,hS,s0,s1,s2,s3⟩:=zWp (z:=b*c) ha
 rw [<-hS,s3] at c1
 rw [<-hS]
 clear hS
 unfold oQ at ha
 exact zWq s0 s1 (by generalize b*c=z at *;omega)):p:=h
def l5 {p:Prop} (h:p:=by
 intro z hz
 refine Y O<|G O<|zA<|Y O<|G O<|zX O (wN O O O)<|G O<|oL O (λg1_2=>zQ O O) O<|oG 6 O (λg1_2=>vb O O O) O<|kF O (λh=>h)<|G O<|zA<|zM<|zV O ?_
 exact O):p:=h
def l6 {p:Prop} (h:p:=by
 refine zJ<|zF<|Y O<|zN yX (J 2 O) O<|qK O uB (kZ e) (oy O)<|zA<|zK O ?_ ?_<;>intro c9<;>try simp only [sx] at c9
 ·exact v47
 ·have hq1:1<=(jP (e.Args.take k) (bG (Bm n.Bufs) (e.Args.take k)).1).length:=by have h:=Yr hpart (l:=(bG (Bm n.Bufs) (e.Args.take k)).1) (by rw [hll,hta]) zB c9;rw [hta];rw [hta] at h;exact h
  refine zJ<|Y O<|G O<|zX O (qU 0 O wR O O O zB SR)<|zN yD (kP 0 O (zIt zB)) O<|ow 1 D O<|G O<|zA<|zM<|oJ (zY yD O (J 1 O) O) (ox O) ?_
  exact t8):p:=h
def l7 {p:Prop} (h:p:=by
 rcases bz i m with h|h
 ·exact h
 ·exfalso
  have hun:∀j,j<l.length->listed.getD j true=false->¬listed.getD j false=true:=λj hj h1 h2=>by
   exact j9
  rcases bz (m) i with hgt|hge
  ·obtain ⟨e,he1,he2,he3⟩:=ok.tail1 i o ho' hgt
   have h1:=hedge e he1 he3
   rw [he2] at h1
   exact hun (i-1) zB (htail (i-1) zB zB) h1
  ·have him:i=m:=by omega
   subst him
   exact hun i0 zB hb0 (ST hclo ho' hedge (ok.tail0 o ho' i0 hi0))):p:=h
def l8 {p:Prop} (h:p:=by
 try simp only [sx] at c3
 refine zJ<|zP O<|qH O ⟨zB,zB⟩<|G O<|zA ?_
 refine ⟨k+1,⟨zB,hp.trans (zRo hx hy c3),zB⟩,zB,oz [false,false] oH O⟩):p:=h
def l9 {p:Prop} (h:p:=by
 intro z hz
 refine Y O<|oi O λb1=>qB O O (qJ nt O pd O) ?_
 rintro _ _ ⟨b2,rfl,rfl⟩
 refine zA<|Y O<|yO nt O pd qy<|zN yV (J 1 O) O<|yO [none,none,none,none,none,none,none,none,none,none,none,some 4,some 13] O pd qy<|yT O pa pd<|yO [none,none,none,none,none,none,none,none,none,none,some 2,some 4,none] O pd qy<|ow 0 ph O<|zA<|zM<|pu (zY yX O (J 0 O) O) ?_
 exact O):p:=h
def k7 {p:Prop} (h:p:=by
 obtain ⟨i,hi,hb⟩:=this
 have strong:∀N i,i<N->i<s+1->listed.getD i true=false->∃i,i<s+1/\listed.getD i true=false/\∀j,j<i->listed.getD j true=true:=by
  intro N
  induction N with
  |zero=>intro i h;omega
  |succ N ihN=>
   exact r3
 exact strong (i+1) i zB hi hb):p:=h
def k8 {p:Prop} (h:p:=by
 refine zJ<|zF<|Y O<|G O<|zA<|zK O (λc3=>?_) (λc3=>?_)
 ·exact absurd c3 uA
 ·refine zJ<|zF<|Y O<|G O<|G O<|yC O<|zA<|zK O ?_ ?_<;>intro c4<;>try simp only [sx] at c4
  ·refine Y O<|G O<|zA<|zM<|zV O ?_
   rw [JY c4]
  ·refine zJ<|zF<|Y O<|G O<|G O<|sf O<|zA<|zK O ?_ ?_<;>intro c5<;>try simp only [sx] at c5
   ·refine Y O<|G O<|zA<|zM<|zV O ?_
    rw [JX c5]
   ·refine zJ<|Y O<|G O<|zA<|zM<|zV O ?_
    rw [JW zB zB]):p:=h
def k9 {p:Prop} (h:p:=by
 refine Y O<|yR O<|G O<|zA<|qQ O (λc8=>?_) (λc8=>?_)
 ·refine Y O<|zC O Ce<|zE uB (J 0 O) O<|qC O pg<|sf O<|G O<|oL O (λg13_4=>zG O D8 O) O<|oG 27 O (λg13_4=>zH O uB O (J 0 O) O) O<|oG 28 O (λg13_4=>yH O pg O) O<|oG 29 O (λg13_4=>yU O O O) O<|oN O (λh=>(oY h))<|zA<|zK O ?_ ?_<;>intro c9<;>try simp only [sx] at c9
  ·refine Y O<|G O<|zA<|zM<|zV O ?_
   exact w5
  ·refine zJ<|Y O<|G O<|zA<|zM<|zV O ?_
   exact w5
 ·refine Y O<|G O<|zA<|zM<|zV O ?_
  exact w5):p:=h
def j0 {p:Prop} (h:p:=by
 first|(rw [id_1 c1]<;>rfl)|(rw [id_2 c1 zB]<;>rfl)|(rw [id_3 zB zB]<;>rfl)|(rw [id_4 zB zB]<;>rfl)):p:=h
def j4 {p:Prop} (h:p:=by
 intro z hz
 refine Y O<|G O<|zA<|zF<|Y O<|G O<|zA<|zS<|zF<|Y O<|yR O<|G O<|zA<|qQ O (λc1=>?_) (λc1=>?_)
 ·refine zJ<|zK O ?_ ?_<;>intro c3<;>try simp only [sx] at c3
  ·exact o5
  ·exact q9
 ·refine Y O<|yR O<|G O<|zA<|qQ O (λc2=>?_) (λc2=>?_)
  ·refine zJ<|zK O ?_ ?_<;>intro c3<;>try simp only [sx] at c3
   ·exact o5
   ·exact q9
  ·refine zP O<|yR O<|G O<|zA<|qQ O (λc3=>?_) (λc3=>?_)
   ·exact o5
   ·exact q9):p:=h
def j5 {p:Prop} (h:p:=by
 try simp only [sx] at c2
 refine zJ<|zP O<|qH O ⟨zB,zB⟩<|G O<|zA ?_
 refine ⟨k+1,⟨zB,ZW hx hp c2⟩,zB,oz [] oH O⟩):p:=h
def j6 {p:Prop} (h:p:=by
 rw [hon] at ho2;cases ho2
 have hO':=(hO.wide (zIs (v::rd) m hw2)) a w I hH hops (wpAnyIn (se z.rd) 0 X.P .any l.toArray (dY X n z1 Q) fuel (listed.setIfInBounds i true)) (dY X n z1 Q) (by
  rintro u r _ I' w' ⟨μ',hrr,rfl⟩ hv hH' hx'
  obtain ⟨en,rfl,hS'⟩:=hS r μ' hrr
  have hpm:=zOj (m:=m) (en:=en) hw2 hw1
  exact step r _ u I' w' hS' (keep v (wrs v rfl) en) hv (hH'.perm hpm) (hx'.perm (bb _) hpm))
 exact v86):p:=h
def j7 {p:Prop} (h:p:=by
 have:∃i,i<m/\listed.getD i true=false:=by
  rcases fv.1 hq with ⟨i,hi⟩
  exact v26
 obtain ⟨i,hi,hb⟩:=this
 have strong:∀N i,i<N->i<m->listed.getD i true=false->∃i,i<m/\listed.getD i true=false/\∀j,j<i->listed.getD j true=true:=by
  intro N
  induction N with
  |zero=>intro i h;omega
  |succ N ihN=>
   exact r3
 exact strong (i+1) i zB hi hb):p:=h
def j8 {p:Prop} (h:p:=by
 try simp only [sx] at c1
 refine zJ<|Y O<|G O<|yR O<|G O<|oL O (λg4_2=>zQ O O) O<|oG 21 O (λg4_2=>kE O O O) O<|oG 22 O (λg4_2=>zQ O O) O<|oV [] O oW T (λg4_5=>zG O TP O) O<|oV [(24,_)] O oW ⟨O,O,T⟩ (λg4_5=>zH O uB O (J 0 O) O) O<|oV [(25,_)] O oW ⟨O,O,T⟩ (λg4_5=>wM O O) O<|oG 23 O (λg4_2=>wX O O O (λh=>kO uC h) O) O<|oN O (λh=>(oY h))<|G O<|G O<|zA<|zM<|oJ (ox O) (ox O) ?_
 rw [ab c1,c1];rfl):p:=h
def j9 {p:Prop} (h:p:=by
 rw [au] at h1 h2
 rw [aN zB] at h1 h2
 simp only [dl] at h1 h2
 rw [h2] at h1
 cases h1):p:=h
def v10 {p:Prop} (h:p:=by
 refine ⟨_,O,?_⟩
 refine wE O<|zZ O<|zC O Xc<|ow 1 Zr O<|zA<|zT _ (Weak.vecEq 4 O (rows':=W.map λi=>[cI i]) uK)<|zP O<|qH O ⟨zB,zB⟩<|G O<|zA ?_
 refine ⟨⟨k+1,_,_,_,(pT n.Bufs u S (W++[(k:Int)]) s).U⟩,⟨zB,zB,zRr hs hp c4⟩,(by show l.length-(k+1)<l.length-k;omega),oz [false,true,true,true,true] oH O⟩):p:=h
def v11 {p:Prop} (h:p:=by
 rw [hD]
 first|exact ⟨ai (λv=>V.tup [v,vI 0]) (WT _ _),[],rfl⟩|exact ⟨ai (λv=>V.tup [v,vI 0]) (WT _ _),[_],rfl⟩|exact ⟨ai (λv=>V.tup [v,vI 0]) (WT _ _),[_,_],rfl⟩|exact ⟨ai (λv=>V.tup [v,vI 0]) (WT _ _),[_,_,_],rfl⟩|exact ⟨ai (λv=>V.tup [v,vI 0]) (WT _ _),[_,_,_,_],rfl⟩|exact ⟨ai (λv=>V.tup [v,vI 0]) (WT _ _),[_,_,_,_,_],rfl⟩):p:=h
def v12 {p:Prop} (h:p:=by
 try simp only [sx] at c1
 refine Y O<|G O<|zA<|zM<|zV O ?_
 rw [kH (λh=>c1 (by rw [h]))]):p:=h
def v13 {p:Prop} (h:p:=by
 intro j Rf' hj hkj hlj hRj
 by_cases hji:j=i
 ·subst hji
  rw [hRf] at hRj;cases hRj
  exact ⟨r,en,by rw [bc zB],by rw [bc zB],hRv⟩
 ·rw [hget j,aa hji] at hlj
  obtain ⟨r',en',k1,k2,k3⟩:=hfr j Rf' hj hkj hlj hRj
  exact ⟨r',en',by rw [cx (eg hji)];exact k1,by rw [cx (eg hji)];exact k2,k3⟩):p:=h
def v14 {p:Prop} (h:p:=by
 rw [WU λi o ho hf=>by
  have hlt:i<l.length:=by have:=(af.1 ho).1;simp at this;omega
  simp [hlt] at hf]
 exact hR t):p:=h
def v15 {p:Prop} (h:p:=by
 intro x hx
 rw [G8] at hx
 rcases ag.1 hx with rfl|hx
 ·exact h1
 ·have:∀l:List Ex,(∀a,a∈l->a.allF P)->x∈bT l->∀y,y∈dH x->P y:=by
   intro l
   induction l with
   |nil=>intro _ h;simp [bT] at h
   |cons a r ih=>
    intro h hm
    rw [bT] at hm
    rcases aq.1 hm with k|k
    ·exact h a uF x k
    ·exact ih (λb hb=>h b Vx) k
  exact this e.Args h2 hx):p:=h
def v16 {p:Prop} (h:p:=by
 try simp only [sx] at c2
 refine qL<|Y O<|G O<|zA<|zM<|zV O ?_
 rw [Hk (zGd hp zB zB)]):p:=h
def v17 {p:Prop} (h:p:=by
 refine Y O<|yO [some 8,some 20] O ri um<|G O<|ow 0 rv O<|G O<|zA<|zM<|oJ (zY ro O (J 0 O) O) (ox O) ?_
 rw [hE];rfl):p:=h
def v18 {p:Prop} (h:p:=by
 refine ⟨⟨_,_,_,_⟩,⟨by first|omega|(simp only [cu];omega),by first|omega|(simp only [cu];omega),hm1,hJ1⟩,hdec,Weak.regs oH⟩):p:=h
def v19 {p:Prop} (h:p:=by
 rintro _ _ ⟨rfl,rfl⟩
 refine zA<|zK O ?_ ?_<;>intro c2<;>try simp only [sx] at c2
 ·refine Y O<|G O<|G O<|zA<|zM<|zV O ?_
  exact ⟨by rw [zGk hx c2 hp],O⟩
 ·refine zJ<|zP O<|qH O ⟨zB,zB⟩<|G O<|zA ?_
  refine ⟨k+1,⟨zB,ZW hx hp c2⟩,zB,Weak.regs oH⟩):p:=h
def v20 {p:Prop} (h:p:=by
 rintro _ _ ⟨sv4,rfl,rfl⟩
 refine G O<|zA<|zM<|zV O ?_
 exact ⟨_,O,O⟩):p:=h
def v23 {p:Prop} (h:p:=by
 rw [yG (l:=l) (k:=k) zB]
 refine zT _ (yJ 0 O (regs':=[(6,_)]) (μ':=[]) ⟨FLe.sl,T⟩ T)<|qL<|Y O<|G O<|G O<|G O<|zA<|zM<|oJ (ox O) (ox O) ?_
 rw [zUp hE,hE]):p:=h
def Zz {p:Prop} (h:p:=by
 refine Y O<|G O<|G O<|zA<|zM<|oJ (ox O) (ox O) ?_
 rw [hE]):p:=h
def v26 {p:Prop} (h:p:=by
 rcases mz.1 hi with ⟨h1,h2⟩
 exact ⟨i,h1,by cases hb:listed.getD i true;rfl;exact absurd hb h2⟩):p:=h
def v27 {p:Prop} (h:p:=by
 unfold bS
 rw [ab ⟨h1,h2,hf⟩,aa c,ab ⟨by show oQ (0*_);rw [kc];unfold oQ;omega,by show (decide (oQ (1*bO l.L f))&&true)=true;rw [lx,al hb];rfl⟩]
 show mV (l.K+0*bO l.L f) _=_
 unfold mV
 rw [ab ⟨by rw [kc,ke];exact hr.1,g1⟩,kc,ke];rfl):p:=h
def v28 {p:Prop} (h:p:=by
 refine Y O<|yR O<|G O<|zA<|qQ O (λc7=>?_) (λc7=>?_)
 ·exact o5
 ·refine zJ<|Y O<|G O<|zA<|zM<|zV O ?_
  exact ai vI (by unfold bW;(repeat' split)<;>omega)):p:=h
def v29 {p:Prop} (h:p:=by
 refine ⟨⟨k+1,_⟩,zB,(by show l.L.length-(k+1)<l.L.length-k;omega),oz [false,true,true,true,true] ⟨zD,VLe.of_eq (by rw [zKu hx];first|(rw [ab c3];rfl)|(rw [aa c3];rfl)),zD,zD,zD,zD,zD,zD,T⟩ (by exact W2 (by rw [zQl hx];first|(rw [ab c3,rk])|(rw [aa c3,ah];rfl)))⟩):p:=h
def v30 {p:Prop} (h:p:=by
 refine ⟨_,O,?_⟩
 refine uh O O uA O O (yP O rm O O O (tc 0 O O)) ?_
 rintro _ _ ⟨rfl,rfl⟩
 refine ⟨_,O,?_⟩
 refine wE O<|G O<|zA<|Y O<|zC O S8<|zN yD (J 0 O) O<|ow 2 D O<|G O<|zA<|zT _ (Weak.mem [false,false,true,false,true,true,true,true] O)<|zM<|oJ (zY yD O (J 0 O) O) (ox O) ?_
 exact w6):p:=h
def v32 {p:Prop} (h:p:=by
 refine ⟨⟨k+1,_⟩,zB,(by show l.L.length-(k+1)<l.L.length-k;omega),oz [true,true,true,true,true] ⟨zD,VLe.of_eq (by rw [zKu hx];first|(rw [ab c3];rfl)|(rw [aa c3];rfl)),zD,zD,zD,zD,zD,T⟩ (by exact W2 (by rw [zQl hx];first|(rw [ab c3,rk])|(rw [aa c3,ah];rfl)))⟩):p:=h
def v33 {p:Prop} (h:p:=by
 try simp only [sx] at c1
 refine qL<|Y O<|G O<|zA<|zM<|zV O ?_
 rw [zDz xK4]):p:=h
def v34 {p:Prop} (h:p:=by
 refine ⟨⟨k+1,_⟩,⟨zB,by rw [WW hx hp c2]⟩,(by show e.Args.length-(k+1)<e.Args.length-k;omega),oz [false,true,true,true,true] oH (by exact SB (by rw [WW hx hp c2,yB hx,zYh hll.symm];first|(rw [ab c3,rk])|(rw [aa (by rw [c3];simp),ah];rfl)))⟩):p:=h
def v35 {p:Prop} (h:p:=by
 refine Y O<|yR O<|G O<|zA<|qQ O (λc4=>?_) (λc4=>?_)
 ·refine Y O<|zN yD (J 0 O) O<|qK O uB (zFn _) (oy O)<|yR O<|zA<|qQ O (λc5=>?_) (λc5=>?_)
  ·refine Y O<|G O<|zA<|zM<|zV O ?_
   exact v8
  ·refine zJ<|Y O<|G O<|zA<|zM<|zV O ?_
   exact v8
 ·refine zJ<|Y O<|G O<|zA<|zM<|zV O ?_
  exact v8):p:=h
def v36 {p:Prop} (h:p:=by
 try simp only [sx] at c3
 refine Y O<|G O<|zA<|zM<|zV O ?_
 rw [kH (zIe hx hy c3)]):p:=h
def v37 {p:Prop} (h:p:=by
 try simp only [sx] at c4
 rw [<-hin] at c4 hno
 refine Y O<|G O<|G O<|zA<|zT _ (Weak.mem [false,true,true,true,true] O)<|zM<|zV O ?_
 refine ⟨_,_,_,_,_,_,?_,λh0=>?_,λ_=>?_,O⟩
 · rw [W9 hs hp c4,hin]
 · rw [W9 hs hp c4] at h0;exact absurd h0 c4
 · rw [W9 hs hp c4];exact hno c4):p:=h
def v38 {p:Prop} (h:p:=by
 refine zJ<|zK O ?_ ?_<;>intro c3<;>try simp only [sx] at c3
 ·refine Y O<|G O<|zA<|zM<|zV O ?_
  exact n8
 ·refine zJ<|Y O<|G O<|yR O<|G O<|oL O (λg6_2=>zQ O O) O<|oG 13 O (λg6_2=>yU O O O) O<|kF O (λh=>h)<|G O<|zA<|zM<|zV O ?_
  exact n8):p:=h
def v41 {p:Prop} (h:p:=by
 intro h
 by_cases hy:p y=true
 ·exact ⟨0,y,rfl,hy,rfl⟩
 ·rw [ef,iz.2 hy,dq] at h
  obtain ⟨i,z,h1,h2,h3⟩:=ih h
  exact ⟨i+1,z,by simpa using h1,h2,by rw [av,ef,h3,lf];exact iz.2 hy⟩):p:=h
def v42 {p:Prop} (h:p:=by
 refine Y O<|yI O v pr<|ow 1 D O<|G O<|zA<|zT _ (Weak.mem [false,true,false,true,true] O)<|zM<|oJ (zY yD O (J 0 O) O) (ox O) ?_
 exact w8):p:=h
def v43 {p:Prop} (h:p:=by
 rcases ag.1 h with rfl|h
 ·omega
 ·have:=ih h;omega):p:=h
def v44 {p:Prop} (h:p:=by
 try simp only [sx] at c4
 refine zJ<|Y O<|G O<|zA<|zM<|zV O ?_
 rw [hp,zWn zB zB]):p:=h
def v47 {p:Prop} (h:p:=by
 refine Y O<|yI O v pr<|ow 1 D O<|G O<|zA<|zM<|oJ (zY yD O (J 1 O) O) (ox O) ?_
 exact t8):p:=h
def v48 {p:Prop} (h:p:=by
 split
 ·rename_i hw;rw [ab hw] at hG';exact hG' (dstOk.nd hdo) _
 ·rename_i hw;rw [aa hw] at hG';exact ⟨λ_ _=>trivial,hG'⟩):p:=h
def v52 {p:Prop} (h:p:=by
 try simp only [sx] at c4
 refine Y O<|G O<|zA<|zM<|zV O ?_
 rw [hp,zRp zB zB]):p:=h
def v54 {p:Prop} (h:p:=by
 have hq0:q=0:=by
  rcases jt q with k|k
  ·exact k
  ·have:1*6277101735386680763835789423207666416102355444464034512896<=q*6277101735386680763835789423207666416102355444464034512896:=dd _ k
   omega
 subst hq0
 omega):p:=h
def v56 {p:Prop} (h:p:=by
 try simp only [sx] at c3
 refine Y O<|G O<|G O<|zA<|zM<|zV O ?_
 rw [hp,Tv hx hy c3]):p:=h
def v57 {p:Prop} (h:p:=by
 unfold gT;simp only [c,aU,dj,bf]):p:=h
def v58 {p:Prop} (h:p:=by
 refine Y O<|zN yD (J 0 O) O<|qK O uB (zXb _) (oy O)<|zA<|zK O ?_ ?_<;>intro c3<;>try simp only [sx] at c3
 ·refine Y O<|G O<|zA<|zM<|zV O ?_
  exact v8
 ·refine zJ<|Y O<|G O<|zA<|zM<|zV O ?_
  exact v8):p:=h
def v59 {p:Prop} (h:p:=by
 obtain ⟨k',b⟩:=x
 by_cases h:k'=k
 ·subst h
  simp only [fR,ik,fX]
  by_cases h2:k'=s<;>simp [h2]
 ·simp only [fR,h,gn,fX,ih]
  by_cases h2:k'=s
  ·subst h2;rw [ab rfl,aa (λe:k=k'=>h e.symm),ab rfl]
  ·simp [h2]):p:=h
def v60 {p:Prop} (h:p:=by
 obtain ⟨en,he,h⟩:=h r2 μ' hrr
 have hn:w ∉ rd:=λhin=>by have:=hm w hin;rw [aX] at this;cases this
 refine ⟨en,he,o,ho,hn1,r,?_,?_⟩
 ·rw [rx hn];exact hG.congr λt ht=>(VR (f2 t ht)).symm
 ·rw [<-Sv f3];exact h):p:=h
def v61 {p:Prop} (h:p:=by
 by_cases hji:j=i
 ·subst hji;rw [ab rfl,hbi]
 ·rw [aa hji]):p:=h
def v62 {p:Prop} (h:p:=by
 try simp only [sx] at c2
 refine Y O<|G O<|zA<|zM<|zV O ?_
 rw [hp,zWm hx zB]):p:=h
def v63 {p:Prop} (h:p:=by
 have h1:=hedge e he1 he3
 rw [he2,au,aN zB] at h1
 rw [au,aN zB]
 simp only [dl] at h1⊢
 rw [h1]
 simp [hji]):p:=h
def v64 {p:Prop} (h:p:=by
 try simp only [sx] at c2
 refine Y O<|G O<|G O<|zA<|zM<|zV O ?_
 rw [zGk hx c2 hp]):p:=h
def v65 {p:Prop} (h:p:=by
 obtain ⟨h1,h2⟩:=DZ x.natAbs y.natAbs
 have h3:=Dl h
 have h4:=OC x y
 have h5:=zWv hx hy
 show rh _=_/\_
 rw [h2,<-h4] at h0
 rw [<-h4] at h5
 rw [h1,h2,L0,<-h4]
 clear h1 h2 h4 h
 generalize x*y=z at *
 omega):p:=h
def v67 {p:Prop} (h:p:=by
 try simp only [sx] at c4
 refine zP O<|G O<|zA<|Y O<|G O<|zZ O<|zC O kY<|zE uB (J 0 O) O<|G O<|zX O (qT O O O )<|G O<|zA<|Y O<|G O<|zA<|zF<|Y O<|G O<|G O<|yC O<|zA<|zK O (λc5=>?_) (λc5=>?_)
 ·exact v7
 ·exact t6):p:=h
def v68 {p:Prop} (h:p:=by
 try simp only [sx] at c1
 refine Y O<|yO nt O pd qy<|G O<|ow 1 ph O<|G O<|zA<|zM<|oJ (zY yX O (J 1 O) O) (ox O) ?_
 rw [Qm c1];rfl):p:=h
def v69 {p:Prop} (h:p:=by
 try simp only [sx] at c1
 refine qL<|Y O<|yO nu O pz QW<|ow 0 rm O<|G O<|zA<|zM<|oJ (zY He O (J 0 O) O) (ox O) ?_
 rw [yG zB] at hp;rw [hp,JO hp];rfl):p:=h
def v71 {p:Prop} (h:p:=by
 intro z hz
 refine Y O<|oi O λb1=>G O<|zA<|Y O<|zX O (VJ O O O O O)<|yQ _ (kR 0 O 3 (.c (.fn _ _ [_])) (PLe.fn ⟨.inr ⟨O,O⟩,T⟩))<|G O<|zA<|zM<|zV O ?_
 exact O):p:=h
def v72 {p:Prop} (h:p:=by
 try simp only [sx] at c4
 refine zJ<|Y O<|G O<|zZ O<|zC O kY<|zE uB (J 0 O) O<|G O<|zX O (qT O O O )<|G O<|zA<|Y O<|G O<|zA<|zF<|Y O<|G O<|G O<|yC O<|zA<|zK O (λc5=>?_) (λc5=>?_)
 ·exact v7
 ·exact t6):p:=h
def v73 {p:Prop} (h:p:=by
 try simp only [sx] at c6
 refine zP O<|G O<|zX O (qT O O O )<|G O<|zA<|zP O<|G O<|zZ O<|zC O kC<|zE uB (J 0 O) O<|G O<|G O<|zX O (qT O O O )<|zX O (qT O O O )<|zZ O<|zC O kC<|ow 0 So O<|zA ?_
 exact w7):p:=h
def v74 {p:Prop} (h:p:=by
 try simp only [sx] at c4
 refine zJ<|zP O<|G O<|qH O ⟨zB,zB⟩<|G O<|zA ?_
 refine ⟨k+1,⟨zB,hq.trans (HV hd c4)⟩,zB,oz [true,true] oH O⟩):p:=h
def v75 {p:Prop} (h:p:=by
 rw [rl] at hdst
 exact hdst o (bw ho')):p:=h
def v78 {p:Prop} (h:p:=by
 refine Y O<|qY 20 O<|G O<|zA<|zM<|oJ (ox O) (ox O) ?_
 rw [hE];rfl):p:=h
def v79 {p:Prop} (h:p:=by
 try simp only [sx] at c2
 refine zJ<|zP O<|qH O ⟨zB,zB⟩<|G O<|zA ?_
 refine ⟨k+1,⟨zB,ZW hx hp (am c2)⟩,zB,oz [false] oH O⟩):p:=h
def v80 {p:Prop} (h:p:=by
 try simp only [sx] at c2
 refine zJ<|zP O<|G O<|qH O ⟨zB,zB⟩<|G O<|zA ?_
 refine ⟨k+1,⟨zB,hp.trans (zZl hx c2)⟩,zB,oz [true,true] oH O⟩):p:=h
def v81 {p:Prop} (h:p:=by
 refine Y O<|G O<|qY 1 O<|G O<|zA<|zM<|oJ (ox O) (ox O) ?_
 rw [zZs (by rw [hE];exact c2),hE];rfl):p:=h
def v82 {p:Prop} (h:p:=by
 try simp only [sx] at c2
 refine zJ<|zP O<|G O<|qH O ⟨zB,zB⟩<|G O<|zA ?_
 refine ⟨k+1,⟨zB,ZW hx hp (am c2)⟩,zB,oz [] oH O⟩):p:=h
def v83 {p:Prop} (h:p:=by
 try simp only [sx] at c10
 have hE:=YA c1 c2 hp hQ hD c10
 refine Y O<|yO [some 8,some 20] O ri um<|G O<|ow 1 rv O<|G O<|zA<|zM<|oJ (zY ro O (J 1 O) O) (ox O) ?_
 rw [hE];rfl):p:=h
def v84 {p:Prop} (h:p:=by
 rw [cv];simp only [aA,aj,ao];omega):p:=h
def v85 {p:Prop} (h:p:=by
 refine Y O<|zC O Ce<|zE uB (J 0 O) O<|qC O pg<|yR O<|zA<|qQ O (λc7=>?_) (λc7=>?_)
 ·refine Y O<|G O<|zA<|zM<|zV O ?_
  exact w5
 ·refine zJ<|Y O<|G O<|zA<|zM<|zV O ?_
  exact w5):p:=h
def v86 {p:Prop} (h:p:=by
 rw [ab (by simp [Region.wanted,hg])]
 exact hO' (dstOk.nd hdo) _):p:=h
def v87 {p:Prop} (h:p:=by
 refine Y O<|yO nt O pd qy<|G O<|ow 2 ph O<|G O<|zA<|zM<|oJ (zY yX O (J 2 O) O) (ox O) ?_
 rw [hE];rfl):p:=h
def v88 {p:Prop} (h:p:=by
 have hjl:j<r.length:=(af.1 hj).1
 rw [dv,da zB,hA,d6,aV hjl]
 exact hj):p:=h
def v89 {p:Prop} (h:p:=by
 refine Y O<|G O<|zA<|zM<|zV O ?_
 exact ai vB (by simp only [lO,c1,cf,aM];rw [hp,qN ha,hY,show (bV a==jL e.Op k)=false by simpa using c3,bf])):p:=h
def v90 {p:Prop} (h:p:=by
 refine qL<|Y O<|G O<|G O<|zA<|zM<|zV O ?_
 exact ai vI (by rw [<-UB hp zB])):p:=h
def v91 {p:Prop} (h:p:=by
 refine Y O<|qY 1 O<|G O<|zA<|zM<|oJ (ox O) (ox O) ?_
 rw [zZs (by rw [hE];decide),hE];rfl):p:=h
def v92 {p:Prop} (h:p:=by
 rw [En.find,show p.en.pm=p.Params from rfl,show p.en.df=p.Defs from rfl,hp,TR hx c2];rfl):p:=h
def T:True:=trivial
def so (o:Oper):Option Tmp:=match o.guard with
 |none=>o.dst
 |some _=>none
def qm {o:Oper} {d:Tmp} (hd:so o=some d):o.dst=some d/\o.guard=none:=by
 unfold so at hd
 split at hd
 ·rename_i hg;exact ⟨hd,hg⟩
 ·cases hd
def oM {X:Cfg} {n:Nat} {z:Z} {Q:Exit->S->Prop} {s:List (Nat×V)} {u:List E} {os:Array Oper} {re:List Oper} {o:Oper} {d:Tmp} {α:Type} {f:α->V} {g:α->List E} (q:so o=some d) (h:OpE X o (ev s) u λr m=>∃b,r=f b/\m=g b) (k:∀b,oX X n z os re Q ⟨(d,f b)::s,g b⟩):oX X n z os (o::re) Q ⟨s,u⟩:=
 qB (qm q).1 (qm q).2 h (by rintro _ _ ⟨b,rfl,rfl⟩;exact k b)
def wO {r:V} {μ':List E} (hd:o.dst=none) (hg:o.guard=none) (h:Det X o (ev regs) μ r μ') (k:oX X n z ops rest Q ⟨regs,μ'⟩):oX X n z ops (o::rest) Q ⟨regs,μ⟩:=
 U3 hd hg h λ_ _ ⟨_,e2⟩=>e2 ▸ k
def N9 {w:World} {I:Nat->Prop} {regs:List (Nat×V)} {a:Act} {n:Nat} (hR:∀t,VRep w I (bJ regs t) (a.tmps.getD t undef)) (hs:a.tmps.size=n) {j d:Nat} {want b:Bool} (hg:o.guard=some (j,want)) (hj:(ops[j]?).bind (·.dst)=some d)
  (hdn:d<n) (hb:bJ regs d=.c (.lit (.bool b))):Region.wanted o (yielded ops a.tmps)=(b==want):=by
 have h:=hR d
 rw [hb] at h
 have h':a.tmps.getD d undef=.bool b:=by
  generalize a.tmps.getD d undef=v at h
  cases h;rfl
 have h2:a.tmps[d]? =some (.bool b):=by
  rw [au] at h'
  have:d<a.tmps.size:=by omega
  rw [aN this] at h'⊢
  simpa using h'
 simp only [Region.wanted,hg,yielded,hj,i6,h2]
 cases b<;>cases want<;>rfl
end steps
/-! ## The guard left open: a quiet operation whose result is known wherever it runs -/
def Lz (b want:Bool):Bool:=cond want b (!b)
def V.plain:V->Bool
 |.c _|.agg _|.un=>true
 |_=>false
variable {b:Bool}
def V.ifv_rep (hb:b=true) {y:V} (hp:y.plain=true) {v:Value} (h:VRep w I (.ifv b y) v):VRep w I y v:=by
 have h':V1Rep w I (.ifv b y) v:=h
 have h2:=h'.1 hb
 cases y with
 |c y=>exact h2
 |agg l=>exact h2
 |un=>trivial
 |tup l=>cases hp
 |ifv b x=>cases hp
def cL (g:Bool) (regs:List (Nat×V)):List (Nat×V)->Prop
 |[]=>True
 |(d,y)::r=>bJ regs d=.ifv g y/\y.plain=true/\cL g regs r
def QT {w:World} {I:Nat->Prop} {g:Bool} (hg:g=true) {regs:List (Nat×V)} {a:Act} (hR:∀t,VRep w I (bJ regs t) (a.tmps.getD t undef)):∀{ov:List (Nat×V)},cL g regs ov->∀t,VRep w I (bJ (ov++regs) t) (a.tmps.getD t undef)
 |[],_,t=>hR t
 |(d,y)::r,h,t=>by
  rw [jc,Oj]
  split
  ·rename_i e
   subst e
   have h1:=hR d
   rw [h.1] at h1
   exact V.ifv_rep hg h.2.1 h1
  ·exact QT hg hR h.2.2 t
def rY (x:V) (want g:Bool):Prop:=(∃b,x=.c (.lit (.bool b))/\g=Lz b want)∨∃b0 b,x=.ifv b0 (.c (.lit (.bool b)))/\g=(b0&&Lz b want)
variable {want:Bool}
def oP:rY (.c (.lit (.bool b))) want (Lz b want):=.inl ⟨b,rfl,rfl⟩
def oW {b0:Bool}:rY (.ifv b0 (.c (.lit (.bool b)))) want (b0&&Lz b want):=.inr ⟨b0,b,rfl,rfl⟩
def oY (h:b=false):Lz b false=true:=by rw [h];rfl
def kO {a:Bool} (h:a=true) (k:b=true):(a&&b)=true:=by rw [h,k];rfl
def G0 {ops:Array Oper} {regs:List (Nat×V)} (hR:∀t,VRep w I (bJ regs t) (a.tmps.getD t undef)) (hs:a.tmps.size=n) {j d:Nat} {g:Bool} (hg:o.guard=some (j,want)) (hj:(ops[j]?).bind (·.dst)=some d) (hdn:d<n) (hb:rY (bJ regs d) want g):Region.wanted o (yielded ops a.tmps)=g:=by
 rcases hb with ⟨b,hb,rfl⟩|⟨b0,b,hb,rfl⟩
 ·rw [N9 hR hs hg hj hdn hb]
  cases b<;>cases want<;>rfl
 ·have h:=hR d
  rw [hb] at h
  have h':V1Rep w I (.ifv b0 (.c (.lit (.bool b)))) (a.tmps.getD d undef):=h
  have hget:a.tmps[d]? =some (a.tmps.getD d undef):=by
   have:d<a.tmps.size:=by omega
   simp [this]
  cases b0
  ·have hu:=h'.2 rfl
   rw [hu] at hget
   simp only [Region.wanted,hg,yielded,hj,i6,hget,undef]
   cases want<;>rfl
  ·have h2:CRep w I (.lit (.bool b)) (a.tmps.getD d undef):=h'.1 rfl
   have h3:a.tmps.getD d undef=.bool b:=by
    generalize a.tmps.getD d undef=v at h2
    cases h2;rfl
   rw [h3] at hget
   simp only [Region.wanted,hg,yielded,hj,i6,hget]
   cases b<;>cases want<;>rfl
section guarded
variable {X:Cfg} {n:Nat} {z:Z} {Q:Exit->S->Prop} {regs:List (Nat×V)} {μ:List E} {ops:Array Oper} {rest:List Oper} {o:Oper} {t j d:Nat} {want g:Bool}
end guarded
variable {r:V}
def Ri {regs:List (Nat×V)} {μ:List E} {ops:Array Oper} {rest:List Oper} {t j d:Nat} {g:Bool} (ov:List (Nat×V)) (ht:o.dst=some t) (hg:o.guard=some (j,want)) (hj:(ops[j]?).bind (·.dst)=some d) (hdn:Nat.blt d n=true) (hb:rY (bJ regs d) want g) (hov:cL g regs ov) (h:g=true->Det X o (ev (ov++regs)) μ r μ) (hpl:r.plain=true) (k:oX X n z ops rest Q ⟨(t,.ifv g r)::regs,μ⟩):oX X n z ops (o::rest) Q ⟨regs,μ⟩:=by
 intro hall z1 hz1 a w ⟨I,hH,hR,hx,hd,hs⟩
 simp only [bm,ae] at hall
 refine wpListIn_step λK hK=>?_
 replace k:oX X n z ops rest Q ⟨lF o.dst (.ifv g r) regs,μ⟩:=by rw [ht];exact k
 have hw:=G0 hR hs hg hj (by simpa [cr] using hdn) hb
 cases hgv:g
 ·rw [aa (by rw [hw,hgv];simp)]
  refine ⟨λ_ _=>trivial,hK _ _ (k hall.2 z1 hz1 _ _ (St.put hH hR hx hd hs hall.1 (r:=.ifv g r) ?_ hH (Ext.refl _ _ _)))⟩
  show V1Rep w I (.ifv g r) undef
  exact ⟨λh=>absurd (hgv.symm.trans h) uF,λ_=>rfl⟩
 ·rw [ab (by rw [hw,hgv])]
  refine h hgv a w I hH (λx _=>CF (QT hgv hR hov) x) K _ ?_ (dstOk.nd hall.1) _
  rintro v r' μ' I' w' ⟨rfl,rfl⟩ hv hH' x
  refine hK _ _ (k hall.2 z1 hz1 _ _ (St.put hH hR hx hd hs hall.1 (r:=.ifv g r') ?_ hH' x))
  show V1Rep w' I' (.ifv g r') v
  refine ⟨λ_=>?_,λh=>absurd (hgv.symm.trans h) uF⟩
  cases r' with
  |c y=>exact hv
  |agg l=>exact hv
  |un=>trivial
  |tup l=>cases hpl
  |ifv b x=>cases hpl
/-! ## Facts on types -/
def nN (P:Program) (t:nr):Option Nat:=
 match P.underlying t,P.info? t with
 |some (.struct _),some i=>some i.size
 |some (.array ..),some i=>some i.size
 |_,_=>none
def fW (P:Program) (t:nr):Bool:=
 match P.underlying t,P.info? t with
 |some (.struct _),_=>false
 |some (.array ..),_=>false
 |some _,some i=>i.size==1
 |_,_=>false
def dZ (P:Program) (t:nr):Option (List Value):=
 match P.info? t with
 |some i=>match i.zero with
  |some v=>if v.cells.all Value.oneCell' then some v.cells.toList else none
  |none=>none
 |none=>none
def bH (P:Program) (s:nr) (f:Nat):Option (Nat×nr):=
 match P.underlying s with
 |some (.struct fs)=>match fs[f]? with
  |some fd=>match P.info? fd.type with
   |some i=>if i.size=0 then none else some (fd.offset,fd.type)
   |none=>none
  |none=>none
 |_=>none
def dW (P:Program) (t:nr):Option (nr×Nat×Nat):=
 match P.underlying t with
 |some (.slice e)=>match P.info? e with
  |some i=>match i.zero with
   |some zv=>if zv.cells.size=i.size/\0<i.size then some (e,i.size,i.bytes) else none
   |none=>none
  |none=>none
 |_=>none
section inv
variable {w:World} {I:Nat->Prop}
def VRep.lit_inv {v u:Value} (h:VRep w I (.c (.lit v)) u):u=v:=by
 have h':CRep w I (.lit v) u:=h
 cases h';rfl
def VRep.agg_inv {l:List C} {u:Value} (h:VRep w I (.agg l) u):∃vs:List Value,u=.agg vs.toArray/\CReps w I l vs:=h
end inv
variable {P:Program}
def LV {v:Value} {K:Act->World->Prop} {Q:Exit->Act->World->Prop} (h:(execOp a.eval o).run P w=.ok (.value v) w') (k:K (a.put o.dst v) w'):OW P o a w K Q:=by
 intro hn rd
 refine ⟨λ_ _=>trivial,?_⟩
 rw [zQi hn,h];exact k
def LP {K:Act->World->Prop} {Q:Exit->Act->World->Prop} (h:(execOp a.eval o).run P w=.ok .skip w') (k:K (a.put o.dst undef) w'):OW P o a w K Q:=by
 intro hn rd
 refine ⟨λ_ _=>trivial,?_⟩
 rw [zQi hn,h];exact k
/-! ## Operations that touch no memory -/
section plain
variable {X:Cfg} {o:Oper} {e:ns->V} {μ:List E}
def kW {r:V} (h:∀(a:Act) (w:World) (I:Nat->Prop),Heap X w I μ->(∀x,x∈o.op.operands->VRep w I (e x) (a.eval x))->∃v,(execOp a.eval o).run X.P w=.ok (.value v) w/\VRep w I r v):Det X o e μ r μ:=by
 intro a w I hH hops K Q k
 obtain ⟨v,hrun,hv⟩:=h a w I hH hops
 exact LV hrun (k v r μ I w ⟨rfl,rfl⟩ hv hH (Ext.refl _ _ _))
def HJ {x:ns} (ho:o.op=.move x∨o.op=.assign x):Det X o e μ (e x) μ:=
 kW λa w I _ hops=>⟨a.eval x,by rcases ho with ho|ho<;>simp [execOp,ho],hops x (by rcases ho with ho|ho<;>rw [ho]<;>simp [Op.operands])⟩
def zQ {x:ns} {y:C} (ho:o.op=.move x) (hx:e x=.c y):Det X o e μ (.c y) μ:=hx ▸ HJ (.inl ho)
def yK {x:ns} {y:C} (ho:o.op=.assign x) (hx:e x=.c y):Det X o e μ (.c y) μ:=hx ▸ HJ (.inr ho)
def yS {x:ns} {y:List V} (ho:o.op=.move x) (hx:e x=.tup y):Det X o e μ (.tup y) μ:=hx ▸ HJ (.inl ho)
def qW {n_:Nat} {z_:Z} {Q_:Exit->S->Prop} {rs:List (Nat×V)} {os:Array Oper} {re:List Oper} {d_:Tmp} {x:ns} {y:List V} (hd:(so o,o.op,(ev rs) x)=(some d_,.move x,.tup y))  (k_:oX X n_ z_ os re Q_ ⟨(d_,(.tup y))::rs,μ⟩):oX X n_ z_ os (o::re) Q_ ⟨rs,μ⟩:=by
 simp only [aO] at hd
 obtain ⟨h_,q0,q1⟩:=hd
 exact ua (qm h_).1 (qm h_).2 (yS (e:=ev rs) q0 q1) k_
def wX {c x y:ns} {b d g:Bool} (ho:o.op=.pick c x y) (hc:e c=.c (.lit (.bool b))) (hx:e x=.ifv g (.c (.lit (.bool d)))) (hg:b=true->g=true) (hy:e y=.c (.lit (.bool false))):Det X o e μ (.c (.lit (.bool (b&&d)))) μ:=
 kW λa w I _ hops=>by
  have hcv:=hops c qr
  rw [hc] at hcv
  have h0:=hcv.lit_inv
  cases b
  ·have hyv:=hops y qr
   rw [hy] at hyv
   have h1:=hyv.lit_inv
   exact ⟨.bool false,by simp [execOp,ho,h0,h1,asBool],CRep.lit _ rfl⟩
  ·have hxv:=hops x qr
   rw [hx] at hxv
   have h2:CRep w I (.lit (.bool d)) (a.eval x):=(show V1Rep w I (.ifv g (.c (.lit (.bool d)))) (a.eval x) from hxv).1 (hg rfl)
   exact ⟨a.eval x,by simp [execOp,ho,h0,asBool],h2⟩
def kF {n_:Nat} {z_:Z} {Q_:Exit->S->Prop} {rs:List (Nat×V)} {os:Array Oper} {re:List Oper} {d_:Tmp} {c x y:ns} {b d g:Bool} (hd:(so o,o.op,(ev rs) c,(ev rs) x,(ev rs) y)=(some d_,.pick c x y,.c (.lit (.bool b)),.ifv g (.c (.lit (.bool d))),.c (.lit (.bool false)))) (hg:b=true->g=true) (k_:oX X n_ z_ os re Q_ ⟨(d_,(.c (.lit (.bool (b&&d)))))::rs,μ⟩):oX X n_ z_ os (o::re) Q_ ⟨rs,μ⟩:=by
 simp only [aO] at hd
 obtain ⟨h_,q0,q1,q2,q4⟩:=hd
 exact ua (qm h_).1 (qm h_).2 (wX (e:=ev rs) q0 q1 q2 hg q4) k_
def tj {c x y:ns} {b d g:Bool} (ho:o.op=.pick c x y) (hc:e c=.c (.lit (.bool b))) (hx:e x=.c (.lit (.bool true))) (hy:e y=.ifv g (.c (.lit (.bool d)))) (hg:b=false->g=true):Det X o e μ (.c (.lit (.bool (b||d)))) μ:=
 kW λa w I _ hops=>by
  have hcv:=hops c qr
  rw [hc] at hcv
  have h0:=hcv.lit_inv
  cases b
  ·have hyv:=hops y qr
   rw [hy] at hyv
   have h2:CRep w I (.lit (.bool d)) (a.eval y):=(show V1Rep w I (.ifv g (.c (.lit (.bool d)))) (a.eval y) from hyv).1 (hg rfl)
   exact ⟨a.eval y,by simp [execOp,ho,h0,asBool],h2⟩
  ·have hxv:=hops x qr
   rw [hx] at hxv
   have h1:=hxv.lit_inv
   exact ⟨.bool true,by simp [execOp,ho,h0,h1,asBool],CRep.lit _ rfl⟩
def oN {n_:Nat} {z_:Z} {Q_:Exit->S->Prop} {rs:List (Nat×V)} {os:Array Oper} {re:List Oper} {d_:Tmp} {c x y:ns} {b d g:Bool} (hd:(so o,o.op,(ev rs) c,(ev rs) x,(ev rs) y)=(some d_,.pick c x y,.c (.lit (.bool b)),.c (.lit (.bool true)),.ifv g (.c (.lit (.bool d))))) (hg:b=false->g=true) (k_:oX X n_ z_ os re Q_ ⟨(d_,(.c (.lit (.bool (b||d)))))::rs,μ⟩):oX X n_ z_ os (o::re) Q_ ⟨rs,μ⟩:=by
 simp only [aO] at hd
 obtain ⟨h_,q0,q1,q2,q3⟩:=hd
 exact ua (qm h_).1 (qm h_).2 (tj (e:=ev rs) q0 q1 q2 q3 hg) k_
def z7 {op:BinOp} {t ty:nr} {x y:ns} {u v r:Value} (ho:o.op=.binOp op t x y ty) (hx:e x=.c (.lit u)) (hy:e y=.c (.lit v))
  (hr:∀w,(do eqGuard op t x y u v;binOp op t u v:Sem Value).run X.P w=.ok r w) (h1:r.oneCell'=true):Det X o e μ (.c (.lit r)) μ:=
 kW λa w I _ hops=>by
  have hxv:=hops x qr
  have hyv:=hops y qr
  rw [hx] at hxv
  rw [hy] at hyv
  have h0:=hxv.lit_inv
  have h2:=hyv.lit_inv
  refine ⟨r,?_,CRep.lit _ h1⟩
  have:=hr w
  simp only [execOp,ho,h0,h2,aW,this,aI,ba]
section ints
variable {t ty:nr} {x y:ns} {k:IntKind} {a b:Int}
def qAj (ho:o.op=.binOp .add t x y ty) (hx:e x=.c (.lit (.int k a))) (hy:e y=.c (.lit (.int k b))):Det X o e μ (.c (.lit (.int k (k.wrap (a+b))))) μ:=z7 ho hx hy (λw=>by simp [go_sem]) rfl
def qAf (ho:o.op=.binOp .sub t x y ty) (hx:e x=.c (.lit (.int k a))) (hy:e y=.c (.lit (.int k b))):Det X o e μ (.c (.lit (.int k (k.wrap (a-b))))) μ:=z7 ho hx hy (λw=>by simp [go_sem]) rfl
def Cy (ho:o.op=.binOp .mul t x y ty) (hx:e x=.c (.lit (.int k a))) (hy:e y=.c (.lit (.int k b))):Det X o e μ (.c (.lit (.int k (k.wrap (a*b))))) μ:=z7 ho hx hy (λw=>by simp [go_sem]) rfl
def J8 (ho:o.op=.binOp .quo t x y ty) (hx:e x=.c (.lit (.int k a))) (hy:e y=.c (.lit (.int k b))) (hb:b≠0):Det X o e μ (.c (.lit (.int k (k.wrap (a.tdiv b))))) μ:=z7 ho hx hy (λw=>by simp [eqGuard,binOp,Op.intDiv,hb]) rfl
def CA (ho:o.op=.binOp .rem t x y ty) (hx:e x=.c (.lit (.int k a))) (hy:e y=.c (.lit (.int k b))) (hb:b≠0):Det X o e μ (.c (.lit (.int k (a.tmod b)))) μ:=z7 ho hx hy (λw=>by simp [eqGuard,binOp,Op.intDiv,hb]) rfl
def yU (ho:o.op=.binOp .eql t x y ty) (hx:e x=.c (.lit (.int k a))) (hy:e y=.c (.lit (.int k b))):Det X o e μ (.c (.lit (.bool (decide (a=b))))) μ:=z7 ho hx hy (λw=>by simp [go_sem];exact dk.2 Iff.rfl) rfl
def yR {n_:Nat} {z_:Z} {Q_:Exit->S->Prop} {rs:List (Nat×V)} {os:Array Oper} {re:List Oper} {d_:Tmp} (hd:(so o,o.op,(ev rs) x,(ev rs) y)=(some d_,.binOp .eql t x y ty,.c (.lit (.int k a)),.c (.lit (.int k b))))  (k_:oX X n_ z_ os re Q_ ⟨(d_,(.c (.lit (.bool (decide (a=b))))))::rs,μ⟩):oX X n_ z_ os (o::re) Q_ ⟨rs,μ⟩:=by
 simp only [aO] at hd
 obtain ⟨h_,q0,q1,q2⟩:=hd
 exact ua (qm h_).1 (qm h_).2 (yU (e:=ev rs) q0 q1 q2) k_
def wI (ho:o.op=.binOp .neq t x y ty) (hx:e x=.c (.lit (.int k a))) (hy:e y=.c (.lit (.int k b))):Det X o e μ (.c (.lit (.bool (!decide (a=b))))) μ:=z7 ho hx hy (λw=>by simp [go_sem];rfl) rfl
def yL {n_:Nat} {z_:Z} {Q_:Exit->S->Prop} {rs:List (Nat×V)} {os:Array Oper} {re:List Oper} {d_:Tmp} (hd:(so o,o.op,(ev rs) x,(ev rs) y)=(some d_,.binOp .neq t x y ty,.c (.lit (.int k a)),.c (.lit (.int k b))))  (k_:oX X n_ z_ os re Q_ ⟨(d_,(.c (.lit (.bool (!decide (a=b))))))::rs,μ⟩):oX X n_ z_ os (o::re) Q_ ⟨rs,μ⟩:=by
 simp only [aO] at hd
 obtain ⟨h_,q0,q1,q2⟩:=hd
 exact ua (qm h_).1 (qm h_).2 (wI (e:=ev rs) q0 q1 q2) k_
def Ad (ho:o.op=.binOp .lss t x y ty) (hx:e x=.c (.lit (.int k a))) (hy:e y=.c (.lit (.int k b))):Det X o e μ (.c (.lit (.bool (decide (a<b))))) μ:=z7 ho hx hy (λw=>by simp [go_sem]) rfl
def yC {n_:Nat} {z_:Z} {Q_:Exit->S->Prop} {rs:List (Nat×V)} {os:Array Oper} {re:List Oper} {d_:Tmp} (hd:(so o,o.op,(ev rs) x,(ev rs) y)=(some d_,.binOp .lss t x y ty,.c (.lit (.int k a)),.c (.lit (.int k b))))  (k_:oX X n_ z_ os re Q_ ⟨(d_,(.c (.lit (.bool (decide (a<b))))))::rs,μ⟩):oX X n_ z_ os (o::re) Q_ ⟨rs,μ⟩:=by
 simp only [aO] at hd
 obtain ⟨h_,q0,q1,q2⟩:=hd
 exact ua (qm h_).1 (qm h_).2 (Ad (e:=ev rs) q0 q1 q2) k_
def vb (ho:o.op=.binOp .leq t x y ty) (hx:e x=.c (.lit (.int k a))) (hy:e y=.c (.lit (.int k b))):Det X o e μ (.c (.lit (.bool (decide (a<=b))))) μ:=z7 ho hx hy (λw=>by simp [go_sem]) rfl
def kE (ho:o.op=.binOp .gtr t x y ty) (hx:e x=.c (.lit (.int k a))) (hy:e y=.c (.lit (.int k b))):Det X o e μ (.c (.lit (.bool (decide (b<a))))) μ:=z7 ho hx hy (λw=>by simp [go_sem]) rfl
def sf {n_:Nat} {z_:Z} {Q_:Exit->S->Prop} {rs:List (Nat×V)} {os:Array Oper} {re:List Oper} {d_:Tmp} (hd:(so o,o.op,(ev rs) x,(ev rs) y)=(some d_,.binOp .gtr t x y ty,.c (.lit (.int k a)),.c (.lit (.int k b))))  (k_:oX X n_ z_ os re Q_ ⟨(d_,(.c (.lit (.bool (decide (b<a))))))::rs,μ⟩):oX X n_ z_ os (o::re) Q_ ⟨rs,μ⟩:=by
 simp only [aO] at hd
 obtain ⟨h_,q0,q1,q2⟩:=hd
 exact ua (qm h_).1 (qm h_).2 (kE (e:=ev rs) q0 q1 q2) k_
def wN (ho:o.op=.binOp .geq t x y ty) (hx:e x=.c (.lit (.int k a))) (hy:e y=.c (.lit (.int k b))):Det X o e μ (.c (.lit (.bool (decide (b<=a))))) μ:=z7 ho hx hy (λw=>by simp [go_sem]) rfl
end ints
end plain
def nth {α:Type}:List α->Nat->Option α
 |[],_=>none
 |x::_,0=>some x
 |_::l,i+1=>nth l i
def Hb {α:Type}:∀(l:List α) (i:Nat),nth l i=l[i]?
 |[],_=>by simp [nth]
 |_::_,0=>by simp [nth]
 |_::l,i+1=>by simp [nth,Hb l i]
variable {i:Nat}
def Cc {α:Type} {l:List α} {x:α} (h:nth l i=some x):x∈l:=bw (by rw [<-Hb];exact h)
def zOk (a:Addr) (i j:Nat):(a.add i).add j=a.add (i+j):=by
 unfold Addr.add
 by_cases hi:i=0<;>by_cases hj:j=0<;>simp [hi,hj,i4]
def qAy (a:Addr) (n:Nat):(a.add n).block=a.block:=by unfold Addr.add;split<;>rfl
def S5 (b o n:Nat):Addr.add ⟨b,o,none⟩ n=⟨b,o+n,none⟩:=by
 unfold Addr.add;split<;>simp_all
def Holds (w:World) (I:Nat->Prop) (a:Addr) (cells:List C):Prop:=
 ∃us:List Value,CReps w I cells us/\∀j u,us[j]? =some u->w.cell? (a.add j)=some u
def Holds.drop {w:World} {I:Nat->Prop} {a:Addr} {cells:List C} (h:Holds w I a cells) (k:Nat):Holds w I (a.add k) (cells.drop k):=by
 obtain ⟨us,hc,hu⟩:=h
 refine ⟨us.drop k,hc.drop k,λj u hj=>?_⟩
 rw [zOk]
 exact hu _ u (by rw [<-hj,ew])
def rJ (μ:List E) (c:C) (cells:List C):Prop:=
 ∀(w:World) (I:Nat->Prop) (v:Value),(∀e,e∈μ->ERep w I e)->CRep w I c v->∃a,v=.pointer (some a)/\Holds w I a cells
def qE {μ:List E} {cells:List C}:rJ μ (.iptr cells) cells:=by
 intro w I v _ h
 cases h with
 |iptr _ a us hI hc hr=>
  refine ⟨a,rfl,(List.range cells.length).map us,CReps.of_at uF ?_,?_⟩
  ·intro j c v hj hv
   have hlt:j<cells.length:=(af.1 hj).1
   rw [cg,eq hlt] at hv
   simp only [fh,ay] at hv
   subst hv
   exact hr j c hj
  ·intro j u hu
   have hlt:j<cells.length:=by have:=(af.1 hu).1;simpa using this
   rw [cg,eq hlt] at hu
   simp only [fh,ay] at hu
   subst hu
   exact hc j hlt
variable {off:Nat}
def J {μ:List E} {b:Nat} {cs:List C} (p:Nat) (h:nth μ p=some (.row b t cs)):rJ μ (.lit (.pointer (some ⟨b,off,none⟩))) (cs.drop off):=by
 intro w I v hr hv
 cases hv
 obtain ⟨vs,hh,hc⟩:=hr _ (Cc h)
 refine ⟨_,rfl,vs.drop off,hc.drop off,λj u hu=>?_⟩
 rw [S5,kj w b (off+j) vs.toArray t (0,0) hh]
 simpa using hu
def uQ {size:Nat} (hl:∀r,r∈rows->r.length=size):∀{i:Nat} {row:List C},rows[i]? =some row->∃A B,rows.flatten=A++row++B/\A.length=i*size:=by
 induction rows with
 |nil=>intro i row h;simp at h
 |cons r rows ih=>
  intro i row h
  cases i with
  |zero=>simp at h;subst h;exact ⟨[],rows.flatten,uF,uF⟩
  |succ i=>
   obtain ⟨A,B,e,hA⟩:=ih (λr hr=>hl r (by simp [hr])) tk
   refine ⟨r++A,B,by simp [e],?_⟩
   rw [dz,hA,hl r uF,dx,lp]
def kP {μ:List E} {size:Nat} {row:List C} (p:Nat) (h:nth μ p=some (.vec sv t size rows)) (hi:rows[i]? =some row):rJ μ (.vptr sv size i off) (row.drop off):=by
 intro w I v hr hv
 cases hv with
 |vptr b n cap _ _ _=>
  rcases hr _ (Cc h) with ⟨_,_,rfl⟩|⟨_,xs,hown,hc,hl⟩
  ·simp at hi
  obtain ⟨A,B,e,hA⟩:=uQ hl hi
  rw [e] at hc
  have hcell:=hown.cells (g:=b) rfl
  have hrow:row.length=size:=hl row (bw hi)
  refine ⟨_,rfl,((xs.drop (i*size)).take row.length).drop off,?_,λj u hu=>?_⟩
  ·have h1:=(hc.drop A.length).take row.length
   rw [dv,List.drop_left,iu,hA] at h1
   exact h1.drop off
  ·rw [S5]
   have h2:=hcell (i*size+off+j) u
   rw [S5,cd] at h2
   refine h2 ?_
   rw [ew,az] at hu
   split at hu
   ·rw [ew] at hu;rw [<-hu];congr 1;omega
   ·cases hu
def zOp {m:Nat} (h:nN P t=some m) (w:World):(isAgg t).run P w=.ok true w/\(sizeOf t).run P w=.ok m w:=by
 unfold nN at h
 split at h
 ·rename_i fs i hu hi
  simp only [ay] at h
  constructor
  ·simp [isAgg,aK hu]
  ·simp [sizeOf,typeInfo,program,Sem.run,hi,h]
 ·rename_i len el i hu hi
  simp only [ay] at h
  constructor
  ·simp [isAgg,aK hu]
  ·simp [sizeOf,typeInfo,program,Sem.run,hi,h]
 ·cases h
def zIc (h:fW P t=true) (w:World):(isAgg t).run P w=.ok false w/\(sizeOf t).run P w=.ok 1 w:=by
 unfold fW at h
 cases hu:P.underlying t with
 |none=>simp [hu] at h
 |some d=>
  cases hi:P.info? t with
  |none=>cases d<;>simp [hu,hi] at h
  |some i=>
   have hs:i.size=1:=by cases d<;>simp [hu,hi] at h<;>exact h
   constructor
   ·cases d<;>simp [hu,hi] at h<;>simp [isAgg,aK hu]
   ·simp [sizeOf,typeInfo,hi,hs]
section mem
variable {X:Cfg} {o:Oper} {e:ns->V} {μ:List E}
def qA {t:nr} {x:ns} {c:C} {cells:List C} {m:Nat} (ho:o.op=.load t x) (ht:nN X.P t=some m) (hx:e x=.c c) (hp:rJ μ c cells) (hl:Nat.ble m cells.length=true):
  Det X o e μ (.agg (cells.take m)) μ:=
 kW λa w I hH hops=>by
  have hxv:=hops x qr
  rw [hx] at hxv
  obtain ⟨ad,ha,us,hc,hu⟩:=hp w I _ hH.rep hxv
  obtain ⟨h1,h2⟩:=zOp ht w
  have hlen:m<=us.length:=by rw [<-hc.length];exact ci hl
  have hload:=mc (P:=X.P) w ad (us.take m) (λj v hj=>hu j v (by
   rw [az] at hj
   split at hj
   ·exact hj
   ·cases hj))
  rw [ap,bg hlen] at hload
  refine ⟨.agg (us.take m).toArray,?_,us.take m,rfl,hc.take m⟩
  simp only [execOp,ho,ha,Instr.loadAt,Instr.sureAddr,loadVar,aW,ba,aI,h1,h2,ik,hload]
def zN {n_:Nat} {z_:Z} {Q_:Exit->S->Prop} {rs:List (Nat×V)} {os:Array Oper} {re:List Oper} {d_:Tmp} {t:nr} {x:ns} {c:C} {cells:List C} {m:Nat} (ht:nN X.P t=some m) (hp:rJ μ c cells) (hd:(so o,o.op,(ev rs) x,Nat.ble m cells.length)=(some d_,.load t x,.c c,true)) (k_:oX X n_ z_ os re Q_ ⟨(d_,(.agg (cells.take m)))::rs,μ⟩):oX X n_ z_ os (o::re) Q_ ⟨rs,μ⟩:=by
 simp only [aO] at hd
 obtain ⟨h_,q0,q2,q4⟩:=hd
 exact ua (qm h_).1 (qm h_).2 (qA (e:=ev rs) q0 ht q2 hp q4) k_
def zH {t:nr} {x:ns} {c d:C} {cells rest:List C} (ho:o.op=.load t x) (ht:fW X.P t=true) (hx:e x=.c c) (hp:rJ μ c cells) (hc:cells=d::rest):
  Det X o e μ (.c d) μ:=
 kW λa w I hH hops=>by
  subst hc
  have hxv:=hops x qr
  rw [hx] at hxv
  obtain ⟨ad,ha,us,hc,hu⟩:=hp w I _ hH.rep hxv
  obtain ⟨h1,h2⟩:=zIc ht w
  cases hc with
  |cons hd ht'=>
   rename_i u us'
   have h0:w.cell? ad=some u:=by have:=hu 0 u rfl;simpa [Addr.add] using this
   refine ⟨u,?_,hd⟩
   simp only [execOp,ho,ha,Instr.loadAt,Instr.sureAddr,loadVar,aW,ba,aI,h1,gk,gn,run_load,h0]
def zE {n_:Nat} {z_:Z} {Q_:Exit->S->Prop} {rs:List (Nat×V)} {os:Array Oper} {re:List Oper} {d_:Tmp} {t:nr} {x:ns} {c d:C} {cells rest:List C} (ht:fW X.P t=true) (hp:rJ μ c cells) (hd:(so o,o.op,(ev rs) x,cells)=(some d_,.load t x,.c c,d::rest)) (k_:oX X n_ z_ os re Q_ ⟨(d_,(.c d))::rs,μ⟩):oX X n_ z_ os (o::re) Q_ ⟨rs,μ⟩:=by
 simp only [aO] at hd
 obtain ⟨h_,q0,q2,q4⟩:=hd
 exact ua (qm h_).1 (qm h_).2 (zH (e:=ev rs) q0 ht q2 hp q4) k_
def zPj {P:Program} {s:nr} {f off:Nat} {ft:nr} (h:bH P s f=some (off,ft)) (w:World) (ad:Addr):(Instr.fieldAt s (.pointer (some ad)) f).run P w=.ok (.pointer (some (ad.add off))) w:=by
 unfold bH at h
 split at h
 ·rename_i fs hu
  split at h
  ·rename_i fd hf
   split at h
   ·rename_i i hi
    split at h
    ·cases h
    ·rename_i hz
     simp only [ay,aO] at h
     obtain ⟨rfl,rfl⟩:=h
     simp [Instr.fieldAt,aK hu,hf,Instr.sureAddr,fieldPlace,sizeOf,typeInfo,hi,hz]
   ·cases h
  ·cases h
 ·cases h
def zG {s:nr} {x:ns} {f off fo b:Nat} {ft:nr} (ho:o.op=.fieldAddr s x f) (hf:bH X.P s f=some (fo,ft)) (hx:e x=.c (.lit (.pointer (some ⟨b,off,none⟩)))):
  Det X o e μ (.c (.lit (.pointer (some ⟨b,off+fo,none⟩)))) μ:=
 kW λa w I hH hops=>by
  have hxv:=hops x qr
  rw [hx] at hxv
  have h0:=hxv.lit_inv
  refine ⟨.pointer (some ⟨b,off+fo,none⟩),?_,CRep.lit _ rfl⟩
  have:=zPj hf w ⟨b,off,none⟩
  rw [S5] at this
  simp only [execOp,ho,h0,aW,this,aI,ba]
def zC {n_:Nat} {z_:Z} {Q_:Exit->S->Prop} {rs:List (Nat×V)} {os:Array Oper} {re:List Oper} {d_:Tmp} {s:nr} {x:ns} {f off fo b:Nat} {ft:nr} (hd:(so o,o.op,(ev rs) x)=(some d_,.fieldAddr s x f,.c (.lit (.pointer (some ⟨b,off,none⟩))))) (hf:bH X.P s f=some (fo,ft)) (k_:oX X n_ z_ os re Q_ ⟨(d_,(.c (.lit (.pointer (some ⟨b,off+fo,none⟩)))))::rs,μ⟩):oX X n_ z_ os (o::re) Q_ ⟨rs,μ⟩:=by
 simp only [aO] at hd
 obtain ⟨h_,q0,q2⟩:=hd
 exact ua (qm h_).1 (qm h_).2 (zG (e:=ev rs) q0 hf q2) k_
def qO {s:nr} {x:ns} {f fo:Nat} {ft:nr} {cells:List C} (ho:o.op=.fieldAddr s x f) (hf:bH X.P s f=some (fo,ft)) (hx:e x=.c (.iptr cells)):
  Det X o e μ (.c (.iptr (cells.drop fo))) μ:=
 kW λa w I hH hops=>by
  have hxv:=hops x qr
  rw [hx] at hxv
  have hxv':CRep w I (.iptr cells) (a.eval x):=hxv
  generalize hv:a.eval x=v at hxv'
  cases hxv' with
  |iptr _ ad us hI hc hr=>
   have:=zPj hf w ad
   refine ⟨.pointer (some (ad.add fo)),?_,?_⟩
   ·simp only [execOp,ho,hv,aW,this,aI,ba]
   ·refine CRep.iptr _ _ (λj=>us (fo+j)) (by rw [qAy];exact hI) (λj hj=>?_) (λj c hj=>?_)
    ·rw [zOk];exact hc _ (by simp at hj;omega)
    ·exact hr _ c (by rw [<-hj,ew])
def qS {n_:Nat} {z_:Z} {Q_:Exit->S->Prop} {rs:List (Nat×V)} {os:Array Oper} {re:List Oper} {d_:Tmp} {s:nr} {x:ns} {f fo:Nat} {ft:nr} {cells:List C} (hd:(so o,o.op,(ev rs) x)=(some d_,.fieldAddr s x f,.c (.iptr cells))) (hf:bH X.P s f=some (fo,ft)) (k_:oX X n_ z_ os re Q_ ⟨(d_,(.c (.iptr (cells.drop fo))))::rs,μ⟩):oX X n_ z_ os (o::re) Q_ ⟨rs,μ⟩:=by
 simp only [aO] at hd
 obtain ⟨h_,q0,q2⟩:=hd
 exact ua (qm h_).1 (qm h_).2 (qO (e:=ev rs) q0 hf q2) k_
def wL {s:nr} {x:ns} {f fo size i off:Nat} {ft:nr} {sv:Value} (ho:o.op=.fieldAddr s x f) (hf:bH X.P s f=some (fo,ft)) (hx:e x=.c (.vptr sv size i off)):
  Det X o e μ (.c (.vptr sv size i (off+fo))) μ:=
 kW λa w I hH hops=>by
  have hxv:=hops x qr
  rw [hx] at hxv
  have hxv':CRep w I (.vptr sv size i off) (a.eval x):=hxv
  generalize hv:a.eval x=v at hxv'
  cases hxv' with
  |vptr b n cap _ _ _=>
   have:=zPj hf w ⟨b,i*size+off,none⟩
   rw [S5] at this
   refine ⟨.pointer (some ⟨b,i*size+(off+fo),none⟩),?_,CRep.vptr b n cap size i (off+fo)⟩
   simp only [execOp,ho,hv,aW,this,aI,ba,i4]
def Cz {s:nr} {x:ns} {f fo:Nat} {ft:nr} {cells rest:List C} {d:C} (ho:o.op=.field s x f) (hf:bH X.P s f=some (fo,ft)) (ht:fW X.P ft=true) (hx:e x=.agg cells) (hc:cells.drop fo=d::rest):
  Det X o e μ (.c d) μ:=
 kW λa w I hH hops=>by
  have hxv:=hops x qr
  rw [hx] at hxv
  obtain ⟨vs,hv,hcs⟩:=hxv.agg_inv
  obtain ⟨h1,h2⟩:=zIc ht w
  have hd:=hcs.drop fo
  rw [hc] at hd
  generalize hvd:vs.drop fo=us at hd
  cases hd with
  |cons hd ht'=>
   rename_i u us'
   have h0:vs[fo]? =some u:=by have:=ai (·[0]?) hvd;simpa using this
   unfold bH at hf
   split at hf
   ·rename_i fs hu
    split at hf
    ·rename_i fd hfd
     split at hf
     ·split at hf
      ·cases hf
      ·simp only [ay,aO] at hf
       obtain ⟨rfl,rfl⟩:=hf
       refine ⟨u,?_,hd⟩
       simp [execOp,ho,hv,Instr.field,aK hu,hfd,asAgg,part,h1,h0]
     ·cases hf
    ·cases hf
   ·cases hf
end mem
def Z2 {μ:List E} (hH:Heap X w I μ) (ob:Obj) (en:E) (hb:en.blocks=[w.heap.size]) (hm:en.Mono) (hr:ERep (w.alloc ob) I en):
  Heap X (w.alloc ob) I (en::μ)/\Ext w I μ (w.alloc ob) I (en::μ):=by
 have hsz:(w.alloc ob).heap.size=w.heap.size+1:=by show (w.heap.push ob).size=_;simp
 have hold:∀b,b<w.heap.size->(w.alloc ob).heap[b]? =w.heap[b]? :=λb hb=>Below.heap_alloc w ob b hb
 refine ⟨⟨by have:=hH.lo;omega,X.hG _ _ (λb hb=>hold b xJ5) hH.glob,?_,?_,λb hb=>by have:=hH.imm b hb;omega,?_,?_⟩,⟨rfl,rfl,rfl,zB,λb hb _=>hold b hb,λ_ h=>h,λ_ h=>.inl h,?_⟩⟩
 ·rw [VB,hb]
  refine co.2 ⟨λh=>?_,hH.nodup⟩
  have:=hH.lt h
  omega
 ·intro b hb'
  rw [VB,hb] at hb'
  rcases ag.1 hb' with rfl|h
  ·exact ⟨hH.lo,λhi=>by have:=hH.imm _ hi;omega⟩
  ·exact hH.own b h
 ·intro e he
  rcases ag.1 he with rfl|h
  ·exact hr
  ·exact (hH.rep e h).mono (hH.mono e h) (λb hb=>hold b (hH.imm b hb)) (λ_ h=>h) λb hb=>hold b ((hH.rep e h).lt hb)
 ·intro e he
  rcases ag.1 he with rfl|h
  ·exact hm
  ·exact hH.mono e h
 ·intro b hb'
  rw [VB,hb] at hb'
  rcases ag.1 hb' with rfl|h
  ·exact .inr (aC _)
  ·exact .inl h
def rN {α:Type}:List α->Nat->α->List α
 |[],_,_=>[]
 |_::l,0,y=>y::l
 |x::l,i+1,y=>x::rN l i y
def rH {α:Type}:List α->Nat->List α
 |[],_=>[]
 |_::l,0=>l
 |x::l,i+1=>x::rH l i
def Xb {α:Type}:∀{l:List α} {p:Nat} {x:α},nth l p=some x->l.Perm (x::rH l p)
 |[],_,_,h=>by simp [nth] at h
 |y::l,0,x,h=>by simp only [nth,ay] at h;subst h;exact bb _
 |y::l,p+1,x,h=>((Xb (l:=l) (p:=p) h).cons y).trans (List.Perm.swap x y _)
def zXo {α:Type} (y:α):∀{l:List α} {p:Nat} {x:α},nth l p=some x->(rN l p y).Perm (y::rH l p)
 |[],_,_,h=>by simp [nth] at h
 |z::l,0,x,h=>bb _
 |z::l,p+1,x,h=>((zXo y (l:=l) (p:=p) h).cons z).trans (List.Perm.swap y z _)
def Heap.write {μ:List E} (hH:Heap X w I μ) {p:Nat} {en en':E} (hp:nth μ p=some en) (hos:w'.os=w.os) (htp:w'.tape=w.tape) (hout:w'.output=w.output) (hsz:w.heap.size<=w'.heap.size) (hb:∀b,b<w.heap.size->b ∉ en.blocks->w'.heap[b]? =w.heap[b]?) (hnd:en'.blocks.Nodup) (hnew:∀b,b∈en'.blocks->b∈en.blocks∨w.heap.size<=b) (hm:en'.Mono) (hr:ERep w' I en'):
  Heap X w' I (rN μ p en')/\Ext w I μ w' I (rN μ p en'):=by
 have p1:=Xb hp
 have p2:=zXo en' hp
 have h1:Heap X w I ([en]++rH μ p):=hH.perm p1
 have hbl:bC [en]=en.blocks:=by simp [bC]
 have hbl':bC [en']=en'.blocks:=by simp [bC]
 have hen:=h1.left
 have still:∀b,I b->w'.heap[b]? =w.heap[b]? :=λb hI=>hb b (hH.imm b hI) λhm'=>(hen.own b (by rw [hbl];exact hm')).2 hI
 have glob:∀b,b<X.N->w'.heap[b]? =w.heap[b]? :=λb hlt=>hb b xJ5 λhm'=>by have:=(hen.own b (by rw [hbl];exact hm')).1;omega
 have h2:Heap X w' I [en']:=by
  refine ⟨by have:=hH.lo;omega,X.hG _ _ glob hH.glob,by rw [hbl'];exact hnd,λb hb'=>?_,λb hI=>by have:=hH.imm b hI;omega,λe he=>by rw [aR.1 he];exact hr,λe he=>by rw [aR.1 he];exact hm⟩
  rw [hbl'] at hb'
  rcases hnew b hb' with h|h
  ·exact hen.own b (by rw [hbl];exact h)
  ·exact ⟨by have:=hH.lo;omega,λhI=>by have:=hH.imm b hI;omega⟩
 have x2:Ext w I [en] w' I [en']:=⟨hos,htp,hout,hsz,λb hlt hn=>hb b hlt (by rw [hbl] at hn;exact hn),λ_ h=>h,λ_ h=>.inl h,λb hb'=>by rw [hbl'] at hb';rw [hbl];exact hnew b hb'⟩
 obtain ⟨h3,x3⟩:=h1.frame h2 x2
 exact ⟨h3.perm p2.symm,x3.perm p1.symm p2.symm⟩
def GA:List C->Nat->List C->List C
 |cs,0,new=>new++cs.drop new.length
 |[],_+1,_=>[]
 |c::cs,off+1,new=>c::GA cs off new
def tx:∀(cs:List C) (off:Nat) (new:List C),off<=cs.length->GA cs off new=cs.take off++new++cs.drop (off+new.length)
 |cs,0,new,_=>by cases cs<;>simp [GA]
 |[],off+1,new,h=>by simp at h
 |c::cs,off+1,new,h=>by
  have:=tx cs off new tk
  simp [GA,this,Nat.succ_add]
def Jf {cs:List C} {new:List C} (h:off+new.length<=cs.length):(GA cs off new).length=cs.length:=by
 rw [tx cs off new zB]
 simp;omega
def mQ:V->Option (List C)
 |.c x=>some [x]
 |.agg l=>some l
 |_=>none
def zSc {x:V} {v:Value} {cs:List C} (h:VRep w I x v) (hc:mQ x=some cs):CReps w I cs v.cells.toList:=by
 cases x with
 |c x=>
  simp only [mQ,ay] at hc
  subst hc
  have h':CRep w I x v:=h
  have:v.cells= #[v]:=by
   have:=h'.one
   cases v<;>first|rfl|(simp [Value.oneCell'] at this)
  rw [this]
  exact .cons h' .nil
 |agg l=>
  simp only [mQ,ay] at hc
  subst hc
  obtain ⟨vs,rfl,hv⟩:=h.agg_inv
  simpa [Value.cells] using hv
 |_=>simp [mQ] at hc
section mem
variable {X:Cfg} {o:Oper} {e:ns->V} {μ:List E}
def Lc {t:nr} {cells:List C} (h:∀(a:Act) (w:World) (I:Nat->Prop),(∀x,x∈o.op.operands->VRep w I (e x) (a.eval x))->∃vs:List Value,(execOp a.eval o).run X.P w=.ok (.value (.pointer (some ⟨w.heap.size,0,none⟩))) (w.alloc (.cells vs.toArray t))/\CReps w I cells vs):
  OpE X o e μ λr μ'=>∃b,r=.c (.lit (.pointer (some ⟨b,0,none⟩)))/\μ'=.row b t cells::μ:=by
 intro a w I hH hops K Q k
 obtain ⟨vs,hrun,hc⟩:=h a w I hops
 have hold:∀b,I b->(w.alloc (.cells vs.toArray t)).heap[b]? =w.heap[b]? :=λb hb=>Below.heap_alloc w _ b (hH.imm b hb)
 obtain ⟨h1,h2⟩:=Z2 hH (.cells vs.toArray t) (.row w.heap.size t cells) rfl trivial ⟨vs,d8 w _,hc.mono hold λ_ h=>h⟩
 exact LV hrun (k _ _ _ _ _ ⟨w.heap.size,rfl,rfl⟩ (CRep.lit _ rfl) h1 h2)
def qM {t:nr} {x:ns} {cells:List C} (ho:o.op=.box t x) (hx:mQ (e x)=some cells):OpE X o e μ λr μ'=>∃b,r=.c (.lit (.pointer (some ⟨b,0,none⟩)))/\μ'=.row b t cells::μ:=
 Lc λa w I hops=>⟨(a.eval x).cells.toList,by simp [execOp,ho,Instr.box,newVar,newRow,go_sem],zSc (hops x qr) hx⟩
def oi {X:Cfg} {n:Nat} {z:Z} {Q:Exit->S->Prop} {r:List (Nat×V)} {u:List E} {os:Array Oper} {re:List Oper} {o:Oper} {d:Tmp} {t:nr} {x:ns} {cs:List C} (h:(so o,o.op,mQ (ev r x))=(some d,.box t x,some cs)) (k:∀b,oX X n z os re Q ⟨(d,.c (.lit (.pointer (some ⟨b,0,none⟩))))::r,.row b t cs::u⟩):oX X n z os (o::re) Q ⟨r,u⟩:=by
 simp only [Prod.mk.injEq] at h
 obtain ⟨h1,h2,h3⟩:=h
 refine qB (qm h1).1 (qm h1).2 (qM h2 h3) ?_
 rintro _ _ ⟨b,rfl,rfl⟩;exact k b
def yA {t:nr} {zs:List Value} (ho:o.op=.alloc t) (hz:dZ X.P t=some zs):OpE X o e μ λr μ'=>∃b,r=.c (.lit (.pointer (some ⟨b,0,none⟩)))/\μ'=.row b t (zs.map .lit)::μ:=
 Lc λa w I hops=>by
  unfold dZ at hz
  split at hz
  ·rename_i i hi
   split at hz
   ·rename_i v hv
    split at hz
    ·rename_i hall
     simp only [ay] at hz
     subst hz
     refine ⟨v.cells.toList,by simp [execOp,ho,Instr.alloc,zeroValue,typeInfo,hi,hv,newVar,newRow,go_sem],CReps.lits _ λu hu=>?_⟩
     rw [ec] at hall
     exact hall u (by simpa using hu)
    ·cases hz
   ·cases hz
  ·cases hz
def tF (μ:List E) (c:C) (new:List C) (μ':List E):Prop:=
 ∀(X:Cfg) (w:World) (I:Nat->Prop) (v:Value) (us:List Value),Heap X w I μ->CRep w I c v->CReps w I new us->
  ∃a w',v=.pointer (some a)/\(storeCells a us).run X.P w=.ok () w'/\Heap X w' I μ'/\Ext w I μ w' I μ'
def tc {μ:List E} {b off:Nat} {t:nr} {cs new:List C} (p:Nat) (h:nth μ p=some (.row b t cs)) (hl:Nat.ble (off+new.length) cs.length=true):
  tF μ (.lit (.pointer (some ⟨b,off,none⟩))) new (rN μ p (.row b t (GA cs off new))):=by
 intro X w I v us hH hv hus
 cases hv
 have hle:=ci hl
 obtain ⟨vs,hh,hc⟩:=hH.rep _ (Cc h)
 have hlen:=hc.length
 have hlen':=hus.length
 have hst:=mo X.P b off t us 0 vs.toArray w hh uD hus.one
 refine ⟨_,_,rfl,hst,?_⟩
 have still:∀k,I k->(w.setRow b (vs.take (off+0)++us++vs.drop (off+0+us.length)).toArray).heap[k]? =w.heap[k]? :=λk hk=>jw w b k _ (λe=>(hH.own b (VD (Cc h) xJ7)).2 (e ▸ hk))
 refine Heap.write hH h rfl rfl rfl uF (λk _ hk=>jw w b k _ (by simpa [E.blocks] using hk)) xJ7 (λk hk=>.inl hk) trivial ⟨vs.take off++us++vs.drop (off+us.length),?_,?_⟩
 ·simpa using setRow_heap w b vs.toArray (vs.take off++us++vs.drop (off+us.length)).toArray t (0,0) hh
 ·rw [tx cs off new zB]
  refine CReps.mono still (λ_ h=>h) (((hc.take off).append hus).append ?_)
  rw [hlen']
  exact hc.drop _
def EX {size:Nat}:∀{rows:List (List C)} {i:Nat} {row new:List C},(∀r,r∈rows->r.length=size)->rows[i]? =some row->(rows.set i new).flatten=rows.flatten.take (i*size)++new++rows.flatten.drop (i*size+size)
 |[],i,row,new,_,h=>by simp at h
 |r::rows,0,row,new,hl,h=>by
  have:=hl r uF
  simp [<-this]
 |r::rows,i+1,row,new,hl,h=>by
  have ih:=EX (size:=size) (rows:=rows) (i:=i) (row:=row) (new:=new) (λr hr=>hl r (by simp [hr])) tk
  have hr:=hl r uF
  rw [gj,eh,ih,eh,dx]
  have e1:(r++rows.flatten).take (i*size+size)=r++rows.flatten.take (i*size):=by
   rw [g8,hr,mh,aE zB]
  have e2:(r++rows.flatten).drop (i*size+size+size)=rows.flatten.drop (i*size+size):=by
   rw [fy,hr,mh,cl zB,fi]
  rw [e1,e2]
  simp
def zc {α:Type} (A us:List α) (p j:Nat) (h:p+us.length<=A.length):(A.take p++us++A.drop (p+us.length))[j]? =if j<p then A[j]? else if j<p+us.length then us[j-p]? else A[j]?:=by
 by_cases h1:j<p
 ·rw [ab h1,dv,aV uD,az,ab h1]
 ·rw [aa h1]
  by_cases h2:j<p+us.length
  ·rw [ab h2,dv,da uD,ap,bg zB,aV zB]
  ·rw [aa h2,da uD,ew]
   congr 1
   simp;omega
def GB {α:Type} (A us:List α) (p n:Nat) (h:p+us.length<=n) (hn:n<=A.length):(A.take p++us++A.drop (p+us.length)).take n=(A.take n).take p++us++(A.take n).drop (p+us.length):=by
 apply ej
 intro j
 rw [az,zc A us p j zB,zc (A.take n) us p j uD,az]
 by_cases h1:j<p
 ·rw [ab h1,ab h1]
 ·rw [aa h1,aa h1]
  by_cases h2:j<p+us.length
  ·rw [ab h2,ab h2,ab zB]
  ·rw [aa h2,aa h2]
def Hl {μ:List E} {sv:Value} {size i off:Nat} {t:nr} {rows:List (List C)} {row new:List C} (p:Nat) (h:nth μ p=some (.vec sv t size rows)) (hi:rows[i]? =some row) (hl:Nat.ble (off+new.length) row.length=true):
  tF μ (.vptr sv size i off) new (rN μ p (.vec sv t size (rows.set i (GA row off new)))):=by
 intro X w I v us hH hv hus
 cases hv with
 |vptr b n cap _ _ _=>
  have hle:=ci hl
  rcases hH.rep _ (Cc h) with ⟨_,_,rfl⟩|⟨hne,xs,hown,hc,hr⟩
  ·simp at hi
  have hsvB:BV (.slice (some ⟨b,0,none⟩) n cap)=[b]:=by cases cap with|zero=>exact absurd rfl hne|succ c=>rfl
  have hrow:row.length=size:=hr row (bw hi)
  have hilt:i<rows.length:=(af.1 hi).1
  have hlenx:=hown.1
  have hus':=hus.length
  have hmul:i*size+size<=rows.length*size:=by
   have:=dd size (show i+1<=rows.length by omega)
   rwa [dx] at this
  rcases hown.2 with ⟨h0,_⟩|⟨g,cap',cur,h1,_,hh,hcap,hmax,hsz,htake⟩
  ·cases h0
  ·cases h1
   have hcur:rows.length*size<=cur.size:=by rw [hsz];exact dd size hcap
   have hst:=mo X.P b (i*size+off) t us 0 cur w hh zB hus.one
   refine ⟨_,_,rfl,hst,?_⟩
   have still:∀k,I k->(w.setRow b (cur.toList.take (i*size+off+0)++us++cur.toList.drop (i*size+off+0+us.length)).toArray).heap[k]? =w.heap[k]? :=λk hk=>jw w b k _ (λe=>(hH.own b (VD (Cc h) (by simp [E.blocks,hsvB]))).2 (e ▸ hk))
   refine Heap.write hH h rfl rfl rfl uF (λk _ hk=>jw w b k _ (by simpa [E.blocks,hsvB] using hk)) (by simp [E.blocks,hsvB]) (λk hk=>.inl (by simpa [E.blocks] using hk)) trivial (.inr ⟨hne,xs.take (i*size+off)++us++xs.drop (i*size+off+us.length),?_,?_,?_⟩)
   ·refine ⟨uD,.inr ⟨b,cap,_,uF,cb _,setRow_heap w b cur _ t (0,0) hh,by simpa using hcap,hmax,uD,?_⟩⟩
    rw [ep,<-htake]
    simp only [lm]
    exact GB cur.toList us (i*size+off) (rows.length*size) zB (by simpa using hcur)
   ·rw [EX hr hi,tx row off new zB]
    obtain ⟨A,B,e',hA⟩:=uQ hr hi
    have h1:rows.flatten.take (i*size)=A:=by rw [e',dv,<-hA,iu]
    have h2:rows.flatten.drop (i*size+size)=B:=by
     rw [e',<-hA,<-hrow,<-dz,List.drop_left]
    rw [h1,h2]
    rw [e'] at hc
    have hc1:=hc.take (i*size+off)
    have hc2:=hc.drop (i*size+off+new.length)
    have e1:(A++row++B).take (i*size+off)=A++row.take off:=by
     rw [dv,g8,hA,d6,aE zB,cq zB]
    have e2:(A++row++B).drop (i*size+off+new.length)=row.drop (off+new.length)++B:=by
     rw [dv,fy,hA,cl zB,fi,show i*size+off+new.length-i*size=off+new.length by omega,List.drop_append_of_le_length zB]
    rw [e1] at hc1
    rw [e2] at hc2
    refine CReps.mono still (λ_ h=>h) ?_
    have:=(hc1.append hus).append hc2
    rw [<-hus']
    simpa [dv] using this
   ·intro r hr'
    rcases ga hr' with h|h
    ·exact hr r h
    ·rw [h,Jf zB,hrow]
def yP {t:nr} {x y:ns} {c:C} {new:List C} {μ':List E} {m:Nat} (ho:o.op=.store t x y) (ht:(X.P.info? t).map (·.size)=some m) (hx:e x=.c c) (hy:mQ (e y)=some new) (hnm:Nat.beq new.length m=true) (hst:tF μ c new μ'):Det X o e μ .un μ':=by
 obtain rfl:new.length=m:=bj hnm
 intro a w I hH hops K Q k
 have hxv:=hops x qr
 rw [hx] at hxv
 have hyv:=zSc (hops y qr) hy
 obtain ⟨ad,w',ha,hrun,hH',hx'⟩:=hst X w I _ _ hH hxv hyv
 refine LP ?_ (k undef .un μ' I w' ⟨rfl,rfl⟩ trivial hH' hx')
 obtain ⟨i,hi,hs⟩:=lj.1 ht
 have hsz:(a.eval y).cells.size=i.size:=by rw [hs,hyv.length];simp
 simp only [execOp,ho,ha,Instr.storeAt,Instr.sureAddr,storeVar,aW,ba,aI,sizeOf,typeInfo,iy,hi,hsz,ne_eq,not_true_eq_false,gn,hrun]
def ow {X:Cfg} {n:Nat} {z:Z} {Q:Exit->S->Prop} {rs:List (Nat×V)} {μ:List E} {os:Array Oper} {re:List Oper} {o:Oper} {t tt:nr} {x y:ns} {b off m:Nat} {cs new:List C} (p:Nat) (ht:(X.P.info? t).map (·.size)=some m)
  (h:(o.dst,o.guard,o.op,ev rs x,mQ (ev rs y),Nat.beq new.length m,nth μ p,Nat.ble (off+new.length) cs.length)=(none,none,.store t x y,.c (.lit (.pointer (some ⟨b,off,none⟩))),some new,true,some (.row b tt cs),true)) (k:oX X n z os re Q ⟨rs,rN μ p (.row b tt (GA cs off new))⟩):oX X n z os (o::re) Q ⟨rs,μ⟩:=by
 simp only [aO] at h
 obtain ⟨h1,h2,h3,h4,h5,h6,h7,h8⟩:=h
 exact wO h1 h2 (yP h3 ht h4 h5 h6 (tc p h7 h8)) k
/-! ## Slices -/
def wQ {P:Program} {t et:nr} {size bytes:Nat} (h:dW P t=some (et,size,bytes)):P.underlying t=some (.slice et)/\∃i z,P.info? et=some i/\i.zero=some z/\i.size=size/\i.bytes=bytes/\z.cells.size=size/\0<size:=by
 unfold dW at h
 split at h
 ·rename_i e hu
  split at h
  ·rename_i i hi
   split at h
   ·rename_i zv hz
    split at h
    ·rename_i hc
     simp only [ay,aO] at h
     obtain ⟨rfl,rfl,rfl⟩:=h
     exact ⟨hu,i,zv,hi,hz,rfl,rfl,hc.1,hc.2⟩
    ·cases h
   ·cases h
  ·cases h
 ·cases h
def qI {t et:nr} {x y:ns} {size bytes:Nat} {rows:List (List C)} {row:List C} {k:IntKind} {i:Int} (ho:o.op=.indexAddr t x y) (ht:dW X.P t=some (et,size,bytes)) (hx:e x=.c (.sl size rows)) (hy:e y=.c (.lit (.int k i)))
  (h0:0<=i) (hrow:rows[i.toNat]? =some row):Det X o e μ (.c (.iptr row)) μ:=
 kW λa w I hH hops=>by
  obtain ⟨hu,inf,z,hi,hz,hs,hby,hzs,hpos⟩:=wQ ht
  have hxv:=hops x qr
  have hyv:=hops y qr
  rw [hx] at hxv
  rw [hy] at hyv
  have h2:=hyv.lit_inv
  have hxv':CRep w I (.sl size rows) (a.eval x):=hxv
  have hlt:i.toNat<rows.length:=(af.1 hrow).1
  generalize hv:a.eval x=v at hxv'
  cases hxv' with
  |nil=>simp at hlt
  |sl _ _ ad cap us hI hl hcap hc hr=>
   have hlt':i<(rows.length:Int):=by omega
   refine ⟨.pointer (some (ad.add (i.toNat*size))),?_,?_⟩
   ·simp [execOp,ho,hv,h2,Instr.indexAt,asIntOf,aK hu,h0,hlt',sizeOf,typeInfo,hi,hs]
   ·refine CRep.iptr _ _ (us i.toNat) (by rw [qAy];exact hI) (λj hj=>?_) (λj c hj=>hr _ _ hrow j c hj)
    rw [zOk]
    exact hc _ _ hlt (by rw [hl row (bw hrow)] at hj;exact hj)
def qF {n_:Nat} {z_:Z} {Q_:Exit->S->Prop} {rs:List (Nat×V)} {os:Array Oper} {re:List Oper} {d_:Tmp} {t et:nr} {x y:ns} {size bytes:Nat} {rows:List (List C)} {row:List C} {k:IntKind} {i:Int} (hd:(so o,o.op,(ev rs) x,(ev rs) y)=(some d_,.indexAddr t x y,.c (.sl size rows),.c (.lit (.int k i)))) (ht:dW X.P t=some (et,size,bytes)) (h0:0<=i) (hrow:rows[i.toNat]? =some row) (k_:oX X n_ z_ os re Q_ ⟨(d_,(.c (.iptr row)))::rs,μ⟩):oX X n_ z_ os (o::re) Q_ ⟨rs,μ⟩:=by
 simp only [aO] at hd
 obtain ⟨h_,q0,q2,q3⟩:=hd
 exact ua (qm h_).1 (qm h_).2 (qI (e:=ev rs) q0 ht q2 q3 h0 hrow) k_
def qU {t et et':nr} {x y:ns} {size bytes:Nat} {rows:List (List C)} {sv:Value} {k:IntKind} {i:Int} (p:Nat) (ho:o.op=.indexAddr t x y) (ht:dW X.P t=some (et,size,bytes)) (hx:e x=.c (.lit sv)) (hp:nth μ p=some (.vec sv et' size rows)) (hy:e y=.c (.lit (.int k i)))
  (h0:0<=i) (hlt:i.toNat<rows.length):Det X o e μ (.c (.vptr sv size i.toNat 0)) μ:=
 kW λa w I hH hops=>by
  obtain ⟨hu,inf,z,hi,hz,hs,hby,hzs,hpos⟩:=wQ ht
  have hxv:=hops x qr
  have hyv:=hops y qr
  rw [hx] at hxv
  rw [hy] at hyv
  have h1:=hxv.lit_inv
  have h2:=hyv.lit_inv
  rcases hH.rep _ (Cc hp) with ⟨_,_,rfl⟩|⟨_,xs,⟨hl,hown⟩,hc,hr⟩
  ·simp at hlt
  rcases hown with ⟨_,hn⟩|⟨g,cap,cur,rfl,_⟩
  ·omega
  ·have hlt':i<(rows.length:Int):=by omega
   refine ⟨.pointer (some ⟨g,i.toNat*size+0,none⟩),?_,CRep.vptr g rows.length cap size i.toNat 0⟩
   have:=S5 g 0 (i.toNat*size)
   rw [cd] at this
   simp [execOp,ho,h1,h2,Instr.indexAt,asIntOf,aK hu,h0,hlt',sizeOf,typeInfo,hi,hs,this]
def zHv {t et:nr} {x:ns} {size bytes:Nat} {rows:List (List C)} (ho:o.op=.call { callee:=.builtin .len,args:= #[x],argTypes:= #[t] }) (ht:dW X.P t=some (et,size,bytes)) (hx:e x=.c (.sl size rows)):Det X o e μ (.c (.lit (.int .i64 rows.length))) μ:=
 kW λa w I hH hops=>by
  obtain ⟨hu,_⟩:=wQ ht
  have hxv:=hops x AC
  rw [hx] at hxv
  have hxv':CRep w I (.sl size rows) (a.eval x):=hxv
  refine ⟨.int .i64 rows.length,?_,CRep.lit _ rfl⟩
  generalize hv:a.eval x=v at hxv'
  cases hxv' with
  |nil=>simp [execOp,ho,hv,resolve,invoke,builtin,Builtin.len_,aK hu,goInt]
  |sl _ _ ad cap us hI hl hcap hc hr=>simp [execOp,ho,hv,resolve,invoke,builtin,Builtin.len_,aK hu,goInt]
def kT {t et et':nr} {x:ns} {size bytes:Nat} {rows:List (List C)} {sv:Value} (p:Nat) (ho:o.op=.call { callee:=.builtin .len,args:= #[x],argTypes:= #[t] }) (ht:dW X.P t=some (et,size,bytes)) (hx:e x=.c (.lit sv)) (hp:nth μ p=some (.vec sv et' size rows)):Det X o e μ (.c (.lit (.int .i64 rows.length))) μ:=
 kW λa w I hH hops=>by
  obtain ⟨hu,_⟩:=wQ ht
  have hxv:=hops x AC
  rw [hx] at hxv
  have h1:=hxv.lit_inv
  refine ⟨.int .i64 rows.length,?_,CRep.lit _ rfl⟩
  rcases hH.rep _ (Cc hp) with ⟨_,rfl,rfl⟩|⟨_,xs,⟨hl,hown⟩,hc,hr⟩
  ·simp [execOp,ho,h1,resolve,invoke,builtin,Builtin.len_,aK hu,goInt]
  rcases hown with ⟨rfl,hn⟩|⟨g,cap,cur,rfl,_⟩
  ·simp [execOp,ho,h1,resolve,invoke,builtin,Builtin.len_,aK hu,goInt,hn]
  ·simp [execOp,ho,h1,resolve,invoke,builtin,Builtin.len_,aK hu,goInt]
def SW {t:nr} {x:ns} {s:nq} (ho:o.op=.call { callee:=.builtin .len,args:= #[x],argTypes:= #[t] }) (ht:X.P.underlying t=some .string) (hx:e x=.c (.lit (.string s))):Det X o e μ (.c (.lit (.int .i64 s.size))) μ:=
 kW λa w I hH hops=>by
  have hxv:=hops x AC
  rw [hx] at hxv
  have h1:=hxv.lit_inv
  exact ⟨.int .i64 s.size,by simp [execOp,ho,h1,resolve,invoke,builtin,Builtin.len_,aK ht,goInt],CRep.lit _ rfl⟩
def DL {w:World} {I:Nat->Prop} {size:Nat}:∀{rows:List (List C)} {us:List Value},(∀r,r∈rows->r.length=size)->CReps w I rows.flatten us->us.length=rows.length*size
 |[],us,_,h=>by simpa using h.length.symm
 |r::rows,us,hl,h=>by
  have:=h.length
  have h2:∀rows:List (List C),(∀r,r∈rows->r.length=size)->rows.flatten.length=rows.length*size:=by
   intro rows hl
   induction rows with
   |nil=>simp
   |cons r rows ih=>simp [ih λr hr=>hl r (by simp [hr]),hl r uF,dx,lp]
  rw [<-this,h2 _ hl]
def DP {w:World} {I:Nat->Prop} {size:Nat} {rows:List (List C)} {v:Value} (h:CRep w I (.sl size rows) v):
  (rows=[]/\∃a cap,v=.slice a 0 cap)∨∃ad cap us,v=.slice (some ad) rows.length cap/\CReps w I rows.flatten us/\us.length=rows.length*size/\(∀r,r∈rows->r.length=size)/\∀j u,us[j]? =some u->w.cell? (ad.add j)=some u:=by
 cases h with
 |nil _ a cap=>exact .inl ⟨rfl,a,cap,rfl⟩
 |sl _ _ ad cap us hI hl hcap hc hr=>
  refine .inr ⟨ad,cap,(List.range rows.length).flatMap λi=>(List.range size).map λj=>us i j,rfl,?_,?_,hl,?_⟩
  ·clear hc hcap
   induction rows generalizing us with
   |nil=>simp;exact .nil
   |cons r rows ih=>
    have ih':=ih (λi=>us (i+1)) (λi r' h j c=>hr (i+1) r' tk j c) (λr hr'=>hl r (by simp [hr']))
    rw [ia,List.range_succ_eq_map,cc,eh]
    refine CReps.append ?_ (by simpa [List.flatMap_map] using ih')
    refine CReps.of_at (by simp [hl r uF]) λj c v hj hv=>?_
    have hlt:j<size:=by rw [<-hl r uF];exact (af.1 hj).1
    rw [cg,eq hlt] at hv
    simp only [fh,ay] at hv
    subst hv
    exact hr 0 r uF j c hj
  ·have:∀n,((List.range n).flatMap λi=>(List.range size).map λj=>us i j).length=n*size:=by
    intro n
    induction n with
    |zero=>simp
    |succ n ih=>rw [ig,dn,dz,ih];simp [dx]
   exact this _
  ·have key:∀n,n<=rows.length->∀j u,((List.range n).flatMap λi=>(List.range size).map λj=>us i j)[j]? =some u->w.cell? (ad.add j)=some u:=by
    intro n
    induction n with
    |zero=>intro _ j u h;simp at h
    |succ n ih=>
     intro hn j u h
     have hlen:((List.range n).flatMap λi=>(List.range size).map λj=>us i j).length=n*size:=by
      clear ih h hn
      induction n with
      |zero=>simp
      |succ n ih=>rw [ig,dn,dz,ih];simp [dx]
     rw [ig,dn] at h
     by_cases hj:j<n*size
     ·rw [aV (by rw [hlen];exact hj)] at h
      exact ih zB j u h
     ·rw [da (by rw [hlen];omega),hlen] at h
      simp only [cc,nh,kq] at h
      have hlt:j-n*size<size:=by have:=(af.1 h).1;simpa using this
      rw [cg,eq hlt] at h
      simp only [fh,ay] at h
      subst h
      have:=hc n (j-n*size) zB hlt
      rwa [show n*size+(j-n*size)=j by omega] at this
   exact key _ (aC _)
def zQk {P:Program} (w:World) (base:Nat) (t ty e:nr) (i:TypeInfo) (size:Nat) (ht:P.underlying t=some (.slice e)) (hi:P.info? e=some i)
  (v:Value) (n:Nat) (xs:List Value) (hown:w.ownsRow base e size v n xs) (a:Option Addr) (c:Nat):(Builtin.append_ #[t,t] ty #[v,.slice a 0 c]).run P w=.ok v w:=by
 have hl:∀ad:Addr,(loadCells ad 0).run P w=.ok #[] w:=λad=>by simp [loadCells,loadCellsFrom]
 rcases hown.2 with ⟨rfl,rfl⟩|⟨g,cap,cur,rfl,_,_,hnc,_⟩
 ·cases a<;>simp [Builtin.append_,aK ht,sizeOf,typeInfo,hi,Builtin.lenOf,Builtin.firstCells,hl]
 ·cases a<;>simp [Builtin.append_,aK ht,sizeOf,typeInfo,hi,Builtin.lenOf,Builtin.firstCells,hnc,storeCells,hl]
def zXq {P:Program} (w:World) (base:Nat) (t ty et:nr) (size bytes:Nat) (ht:dW P t=some (et,size,bytes)) (v:Value) (n:Nat) (xs:List Value) (hown:w.ownsRow base et size v n xs)
  {I:Nat->Prop} {news:List (List C)} {u:Value} (hu:CRep w I (.sl size news) u) (h63:n+news.length<=maxLen) (hbytes:(n+news.length)*bytes<=140737488355328) (hbase:base<=w.heap.size):
  ∃v' w' us,(Builtin.append_ #[t,t] ty #[v,u]).run P w=.ok v' w'/\w'.ownsRow base et size v' (n+news.length) (xs++us)/\w.grownBy w' v.ownBlock/\(v'.ownBlock=v.ownBlock∨v'.ownBlock=some w.heap.size)/\CReps w I news.flatten us/\(∀r,r∈news->r.length=size):=by
 obtain ⟨htu,i,z,hi,hz,hs,hby,hzs,hpos⟩:=wQ ht
 rcases DP hu with ⟨rfl,a,cap,rfl⟩|⟨ad,cap,us,rfl,hc,hl,hrl,hcell⟩
 ·exact ⟨v,w,[],zQk w base t ty et i size htu hi v n xs hown a cap,by simpa using hown,World.grownBy.refl w _,.inl rfl,by simp;exact .nil,uF⟩
 ·obtain ⟨v',w',hrun,h2,h3,_,h5⟩:=run_append_own_at (P:=P) w base t ty et i z size bytes htu hi hz hs hby hzs hpos v n xs hown ad news.length cap us hl hcell hc.one h63 hbytes hbase
  exact ⟨v',w',us,hrun,h2,h3,h5,hc,hrl⟩
def zMf {P:Program} (w:World) (t ty e:nr) (i:TypeInfo) (ht:P.underlying t=some (.slice e)) (hi:P.info? e=some i) (a a':Option Addr) (c:Nat):
  (Builtin.append_ #[t,t] ty #[.slice a 0 0,.slice a' 0 c]).run P w=.ok (.slice a 0 0) w:=by
 have hl:∀ad:Addr,(loadCells ad 0).run P w=.ok #[] w:=λad=>by simp [loadCells,loadCellsFrom]
 cases a<;>cases a'<;>simp [Builtin.append_,aK ht,sizeOf,typeInfo,hi,Builtin.lenOf,Builtin.firstCells,storeCells,hl]
def zOq {P:Program} {w:World} {I:Nat->Prop} {t ty et:nr} {size bytes:Nat} (ht:dW P t=some (et,size,bytes)) {sv:Value} {rows:List (List C)} (hrep:ERep w I (.vec sv et size rows)) {news:List (List C)} {u:Value} (hu:CRep w I (.sl size news) u)
  (himm:∀b,I b->b<w.heap.size/\b ∉ BV sv) (h63:rows.length+news.length<=maxLen) (hbytes:(rows.length+news.length)*bytes<=140737488355328):
  ∃v' w',(Builtin.append_ #[t,t] ty #[sv,u]).run P w=.ok v' w'/\w'.os=w.os/\w'.tape=w.tape/\w'.output=w.output/\w.heap.size<=w'.heap.size/\(∀b,b<w.heap.size->b ∉ (E.vec sv et size rows).blocks->w'.heap[b]? =w.heap[b]?)/\
   (∀b,b∈(E.vec v' et size (rows++news)).blocks->b∈(E.vec sv et size rows).blocks∨w.heap.size<=b)/\ERep w' I (.vec v' et size (rows++news))/\v'.oneCell'=true:=by
 rcases hrep with ⟨a,rfl,rfl⟩|⟨hne,xs,hown,hc,hr⟩
 ·obtain ⟨htu,i,z,hi,hz,hs,hby,hzs,hpos⟩:=wQ ht
  by_cases h0:news=[]
  ·subst h0
   rcases DP hu with ⟨_,a',cap,rfl⟩|⟨ad,cap,us,rfl,_⟩
   ·exact ⟨_,w,zMf w t ty et i htu hi a a' cap,rfl,rfl,rfl,aC _,λ_ _ _=>rfl,λb h=>.inl h,.inl ⟨a,rfl,rfl⟩,rfl⟩
   ·exact ⟨_,w,zMf w t ty et i htu hi a (some ad) cap,rfl,rfl,rfl,aC _,λ_ _ _=>rfl,λb h=>.inl h,.inl ⟨a,rfl,rfl⟩,rfl⟩
  ·have hlen:0<news.length:=List.length_pos_iff.2 h0
   rcases DP hu with ⟨h,_⟩|⟨ad,cap,us,rfl,hcu,hl,hrl,hcell⟩
   ·exact absurd h h0
   ·simp only [nk,cd] at h63 hbytes
    have h63':(news.length:Int)<=9223372036854775807:=by simp only [maxLen] at h63;omega
    subst hs hby
    have hrun:(Builtin.append_ #[t,t] ty #[.slice a 0 0,.slice (some ad) news.length cap]).run P w=
      .ok (.slice (some ⟨w.heap.size,0,none⟩) news.length (grownCap w news.length 0 et)) (w.drew.alloc (.cells (us.toArray++Builtin.zeroCells z.cells (grownCap w news.length 0 et-news.length)) et)):=by
     cases a with
     |none=>exact run_append_nil (P:=P) w t ty et i z htu hi hz ad news.length cap us hl hcell hlen h63' zB
     |some a=>
      have:=run_append_grow (P:=P) w t ty et i z htu hi hz a 0 0 [] uF (λj v h=>by simp at h) ad news.length cap us hl hcell zB zB (by rw [cd,mq hlen];omega)
      simpa using this
    have hge:=grownCap_ge w news.length 0 et
    have hcm:grownCap w news.length 0 et<=maxLen:=me w news.length 0 et h63
    generalize grownCap w news.length 0 et=gc at *
    have hold:∀b,b<w.heap.size->(w.drew.alloc (.cells (us.toArray++Builtin.zeroCells z.cells (gc-news.length)) et)).heap[b]? =w.heap[b]? :=λb hb=>heap_alloc_old w.drew _ hb
    refine ⟨_,_,hrun,rfl,rfl,rfl,uF,λb hb _=>hold b hb,λb hb=>?_,?_,rfl⟩
    ·have:=DT hb
     simp only [Value.ownBlock,ay] at this
     exact .inr (ll this)
    ·refine zPd (xs:=us) ⟨by simpa using hl,.inr ⟨w.heap.size,gc,_,uF,cb _,d8 w.drew _,by simpa using hge,hcm,?_,?_⟩⟩ ?_ (by simpa using hrl)
     ·simp only [nc,gt,size_zeroCells,hzs,hl,<-gl]
      congr 1
      omega
     ·simp only [ma,fi]
      rw [<-hl]
      exact iu
     ·simpa using hcu.mono (λb hb=>hold b (himm b hb).1) λ_ h=>h
 ·obtain ⟨v',w',us,hrun,hown',hg,hblk,hcu,hrl⟩:=zXq (P:=P) w 0 t ty et size bytes ht sv rows.length xs hown hu h63 hbytes (cb _)
  have still:∀b,I b->w'.heap[b]? =w.heap[b]? :=λb hb=>hg.block b (himm b hb).1 λe'=>(himm b hb).2 (tz hne e'.symm)
  have hone:v'.oneCell'=true:=by
   rcases hown'.2 with ⟨rfl,_⟩|⟨g,cap,cur,rfl,_⟩<;>rfl
  refine ⟨v',w',hrun,hg.os,hg.tape,hg.output,hg.size,λb hb hnb=>hg.block b hb λe'=>hnb (tz hne e'.symm),λb hb'=>?_,?_,hone⟩
  ·have h1:=DT hb'
   rcases hblk with h|h
   ·rw [h] at h1;exact .inl (tz hne h1)
   ·rw [h] at h1;simp only [ay] at h1;exact .inr (ll h1)
  ·exact zPd (xs:=xs++us) (by rw [dz];exact hown') (by rw [lz];exact (hc.mono still λ_ h=>h).append (hcu.mono still λ_ h=>h)) λr hr'=>by
    rcases aq.1 hr' with h|h
    ·exact hr r h
    ·exact hrl r h
def qZ {t et:nr} {x y:ns} {size bytes:Nat} {rows news:List (List C)} {sv:Value} (p:Nat) (ho:o.op=.call { callee:=.builtin .append,args:= #[x,y],argTypes:= #[t,t] }) (ht:dW X.P t=some (et,size,bytes))
  (hx:e x=.c (.lit sv)) (hp:nth μ p=some (.vec sv et size rows)) (hy:e y=.c (.sl size news)) (hb:(rows.length+news.length)*bytes<=140737488355328) (hn:rows.length+news.length<=140737488355328):
  OpE X o e μ λr μ'=>∃sv',r=.c (.lit sv')/\μ'=rN μ p (.vec sv' et size (rows++news)):=by
 intro a w I hH hops K Q k
 have hxv:=hops x AC
 have hyv:=hops y AC
 rw [hx] at hxv
 rw [hy] at hyv
 have h1:=hxv.lit_inv
 obtain ⟨v',w',hrun,e1,e2,e3,e4,e5,e6,e7,hone⟩:=zOq (P:=X.P) (ty:=o.type) ht (hH.rep _ (Cc hp)) hyv (λb hb=>⟨hH.imm b hb,λh=>(hH.own b (VD (Cc hp) h)).2 hb⟩) (by simp only [maxLen];omega) hb
 obtain ⟨hH',hx'⟩:=Heap.write (w':=w') hH (en':=.vec v' et size (rows++news)) hp e1 e2 e3 e4 e5 xV2 e6 trivial e7
 refine LV ?_ (k v' _ _ I w' ⟨v',rfl,rfl⟩ (CRep.lit _ hone) hH' hx')
 simp only [execOp,ho,resolve,invoke,builtin,aW,ba,aI,i9,aG,bt,h1,hrun]
end mem
def Con (X:Cfg) (f:FuncId) (args:List V) (μ:List E) (Q:V->List E->Prop):Prop:=
 ∀(w:World) (I:Nat->Prop) (vs:List Value),Heap X w I μ->V1Reps w I args vs->
  Calls X.P f vs.toArray w λen w'=>∃v r μ' I',en=.returned v/\Q r μ'/\VRep w' I' r v/\Heap X w' I' μ'/\Ext w I μ w' I' μ'
abbrev oK (X:Cfg) (f:FuncId) (args:List V) (r:V):Prop:=Con X f args [] λr' _=>r'=r
def Con.mono {X:Cfg} {f:FuncId} {args:List V} {μ:List E} {Q Q':V->List E->Prop} (h:Con X f args μ Q) (hq:∀r μ',Q r μ'->Q' r μ'):Con X f args μ Q':=
 λw I vs hH ha=>(h w I vs hH ha).mono λ_ _ ⟨v,r,μ',I',h1,h2,h3⟩=>⟨v,r,μ',I',h1,hq _ _ h2,h3⟩
def Con.frame {X:Cfg} {f:FuncId} {args:List V} {μ:List E} {Q:V->List E->Prop} (h:Con X f args μ Q) (φ:List E):Con X f args (μ++φ) λr μ''=>∃μ',Q r μ'/\μ''=μ'++φ:=by
 intro w I vs hH ha
 refine (h w I vs hH.left ha).mono ?_
 rintro en w' ⟨v,r,μ',I',h1,h2,h3,h4,h5⟩
 obtain ⟨h6,h7⟩:=hH.frame h4 h5
 exact ⟨v,r,μ'++φ,I',h1,⟨μ',h2,rfl⟩,h3,h6,h7⟩
def Con.perm {X:Cfg} {f:FuncId} {args:List V} {μ φ:List E} {Q:V->List E->Prop} (h:Con X f args μ Q) (p:φ.Perm μ):Con X f args φ Q:=by
 intro w I vs hH ha
 refine (h w I vs (hH.perm p) ha).mono ?_
 rintro en w' ⟨v,r,μ',I',h1,h2,h3,h4,h5⟩
 exact ⟨v,r,μ',I',h1,h2,h3,h4,h5.perm p.symm (bb _)⟩
variable {f:FuncId}
def Con.pure_frame {args:List V} {Q:V->Prop} (h:Con X f args [] λr _=>Q r) (φ:List E):Con X f args φ λr μ'=>Q r/\μ'=φ:=by
 intro w I vs hH ha
 refine (h.frame φ w I vs (by simpa using hH) ha).mono ?_
 rintro en w' ⟨v,r,μ'',I',h1,⟨μ',h2,rfl⟩,h3,h4,h5⟩
 have p:(μ'++φ).Perm (φ++μ'):=gw
 refine ⟨v,r,φ,I',h1,⟨h2,rfl⟩,h3,(h4.perm p).left,?_⟩
 have h5':Ext w I φ w' I' (μ'++φ):=by simpa using h5
 exact h5'.less λb hb=>by rw [kU];exact aq.2 (.inr hb)
/-! ## Results -/
def tL (P:Program) (σ:S):ResultVar->V->Prop
 |.tmp t,r=>r=bJ σ.regs t/\r.plain=true
 |.cell a t,r=>∃c cells,bJ σ.regs a=.c c/\rJ σ.μ c cells/\
   ((∃m,nN P t=some m/\Nat.ble m cells.length=true/\r=.agg (cells.take m))∨(fW P t=true/\∃d rest,cells=d::rest/\r=.c d))
def iQ (P:Program) (σ:S):List ResultVar->List V->Prop
 |[],[]=>True
 |x::xs,r::rs=>tL P σ x r/\iQ P σ xs rs
 |_,_=>False
def cR (P:Program) (σ:S) (l:List ResultVar) (r:V):Prop:=
 ∃rs,iQ P σ l rs/\(match rs with|[x]=>r=x|_=>r=.tup rs)
def V.plain_v1 {x:V} {v:Value} (hp:x.plain=true) (h:VRep w I x v):V1Rep w I x v:=by
 cases x with
 |tup l=>cases hp
 |ifv b x=>cases hp
 |_=>exact h
def tK (tmps:Array Value):ResultVar->Sem Value
 |.tmp t=>Pure.pure (tmps.getD t undef)
 |.cell ad t=>do loadVar t (<-asAddr (tmps.getD ad undef))
def zSm (fn:Func) (tmps:Array Value):results fn tmps=(do let vs <-fn.results.mapM (tK tmps);Pure.pure (if h:vs.size=1 then vs[0] else .tuple vs)):=by
 have:(λx=>match x with|ResultVar.tmp t=>(Pure.pure (tmps.getD t undef):Sem Value)|ResultVar.cell a t=>do loadVar t (<-asAddr (tmps.getD a undef)))=tK tmps:=by
  funext x;cases x<;>rfl
 rw [<-this]
 rfl
def Rb (hH:Heap X w I σ.μ) (hR:∀t,VRep w I (bJ σ.regs t) (a.tmps.getD t undef)) {x:ResultVar} (h:tL X.P σ x r):
  ∃v,(tK a.tmps x).run X.P w=.ok v w/\V1Rep w I r v:=by
 cases x with
 |tmp t=>
  obtain ⟨rfl,hp⟩:=h
  exact ⟨_,rfl,V.plain_v1 hp (hR t)⟩
 |cell ad t=>
  obtain ⟨c,cells,hl,hp,hc⟩:=h
  have hv:=hR ad
  rw [hl] at hv
  obtain ⟨addr,ha,us,hcs,hu⟩:=hp w I _ hH.rep hv
  rcases hc with ⟨m,ht,hlen,rfl⟩|⟨ht,d,rest,rfl,rfl⟩
  ·obtain ⟨h1,h2⟩:=zOp ht w
   have hlen':m<=us.length:=by rw [<-hcs.length];exact ci hlen
   have hload:=mc (P:=X.P) w addr (us.take m) (λj v hj=>hu j v (by
    rw [az] at hj
    split at hj
    ·exact hj
    ·cases hj))
   rw [ap,bg hlen'] at hload
   refine ⟨.agg (us.take m).toArray,?_,us.take m,rfl,hcs.take m⟩
   simp only [tK,ha,asAddr,loadVar,aW,ba,aI,h1,h2,ik,hload]
  ·obtain ⟨h1,h2⟩:=zIc ht w
   cases hcs with
   |cons hd ht'=>
    rename_i u us'
    have h0:w.cell? addr=some u:=by have:=hu 0 u rfl;simpa [Addr.add] using this
    refine ⟨u,?_,hd⟩
    simp only [tK,ha,asAddr,loadVar,aW,ba,aI,h1,gk,gn,run_load,h0]
def Gk {X:Cfg} {σ:S} {a:Act} {w:World} {I:Nat->Prop} (hH:Heap X w I σ.μ) (hR:∀t,VRep w I (bJ σ.regs t) (a.tmps.getD t undef)):∀{l:List ResultVar} {rs:List V},iQ X.P σ l rs->
  ∃vs:List Value,(l.mapM (tK a.tmps)).run X.P w=.ok vs w/\V1Reps w I rs vs/\vs.length=rs.length
 |[],[],_=>⟨[],uF,trivial,rfl⟩
 |x::l,r::rs,h=>by
  obtain ⟨v,h1,h2⟩:=Rb hH hR h.1
  obtain ⟨vs,h3,h4,h5⟩:=Gk hH hR h.2
  refine ⟨v::vs,?_,⟨h2,h4⟩,by simp [h5]⟩
  rw [ku,aW,h1,aI,aW,h3,aI,ba]
 |[],_::_,h=>h.elim
 |_::_,[],h=>h.elim
def Ny (hH:Heap X w I σ.μ) (hR:∀t,VRep w I (bJ σ.regs t) (a.tmps.getD t undef)) {fn:Func} {l:List ResultVar} (hl:fn.results=l.toArray) (h:cR X.P σ l r):
  ∃v,(results fn a.tmps).run X.P w=.ok v w/\VRep w I r v:=by
 obtain ⟨rs,h1,h2⟩:=h
 obtain ⟨vs,h3,h4,h5⟩:=Gk hH hR h1
 have h6:(fn.results.mapM (tK a.tmps)).run X.P w=.ok vs.toArray w:=by
  rw [hl,mt,Sem.run_map,h3]
  rfl
 match rs,vs,h2,h4,h5 with
 |[x],[v],h2,h4,_=>
  subst h2
  exact ⟨v,by simp only [zSm,aW,h6,aI,ba];rfl,h4.1.up⟩
 |[],[],h2,h4,_=>
  subst h2
  exact ⟨.tuple #[],by simp only [zSm,aW,h6,aI,ba];rfl,[],rfl,h4⟩
 |x::y::rs,v::u::vs,h2,h4,_=>
  subst h2
  refine ⟨.tuple (v::u::vs).toArray,?_,v::u::vs,rfl,h4⟩
  simp only [zSm,aW,h6,aI,ba]
  rw [dif_neg uF]
/-! ## From the body to the contract -/
def gF (P:Program) (l:List ResultVar) (Q:V->List E->Prop):Exit->S->Prop
 |.normal,σ=>∃r,cR P σ l r/\Q r σ.μ
 |.ret,σ=>∃r,cR P σ l r/\Q r σ.μ
 |_,_=>False
def iF:Nat->List V->List (Nat×V)
 |_,[]=>[]
 |i,x::xs=>(i,x)::iF (i+1) xs
def Bv {w:World} {I:Nat->Prop}:∀{args:List V} {vs:List Value} (i:Nat),V1Reps w I args vs->∀t,VRep w I (bJ (iF i args) t) (if i<=t then (vs[t-i]?).getD undef else undef)
 |[],_,_,_,_=>trivial
 |x::xs,v::vs,i,h,t=>by
  simp only [iF]
  rw [Oj]
  by_cases hit:i=t
  ·subst hit
   simp only [ik,aC,Nat.sub_self]
   exact h.1.up
  ·rw [aa hit]
   have ih:=Bv (i+1) h.2 t
   by_cases hle:i<=t
   ·rw [ab hle]
    rw [ab zB] at ih
    have e:t-i=(t-(i+1))+1:=by omega
    rw [e,List.getElem?_cons_succ]
    exact ih
   ·rw [aa hle]
    rw [aa zB] at ih
    exact ih
 |_::_,[],_,h,_=>h.elim
def Heap.except {μ:List E} (h:Heap X w I μ) (hs:w'.heap.size=w.heap.size) (heq:∀b,(b<X.N∨I b∨b∈bC μ)->w'.heap[b]? =w.heap[b]?):Heap X w' I μ:=
 ⟨by rw [hs];exact h.lo,X.hG _ _ (λb hb=>heq b (.inl hb)) h.glob,h.nodup,h.own,λb hb=>by rw [hs];exact h.imm b hb,
  λe he=>(h.rep e he).mono (h.mono e he) (λb hb=>heq b (.inr (.inl hb))) (λ_ h=>h) (λb hb=>heq b (.inr (.inr (VD he hb)))),h.mono⟩
def zUj {P:Program} {fn:Func} {tmps:Array Value} {R:Ending->World->Prop}:∀(Ds:List Nat) (w:World),Ds.Nodup->(∀D,D∈Ds->w.heap[D]? =some (.deferred (some [])))->
  (∀w',w'.heap.size=w.heap.size->w'.os=w.os->w'.tape=w.tape->w'.output=w.output->(∀b,b ∉ Ds->w'.heap[b]? =w.heap[b]?)->∃v,(results fn tmps).run P w'=.ok v w'/\R (.returned v) w')->
  LeavesInM (se none) 0 P fn tmps R (Ds.map xC) .returning w
 |[],w,_,_,h=>h w rfl rfl rfl rfl λ_ _=>rfl
 |D::Ds,w,hn,hD,h=>by
  have hn':=co.1 hn
  have hlt:D<w.heap.size:=(bv.1 (hD D uF)).1
  refine ⟨uF,.inl ⟨D,_,rfl,run_takeDeferred (hD D uF),?_⟩⟩
  refine zUj Ds _ hn'.2 (λD' h'=>(bx (k:=D') (r:=D) (λe:D'=D=>hn'.1 (by rw [<-e];exact h'))).trans (hD D' (by simp [h']))) λw' hs ho ht hp hb=>?_
  refine h w' (by rw [hs];simp [World.putObj]) ho ht hp λb hb'=>?_
  rw [hb b λh=>hb' Vy]
  exact bx (λe=>hb' (by simp [e]))
def zPu {args:Array Value} {R:Ending->World->Prop} (rd:Option Nat) (n:Nat) (h:Calls P f args w R):CallsIn (se rd) n P f args w R:=
 (callsIn_wide (n:=n)).2 h
def zW {fn:Func} {c:Code} {l:List ResultVar} {args:List V} {μ:List E} {Q:V->List E->Prop} (hf:X.P.funcs[f]? =some fn) (hb:fn.body=some c) (hn:fn.ntmps=n) (hl:fn.results=l.toArray) (hle:Nat.ble args.length n=true) (h:∀z:Z,RdOk z->oU X n z c (gF X.P l Q) ⟨iF 0 args,μ⟩):Con X f args μ Q:=by
 intro w I vs hH ha
 refine (callsIn_wide (n:=0)).1 (callsIn_of_wp_marks (F:=se none) (n:=0) hf hb trivial ?_)
 have hlen:∀{args:List V} {vs:List Value},V1Reps w I args vs->vs.length=args.length:=by
  intro args
  induction args with
  |nil=>intro vs h;cases vs with
   |nil=>rfl
   |cons v vs=>exact h.elim
  |cons x xs ih=>intro vs h;cases vs with
   |nil=>exact h.elim
   |cons v vs=>simp [ih h.2]
 have hl1:=hlen ha
 have hl2:=ci hle
 refine iq (h ⟨w,I,μ,[],none,false⟩ ⟨rfl,λ_ h=>by cases h⟩ _ (ZLe.refl _) _ w ⟨I,hH,λt=>?_,Ext.refl _ _ _,rfl,?_⟩) ?_
 ·have:=Bv 0 ha t
  rw [ab (cb _),Nat.sub_zero] at this
  have e:(vs.toArray++Array.replicate (fn.ntmps-vs.toArray.size) undef).getD t undef=(vs[t]?).getD undef:=by
   rw [au,Array.getElem?_append]
   by_cases ht:t<vs.length
   ·simp [ht]
   ·rw [aa (by simpa using ht),cy zB]
    by_cases h2:t-vs.length<fn.ntmps-vs.length
    ·simp [h2]
    ·simp [h2]
  rw [e]
  exact this
 ·simp [hn];omega
 ·rintro e a' w' ⟨z',σ',hz,hq,I',hH',hR',hx',hd',_⟩
  obtain ⟨_,xz,_,_,Ds,eds,hnd,hDs⟩:=hz
  have hD:∀D,D∈Ds->w.heap.size<=D/\¬I' D/\D ∉ bC σ'.μ/\w'.heap[D]? =some (.deferred (some [])):=λD h=>by
   obtain ⟨h1,h2,h3,h4,h5⟩:=hDs D h
   obtain ⟨_,k2,k3,k4⟩:=hx'.stays h2 h3 h4
   exact ⟨h1,k2,k3,k4.trans h5⟩
  have hN:X.N<=w.heap.size:=hH.lo
  have fin:(∃r,cR X.P σ' l r/\Q r σ'.μ)->LeavesInM (se none) 0 X.P fn a'.tmps (λen w'=>∃v r μ' I',en=.returned v/\Q r μ'/\VRep w' I' r v/\Heap X w' I' μ'/\Ext w I μ w' I' μ') a'.defers .returning w':=by
   rintro ⟨r,hr,hQ⟩
   rw [hd',eds,kq]
   refine zUj Ds w' hnd (λD h=>(hD D h).2.2.2) λw'' hs ho ht hp hb=>?_
   have hI:∀b,I' b->w''.heap[b]? =w'.heap[b]? :=λb h=>hb b λh'=>(hD b h').2.1 h
   have hH'':Heap X w'' I' σ'.μ:=hH'.except hs λb h=>hb b λh'=>by
    obtain ⟨k1,k2,k3,_⟩:=hD b h'
    rcases h with h|h|h
    ·omega
    ·exact k2 h
    ·exact k3 h
   obtain ⟨v,hv,hrep⟩:=Ny hH'' (λt=>(hR' t).mono hI λ_ h=>h) hl hr
   have x:=xz.trans hx'
   exact ⟨v,hv,v,r,σ'.μ,I',rfl,hQ,hrep,hH'',ho.trans x.os,ht.trans x.tape,hp.trans x.output,by rw [hs];exact x.size,λb h1 h2=>(hb b λh'=>by have:=(hD b h').1;omega).trans (x.block b h1 h2),x.imm,x.imm',x.own'⟩
  cases e with
  |normal=>exact fin hq
  |ret=>exact fin hq
  |_=>exact hq.elim
/-! ## Ends -/
section ends
variable {P:Program} {Q:V->List E->Prop} {regs:List (Nat×V)} {μ:List E} {l:List ResultVar}
def ox {t:Nat} {y:C} (h:bJ regs t=.c y):tL P ⟨regs,μ⟩ (.tmp t) (.c y):=⟨h.symm,rfl⟩
def zY {a t m:Nat} {c:C} {cells:List C} (ht:nN P t=some m) (h:bJ regs a=.c c) (hp:rJ μ c cells) (hl:Nat.ble m cells.length=true):tL P ⟨regs,μ⟩ (.cell a t) (.agg (cells.take m)):=⟨c,cells,h,hp,.inl ⟨m,ht,hl,rfl⟩⟩
def LR {a t:Nat} {c d:C} {cells rest:List C} (ht:fW P t=true) (h:bJ regs a=.c c) (hp:rJ μ c cells) (hc:cells=d::rest):tL P ⟨regs,μ⟩ (.cell a t) (.c d):=⟨c,cells,h,hp,.inr ⟨ht,d,rest,hc,rfl⟩⟩
def pu {x:ResultVar} {r:V} (h:tL P ⟨regs,μ⟩ x r) (hq:Q r μ):gF P [x] Q .ret ⟨regs,μ⟩:=⟨r,⟨[r],⟨h,trivial⟩,rfl⟩,hq⟩
def CQ (hq:Q (.tup []) μ):gF P [] Q .ret ⟨regs,μ⟩:=⟨.tup [],⟨[],trivial,rfl⟩,hq⟩
def oJ {x y:ResultVar} {r s:V} (h:tL P ⟨regs,μ⟩ x r) (h':tL P ⟨regs,μ⟩ y s) (hq:Q (.tup [r,s]) μ):gF P [x,y] Q .ret ⟨regs,μ⟩:=⟨.tup [r,s],⟨[r,s],⟨h,h',trivial⟩,rfl⟩,hq⟩
def tr {x y u:ResultVar} {r s v:V} (h:tL P ⟨regs,μ⟩ x r) (h':tL P ⟨regs,μ⟩ y s) (h'':tL P ⟨regs,μ⟩ u v) (hq:Q (.tup [r,s,v]) μ):gF P [x,y,u] Q .ret ⟨regs,μ⟩:=⟨.tup [r,s,v],⟨[r,s,v],⟨h,h',h'',trivial⟩,rfl⟩,hq⟩
def zXf {K:S->Prop} {R:Exit->S->Prop} {σ:S} (h:R .ret σ):sA K R .ret σ:=h
def zUa {id:Nat} {R:Exit->S->Prop} {σ:S} (h:R .ret σ):tX id R .ret σ:=h
def wK (h:gF P l Q .ret ⟨regs,μ⟩):gF P l Q .normal ⟨regs,μ⟩:=h
end ends
/-! ## Calls -/
def bA (P:Program) (f:FuncId):Bool:=
 match P.funcs[f]? with
 | some fn => fn.body.isSome && !(fn.name == "runtime.NumGoroutine")
 |none=>false
def zMe (h:bA P f=true) (args:Array Value) (w:World):(callFunc f args).run P w=.ok (.enter f args) w:=by
 unfold bA at h
 cases hf:P.funcs[f]? with
 |none=>rw [hf] at h;cases h
 |some fn=>
  rw [hf] at h
  simp only [ae,aA,ij] at h
  have hb:fn.body≠none:=λhb=>by simp [hb] at h
  simp [callFunc,hf,h.2,hb]
def pO:List V->List V->Prop
 |[],[]=>True
 |x::xs,y::ys=>VLe x y/\y.plain=true/\pO xs ys
 |_,_=>False
def oy:∀{l:List V},l.all V.plain=true->pO l l
 |[],_=>trivial
 |x::r,h=>by
  simp only [bm,ae] at h
  exact ⟨VLe.refl _,h.1,oy h.2⟩
universe u
def tu {α:Type u} (a b c:List α):a++b++c=a++(b++c):=dv a b c
def xn {α:Type u} {a:α} {x y:List α}:(a::x)++y=a::(x++y):=jc
def D6 {α:Type u} (x:List α):[]++x=x:=fi x
def rk {α:Type u} (x:List α):x++[]=x:=kq x
def qp {α:Type u} {x y:List α}:(x++y).length=x.length+y.length:=dz
def pc {α:Type u} {β:Type u} {x:List α} (f:α->β):(x.map f).length=x.length:=jh f
variable {p:Prop}
def uI (h:p:=by simp only [pc];omega):p:=h
def pw {α:Type u} {a:α} {x:List α}:(a::x).length=x.length+1:=ia
def qw {α:Type u}:([]:List α).length=0:=nk
def uJ (h:p:=by simp only [pc,qw,cd];omega):p:=h
def uH (h:p:=by simp only [qp,ap,pc,pw,qw];omega):p:=h
def uG (h:p:=by simp only [pc,qp,pw,qw];omega):p:=h
def uE (h:p:=by simp only [pc,qp,pw,qw,ap,cu];omega):p:=h
def Yt {α:Type u} {a:α} {l:List α} (h:a∈l.drop i):a∈l:=jm h
def rp {α:Type u} {a b:α} {l:List α}:a∈b::l↔a=b∨a∈l:=ag
def rl {α:Type u} {p:α->Bool} {l:List α}:l.all p=true↔∀x,x∈l->p x=true:=aT
def zVh {w:World} {I:Nat->Prop} {a:Act} {e:ns->V}:∀{arg_:List ns} {args:List V},(∀x,x∈arg_->VRep w I (e x) (a.eval x))->pO (arg_.map e) args->V1Reps w I args (arg_.map a.eval)
 |[],[],_,_=>trivial
 |x::_,_::_,hops,h=>⟨V.plain_v1 h.2.1 (h.1 w I _ (hops x uF)),zVh (λy hy=>hops y Ac) h.2.2⟩
 |[],_::_,_,h=>h.elim
 |_::_,[],_,h=>h.elim
def V1Reps.append {w:World} {I:Nat->Prop}:∀{l l':List V} {vs vs':List Value},V1Reps w I l vs->V1Reps w I l' vs'->V1Reps w I (l++l') (vs++vs')
 |[],_,[],_,_,k=>k
 |_::_,_,_::_,_,h,k=>⟨h.1,h.2.append k⟩
 |[],_,_::_,_,h,_=>h.elim
 |_::_,_,[],_,h,_=>h.elim
def V1Reps.of_c {w:World} {I:Nat->Prop}:∀{l:List C} {vs:List Value},CReps w I l vs->V1Reps w I (l.map .c) vs
 |_,_,.nil=>trivial
 |_,_,.cons h t=>⟨h,V1Reps.of_c t⟩
section calls
variable {X:Cfg} {o:Oper} {e:ns->V} {μ:List E}
def Sz {f:FuncId} {arg_:List ns} {ts:Array nr} {args:List V} {Q:V->List E->Prop} (ho:o.op=.call { callee:=.value (.func f),args:=arg_.toArray,argTypes:=ts }) (hf:bA X.P f=true) (hc:Con X f args μ Q) (ha:pO (arg_.map e) args):OpE X o e μ Q:=by
 intro a w I hH hops K Q' k
 have hrun:(execOp a.eval o).run X.P w=.ok (.enter f (arg_.map a.eval).toArray) w:=by
  simp [execOp,ho,resolve,Act.eval,Deferred.ofValue,invoke,zMe hf]
 intro hn rd
 refine ⟨λ_ _=>trivial,?_⟩
 rw [zQi hn,hrun,ms]
 refine ⟨λh=>by simp [se,Fence.wide] at h,zPu _ _ ?_⟩
 refine (hc w I _ hH (zVh (λy hy=>hops y xV3) ha)).mono ?_
 rintro en w' ⟨v,r,μ',I',rfl,h2,h3,h4,h5⟩
 exact k v r μ' I' w' h2 h3 h4 h5
def QQ {f:FuncId} {arg_:List ns} {ts:Array nr} {args:List V} {Q:V->Prop} (ho:o.op=.call { callee:=.value (.func f),args:=arg_.toArray,argTypes:=ts }) (hf:bA X.P f=true) (hc:Con X f args [] λr _=>Q r) (ha:pO (arg_.map e) args):OpE X o e μ λr μ'=>Q r/\μ'=μ:=
 Sz ho hf (hc.pure_frame μ) ha
def qP {f:FuncId} {arg_:List ns} {ts:Array nr} {args:List V} {r:V} (ho:o.op=.call { callee:=.value (.func f),args:=arg_.toArray,argTypes:=ts }) (hf:bA X.P f=true) (hc:oK X f args r) (ha:pO (arg_.map e) args):Det X o e μ r μ:=
 QQ ho hf hc ha
def qK {n_:Nat} {z_:Z} {Q_:Exit->S->Prop} {rs:List (Nat×V)} {os:Array Oper} {re:List Oper} {d_:Tmp} {f:FuncId} {arg_:List ns} {ts:Array nr} {args:List V} {r:V} (hd:(so o,o.op)=(some d_,.call { callee:=.value (.func f),args:=arg_.toArray,argTypes:=ts })) (hf:bA X.P f=true) (hc:oK X f args r) (ha:pO (arg_.map (ev rs)) args) (k_:oX X n_ z_ os re Q_ ⟨(d_,r)::rs,μ⟩):oX X n_ z_ os (o::re) Q_ ⟨rs,μ⟩:=by
 simp only [aO] at hd
 obtain ⟨h_,q0⟩:=hd
 exact ua (qm h_).1 (qm h_).2 (qP (e:=ev rs) q0 hf hc ha) k_
def zYg {f:FuncId} {x:ns} {arg_:List ns} {ts:Array nr} {first cap:List C} {args:List V} {Q:V->List E->Prop} (ho:o.op=.call { callee:=.value x,args:=arg_.toArray,argTypes:=ts }) (hx:e x=.c (.fn (.func f) first cap)) (hf:bA X.P f=true)
  (hc:Con X f (first.map .c++args++cap.map .c) μ Q) (ha:pO (arg_.map e) args):OpE X o e μ Q:=by
 intro a w I hH hops K Q' k
 have hxv:=hops x AC
 rw [hx] at hxv
 have hxv':CRep w I (.fn (.func f) first cap) (a.eval x):=hxv
 generalize hv:a.eval x=v at hxv'
 cases hxv' with
 |fn _ _ _ us vs h1 h2 hr1 hr2=>
  have hrun:(execOp a.eval o).run X.P w=.ok (.enter f (us++arg_.map a.eval++vs).toArray) w:=by
   simp [execOp,ho,resolve,hv,Deferred.ofValue,invoke,zMe hf]
  intro hn rd
  refine ⟨λ_ _=>trivial,?_⟩
  rw [zQi hn,hrun,ms]
  refine ⟨λh=>by simp [se,Fence.wide] at h,zPu _ _ ?_⟩
  have c1:=V1Reps.of_c (CReps.of_at (w:=w) (I:=I) h1.symm hr1)
  have c2:=V1Reps.of_c (CReps.of_at (w:=w) (I:=I) h2.symm hr2)
  refine (hc w I _ hH ((c1.append (zVh (λy hy=>hops y xV3) ha)).append c2)).mono ?_
  rintro en w' ⟨v,r,μ',I',rfl,h2,h3,h4,h5⟩
  exact k v r μ' I' w' h2 h3 h4 h5
def EA {f:FuncId} {x:ns} {arg_:List ns} {ts:Array nr} {first cap:List C} {args:List V} {r:V} (ho:o.op=.call { callee:=.value x,args:=arg_.toArray,argTypes:=ts }) (hx:e x=.c (.fn (.func f) first cap)) (hf:bA X.P f=true)
  (hc:oK X f (first.map .c++args++cap.map .c) r) (ha:pO (arg_.map e) args):Det X o e μ r μ:=
 zYg ho hx hf (hc.pure_frame μ) ha
def zFd {f:FuncId} {x:ns} {arg_:List ns} {ts:Array nr} {args:List V} {r:V} (ho:o.op=.call { callee:=.value x,args:=arg_.toArray,argTypes:=ts }) (hx:e x=.c (.fn (.func f) [] [])) (hf:bA X.P f=true)
  (hc:oK X f args r) (ha:pO (arg_.map e) args):Det X o e μ r μ:=
 EA (args:=args) ho hx hf (by simpa using hc) ha
end calls
/-! ## Ghost steps -/
def kD {regs:List (Nat×V)} {μ:List E} (et:nr) (size:Nat):Weak ⟨regs,μ⟩ ⟨regs,.vec (.slice none 0 0) et size []::μ⟩:=by
 intro X n z a w ⟨I,hH,hR,hx,hd,hs⟩
 have e:bC (.vec (.slice none 0 0) et size []::μ)=bC μ:=by simp [bC,E.blocks,BV]
 refine ⟨I,⟨hH.lo,hH.glob,by rw [e];exact hH.nodup,λb hb=>hH.own b (by rw [e] at hb;exact hb),hH.imm,λen hen=>?_,λen hen=>?_⟩,hR,hx.less λb hb=>by rw [e] at hb;exact hb,hd,hs⟩
 ·rcases ag.1 hen with rfl|h
  ·exact .inl ⟨none,rfl,rfl⟩
  ·exact hH.rep en h
 ·rcases ag.1 hen with rfl|h
  ·trivial
  ·exact hH.mono en h
def FLe (sv:Value) (size:Nat) (rows:List (List C)) (x y:V):Prop:=∀w I v,CRep w I (.sl size rows) sv->VRep w I x v->VRep w I y v
def FLe.sl {sv:Value} {size:Nat} {rows:List (List C)}:FLe sv size rows (.c (.lit sv)) (.c (.sl size rows)):=by
 intro w I v h hv
 rw [hv.lit_inv]
 exact h
def FLe.refl {sv:Value} {size:Nat} {rows:List (List C)} (x:V):FLe sv size rows x x:=λ_ _ _ _ h=>h
def sZ (sv:Value) (size:Nat) (rows:List (List C)):List C->List C->Prop
 |[],[]=>True
 |x::xs,y::ys=>(x=y∨(x=.lit sv/\y=.sl size rows))/\sZ sv size rows xs ys
 |_,_=>False
def zRt {sv:Value} {size:Nat} {rows:List (List C)} {w:World} {I:Nat->Prop} (h:CRep w I (.sl size rows) sv):∀{xs ys:List C} {vs:List Value},sZ sv size rows xs ys->CReps w I xs vs->CReps w I ys vs
 |[],[],_,_,k=>k
 |x::xs,y::ys,_,hc,.cons hd tl=>by
  refine .cons ?_ (zRt h hc.2 tl)
  rcases hc.1 with rfl|⟨rfl,rfl⟩
  ·exact hd
  ·cases hd;exact h
 |[],_::_,_,h,_=>h.elim
 |_::_,[],_,h,_=>h.elim
def FLe.agg {sv:Value} {size:Nat} {rows:List (List C)} {xs ys:List C} (h:sZ sv size rows xs ys):FLe sv size rows (.agg xs) (.agg ys):=by
 intro w I v hs hv
 obtain ⟨vs,rfl,hc⟩:=hv.agg_inv
 exact ⟨vs,rfl,zRt hs h hc⟩
def Jz {et:nr} {size:Nat} (h:ERep w I (.vec sv et size rows)) (hI:∀b,b∈(E.vec sv et size rows).blocks->I b):CRep w I (.sl size rows) sv:=by
 rcases h with ⟨a,rfl,rfl⟩|⟨hne,xs,hown,hc,hl⟩
 ·exact .nil size a 0
 have hlen:=hown.1
 rcases hown.2 with ⟨rfl,hn⟩|⟨g,cap,cur,rfl,_,hh,hle,_,hsz,htake⟩
 ·have:rows=[]:=bi hn
  subst this
  exact .nil size none 0
 ·have hcell:=hown.cells (g:=g) rfl
  have hat:∀(i:Nat) r,rows[i]? =some r->∀(j:Nat) c,r[j]? =some c->∃u,xs[i*size+j]? =some u/\CRep w I c u:=by
   intro i r hi j c hj
   obtain ⟨A,B,e,hA⟩:=uQ hl hi
   rw [e] at hc
   refine hc.at_ ?_
   exact v88
  refine .sl size rows _ cap (λi j=>(xs[i*size+j]?).getD undef) (hI g (tz hne rfl)) hl hle (λi j hi hj=>?_) (λi r hi j c hj=>?_)
  ·obtain ⟨u,hu,_⟩:=hat i rows[i] (ak hi) j ((rows[i])[j]'(by rw [hl _ (jb hi)];exact hj)) (ak _)
   rw [hcell _ u hu,hu]
   rfl
  ·obtain ⟨u,hu,hcu⟩:=hat i r hi j c hj
   simp only [hu,dl]
   exact hcu
end Go.Eng
end
section
namespace Go.Eng
open Go Go.RowKit
def zSh (a b:nq):(a.toList==b.toList)=decide (a=b):=by
 rw [cv]
 simp only [fu,aj]
 constructor
 ·intro h
  rw [fe,fe] at h
  exact i5 (fz.mp h)
 ·rintro rfl;rfl
def bF (a b:nq):Bool:=Op.bytesLess a.toList b.toList
section ops
variable {X:Cfg} {o:Oper} {e:ns->V} {μ:List E} {t ty:nr} {x y:ns}
def VL {a b:nq} (ho:o.op=.binOp .eql t x y ty) (hx:e x=.c (.lit (.string a))) (hy:e y=.c (.lit (.string b))):Det X o e μ (.c (.lit (.bool (decide (a=b))))) μ:=z7 ho hx hy (λw=>by simp [eqGuard,binOp,Op.stringOp,zSh]) rfl
def wF {n_:Nat} {z_:Z} {Q_:Exit->S->Prop} {rs:List (Nat×V)} {os:Array Oper} {re:List Oper} {d_:Tmp} {a b:nq} (hd:(so o,o.op,(ev rs) x,(ev rs) y)=(some d_,.binOp .eql t x y ty,.c (.lit (.string a)),.c (.lit (.string b))))  (k_:oX X n_ z_ os re Q_ ⟨(d_,(.c (.lit (.bool (decide (a=b))))))::rs,μ⟩):oX X n_ z_ os (o::re) Q_ ⟨rs,μ⟩:=by
 simp only [aO] at hd
 obtain ⟨h_,q0,q1,q2⟩:=hd
 exact ua (qm h_).1 (qm h_).2 (VL (e:=ev rs) q0 q1 q2) k_
def S4 {a b:nq} (ho:o.op=.binOp .neq t x y ty) (hx:e x=.c (.lit (.string a))) (hy:e y=.c (.lit (.string b))):Det X o e μ (.c (.lit (.bool (!decide (a=b))))) μ:=z7 ho hx hy (λw=>by simp [eqGuard,binOp,Op.stringOp,zSh]) rfl
def EF {a b:nq} (ho:o.op=.binOp .lss t x y ty) (hx:e x=.c (.lit (.string a))) (hy:e y=.c (.lit (.string b))):Det X o e μ (.c (.lit (.bool (bF a b)))) μ:=z7 ho hx hy (λw=>by simp only [eqGuard,binOp,Op.stringOp];rfl) rfl
def Pe {a b:nq} (ho:o.op=.binOp .gtr t x y ty) (hx:e x=.c (.lit (.string a))) (hy:e y=.c (.lit (.string b))):Det X o e μ (.c (.lit (.bool (!(bF a b||decide (a=b)))))) μ:=z7 ho hx hy (λw=>by simp only [eqGuard,binOp,Op.stringOp,zSh];rfl) rfl
def zWj {a b:nq} (ho:o.op=.binOp .add t x y ty) (hx:e x=.c (.lit (.string a))) (hy:e y=.c (.lit (.string b))) (hl:a.size+b.size<=9223372036854775807):Det X o e μ (.c (.lit (.string (a++b)))) μ:=z7 ho hx hy (λw=>by
 have h:¬(((a.size+b.size:Nat):Int)>IntKind.i64.max):=by
  have:IntKind.i64.max=9223372036854775807:=by decide
  rw [this];omega
 simp only [eqGuard,binOp,Op.stringOp,aa h];rfl) rfl
def Pb {a b:Bool} (ho:o.op=.binOp .eql t x y ty) (ht:X.P.underlying t=some .bool) (hx:e x=.c (.lit (.bool a))) (hy:e y=.c (.lit (.bool b))):Det X o e μ (.c (.lit (.bool (a==b)))) μ:=z7 ho hx hy (λw=>by
 rw [nj,aW,ba,aI,run_eql_bool w t a b ht]) rfl
def zKz {a b:Bool} (ho:o.op=.binOp .neq t x y ty) (ht:X.P.underlying t=some .bool) (hx:e x=.c (.lit (.bool a))) (hy:e y=.c (.lit (.bool b))):Det X o e μ (.c (.lit (.bool (!(a==b))))) μ:=z7 ho hx hy (λw=>by
 rw [nj,aW,ba,aI]
 simp only [binOp,aW,run_equal_bool w t a b ht,aI,ba]) rfl
def wM {b:Bool} (ho:o.op=.unOp .not t x) (hx:e x=.c (.lit (.bool b))):Det X o e μ (.c (.lit (.bool (!b)))) μ:=
 kW λa w I _ hops=>by
  have hxv:=hops x qr
  rw [hx] at hxv
  exact ⟨.bool (!b),by simp [execOp,ho,hxv.lit_inv,Op.unary],CRep.lit _ rfl⟩
def kQ {n_:Nat} {z_:Z} {Q_:Exit->S->Prop} {rs:List (Nat×V)} {os:Array Oper} {re:List Oper} {d_:Tmp} {b:Bool} (hd:(so o,o.op,(ev rs) x)=(some d_,.unOp .not t x,.c (.lit (.bool b))))  (k_:oX X n_ z_ os re Q_ ⟨(d_,(.c (.lit (.bool (!b)))))::rs,μ⟩):oX X n_ z_ os (o::re) Q_ ⟨rs,μ⟩:=by
 simp only [aO] at hd
 obtain ⟨h_,q0,q1⟩:=hd
 exact ua (qm h_).1 (qm h_).2 (wM (e:=ev rs) q0 q1) k_
def S6 {k:IntKind} {n:Int} (ho:o.op=.unOp .neg t x) (hx:e x=.c (.lit (.int k n))):Det X o e μ (.c (.lit (.int k (k.wrap (-n))))) μ:=
 kW λa w I _ hops=>by
  have hxv:=hops x qr
  rw [hx] at hxv
  exact ⟨.int k (k.wrap (-n)),by simp [execOp,ho,hxv.lit_inv,Op.unary,Op.intArith],CRep.lit _ rfl⟩
def vJ (P:Program) (t:nr):Option IntKind:=match P.underlying t with|some (.int k)=>some k|_=>none
def wA {src dst:nr} {k k':IntKind} {n:Int} (ho:o.op=.convert src dst x) (hs:(X.P.underlying src).isSome=true) (hd:vJ X.P dst=some k) (hx:e x=.c (.lit (.int k' n))):Det X o e μ (.c (.lit (.int k (k.wrap n)))) μ:=
 kW λa w I _ hops=>by
  have hxv:=hops x qr
  rw [hx] at hxv
  have hd':X.P.underlying dst=some (.int k):=by
   unfold vJ at hd
   split at hd
   ·rename_i h;simp only [ay] at hd;rw [h,hd]
   ·cases hd
  obtain ⟨d,hs'⟩:=la.1 hs
  exact ⟨.int k (k.wrap n),by simp [execOp,ho,hxv.lit_inv,convert,aK hs',aK hd',Conv.intToInt],CRep.lit _ rfl⟩
def HK {k:IntKind} {i:Int} {s:nq} {b:UInt8} (ho:o.op=.index t x y) (ht:X.P.underlying t=some .string) (hx:e x=.c (.lit (.string s))) (hy:e y=.c (.lit (.int k i))) (h0:0<=i) (hb:s.data.toList[i.toNat]? =some b):Det X o e μ (.c (.lit (.int .u8 b.toNat))) μ:=
 kW λa w I _ hops=>by
  have hxv:=hops x qr
  have hyv:=hops y qr
  rw [hx] at hxv
  rw [hy] at hyv
  have hb':s[i.toNat]? =some b:=by
   have hlt:i.toNat<s.size:=by have:=(af.1 hb).1;simpa using this
   rw [getElem?_pos s i.toNat hlt]
   have:=(af.1 hb).2
   rw [<-this]
   rfl
  exact ⟨.int .u8 b.toNat,by simp [execOp,ho,hxv.lit_inv,hyv.lit_inv,Instr.index,asIntOf,aK ht,h0,hb'],CRep.lit _ rfl⟩
def zGf {k:IntKind} {i:Int} {s:nq} (ho:o.op=.index t x y) (ht:X.P.underlying t=some .string) (hx:e x=.c (.lit (.string s))) (hy:e y=.c (.lit (.int k i))) (h0:0<=i) (hlt:i.toNat<s.size):Det X o e μ (.c (.lit (.int .u8 (s.data.toList.getD i.toNat 0).toNat))) μ:=by
 refine HK ho ht hx hy h0 ?_
 have:i.toNat<s.data.toList.length:=by simpa using hlt
 simp [List.getD,ak this]
def zTu {ts:Array nr} {k:IntKind} {m n:Int} (ho:o.op=.call { callee:=.builtin .max,args:= #[x,y],argTypes:=ts }) (hx:e x=.c (.lit (.int k m))) (hy:e y=.c (.lit (.int k n))):Det X o e μ (.c (.lit (.int k (max m n)))) μ:=
 kW λa w I _ hops=>by
  have hxv:=hops x AC
  have hyv:=hops y AC
  rw [hx] at hxv
  rw [hy] at hyv
  refine ⟨.int k (max m n),?_,CRep.lit _ rfl⟩
  have h:(if n>m then n else m)=max m n:=by split<;>omega
  simp [execOp,ho,hxv.lit_inv,hyv.lit_inv,resolve,invoke,builtin,run_max_int2]
  omega
def J7 {ts:Array nr} {k:IntKind} {m n:Int} (ho:o.op=.call { callee:=.builtin .min,args:= #[x,y],argTypes:=ts }) (hx:e x=.c (.lit (.int k m))) (hy:e y=.c (.lit (.int k n))):Det X o e μ (.c (.lit (.int k (min m n)))) μ:=
 kW λa w I _ hops=>by
  have hxv:=hops x AC
  have hyv:=hops y AC
  rw [hx] at hxv
  rw [hy] at hyv
  refine ⟨.int k (min m n),?_,CRep.lit _ rfl⟩
  simp [execOp,ho,hxv.lit_inv,hyv.lit_inv,resolve,invoke,builtin,run_min_int2]
  omega
def V1Reps.nth {w:World} {I:Nat->Prop}:∀{l:List V} {vs:List Value} {i:Nat} {r:V},V1Reps w I l vs->nth l i=some r->∃v,vs[i]? =some v/\V1Rep w I r v
 |[],_,_,_,_,h=>by simp [Eng.nth] at h
 |_::_,[],_,_,h,_=>h.elim
 |x::_,v::_,0,r,h,hn=>by
  simp only [Eng.nth,ay] at hn
  subst hn
  exact ⟨v,rfl,h.1⟩
 |_::_,_::_,i+1,r,h,hn=>by
  obtain ⟨v,h1,h2⟩:=V1Reps.nth h.2 hn
  exact ⟨v,by simpa using h1,h2⟩
def Pc {i:Nat} {l:List V} {r:V} (ho:o.op=.extract x i) (hx:e x=.tup l) (hr:nth l i=some r):Det X o e μ r μ:=
 kW λa w I _ hops=>by
  have hxv:=hops x qr
  rw [hx] at hxv
  obtain ⟨vs,hv,hvs⟩:=hxv
  obtain ⟨v,h1,h2⟩:=hvs.nth hr
  exact ⟨v,by simp [execOp,ho,hv,Instr.extract,h1],h2.up⟩
def kI {i:Nat} {l:List V} {r:C} (ho:o.op=.extract x i) (hx:e x=.tup l) (hr:nth l i=some (.c r)):Det X o e μ (.c r) μ:=Pc ho hx hr
def yF {n_:Nat} {z_:Z} {Q_:Exit->S->Prop} {rs:List (Nat×V)} {os:Array Oper} {re:List Oper} {d_:Tmp} {i:Nat} {l:List V} {r:C} (hd:(so o,o.op,(ev rs) x,nth l i)=(some d_,.extract x i,.tup l,some (.c r)))  (k_:oX X n_ z_ os re Q_ ⟨(d_,(.c r))::rs,μ⟩):oX X n_ z_ os (o::re) Q_ ⟨rs,μ⟩:=by
 simp only [aO] at hd
 obtain ⟨h_,q0,q1,q2⟩:=hd
 exact ua (qm h_).1 (qm h_).2 (kI (e:=ev rs) q0 q1 q2) k_
def kK {i:Nat} {l:List V} {r:List C} (ho:o.op=.extract x i) (hx:e x=.tup l) (hr:nth l i=some (.agg r)):Det X o e μ (.agg r) μ:=Pc ho hx hr
def kG {n_:Nat} {z_:Z} {Q_:Exit->S->Prop} {rs:List (Nat×V)} {os:Array Oper} {re:List Oper} {d_:Tmp} {i:Nat} {l:List V} {r:List C} (hd:(so o,o.op,(ev rs) x,nth l i)=(some d_,.extract x i,.tup l,some (.agg r)))  (k_:oX X n_ z_ os re Q_ ⟨(d_,(.agg r))::rs,μ⟩):oX X n_ z_ os (o::re) Q_ ⟨rs,μ⟩:=by
 simp only [aO] at hd
 obtain ⟨h_,q0,q1,q2⟩:=hd
 exact ua (qm h_).1 (qm h_).2 (kK (e:=ev rs) q0 q1 q2) k_
def cOf:V->C
 |.c x=>x
 |_=>.lit (.tuple #[])
def eG:List V->Bool
 |[]=>true
 |.c _::l=>eG l
 |_::_=>false
def vu {w:World} {I:Nat->Prop} {a:Act} {e:ns->V}:∀{arg_:List ns},(∀x,x∈arg_->VRep w I (e x) (a.eval x))->eG (arg_.map e)=true->CReps w I ((arg_.map e).map cOf) (arg_.map a.eval)
 |[],_,_=>.nil
 |x::arg_,h,hc=>by
  simp only [aG]
  cases hx:e x with
  |c y=>
   have h1:=h x uF
   rw [hx] at h1
   refine .cons h1 (vu (λz hz=>h z (by simp [hz])) ?_)
   simpa [eG,hx] using hc
  |_=>simp [eG,hx] at hc
def VJ {f:Fn} {first cap:List ns} {fs cs:List C} (ho:o.op=.makeFunc f first.toArray cap.toArray) (h1:eG (first.map e)=true) (h2:eG (cap.map e)=true) (hf:(first.map e).map cOf=fs) (hc:(cap.map e).map cOf=cs):Det X o e μ (.c (.fn f fs cs)) μ:=
 kW λa w I _ hops=>by
  subst hf hc
  have c1:=vu (w:=w) (I:=I) (a:=a) (e:=e) (arg_:=first) (λx hx=>hops x (by rw [ho];simp [Op.operands,hx])) h1
  have c2:=vu (w:=w) (I:=I) (a:=a) (e:=e) (arg_:=cap) (λx hx=>hops x (by rw [ho];simp [Op.operands,hx])) h2
  refine ⟨.func f (first.map a.eval).toArray (cap.map a.eval).toArray,by simp [execOp,ho,Instr.makeFunc],CRep.fn _ _ _ _ _ c1.length.symm c2.length.symm (λj c u hj hu=>?_) (λj c u hj hu=>?_)⟩
  ·obtain ⟨v,hv,hr⟩:=c1.at_ hj
   rw [hu] at hv;cases hv;exact hr
  ·obtain ⟨v,hv,hr⟩:=c2.at_ hj
   rw [hu] at hv;cases hv;exact hr
def qV {ad:Addr} (ho:o.op=.nilCheck x) (hx:e x=.c (.lit (.pointer (some ad)))):Det X o e μ (.c (.lit (.pointer (some ad)))) μ:=
 kW λa w I _ hops=>by
  have hxv:=hops x qr
  rw [hx] at hxv
  exact ⟨.pointer (some ad),by simp [execOp,ho,hxv.lit_inv],CRep.lit _ rfl⟩
def zZ {n_:Nat} {z_:Z} {Q_:Exit->S->Prop} {rs:List (Nat×V)} {os:Array Oper} {re:List Oper} {d_:Tmp} {ad:Addr} (hd:(so o,o.op,(ev rs) x)=(some d_,.nilCheck x,.c (.lit (.pointer (some ad)))))  (k_:oX X n_ z_ os re Q_ ⟨(d_,(.c (.lit (.pointer (some ad)))))::rs,μ⟩):oX X n_ z_ os (o::re) Q_ ⟨rs,μ⟩:=by
 simp only [aO] at hd
 obtain ⟨h_,q0,q1⟩:=hd
 exact ua (qm h_).1 (qm h_).2 (qV (e:=ev rs) q0 q1) k_
def XA (e:ns->V) (o:Option ns) (dflt v:Nat):Prop:=
 match o with
 |none=>v=dflt
 |some x=>∃k i,e x=.c (.lit (.int k i))/\i=(v:Int)
def Cs {P:Program} {w:World} {I:Nat->Prop} {a:Act} {k:IntKind} {v m:Nat} {xo:ns} {code:BoundsCode} {i:Int} (h:VRep w I (.c (.lit (.int k i))) (a.eval xo)) (hi:i=(v:Int)) (hm:v<=m):(Instr.sliceBound (a.eval xo) m code).run P w=.ok v w:=by
 rw [h.lit_inv]
 subst hi
 have h1:(0:Int)<=v/\(v:Int)<=m:=by omega
 simp [Instr.sliceBound,asIntOf,h1.2]
def Tz {w:World} {I:Nat->Prop} {size:Nat} {rows:List (List C)} {a:Option Addr} {n cap m:Nat} (h:CRep w I (.sl size rows) (.slice a n cap)) (l k:Nat) (hl:l<=k) (hk:k<=rows.length) (hm:k<=m):
  CRep w I (.sl size ((rows.take k).drop l)) (.slice (if m=l then a else a.map (·.add (l*size))) (k-l) (m-l)):=by
 by_cases hz:k-l=0
 ·rw [hz]
  have:(rows.take k).drop l=[]:=by
   apply bi
   simp;omega
  rw [this]
  exact .nil _ _ _
 ·rw [aa zB]
  have hlen:((rows.take k).drop l).length=k-l:=by simp;omega
  cases h with
  |nil=>simp at hk;omega
  |sl _ _ ad _ us hI hl' hcap hc hr=>
   rw [<-hlen]
   simp only [fh]
   have hget:∀i,i<k-l->((rows.take k).drop l)[i]? =rows[l+i]?:=by
    intro i hi
    rw [ew,az,ab zB]
   refine .sl size _ _ _ (λi j=>us (l+i) j) (by rw [qAy];exact hI) (λr hr'=>hl' r (e9 (jm hr'))) zB (λi j hi hj=>?_) (λi r hi j c hj=>?_)
   ·rw [zOk]
    have:=hc (l+i) j zB hj
    rwa [gl,i4] at this
   ·have hlt:i<k-l:=by have:=(af.1 hi).1;omega
    exact hr (l+i) r (by rw [<-hget i hlt];exact hi) j c hj
def wd {et:nr} {size bytes:Nat} {rows:List (List C)} {lo hi:Option ns} (l k:Nat) (ho:o.op=.slice t x lo hi none) (ht:dW X.P t=some (et,size,bytes)) (hx:e x=.c (.sl size rows))
  (h1:XA e lo 0 l) (h2:XA e hi rows.length k) (hl:l<=k) (hk:k<=rows.length):Det X o e μ (.c (.sl size ((rows.take k).drop l))) μ:=
 kW λa w I _ hops=>by
  obtain ⟨hu,inf,z,hinf,hz,hs,hby,hzs,hpos⟩:=wQ ht
  have hxv:=hops x qr
  rw [hx] at hxv
  have hxv':CRep w I (.sl size rows) (a.eval x):=hxv
  have hform:∃ad n cap,a.eval x=.slice ad n cap/\n=rows.length/\rows.length<=cap:=by
   generalize a.eval x=v at hxv'
   cases hxv' with
   |nil _ ad cap=>exact ⟨ad,0,cap,rfl,rfl,uF⟩
   |sl _ _ ad cap us hI hl' hcap hc hr=>exact ⟨some ad,rows.length,cap,rfl,rfl,hcap⟩
  obtain ⟨ad,n,cap,hv,hn,hcap⟩:=hform
  rw [hv] at hxv'
  have hres:=Tz hxv' l k hl hk (m:=cap) zB
  refine ⟨_,?_,hres⟩
  have hB:(Instr.sliceBounds true n cap (lo.map a.eval) (hi.map a.eval) none).run X.P w=.ok (l,k,cap) w:=by
   have hH:∀xh,hi=some xh->∀code,(Instr.sliceBound (a.eval xh) cap code).run X.P w=.ok k w:=by
    rintro xh rfl code
    obtain ⟨kd,i,he,hi'⟩:=h2
    have hxh:=hops xh qr
    rw [he] at hxh
    exact Cs hxh hi' zB
   have hL:∀xl,lo=some xl->∀code,(Instr.sliceBound (a.eval xl) k code).run X.P w=.ok l w:=by
    rintro xl rfl code
    obtain ⟨kd,i,he,hi'⟩:=h1
    have hxl:=hops xl qr
    rw [he] at hxl
    exact Cs hxl hi' hl
   cases hi with
   |none=>
    have h2':k=n:=by simp only [XA] at h2;omega
    subst h2'
    cases lo with
    |none=>
     have h1':l=0:=h1
     subst h1'
     simp [Instr.sliceBounds]
    |some xl=>simp [Instr.sliceBounds,hL xl rfl]
   |some xh=>
    cases lo with
    |none=>
     have h1':l=0:=h1
     subst h1'
     simp [Instr.sliceBounds,hH xh rfl]
    |some xl=>simp [Instr.sliceBounds,hH xh rfl,hL xl rfl]
  simp only [execOp,ho,hv,Instr.sliceAt,Instr.slice,aW,aK hu,aI,Option.map_none,hB,sizeOf,typeInfo,iy,hinf,ba,hs]
/-! ## Composite literals -/
def EZ (off:Nat):∀(vs:List Value) (k:Nat) (cells:List Value),off+k+vs.length<=cells.length->
  (vs.zipIdx k).foldl (λ(cs:Array Value) (p:Value×Nat)=>cs.setIfInBounds (off+p.2) p.1) cells.toArray=(cells.take (off+k)++vs++cells.drop (off+k+vs.length)).toArray
 |[],k,cells,_=>by simp
 |v::vs,k,cells,h=>by
  simp only [ia] at h
  rw [kf,cp]
  have e:cells.toArray.setIfInBounds (off+k) v=(cells.set (off+k) v).toArray:=by simp
  rw [e,EZ off vs (k+1) _ uD]
  congr 1
  rw [show off+(k+1)=off+k+1 by omega]
  rw [List.take_set,jy zB,List.drop_set]
  rw [ab zB,fm _ _ uD]
  simp only [ap,ia]
  rw [show off+k-min (off+k) cells.length=0 by omega]
  simp only [jv,dv,jc,fi]
  rw [show off+k+1+vs.length=off+k+(vs.length+1) by omega]
def rI (place:Nat->Option (Nat×Nat)) (cells:List C):List (Nat×V)->Option (List C)
 |[]=>some cells
 |(i,v)::rest=>
  match place i,mQ v with
  |some (off,size),some cs=>cond (Nat.beq cs.length size&&Nat.ble (off+size) cells.length) (rI place (GA cells off cs) rest) none
  |_,_=>none
def qAx {w:World} {I:Nat->Prop} (place:Nat->Option (Nat×Nat)) {e:ns->V} {a:Act}:∀{parts:List (Nat×ns)} {cells out:List C} {vs:List Value},(∀p,p∈parts->VRep w I (e p.2) (a.eval p.2))->CReps w I cells vs->
  rI place cells (parts.map λp=>(p.1,e p.2))=some out->∃us:List Value,Instr.fill place vs.toArray (parts.map λp=>(p.1,a.eval p.2))=some us.toArray/\CReps w I out us
 |[],cells,out,vs,_,hc,h=>by
  simp only [bt,rI,ay] at h
  subst h
  exact ⟨vs,by simp [Instr.fill],hc⟩
 |(i,x)::parts,cells,out,vs,hops,hc,h=>by
  simp only [aG,rI] at h
  cases hp:place i with
  |none=>rw [hp] at h;cases h
  |some q=>
   obtain ⟨off,size⟩:=q
   cases hv:mQ (e x) with
   |none=>rw [hp,hv] at h;cases h
   |some cs=>
    rw [hp,hv] at h
    simp only at h
    have hxr:=zSc (hops (i,x) uF) hv
    cases hcond:(Nat.beq cs.length size&&Nat.ble (off+size) cells.length) with
    |false=>rw [hcond] at h;cases h
    |true=>
     rw [hcond] at h
     simp only [ae] at hcond
     have h1:cs.length=size:=bj hcond.1
     have h2:off+size<=cells.length:=ci hcond.2
     have h3:(a.eval x).cells.size=size:=by rw [<-h1,hxr.length];simp
     have h4:=hc.length
     have hs:CReps w I (GA cells off cs) (vs.take off++(a.eval x).cells.toList++vs.drop (off+(a.eval x).cells.toList.length)):=by
      rw [tx cells off cs zB]
      refine ((hc.take off).append hxr).append ?_
      have:(a.eval x).cells.toList.length=cs.length:=hxr.length.symm
      rw [this]
      exact hc.drop _
     obtain ⟨us,hf,hu⟩:=qAx place (parts:=parts) (λp hp'=>hops p (by simp [hp'])) hs h
     refine ⟨us,?_,hu⟩
     simp only [aG,Instr.fill,hp]
     rw [aa (by simp [h3];omega)]
     have hfold:=EZ off (a.eval x).cells.toList 0 vs (by simp [h3];omega)
     rw [lm] at hfold
     rw [<-hf]
     congr 1
     rw [<-Array.foldl_toList,Array.toList_zipIdx]
     exact hfold
def fD (P:Program) (t:nr):Option (List (Nat×Nat)):=
 match P.underlying t with
 |some (.struct fs)=>fs.toList.mapM λf=>(P.info? f.type).map λi=>(f.offset,i.size)
 |_=>none
def y4 {P:Program} {w:World}:∀{fs:List Field} {ps:List (Nat×Nat)},(fs.mapM λf=>(P.info? f.type).map λi=>(f.offset,i.size))=some ps->
  (fs.mapM λf=>(do pure (f.offset,<-sizeOf f.type):Sem (Nat×Nat))).run P w=.ok ps w
 |[],ps,h=>by simp at h;subst h;simp
 |f::fs,ps,h=>by
  rw [ku] at h
  cases hi:P.info? f.type with
  |none=>simp [hi] at h
  |some i=>
   cases hr:(fs.mapM λf=>(P.info? f.type).map λi=>(f.offset,i.size)) with
   |none=>simp [hi,hr] at h
   |some qs=>
    simp [hi,hr] at h
    subst h
    have ih:=y4 (P:=P) (w:=w) hr
    rw [ku,aW]
    simp only [aW,sizeOf,typeInfo,iy,hi,ba,aI] at ih⊢
    rw [ih]
    rfl
def LU {zs:List Value} {ps:List (Nat×Nat)} {parts:List (Nat×ns)} {cells:List C} (ho:o.op=.build t parts.toArray) (hz:dZ X.P t=some zs) (hp:fD X.P t=some ps) (hf:rI (nth ps) (zs.map .lit) (parts.map λp=>(p.1,e p.2))=some cells):
  Det X o e μ (.agg cells) μ:=
 kW λa w I _ hops=>by
  unfold dZ at hz
  split at hz
  ·rename_i i hi
   split at hz
   ·rename_i v hv
    split at hz
    ·rename_i hall
     simp only [ay] at hz
     subst hz
     have hc:CReps w I (v.cells.toList.map .lit) v.cells.toList:=CReps.lits _ λu hu=>by
      rw [ec] at hall
      exact hall u (by simpa using hu)
     unfold fD at hp
     split at hp
     ·rename_i fs hu
      obtain ⟨us,hfill,hcs⟩:=qAx (w:=w) (I:=I) (a:=a) (nth ps) (parts:=parts) (λp hp'=>hops p.2 (by rw [ho];simp [Op.operands];exact ⟨p.1,hp'⟩)) hc hf
      refine ⟨.agg us.toArray,?_,us,rfl,hcs⟩
      have hpl:=y4 (P:=X.P) (w:=w) hp
      have hmap:(fs.mapM λf=>(do pure (f.offset,<-sizeOf f.type):Sem (Nat×Nat))).run X.P w=.ok ps.toArray w:=by
       rw [<-jo (xs:=fs),mt,Sem.run_map,hpl]
       rfl
      have hpn:(λi=>ps.toArray[i]?)=nth ps:=by funext i;rw [Hb];simp
      simp only [execOp,ho,Instr.build,zeroValue,aW,typeInfo,iy,hi,hv,ba,aI,aK hu,hmap]
      rw [hpn]
      simp only [i9,jo] at hfill⊢
      rw [hfill]
      rfl
     ·cases hp
    ·cases hz
   ·cases hz
  ·cases hz
def yI {n_:Nat} {z_:Z} {Q_:Exit->S->Prop} {rs:List (Nat×V)} {os:Array Oper} {re:List Oper} {d_:Tmp} {zs:List Value} {ps:List (Nat×Nat)} {parts:List (Nat×ns)} {cells:List C} (hd:(so o,o.op,rI (nth ps) (zs.map .lit) (parts.map λp=>(p.1,(ev rs) p.2)))=(some d_,.build t parts.toArray,some cells)) (hz:dZ X.P t=some zs) (hp:fD X.P t=some ps) (k_:oX X n_ z_ os re Q_ ⟨(d_,(.agg cells))::rs,μ⟩):oX X n_ z_ os (o::re) Q_ ⟨rs,μ⟩:=by
 simp only [aO] at hd
 obtain ⟨h_,q0,q3⟩:=hd
 exact ua (qm h_).1 (qm h_).2 (LU (e:=ev rs) q0 hz hp q3) k_
end ops
/-! ## Slice literals -/
def tR:Nat->List (Nat×ns)->Bool
 |_,[]=>true
 |k,(i,_)::r=>Nat.beq i k&&tR (k+1) r
def mR (size:Nat):List V->Option (List (List C))
 |[]=>some []
 |v::r=>match mQ v,mR size r with
  |some cs,some rs=>cond (Nat.beq cs.length size) (some (cs::rs)) none
  |_,_=>none
def qz {size:Nat}:∀{vs:List V} {rows:List (List C)},mR size vs=some rows->rows.length=vs.length/\∀r,r∈rows->r.length=size
 |[],rows,h=>by simp only [mR,ay] at h;subst h;simp
 |v::vs,rows,h=>by
  simp only [mR] at h
  cases h1:mQ v with
  |none=>rw [h1] at h;cases h
  |some cs=>
   cases h2:mR size vs with
   |none=>rw [h1,h2] at h;cases h
   |some rs=>
    rw [h1,h2] at h
    simp only at h
    cases hb:Nat.beq cs.length size with
    |false=>rw [hb] at h;cases h
    |true=>
     rw [hb] at h
     simp only [aB,ay] at h
     subst h
     obtain ⟨h3,h4⟩:=qz h2
     refine ⟨by simp [h3],λr hr=>?_⟩
     rcases ag.1 hr with rfl|hr
     ·exact bj hb
     ·exact h4 r hr
def vh {size:Nat} {e:ns->V}:∀{parts:List (Nat×ns)} {rows:List (List C)} (k:Nat) (A Zs:List C),tR k parts=true->mR size (parts.map λp=>e p.2)=some rows->A.length=k*size->Zs.length=parts.length*size->
  rI (λi=>some (i*size,size)) (A++Zs) (parts.map λp=>(p.1,e p.2))=some (A++rows.flatten)
 |[],rows,k,A,Zs,_,h,_,hz=>by
  simp only [bt,mR,ay] at h
  subst h
  have:Zs=[]:=bi (by simpa using hz)
  subst this
  simp [rI]
 |(i,x)::parts,rows,k,A,Zs,hi,h,hA,hz=>by
  simp only [tR,ae] at hi
  have hik:i=k:=bj hi.1
  subst hik
  simp only [aG,mR] at h
  cases h1:mQ (e x) with
  |none=>rw [h1] at h;cases h
  |some cs=>
   cases h2:mR size (parts.map λp=>e p.2) with
   |none=>rw [h1,h2] at h;cases h
   |some rs=>
    rw [h1,h2] at h
    simp only at h
    cases hb:Nat.beq cs.length size with
    |false=>rw [hb] at h;cases h
    |true=>
     rw [hb] at h
     simp only [aB,ay] at h
     subst h
     have hcs:cs.length=size:=bj hb
     simp only [ia,dx] at hz
     simp only [aG,rI,h1,hb,aM]
     have hle:Nat.ble (i*size+size) (A++Zs).length=true:=ji (by rw [dz,hA];omega)
     rw [hle,aB,tx _ _ _ (by rw [dz,hA];omega),<-hA,iu,fy]
     rw [cl zB,fi,d6]
     have ih:=vh (size:=size) (e:=e) (parts:=parts) (rows:=rs) (i+1) (A++cs) (Zs.drop cs.length) hi.2 h2 (by rw [dz,hA,hcs,dx]) (by rw [cu,hcs];omega)
     rw [ih]
     simp
section lits
variable {X:Cfg} {o:Oper} {e:ns->V} {μ:List E} {t:nr}
def zSk {et:nr} {size bytes len:Nat} {zs:List Value} {parts:List (Nat×ns)} {rows:List (List C)} {a:Act} {w:World} {I:Nat->Prop} (ho:o.op=.buildSlice t len parts.toArray) (ht:dW X.P t=some (et,size,bytes)) (hz0:dZ X.P et=some zs) (hlim:Nat.ble (len*size) 16777216=true)
  (hidx:tR 0 parts=true) (hlen:Nat.beq parts.length len=true) (hrows:mR size (parts.map λp=>e p.2)=some rows) (hops:∀x,x∈o.op.operands->VRep w I (e x) (a.eval x)):
  ∃us:List Value,(execOp a.eval o).run X.P w=.ok (.value (.slice (some ⟨w.heap.size,0,none⟩) len len)) (w.alloc (.cells us.toArray et))/\CReps w I rows.flatten us/\us.length=len*size:=by
 obtain ⟨hu,inf,z,hinf,hz,hs,hby,hzs,hpos⟩:=wQ ht
 have hl:parts.length=len:=bj hlen
 have hlim':len*size<=16777216:=ci hlim
 have hall:∀i,i<z.cells.size->(z.cells[i]!).oneCell'=true:=by
  unfold dZ at hz0
  rw [hinf] at hz0
  simp only [hz] at hz0
  split at hz0
  ·rename_i h
   rw [ec] at h
   intro i hi
   rw [il z.cells i hi]
   exact h _ (ne hi)
  ·cases hz0
 let zv:Array Value:=if len*size=0 then #[] else z.cells
 let Z:List Value:=(List.range (len*size)).map λi=>zv[i%zv.size]!
 have hZ:∀v,v∈Z->v.oneCell'=true:=by
  intro v hv
  obtain ⟨i,hi,rfl⟩:=aY.1 hv
  have hi':=cw.1 hi
  have e1:zv=z.cells:=aa zB
  simp only [e1]
  exact hall _ (g7 _ zB)
 have hfill:=vh (size:=size) (e:=e) (parts:=parts) 0 [] (Z.map .lit) hidx hrows uF (by simp [Z,hl])
 simp only [fi] at hfill
 obtain ⟨us,hf,hc⟩:=qAx (w:=w) (I:=I) (a:=a) (e:=e) (λi=>some (i*size,size)) (parts:=parts) (λp hp=>hops p.2 (by rw [ho];simp [Op.operands];exact ⟨p.1,hp⟩)) (CReps.lits Z hZ) hfill
 have hul:=DL (size:=size) (qz hrows).2 hc
 have hrl:=(qz hrows).1
 simp only [jh] at hrl
 refine ⟨us,?_,hc,by rw [hul,hrl,hl]⟩
 have hZa:(Array.range (len*size)).map (λi=>zv[i%zv.size]!)=Z.toArray:=by
  apply fz.1
  simp [Z]
 have hparts:(Array.map (λ(p:Nat×ns)=>(p.1,a.eval p.2)) parts.toArray).toList=parts.map λp=>(p.1,a.eval p.2):=by simp
 simp only [execOp,ho,Instr.buildSlice,aW,aK hu,aI,sizeOf,typeInfo,iy,hinf,ba,hs]
 rw [aa zB]
 by_cases h0:len*size=0
 ·have e1:zv= #[]:=ab h0
  rw [ab h0]
  simp only [aW,ba,aI,<-e1]
  rw [hZa,hparts,hf]
  simp [newRow,go_sem]
 ·have e1:zv=z.cells:=aa h0
  rw [aa h0]
  simp only [aW,ba,aI,zeroValue,typeInfo,iy,hinf,hz,<-e1]
  rw [hZa,hparts,hf]
  simp [newRow,go_sem]
def kV {et:nr} {size bytes len:Nat} {zs:List Value} {parts:List (Nat×ns)} {rows:List (List C)} (ho:o.op=.buildSlice t len parts.toArray) (ht:dW X.P t=some (et,size,bytes)) (hz:dZ X.P et=some zs) (hlim:Nat.ble (len*size) 16777216=true)
  (hidx:tR 0 parts=true) (hlen:Nat.beq parts.length len=true) (hrows:mR size (parts.map λp=>e p.2)=some rows):Det X o e μ (.c (.sl size rows)) μ:=by
 intro a w I hH hops K Q k
 obtain ⟨us,hrun,hc,hul⟩:=zSk (X:=X) (I:=I) ho ht hz hlim hidx hlen hrows hops
 have hl:parts.length=len:=bj hlen
 obtain ⟨hrl,hrs⟩:=qz hrows
 simp only [jh] at hrl
 have hpos:=(wQ ht).2
 obtain ⟨_,_,_,_,_,_,_,hpos⟩:=hpos
 let w':=w.alloc (.cells us.toArray et)
 have hsz:w'.heap.size=w.heap.size+1:=by show (w.heap.push _).size=_;simp
 have hold:∀b,b<w.heap.size->w'.heap[b]? =w.heap[b]? :=λb hb=>Below.heap_alloc w _ b hb
 let I':Nat->Prop:=λb=>I b∨b=w.heap.size
 have hII:∀b,I b->I' b:=λb h=>.inl h
 have still:∀b,I b->w'.heap[b]? =w.heap[b]? :=λb hb=>hold b (hH.imm b hb)
 have hH':Heap X w' I' μ:=by
  refine ⟨by have:=hH.lo;omega,X.hG _ _ (λb hb=>hold b xJ5) hH.glob,hH.nodup,λb hb=>⟨(hH.own b hb).1,?_⟩,?_,λen hen=>?_,hH.mono⟩
  ·rintro (h|h)
   ·exact (hH.own b hb).2 h
   ·have:=hH.lt hb;omega
  ·rintro b (h|h)
   ·have:=hH.imm b h;omega
   ·omega
  ·exact (hH.rep en hen).mono (hH.mono en hen) still hII λb hb=>hold b ((hH.rep en hen).lt hb)
 have hx':Ext w I μ w' I' μ:=⟨rfl,rfl,rfl,zB,λb hb _=>hold b hb,hII,λb hb=>hb.imp id λh=>.inr zB,λb hb=>.inl hb⟩
 refine LV hrun (k _ _ μ I' w' ⟨rfl,rfl⟩ ?_ hH' hx')
 have hcell:∀j u,us[j]? =some u->w'.cell? ⟨w.heap.size,j,none⟩=some u:=λj u hj=>by
  rw [kj w' w.heap.size j us.toArray et (0,0) (d8 w _)]
  simpa using hj
 have hc':CReps w' I' rows.flatten us:=hc.mono still hII
 have hat:∀(i:Nat) r,rows[i]? =some r->∀(j:Nat) c,r[j]? =some c->∃u,us[i*size+j]? =some u/\CRep w' I' c u:=by
  intro i r hi j c hj
  obtain ⟨A,B,e',hA⟩:=uQ hrs hi
  rw [e'] at hc'
  refine hc'.at_ ?_
  exact v88
 show CRep w' I' (.sl size rows) (.slice (some ⟨w.heap.size,0,none⟩) len len)
 have hlr:len=rows.length:=by omega
 rw [hlr]
 refine .sl size rows _ _ (λi j=>(us[i*size+j]?).getD undef) (.inr rfl) hrs (aC _) (λi j hi hj=>?_) (λi r hi j c hj=>?_)
 ·obtain ⟨u,hu,_⟩:=hat i rows[i] (ak hi) j ((rows[i])[j]'(by rw [hrs _ (jb hi)];exact hj)) (ak _)
  rw [S5,cd,hcell _ u hu,hu]
  rfl
 ·obtain ⟨u,hu,hcu⟩:=hat i r hi j c hj
  simp only [hu,dl]
  exact hcu
def yT {n_:Nat} {z_:Z} {Q_:Exit->S->Prop} {rs:List (Nat×V)} {os:Array Oper} {re:List Oper} {d_:Tmp} {et:nr} {size bytes len:Nat} {zs:List Value} {parts:List (Nat×ns)} {rows:List (List C)} (hd:(so o,o.op,Nat.ble (len*size) 16777216,tR 0 parts,Nat.beq parts.length len,mR size (parts.map λp=>(ev rs) p.2))=(some d_,.buildSlice t len parts.toArray,true,true,true,some rows)) (ht:dW X.P t=some (et,size,bytes)) (hz:dZ X.P et=some zs) (k_:oX X n_ z_ os re Q_ ⟨(d_,(.c (.sl size rows)))::rs,μ⟩):oX X n_ z_ os (o::re) Q_ ⟨rs,μ⟩:=by
 simp only [aO] at hd
 obtain ⟨h_,q0,q3,q4,q5,q6⟩:=hd
 exact ua (qm h_).1 (qm h_).2 (kV (e:=ev rs) q0 ht hz q3 q4 q5 q6) k_
end lits
variable {X:Cfg} {n:Nat}
def St.drew {z:Z} {σ:S} {a:Act} {w:World} (h:St X n z σ a w):St X n z σ a { w with drawn:=w.drawn+1 }:=by
 obtain ⟨I,hH,hR,hx,hd,hs⟩:=h
 have same:∀b:Nat,({ w with drawn:=w.drawn+1 }:World).heap[b]? =w.heap[b]? :=λ_=>rfl
 refine ⟨I,⟨hH.lo,X.hG w _ (λb _=>same b) hH.glob,hH.nodup,hH.own,hH.imm,λe he=>(hH.rep e he).mono (hH.mono e he) (λb _=>same b) (λ_ h=>h) λb _=>same b,hH.mono⟩,λt=>(hR t).mono (λb _=>same b) λ_ h=>h,⟨hx.os,hx.tape,hx.output,hx.size,λb hb hm=>hx.block b hb hm,hx.imm,hx.imm',hx.own'⟩,hd,hs⟩
def mW (X:Cfg) (n:Nat) (ops:Array Oper) (o:Oper) (regs:List (Nat×V)) (μ:List E) (r:V):Prop:=
 ∀(a:Act) (w:World) (I:Nat->Prop),Heap X w I μ->(∀t,t∈o.looksAt ops->VRep w I (bJ regs t) (a.tmps.getD t undef))->a.tmps.size=n->
  ∀(K:Act->World->Prop) (Q:Exit->Act->World->Prop),(∀v I' w',VRep w' I' r v->Heap X w' I' μ->Ext w I μ w' I' μ->K (a.put o.dst v) w')->
   if Region.wanted o (yielded ops a.tmps) then OW X.P o a w K Q else K (a.put o.dst undef) w
variable {o:Oper}
def xw {ops:Array Oper} {t:Tmp} (h:Operand.tmp t∈o.op.operands):t∈o.looksAt ops:=by
 unfold Oper.looksAt
 refine aq.2 (.inl (iw.2 ⟨.tmp t,by simpa using h,rfl⟩))
def zKw {w:World} {I:Nat->Prop} {regs:List (Nat×V)} {a:Act} {ops:Array Oper} (h:∀t,t∈o.looksAt ops->VRep w I (bJ regs t) (a.tmps.getD t undef)) (x:ns) (hx:x∈o.op.operands):VRep w I (ev regs x) (a.eval x):=by
 cases x with
 |tmp t=>exact h t (xw hx)
 |const v=>exact zTv w I v
 |global g=>exact CRep.lit _ rfl
 |func f=>exact CRep.fn (.func f) [] [] [] [] rfl rfl (λj c u hc=>by simp at hc) (λj c u hc=>by simp at hc)
def WZ {ops:Array Oper} {regs:List (Nat×V)} {μ:List E} {r:V} (hg:o.guard=none) (h:Det X o (ev regs) μ r μ):mW X n ops o regs μ r:=by
 intro a w I hH hR hs K Q k
 rw [ab (by simp [Region.wanted,hg])]
 refine h a w I hH (zKw hR) K Q ?_
 rintro v r' μ' I' w' ⟨rfl,rfl⟩ hv hH' hx
 exact k v I' w' hv hH' hx
def FP {w:World} {I:Nat->Prop} {g:Bool} (hg:g=true) {regs:List (Nat×V)} {a:Act} {L:List Nat} (hR:∀t,t∈L->VRep w I (bJ regs t) (a.tmps.getD t undef)):∀{ov:List (Nat×V)},cL g regs ov->∀t,t∈L->VRep w I (bJ (ov++regs) t) (a.tmps.getD t undef)
 |[],_,t,ht=>hR t ht
 |(d,y)::r,h,t,ht=>by
  rw [jc,Oj]
  split
  ·rename_i e
   subst e
   have h1:=hR d ht
   rw [h.1] at h1
   exact V.ifv_rep hg h.2.1 h1
  ·exact FP hg hR h.2.2 t ht
variable {j:Nat}
def Mr {ops:Array Oper} {regs:List (Nat×V)} {μ:List E} {r:V} {d:Nat} {want g:Bool} (ov:List (Nat×V)) (hg:o.guard=some (j,want)) (hj:(ops[j]?).bind (·.dst)=some d) (hdn:Nat.blt d n=true) (hb:rY (bJ regs d) want g) (hov:cL g regs ov) (h:g=true->Det X o (ev (ov++regs)) μ r μ) (hpl:r.plain=true):mW X n ops o regs μ (.ifv g r):=by
 intro a w I hH hR hs K Q k
 have hlt:d<n:=by simpa [cr] using hdn
 have hdl:d∈o.looksAt ops:=by
  unfold Oper.looksAt
  refine aq.2 (.inr ?_)
  simp [hg,hj]
 have hw:Region.wanted o (yielded ops a.tmps)=g:=by
  have hR2:∀t,VRep w I (bJ [(d,bJ regs d)] t) (a.tmps.getD t undef):=λt=>by
   rw [Oj]
   split
   ·rename_i e;subst e;exact hR d hdl
   ·trivial
  refine G0 hR2 hs hg hj hlt ?_
  rw [Oj,ab rfl]
  exact hb
 rw [hw]
 cases hgv:g
 ·rw [aa uF]
  refine k undef I w ?_ hH (Ext.refl _ _ _)
  show V1Rep w I (.ifv g r) undef
  exact ⟨λh=>absurd (hgv.symm.trans h) uF,λ_=>rfl⟩
 ·rw [ab rfl]
  refine h hgv a w I hH (zKw (FP hgv hR hov)) K Q ?_
  rintro v r' μ' I' w' ⟨rfl,rfl⟩ hv hH' hx
  refine k v I' w' ?_ hH' hx
  show V1Rep w' I' (.ifv g r') v
  refine ⟨λ_=>?_,λh=>absurd (hgv.symm.trans h) uF⟩
  cases r' with
  |c y=>exact hv
  |agg l=>exact hv
  |un=>trivial
  |tup l=>cases hpl
  |ifv b x=>cases hpl
def TD (X:Cfg) (n:Nat) (ops:Array Oper) (μ:List E):List Oper->List (Nat×V)->(List (Nat×V)->Prop)->Prop
 |[],regs,K=>K regs
 |o::rest,regs,K=>∃r,mW X n ops o regs μ r/\TD X n ops μ rest (lF o.dst r regs) K
section rules
variable {X:Cfg} {n:Nat} {ops:Array Oper} {μ:List E} {o:Oper} {rest:List Oper} {regs:List (Nat×V)} {K:List (Nat×V)->Prop}
def yY (h:K regs):TD X n ops μ [] regs K:=h
def zO {r:V} {d:Tmp} (hd:o.dst=some d) (hg:o.guard=none) (h:Det X o (ev regs) μ r μ) (k:TD X n ops μ rest ((d,r)::regs) K):TD X n ops μ (o::rest) regs K:=
 ⟨r,WZ hg h,by rw [hd];exact k⟩
def ou {r:V} {d:Tmp} (q:so o=some d) (h:Det X o (ev regs) μ r μ) (k:TD X n ops μ rest ((d,r)::regs) K):TD X n ops μ (o::rest) regs K:=zO (qm q).1 (qm q).2 h k
def qR {r:V} {t j d:Nat} {want g:Bool} (ov:List (Nat×V)) (ht:o.dst=some t)
  (hg:o.guard=some (j,want)) (hj:(ops[j]?).bind (·.dst)=some d) (hdn:Nat.blt d n=true) (hb:rY (bJ regs d) want g) (hov:cL g regs ov)
  (h:g=true->Det X o (ev (ov++regs)) μ r μ) (hpl:r.plain=true) (k:TD X n ops μ rest ((t,.ifv g r)::regs) K):TD X n ops μ (o::rest) regs K:=
 ⟨.ifv g r,Mr ov hg hj hdn hb hov h hpl,by rw [ht];exact k⟩
end rules
def dA:List Oper->List V->List (Nat×V)->List (Nat×V)
 |o::l,r::rs,regs=>dA l rs (lF o.dst r regs)
 |_,_,regs=>regs
def TD.parts {X:Cfg} {n:Nat} {ops:Array Oper} {μ:List E} {K:List (Nat×V)->Prop}:∀{l:List Oper} {regs:List (Nat×V)},TD X n ops μ l regs K->
  ∃rs:List V,rs.length=l.length/\(∀(i:Nat) o r,l[i]? =some o->rs[i]? =some r->mW X n ops o (dA (l.take i) (rs.take i) regs) μ r)/\K (dA l rs regs)
 |[],regs,h=>⟨[],rfl,λi o r h=>by simp at h,h⟩
 |o::l,regs,⟨r,hr,h⟩=>by
  obtain ⟨rs,h1,h2,h3⟩:=TD.parts h
  refine ⟨r::rs,by simp [h1],λi o' r' ho hr'=>?_,h3⟩
  cases i with
  |zero=>simp at ho hr';subst ho hr';exact hr
  |succ i=>exact h2 i o' r' Ox WN
def bL:List Oper->List V->(Nat->Bool)->V->Nat->V
 |o::l,r::rs,f,dflt,t=>bL l rs (λi=>f (i+1)) (if f 0=true/\o.dst=some t then r else dflt) t
 |_,_,_,dflt,_=>dflt
def wP {t:Nat}:∀{l:List Oper} {rs:List V} {f g:Nat->Bool} {d:V},(∀(i:Nat) o,l[i]? =some o->o.dst=some t->f i=g i)->bL l rs f d t=bL l rs g d t
 |[],_,_,_,_,_=>by simp [bL]
 |_::_,[],_,_,_,_=>by simp [bL]
 |o::l,r::rs,f,g,d,h=>by
  simp only [bL]
  have h0:(f 0=true/\o.dst=some t)↔(g 0=true/\o.dst=some t):=by
   constructor
   ·rintro ⟨h1,h2⟩;exact ⟨by rw [<-h 0 o rfl h2];exact h1,h2⟩
   ·rintro ⟨h1,h2⟩;exact ⟨by rw [h 0 o rfl h2];exact h1,h2⟩
  simp only [h0]
  exact wP λi o' ho hd=>h (i+1) o' Ox hd
def WU {t:Nat}:∀{l:List Oper} {rs:List V} {f:Nat->Bool} {d:V},(∀(i:Nat) o,l[i]? =some o->f i=true->o.dst≠some t)->bL l rs f d t=d
 |[],_,_,_,_=>by simp [bL]
 |_::_,[],_,_,_=>by simp [bL]
 |o::l,r::rs,f,d,h=>by
  simp only [bL]
  rw [aa (λhh=>h 0 o rfl hh.1 hh.2)]
  exact WU λi o' ho hf=>h (i+1) o' Ox hf
def VF {t:Nat}:∀{l:List Oper} {rs:List V} {regs:List (Nat×V)} (i:Nat),bJ (dA (l.take i) (rs.take i) regs) t=bL l rs (λj=>decide (j<i)) (bJ regs t) t
 |[],_,_,i=>by simp [dA,bL]
 |_::_,[],_,i=>by cases i<;>simp [dA,bL]
 |o::l,r::rs,regs,0=>by
  simp only [aS,dA,bL]
  rw [aa uF]
  exact (WU λi o' _ hf=>by simp at hf).symm
 |o::l,r::rs,regs,i+1=>by
  simp only [av,dA,bL]
  rw [VF i]
  have e:bJ (lF o.dst r regs) t=if (decide (0<i+1)=true/\o.dst=some t) then r else bJ regs t:=by
   cases hd:o.dst with
   |none=>simp [lF]
   |some d=>
    simp only [lF]
    rw [Oj]
    by_cases h:d=t<;>simp [h]
  rw [e]
  congr 1
  funext j
  simp
def Z3 {t:Nat}:∀{l:List Oper} {rs:List V} {f:Nat->Bool} {d:V} {i:Nat} {o:Oper} {r:V},l[i]? =some o->rs[i]? =some r->(∀(j:Nat) o',l[j]? =some o'->j≠i->o.dst≠none->o'.dst≠o.dst)->
  bL l rs (λj=>if j=i then true else f j) d t=if o.dst=some t then r else bL l rs (λj=>if j=i then false else f j) d t
 |[],_,_,_,i,o,r,h,_,_=>by simp at h
 |_::_,[],_,_,i,o,r,_,h,_=>by simp at h
 |o0::l,r0::rs,f,d,0,o,r,ho,hr,hu=>by
  simp only [gm,ay] at ho hr
  subst ho hr
  simp only [bL]
  by_cases hd:o0.dst=some t
  ·rw [ab (by simp [hd]),ab hd]
   refine WU λj o' hj _ hd'=>hu (j+1) o' xJ8 zB (by simp [hd]) (by rw [hd',hd])
  ·rw [aa (by simp [hd]),aa hd,aa uF]
   rfl
 |o0::l,r0::rs,f,d,i+1,o,r,ho,hr,hu=>by
  have ih:=Z3 (t:=t) (l:=l) (rs:=rs) (f:=λj=>f (j+1)) (d:=if f 0=true/\o0.dst=some t then r0 else d) (i:=i) Ox (by simpa using hr) (λj o' hj hne hnn=>hu (j+1) o' xJ8 zB hnn)
  simp only [bL]
  have e1:(if (0:Nat)=i+1 then true else f 0)=f 0:=aa zB
  have e2:(if (0:Nat)=i+1 then false else f 0)=f 0:=aa zB
  simp only [e1,e2]
  have e3:(λj=>if j+1=i+1 then true else f (j+1))=(λj=>if j=i then true else f (j+1)):=by funext j;simp
  have e4:(λj=>if j+1=i+1 then false else f (j+1))=(λj=>if j=i then false else f (j+1)):=by funext j;simp
  simp only [e3,e4]
  exact ih
def pR (o:Oper) (j:Nat):Bool:=o.after.any λe=>Nat.beq e.on j&&Region.binds .any e
def ZY (h:pR o j=true):∃e,e∈o.after/\e.on=j/\Region.binds .any e=true:=by
 unfold pR at h
 rw [Array.any_eq_true] at h
 obtain ⟨i,hi,he⟩:=h
 simp only [ae] at he
 exact ⟨_,ne hi,bj he.1,he.2⟩
def mN (l:List Oper):Nat->Nat->Nat->Bool
 |0,_,_=>false
 |f+1,s,i=>match nth l s with
  |some o=>pR o i||(List.range s).any λj=>pR o j&&mN l f j i
  |none=>false
def rL (l:List Oper) (listed:Array Bool):Prop:=∀(j:Nat) o,l[j]? =some o->listed.getD j true=true->∀e,e∈o.after->Region.binds .any e=true->listed.getD e.on false=true
variable {listed:Array Bool}
def zPq (h:listed.getD j false=true):listed.getD j true=true:=by
 rw [au] at h⊢
 cases hj:listed[j]? with
 |none=>rw [hj] at h;cases h
 |some b=>rw [hj] at h;exact h
def zGt {l:List Oper} {listed:Array Bool} (hc:rL l listed):∀(f s i:Nat),mN l f s i=true->listed.getD s true=true->listed.getD i false=true
 |0,_,_,h,_=>by simp [mN] at h
 |f+1,s,i,h,hs=>by
  unfold mN at h
  split at h
  ·rename_i o ho
   rw [Hb] at ho
   simp only [aD,cn,ae] at h
   rcases h with h|⟨j,_,h1,h2⟩
   ·obtain ⟨e,he1,he2,he3⟩:=ZY h
    have:=hc s o ho hs e he1 he3
    rwa [he2] at this
   ·obtain ⟨e,he1,he2,he3⟩:=ZY h1
    have h3:=hc s o ho hs e he1 he3
    rw [he2] at h3
    exact zGt hc f j i h2 (zPq h3)
  ·cases h
variable {l:List Oper} {i:Nat}
def ST (hc:rL l listed) {f s:Nat} (ho:l[s]? =some o) (hedge:∀e,e∈o.after->Region.binds .any e=true->listed.getD e.on false=true) (h:mN l (f+1) s i=true):listed.getD i false=true:=by
 unfold mN at h
 rw [Hb,ho] at h
 simp only [aD,cn,ae] at h
 rcases h with h|⟨j,_,h1,h2⟩
 ·obtain ⟨e,he1,he2,he3⟩:=ZY h
  have:=hedge e he1 he3
  rwa [he2] at this
 ·obtain ⟨e,he1,he2,he3⟩:=ZY h1
  have h3:=hedge e he1 he3
  rw [he2] at h3
  exact zGt hc f j i h2 (zPq h3)
def pS (l:List Oper) (m:Nat):Bool:=
 l.zipIdx.all λp=>
  p.1.after.all (λe=> !Region.binds .any e||Nat.blt e.on p.2)&&
  cond (Nat.blt p.2 m)
   ((p.1.looksAt l.toArray).all (λt=>l.zipIdx.all λq=> !Nat.blt q.2 m|| !(q.1.dst==some t)||(Nat.blt q.2 p.2&&pR p.1 q.2)||(Nat.blt p.2 q.2&&pR q.1 p.2))&&
    l.zipIdx.all λq=> !Nat.blt q.2 m||Nat.beq q.2 p.2||p.1.dst==none|| !(q.1.dst==p.1.dst))
   (cond (Nat.beq p.2 m) ((List.range m).all (mN l 40 m)) (pR p.1 (p.2-1)))
structure DrawOk (l:List Oper) (m:Nat):Prop where
 back:∀(i:Nat) o,l[i]? =some o->∀e,e∈o.after->Region.binds .any e=true->e.on<i
 looks:∀(i:Nat) o,l[i]? =some o->i<m->∀t,t∈o.looksAt l.toArray->∀(j:Nat) o',l[j]? =some o'->j<m->o'.dst=some t->(j<i/\∃e,e∈o.after/\e.on=j/\Region.binds .any e=true)∨(i<j/\∃e,e∈o'.after/\e.on=i/\Region.binds .any e=true)
 own:∀(i:Nat) o,l[i]? =some o->i<m->∀(j:Nat) o',l[j]? =some o'->j<m->j≠i->o.dst≠none->o'.dst≠o.dst
 tail1:∀(i:Nat) o,l[i]? =some o->m<i->∃e,e∈o.after/\e.on=i-1/\Region.binds .any e=true
 tail0:∀o,l[m]? =some o->∀j,j<m->mN l 40 m j=true
def VP (h:l[i]? =some o):(o,i)∈l.zipIdx:=by
 rw [List.mem_zipIdx_iff_getElem?]
 exact h
def wk {m:Nat} (h:pS l m=true):DrawOk l m:=by
 unfold pS at h
 rw [aT] at h
 refine ⟨λi o ho e he hb=>?_,λi o ho him t ht j o' ho' hjm hd=>?_,λi o ho him j o' ho' hjm hne hnn=>?_,λi o ho him=>?_,λo ho j hj=>?_⟩
 ·have h1:=h _ (VP ho)
  simp only [ae] at h1
  have h2:=h1.1
  rw [ec] at h2
  have h3:=h2 e he
  simp only [hb,aU,dq] at h3
  simpa [cr] using h3
 ·have h1:=h _ (VP ho)
  simp only [ae,show Nat.blt i m=true from by simpa [cr] using him,aB] at h1
  have h2:=h1.2.1
  rw [aT] at h2
  have h3:=h2 t ht
  rw [aT] at h3
  have h4:=h3 _ (VP ho')
  simp only [show Nat.blt j m=true from by simpa [cr] using hjm,hd,ng,aU,dq,aD,ae] at h4
  rcases h4 with h4|h4
  ·exact .inl ⟨by simpa [cr] using h4.1,ZY h4.2⟩
  ·exact .inr ⟨by simpa [cr] using h4.1,ZY h4.2⟩
 ·have h1:=h _ (VP ho)
  simp only [ae,show Nat.blt i m=true from by simpa [cr] using him,aB] at h1
  have h2:=h1.2.2
  rw [aT] at h2
  have h4:=h2 _ (VP ho')
  have hbeq:Nat.beq j i=false:=by cases hb:Nat.beq j i;rfl;exact absurd (bj hb) hne
  have hnone:(o.dst==none)=false:=by cases hod:o.dst with
   |none=>exact absurd hod hnn
   |some d=>rfl
  simp only [show Nat.blt j m=true from by simpa [cr] using hjm,hbeq,hnone,aU,dq,aA,ij] at h4
  exact h4
 ·have h1:=h _ (VP ho)
  have hbl:Nat.blt i m=false:=by cases hb:Nat.blt i m;rfl;rw [cr] at hb;omega
  have hbe:Nat.beq i m=false:=by cases hb:Nat.beq i m;rfl;have:=bj hb;omega
  simp only [ae,hbl,hbe,aw] at h1
  exact ZY h1.2
 ·have h1:=h _ (VP ho)
  have hbl:Nat.blt m m=false:=by cases hb:Nat.blt m m;rfl;rw [cr] at hb;omega
  have hbe:Nat.beq m m=true:=Nat.beq_eq ▸ rfl
  simp only [ae,hbl,hbe,aw,aB] at h1
  have h2:=h1.2
  rw [aT] at h2
  exact h2 j (cw.2 hj)
def B2 (listed:Array Bool):Nat:=listed.toList.count false
def OD (h:listed.getD i true=false):B2 (listed.setIfInBounds i true)+1=B2 listed:=by
 have hlt:i<listed.size:=by
  rcases bz i listed.size with h'|h'
  ·exact h'
  ·simp [Array.getElem?_eq_none h'] at h
 have hi:listed[i]=false:=by simpa [hlt] using h
 unfold B2
 rw [Array.toList_setIfInBounds]
 have hlt':i<listed.toList.length:=by simpa using hlt
 rw [ez,ab hlt']
 have e:listed.toList=listed.toList.take i++listed.toList[i]::listed.toList.drop (i+1):=by
  rw [<-ed hlt',aZ]
 have e2:listed.toList[i]=false:=by simpa using hi
 rw [e2] at e
 generalize listed.toList.take i=A at e⊢
 generalize listed.toList.drop (i+1)=B at e⊢
 rw [e]
 simp [mw]
 omega
section draw
variable {X:Cfg} {n:Nat} {z:Z} {Q:Exit->S->Prop} {regs:List (Nat×V)} {μ:List E} {l:List Oper} {m:Nat}
def SZ {z1:Z} (ok:DrawOk l m):∀(fuel p:Nat) (listed:Array Bool) (a:Act) (w:World),listed.size=l.length->m<=p->p<=l.length->(∀i,i<l.length->listed.getD i true=decide (i<p))->l.length=p+fuel->wpListIn (se z.rd) 0 X.P l.toArray (dY X n z1 Q) (l.drop p) a w->
  wpAnyIn (se z.rd) 0 X.P .any l.toArray (dY X n z1 Q) fuel listed a w:=by
 intro fuel
 induction fuel with
 |zero=>
  intro p listed a w hsz hmp hpl hl hf h
  have hp:p=l.length:=by omega
  subst hp
  rw [ib] at h
  refine ⟨?_,h⟩
  apply List.eq_nil_iff_forall_not_mem.2
  intro i hi
  rw [fw] at hi
  obtain ⟨h0,o,ho,_⟩:=hi
  have hlt:i<l.length:=by simpa using (bv.1 ho).1
  rw [hl i hlt] at h0
  simp at h0
  omega
 |succ fuel ih=>
  intro p listed a w hsz hmp hpl hl hf h
  have hplt:p<l.length:=by omega
  have hop:l[p]? =some l[p]:=ak hplt
  have only:∀i,i∈Region.ready .any l.toArray listed->i=p:=by
   intro i hi
   rw [fw] at hi
   obtain ⟨h0,o,ho,he⟩:=hi
   have hlt:i<l.length:=by simpa using (bv.1 ho).1
   rw [hl i hlt] at h0
   have hip:¬i<p:=by simpa using h0
   rcases bz p i with hpi|hpi
   ·obtain ⟨e,he1,he2,he3⟩:=ok.tail1 i o Ox zB
    have h1:=he e he1 he3
    rw [he2] at h1
    have h2:=hl (i-1) zB
    have hnp:¬i-1<p:=by omega
    rw [au] at h1 h2
    rw [aN zB] at h1 h2
    simp only [dl,hnp,lh] at h1 h2
    rw [h1] at h2
    cases h2
   ·omega
  rw [ed hplt] at h
  refine ⟨λhnil=>?_,λi hi=>?_⟩
  ·exfalso
   have:p∈Region.ready .any l.toArray listed:=by
    rw [fw]
    refine ⟨by rw [hl p hplt];simp,l[p],by simp [hplt],λe he hb=>?_⟩
    have hlt:=ok.back p l[p] hop e he hb
    have h2:=hl e.on zB
    rw [au] at h2⊢
    rw [aN zB] at h2⊢
    simpa [hlt] using h2
   rw [hnil] at this
   simp at this
  ·have hip:=only i hi
   subst hip
   have hget:(l.toArray)[i]? =some l[i]:=by simp [hplt]
   simp only [wpOpIn,hget]
   have hl':∀j,j<l.length->(listed.setIfInBounds i true).getD j true=decide (j<i+1):=by
    intro j hj
    rw [au,dy]
    by_cases hji:i=j
    ·subst hji;simp [hsz,hj]
    ·rw [aa hji,<-au,hl j hj]
     exact dk.2 zB
   have next:=λa w=>ih (i+1) (listed.setIfInBounds i true) a w Sj zB zB hl' zB
   unfold wpListIn at h
   split
   ·rename_i hw
    rw [ab hw] at h
    exact Oper.wpIn_mono next h
   ·rename_i hw
    rw [aa hw] at h
    exact ⟨h.1,next _ _ h.2⟩
def HM {z1:Z} (hz:ZLe z z1) (ok:DrawOk l m) (hml:m<=l.length) (hdst:l.all (dstOk n)=true) {rs:List V} (hrs:rs.length=m) (hg:∀(i:Nat) o r,(l.take m)[i]? =some o->rs[i]? =some r->mW X n l.toArray o (dA ((l.take m).take i) (rs.take i) regs) μ r)
  (hk:oX X n z l.toArray (l.drop m) Q ⟨dA (l.take m) rs regs,μ⟩):∀(fuel:Nat) (listed:Array Bool) (a:Act) (w:World) (I:Nat->Prop),listed.size=l.length->B2 listed=fuel->(∀i,m<=i->i<l.length->listed.getD i true=false)->
   (∀(j:Nat) o,l[j]? =some o->listed.getD j true=true->∀e,e∈o.after->Region.binds .any e=true->listed.getD e.on false=true)->
   Heap X w I μ->(∀t,VRep w I (bL (l.take m) rs (λi=>listed.getD i true) (bJ regs t) t) (a.tmps.getD t undef))->Ext z1.w z1.I z1.μ w I μ->a.defers=z1.ds->a.tmps.size=n->
   wpAnyIn (se z.rd) 0 X.P .any l.toArray (dY X n z1 Q) fuel listed a w:=by
 intro fuel
 induction fuel with
 |zero=>
  intro listed a w I hsz hun htail hclo hH hR hx hd hs
  have hall:∀i,i<l.length->listed.getD i true=true:=by
   intro i hi
   cases hb:listed.getD i true with
   |true=>rfl
   |false=>have:=OD hb;omega
  have hml':m=l.length:=by
   rcases bz m l.length with h|h
   ·have h1:=htail m (aC _) h;rw [hall m h] at h1;cases h1
   ·omega
  refine SZ ok 0 l.length listed a w hsz hml (aC _) (λi hi=>by rw [hall i hi];simp [hi]) zB ?_
  have hreg:∀t,VRep w I (bJ (dA (l.take m) rs regs) t) (a.tmps.getD t undef):=by
   intro t
   have e:=VF (l:=l.take m) (rs:=rs) (regs:=regs) (t:=t) m
   rw [cz,io,aE (l:=rs) zB] at e
   rw [e]
   have:=hR t
   rwa [wP (g:=λj=>decide (j<m)) (λi o ho _=>by
    have hlt:i<m:=by have:=(af.1 ho).1;simp at this;omega
    rw [hall i zB];simp [hlt])] at this
  have:=hk (by rw [hml'];simp) z1 hz a w ⟨I,hH,hreg,hx,hd,hs⟩
  rwa [hml'] at this
 |succ fuel ih=>
  intro listed a w I hsz hun htail hclo hH hR hx hd hs
  by_cases hq:∀i,i<m->listed.getD i true=true
  ·-- all quiet ones have run
   refine SZ ok (fuel+1) m listed a w hsz (aC _) hml (λi hi=>?_) ?_ ?_
   ·by_cases him:i<m
    ·rw [hq i him];simp [him]
    ·rw [htail i zB hi];simp [him]
   ·-- the number that is left
    exact s6
   ·have hreg:∀t,VRep w I (bJ (dA (l.take m) rs regs) t) (a.tmps.getD t undef):=by
     intro t
     have e:=VF (l:=l.take m) (rs:=rs) (regs:=regs) (t:=t) m
     rw [cz,io,aE (l:=rs) zB] at e
     rw [e]
     have:=hR t
     rwa [wP (g:=λj=>decide (j<m)) (λi o ho _=>by
      have hlt:i<m:=by have:=(af.1 ho).1;simp at this;omega
      rw [hq i hlt];simp [hlt])] at this
    exact hk (by
     rw [aT] at hdst⊢
     exact λo ho=>hdst o (jm ho)) z1 hz a w ⟨I,hH,hreg,hx,hd,hs⟩
  ·-- a quiet one is left
   have hex:∃i,i<m/\listed.getD i true=false/\∀j,j<i->listed.getD j true=true:=by
    exact j7
   obtain ⟨i0,hi0,hb0,hmin⟩:=hex
   refine ⟨λhnil=>?_,λi hi=>?_⟩
   ·exact s7
   ·rw [fw] at hi
    obtain ⟨hbi,o,ho,hedge⟩:=hi
    have ho':l[i]? =some o:=by simpa using ho
    have hil:i<l.length:=(af.1 ho').1
    have him:i<m:=by
     exact l7
    have hot:(l.take m)[i]? =some o:=by rw [az,ab him];exact ho'
    obtain ⟨r,hr⟩:∃r,rs[i]? =some r:=⟨rs[i]'zB,ak _⟩
    have hG:=hg i o r hot hr
    have hlook:∀t,t∈o.looksAt l.toArray->VRep w I (bJ (dA ((l.take m).take i) (rs.take i) regs) t) (a.tmps.getD t undef):=by
     exact p9
    have hdo:dstOk n o=true:=by
     rw [aT] at hdst
     exact hdst o (bw ho')
    simp only [wpOpIn,ho]
    have step:∀v I' w',VRep w' I' r v->Heap X w' I' μ->Ext w I μ w' I' μ->wpAnyIn (se z.rd) 0 X.P .any l.toArray (dY X n z1 Q) fuel (listed.setIfInBounds i true) (a.put o.dst v) w':=by
     intro v I' w' hv hH' hx'
     have hu:=OD hbi
     refine ih (listed.setIfInBounds i true) _ w' I' Sj zB (λj hj hjl=>?_) (λj oj hoj hb e he1 he3=>?_) hH' (λt=>?_) (hx.trans hx') ?_ ?_
     ·rw [fg true zB];exact htail j hj hjl
     ·exact v6
     ·have hvs:=Z3 (t:=t) (l:=l.take m) (rs:=rs) (f:=λj=>listed.getD j true) (d:=bJ regs t) hot hr (λj o' hj hne hnn=>by
       have hjm:j<m:=by have:=(af.1 hj).1;simp at this;omega
       exact ok.own i o ho' him j o' xV4 hjm hne hnn)
      have e1:(λj=>(listed.setIfInBounds i true).getD j true)=(λj=>if j=i then true else listed.getD j true):=by
       funext j
       exact m5
      have e2:(λj=>if j=i then false else listed.getD j true)=(λj=>listed.getD j true):=by
       funext j
       exact v61
      rw [e1,hvs,e2]
      cases hod:o.dst with
      |none=>
       rw [aa uF]
       exact hH.vrep hx' (hR t)
      |some d=>
       exact o4
     ·cases hod:o.dst<;>simp [Act.put,hd]
     ·cases hod:o.dst<;>simp [Act.put,hs]
    exact o8
def yE {id:Nat} (m:Nat) (hm:X.P.follows .mixedOrders=true) (hchk:pS l m=true) (hml:Nat.ble m l.length=true) (hd:l.all (dstOk n)=true)
  (h:TD X n l.toArray μ (l.take m) regs λregs'=>oX X n z l.toArray (l.drop m) Q ⟨regs',μ⟩):oU X n z (.region id l.toArray true) Q ⟨regs,μ⟩:=by
 intro z1 hz a w s
 obtain ⟨I,hH,hR,hx,hdf,hs⟩:=s.drew
 obtain ⟨rs,h1,h2,h3⟩:=h.parts
 have hml':=ci hml
 refine ie hm ?_
 refine HM hz (rs:=rs) (regs:=regs) (wk hchk) hml' hd (by rw [h1];simp;omega) h2 h3 _ _ a _ I uF ?_ (λi _ hi=>by simp [hi]) (λj o ho hb=>by
  have hlt:j<l.length:=(af.1 ho).1
  simp [hlt] at hb) hH (λt=>?_) hx hdf hs
 ·unfold B2
  simp
 ·exact v14
end draw
abbrev vI (n:Int):V:=.c (.lit (.int .i64 n))
abbrev vB (b:Bool):V:=.c (.lit (.bool b))
abbrev vS (s:nq):V:=.c (.lit (.string s))
abbrev cI (n:Int):C:=.lit (.int .i64 n)
abbrev cB (b:Bool):C:=.lit (.bool b)
abbrev cS (s:nq):C:=.lit (.string s)
def VLe.un (x:V):VLe x .un:=λ_ _ _ _=>trivial
def cQ (n:Int):Prop:= -9223372036854775808<=n/\n<=9223372036854775807
def VO {n:Int} (h:cQ n):IntKind.i64.wrap n=n:=by
 unfold cQ at h
 exact IntWalk.i64_in n h
section nw
variable {X:Cfg} {o:Oper} {e:ns->V} {μ:List E} {t ty:nr} {x y:ns} {a b:Int}
def zKb (ho:o.op=.binOp .add t x y ty) (hx:e x=.c (.lit (.int .i64 a))) (hy:e y=.c (.lit (.int .i64 b))) (h:cQ (a+b)):Det X o e μ (.c (.lit (.int .i64 (a+b)))) μ:=by
 have:=qAj (X:=X) (μ:=μ) ho hx hy
 rwa [VO h] at this
def qH {n_:Nat} {z_:Z} {Q_:Exit->S->Prop} {rs:List (Nat×V)} {os:Array Oper} {re:List Oper} {d_:Tmp} (hd:(so o,o.op,(ev rs) x,(ev rs) y)=(some d_,.binOp .add t x y ty,.c (.lit (.int .i64 a)),.c (.lit (.int .i64 b)))) (h:cQ (a+b)) (k_:oX X n_ z_ os re Q_ ⟨(d_,(.c (.lit (.int .i64 (a+b)))))::rs,μ⟩):oX X n_ z_ os (o::re) Q_ ⟨rs,μ⟩:=by
 simp only [aO] at hd
 obtain ⟨h_,q0,q1,q2⟩:=hd
 exact ua (qm h_).1 (qm h_).2 (zKb (e:=ev rs) q0 q1 q2 h) k_
def yM (ho:o.op=.binOp .sub t x y ty) (hx:e x=.c (.lit (.int .i64 a))) (hy:e y=.c (.lit (.int .i64 b))) (h:cQ (a-b)):Det X o e μ (.c (.lit (.int .i64 (a-b)))) μ:=by
 have:=qAf (X:=X) (μ:=μ) ho hx hy
 rwa [VO h] at this
def zOg (ho:o.op=.binOp .mul t x y ty) (hx:e x=.c (.lit (.int .i64 a))) (hy:e y=.c (.lit (.int .i64 b))) (h:cQ (a*b)):Det X o e μ (.c (.lit (.int .i64 (a*b)))) μ:=by
 have:=Cy (X:=X) (μ:=μ) ho hx hy
 rwa [VO h] at this
end nw
variable {α:Type} {k:Nat} {x:α}
def oI {β:Type} {f:α->β} {l:List α} (h:l[k]? =some x):(l.map f)[k]? =some (f x):=by
 rw [cg,h];rfl
def qX (l:List α) (k:Nat) (h:k<l.length):∃x,l[k]? =some x:=⟨l[k],ak h⟩
def yB {l:List α} (h:l[k]? =some x):l.take (k+1)=l.take k++[x]:=by
 have hlt:=(af.1 h).1
 rw [jy hlt,(af.1 h).2]
def yG {l:List α} (h:¬k<l.length):l.take k=l:=aE zB
open Go.MapKept
section
variable {α:Type}
def fX:List (nq×α)->nq->Option α
 |[],_=>none
 |(k',a)::r,k=>if k'=k then some a else fX r k
def fR:List (nq×α)->nq->α->List (nq×α)
 |[],k,a=>[(k,a)]
 |(k',b)::r,k,a=>if k'=k then (k,a)::r else (k',b)::fR r k a
inductive ERs (enc:α->V) (w:World) (I:Nat->Prop):List MapEntry->List (nq×α)->Prop where
 |nil:ERs enc w I [] []
 |cons {e:MapEntry} {k:nq} {a:α} {es:List MapEntry} {m:List (nq×α)} (hk:e.key=.string k) (hv:V1Rep w I (enc a) e.val) (t:ERs enc w I es m):ERs enc w I (e::es) ((k,a)::m)
def MapR (enc:α->V) (m:List (nq×α)) (w:World) (I:Nat->Prop) (o:Obj):Prop:=∃es clock,o=.map es clock/\ERs enc w I es.toList m
def ERs.mono {enc:α->V} {w w':World} {I I':Nat->Prop} (hw:∀b,I b->w'.heap[b]? =w.heap[b]?) (hI:∀b,I b->I' b) {es:List MapEntry} {m:List (nq×α)} (h:ERs enc w I es m):ERs enc w' I' es m:=by
 induction h with
 |nil=>exact .nil
 |cons hk hv _ ih=>exact .cons hk (hv.mono hw hI) ih
def MapR.mono (enc:α->V) (m:List (nq×α)) (b:Nat):(E.blk b (MapR enc m)).Mono:=by
 intro w w' I I' hw hI o ⟨es,clock,ho,h⟩
 exact ⟨es,clock,ho,h.mono hw hI⟩
def zVs (a b:nq):Instr.sameNow .string (.string a) (.string b)=some (decide (a=b)):=by
 simp only [Instr.sameNow]
 congr 1
 rw [beq_toListBytes,zSh]
def EW {enc:α->V} {w:World} {I:Nat->Prop} (k:nq) {es:List MapEntry} {m:List (nq×α)} (h:ERs enc w I es m):∀i:Nat,
  (fX m k=none/\Instr.findNow .string (.string k) es i=some none)∨∃a j v,fX m k=some a/\Instr.findNow .string (.string k) es i=some (some (i+j,v))/\V1Rep w I (enc a) v/\∃e,es[j]? =some e/\e.key=.string k/\e.val=v:=by
 induction h with
 |nil=>intro i;exact .inl ⟨rfl,rfl⟩
 |cons hk hv _ ih=>
  rename_i e k' a es m t
  intro i
  by_cases hkk:k=k'
  ·subst hkk
   refine .inr ⟨a,0,e.val,by simp [fX],?_,hv,e,rfl,hk,rfl⟩
   simp [Instr.findNow,hk,zVs]
  ·have h1:Instr.sameNow .string (.string k) e.key=some false:=by rw [hk,zVs];simp [hkk]
   rcases ih (i+1) with ⟨h2,h3⟩|⟨b,j,v,h2,h3,h4,e',h5,h6⟩
   ·refine .inl ⟨?_,?_⟩
    ·simp only [fX];rw [aa (eg hkk)];exact h2
    ·simp only [Instr.findNow,h1];exact h3
   ·refine .inr ⟨b,j+1,v,?_,?_,h4,e',by simpa using h5,h6⟩
    ·simp only [fX];rw [aa (eg hkk)];exact h2
    ·simp only [Instr.findNow,h1];rw [h3];congr 3;omega
def sE (P:Program) (t:nr):Option Value:=
 match P.underlying t with
 |some (.map k e)=>match P.underlying k,P.info? e with
  |some .string,some i=>i.zero
  |_,_=>none
 |_=>none
def zXj {P:Program} {t:nr} {z:Value} (h:sE P t=some z):∃k e i,P.underlying t=some (.map k e)/\P.underlying k=some .string/\P.info? e=some i/\i.zero=some z:=by
 unfold sE at h
 split at h
 ·rename_i k e hu
  split at h
  ·rename_i i hk hi
   exact ⟨k,e,i,hu,hk,hi,h⟩
  ·cases h
 ·cases h
def zEt {P:Program} {w:World} {kt:nr} {k:nq} (h:P.underlying kt=some .string) (em:Bool):(Instr.checkKey em 10000 kt (.string k)).run P w=.ok () w:=run_checkKey h (by simp [IsKey]) em 9999
section ops
variable {X:Cfg} {o:Oper} {e:ns->V} {μ:List E} {t:nr} {x y:ns}
def zQq (enc:α->V) {r:Option ns} (ho:o.op=.makeMap t r) (hr:r=none):OpE X o e μ λv μ'=>∃b,v=.c (.lit (.map (some b)))/\μ'=.blk b (MapR enc ([]:List (nq×α)))::μ:=by
 intro a w I hH hops K Q k
 subst hr
 obtain ⟨h1,h2⟩:=Z2 hH (.map #[] 0) (.blk w.heap.size (MapR enc [])) rfl (MapR.mono enc [] _) ⟨_,d8 w _,#[],0,rfl,.nil⟩
 refine LV (v:=.map (some w.heap.size)) ?_ (k _ _ _ _ _ ⟨w.heap.size,rfl,rfl⟩ (CRep.lit _ rfl) h1 h2)
 simp [execOp,ho,Instr.makeMap,go_sem]
def zOo {enc:α->V} {m:List (nq×α)} {z:Value} {b p:Nat} {k:nq} {w:World} {I:Nat->Prop} (ht:sE X.P t=some z) (z0:α) (hz:V1Rep w I (enc z0) z) (hH:Heap X w I μ) (hp:nth μ p=some (.blk b (MapR enc m))) (ok:Bool):
  ∃v,(Instr.lookup t (.map (some b)) (.string k) ok).run X.P w=.ok (if ok then .tuple #[v,.bool (fX m k).isSome] else v) w/\V1Rep w I (enc ((fX m k).getD z0)) v:=by
 obtain ⟨kt,et,i,hu,hk,hi,hzr⟩:=zXj ht
 obtain ⟨ob,hb,es,clock,rfl,hers⟩:=hH.rep _ (Cc hp)
 have hfind:=EW k hers 0
 rcases hfind with ⟨h1,h2⟩|⟨a,j,v,h1,h2,h3,_⟩
 ·refine ⟨z,?_,by rw [h1];exact hz⟩
  have hf:=run_findKey (P:=X.P) (w:=w) hk h2
  cases ok<;>simp [Instr.lookup,aK hu,gr hb,zEt hk,hf,zeroValue,typeInfo,hi,hzr,h1]
 ·refine ⟨v,?_,by rw [h1];exact h3⟩
  have hf:=run_findKey (P:=X.P) (w:=w) hk h2
  cases ok<;>simp [Instr.lookup,aK hu,gr hb,zEt hk,hf,h1]
def zHu {enc:α->V} {m:List (nq×α)} {z:Value} {b:Nat} {k:nq} (p:Nat) (z0:α) (ho:o.op=.lookup t x y false) (ht:sE X.P t=some z) (hx:e x=.c (.lit (.map (some b)))) (hp:nth μ p=some (.blk b (MapR enc m))) (hy:e y=.c (.lit (.string k)))
  (hz:∀w I,V1Rep w I (enc z0) z):Det X o e μ (enc ((fX m k).getD z0)) μ:=
 kW λa w I hH hops=>by
  have hxv:=hops x qr
  have hyv:=hops y qr
  rw [hx] at hxv
  rw [hy] at hyv
  obtain ⟨v,h1,h2⟩:=zOo (k:=k) ht z0 (hz w I) hH hp false
  exact ⟨v,by simp [execOp,ho,hxv.lit_inv,hyv.lit_inv,h1],h2.up⟩
def Ak {enc:α->V} {m:List (nq×α)} {z:Value} {b:Nat} {k:nq} (p:Nat) (z0:α) (ho:o.op=.lookup t x y true) (ht:sE X.P t=some z) (hx:e x=.c (.lit (.map (some b)))) (hp:nth μ p=some (.blk b (MapR enc m))) (hy:e y=.c (.lit (.string k)))
  (hz:∀w I,V1Rep w I (enc z0) z):Det X o e μ (.tup [enc ((fX m k).getD z0),vB (fX m k).isSome]) μ:=
 kW λa w I hH hops=>by
  have hxv:=hops x qr
  have hyv:=hops y qr
  rw [hx] at hxv
  rw [hy] at hyv
  obtain ⟨v,h1,h2⟩:=zOo (k:=k) ht z0 (hz w I) hH hp true
  exact ⟨.tuple #[v,.bool (fX m k).isSome],by simp [execOp,ho,hxv.lit_inv,hyv.lit_inv,h1],[v,.bool (fX m k).isSome],rfl,h2,CRep.lit _ rfl,trivial⟩
def ERs.length {enc:α->V} {w:World} {I:Nat->Prop} {es:List MapEntry} {m:List (nq×α)} (h:ERs enc w I es m):es.length=m.length:=by
 induction h with
 |nil=>rfl
 |cons _ _ _ ih=>simp [ih]
def EN {enc:α->V} {w:World} {I:Nat->Prop} {es:List MapEntry} {m:List (nq×α)} (h:ERs enc w I es m) {k:nq} {a:α} {u:Value} (hu:V1Rep w I (enc a) u) (hn:fX m k=none) (born:Nat):ERs enc w I (es++[{ key:=.string k,val:=u,born }]) (fR m k a):=by
 induction h with
 |nil=>exact .cons rfl hu .nil
 |cons hk hv _ ih=>
  rename_i e k' b es m t
  simp only [fX] at hn
  by_cases hkk:k'=k
  ·rw [ab hkk] at hn;cases hn
  ·rw [aa hkk] at hn
   simp only [fR]
   rw [aa hkk]
   exact .cons hk hv (ih hn)
def EO {enc:α->V} {w:World} {I:Nat->Prop} {es:List MapEntry} {m:List (nq×α)} (h:ERs enc w I es m) {k:nq} {a:α} {u:Value} (hu:V1Rep w I (enc a) u):∀{j:Nat} {i:Nat} {v:Value},Instr.findNow .string (.string k) es i=some (some (i+j,v))->ERs enc w I (es.modify j λe=>{ e with key:=.string k,val:=u }) (fR m k a):=by
 induction h with
 |nil=>intro j i v hf;simp [Instr.findNow] at hf
 |cons hk hv t ih=>
  rename_i e k' b es m
  intro j i v hf
  by_cases hkk:k=k'
  ·subst hkk
   simp only [Instr.findNow,hk,zVs,jk,ay,aO] at hf
   have hj:j=0:=by omega
   subst hj
   simp only [fR,ik,List.modify_zero_cons]
   exact .cons rfl hu t
  ·have h1:Instr.sameNow .string (.string k) e.key=some false:=by rw [hk,zVs];simp [hkk]
   simp only [Instr.findNow,h1] at hf
   cases j with
   |zero=>
    exfalso
    have:∀(es:List MapEntry) (i n:Nat) (v:Value),Instr.findNow .string (.string k) es i=some (some (n,v))->i<=n:=by
     intro es
     induction es with
     |nil=>intro i n v h;simp [Instr.findNow] at h
     |cons e es ih=>
      intro i n v h
      simp only [Instr.findNow] at h
      split at h
      ·simp only [ay,aO] at h;omega
      ·have:=ih _ _ _ h;omega
      ·cases h
    have:=this _ _ _ _ hf
    omega
   |succ j=>
    have:=ih (j:=j) (i:=i+1) (v:=v) (by rw [hf];congr 3;omega)
    simp only [fR,List.modify_succ_cons]
    rw [aa (eg hkk)]
    exact .cons hk hv this
def zJz {enc:α->V} {m:List (nq×α)} {z:Value} {b:Nat} {k:nq} {vx:ns} (p:Nat) (a:α) (ho:o.op=.mapUpdate t x y vx) (ht:sE X.P t=some z) (hx:e x=.c (.lit (.map (some b)))) (hp:nth μ p=some (.blk b (MapR enc m))) (hy:e y=.c (.lit (.string k)))
  (hv:VLe (e vx) (enc a)) (hpl:(enc a).plain=true):Det X o e μ .un (rN μ p (.blk b (MapR enc (fR m k a)))):=by
 intro ac w I hH hops K Q kk
 obtain ⟨kt,et,i,hu,hk,hi,hzr⟩:=zXj ht
 obtain ⟨ob,hb,es,clock,rfl,hers⟩:=hH.rep _ (Cc hp)
 have hxv:=hops x qr
 have hyv:=hops y qr
 rw [hx] at hxv
 rw [hy] at hyv
 have hvv:V1Rep w I (enc a) (ac.eval vx):=V.plain_v1 hpl (hv w I _ (hops vx qr))
 have hlt:b<w.heap.size:=(bv.1 hb).1
 have main:∀es' clock',(Instr.mapUpdate t (.map (some b)) (.string k) (ac.eval vx)).run X.P w=.ok () { w with heap:=w.heap.setIfInBounds b (.map es' clock') }->ERs enc w I es'.toList (fR m k a)->OW X.P o ac w K Q:=by
  intro es' clock' hrun hers'
  have hother:∀k',k'≠b->({ w with heap:=w.heap.setIfInBounds b (.map es' clock') }:World).heap[k']? =w.heap[k']? :=λk' hne=>by
   show (w.heap.setIfInBounds b _)[k']? =_
   rw [Array.getElem?_setIfInBounds_ne (eg hne)]
  have still:∀k',I k'->({ w with heap:=w.heap.setIfInBounds b (.map es' clock') }:World).heap[k']? =w.heap[k']? :=λk' hk'=>hother k' λe'=>(hH.own b (VD (Cc hp) xJ7)).2 (e' ▸ hk')
  obtain ⟨h1,h2⟩:=Heap.write (w':={ w with heap:=w.heap.setIfInBounds b (.map es' clock') }) hH (en':=.blk b (MapR enc (fR m k a))) hp rfl rfl rfl uF (λk' _ hk'=>hother k' (by simpa [E.blocks] using hk')) xJ7 (λk' hk'=>.inl (by simpa [E.blocks] using hk')) (MapR.mono enc _ b)
   ⟨.map es' clock',by simp [hlt],es',clock',rfl,hers'.mono still λ_ h=>h⟩
  refine LP ?_ (kk undef .un _ I _ ⟨rfl,rfl⟩ trivial h1 h2)
  simp only [execOp,ho,hxv.lit_inv,hyv.lit_inv,aW,hrun,aI,ba]
 rcases EW k hers 0 with ⟨h1,h2⟩|⟨a',j,v,h1,h2,h3,en,h4,h5,h6⟩
 ·have hf:=run_findKey (P:=X.P) (w:=w) hk h2
  refine main (es.push { key:=.string k,val:=ac.eval vx,born:=clock }) (clock+1) ?_ (by rw [Array.toList_push];exact EN hers hvv h1 clock)
  simp [Instr.mapUpdate,aK hu,gr hb,lq _ hb,zEt hk,hf]
 ·have hf:=run_findKey (P:=X.P) (w:=w) hk h2
  have hen:es[0+j]? =some en:=by rw [cd];simpa using h4
  refine main (es.modify (0+j) λe=>{ e with key:=.string k,val:=ac.eval vx }) clock ?_ ?_
  ·have hold:((es[0+j]?).map (·.key)).getD (.string k)=.string k:=by rw [hen];exact h5
   have hkeep:(Instr.keyThatStays (.string k) (.string k)).run X.P w=.ok (.string k) w:=by
    unfold Instr.keyThatStays
    rw [ab (by simp [Instr.sameBits,MapKept.bytes_beq])]
    rfl
   simp only [Instr.mapUpdate,aW,aK hu,aI,gr hb,zEt hk,hf,hold,hkeep,lq _ hb]
  ·have:=EO hers hvv h2
   simpa using this
end ops
end
end Go.Eng
end
