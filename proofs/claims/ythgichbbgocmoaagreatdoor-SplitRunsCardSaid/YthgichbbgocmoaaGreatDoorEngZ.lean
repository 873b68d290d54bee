/-
  The engine,part R: an append of a make to the nil slice,cuts of it,capacities,the greatest of four.
  And what the laws need besides.
  Conditions: none.
-/
import Derived.Test.YthgichbbgocmoaaGreatDoorEngY
import Derived.Lib.AppendZerosOnto
import Derived.Laws.MakeOwn
import Derived.Laws.CopyRow
import Derived.Laws.BytesArg
import Derived.Scope
import Derived.ChangeKeysEq
import Derived.Laws.MathBits
import Derived.Laws.Bits64b
set_option linter.unusedSimpArgs false
set_option linter.unusedVariables false
set_option linter.defProp false
section
namespace Go.Eng
open Go Go.RowKit Go.Lib
def eJ (et:lu) (n:Nat) (_:World) (_:Nat->Prop) (o:Obj):Prop:=∃cs:Array Value,o=.cells cs et (0,0)/\cs.size=n
def Heap.dropL {X:Cfg} {w:World} {I:Nat->Prop}:∀{ν μ:List E},Heap X w I (ν++μ)->Heap X w I μ
 |[],_,h=>h
 |_::_,_,h=>Heap.dropL (Heap.tail h)
def Con.drop {X:Cfg} {f:FuncId} {args:List V} {μ μ2:List E} {R:V} (h:Con X f args μ fun r μ'=>r=R/\∃ν,μ'=ν++μ2):Con X f args μ fun r μ'=>r=R/\μ'=μ2:=by
 intro w I vs hH ha
 refine (h w I vs hH ha).mono ?_
 rintro en w' ⟨v,r,μ',I',h1,⟨h2,ν,rfl⟩,h4,h5,h6⟩
 exact ⟨v,r,μ2,I',h1,⟨h2,rfl⟩,h4,Heap.dropL h5,h6.less fun b hb=>by rw [kA];exact aq.2 (.inr hb)⟩
section
variable {X:Cfg} {o:Oper} {e:lv->V} {μ:List E} {t:lu}
def zZf {et:lu} {x:lv} {size bytes:Nat} (ho:o.op=.call { callee:=.builtin .cap,args:= #[x],argTypes:= #[t] }) (ht:fB X.P t=some (et,size,bytes)) (hx:e x=.c (.lit (.slice none 0 0))):Det X o e μ (.c (.lit (.int .i64 0))) μ:=
 kN fun a w I hH hops=>by
  obtain ⟨hu,_⟩:=kT ht
  have hxv:=hops x (by rw [ho];simp [Op.operands,Call.operands])
  rw [hx] at hxv
  have h1:=hxv.lit_inv
  exact ⟨.int .i64 0,by simp [execOp,ho,h1,resolve,invoke,builtin,Builtin.cap_,aE hu,goInt],CRep.lit _ rfl⟩
def zZd {et:lu} {x:lv} {size bytes:Nat} (ho:o.op=.call { callee:=.builtin .len,args:= #[x],argTypes:= #[t] }) (ht:fB X.P t=some (et,size,bytes)) (hx:e x=.c (.lit (.slice none 0 0))):Det X o e μ (.c (.lit (.int .i64 0))) μ:=
 kN fun a w I hH hops=>by
  obtain ⟨hu,_⟩:=kT ht
  have hxv:=hops x (by rw [ho];simp [Op.operands,Call.operands])
  rw [hx] at hxv
  have h1:=hxv.lit_inv
  exact ⟨.int .i64 0,by simp [execOp,ho,h1,resolve,invoke,builtin,Builtin.len_,aE hu,goInt],CRep.lit _ rfl⟩
def det_cut_nil {et:lu} {x hi:lv} {size bytes:Nat} (ho:o.op=.slice t x none (some hi) none) (ht:fB X.P t=some (et,size,bytes)) (hx:e x=.c (.lit (.slice none 0 0))) (h1:e hi=.c (.lit (.int .i64 0))):Det X o e μ (.c (.lit (.slice none 0 0))) μ:=
 kN fun a w I hH hops=>by
  obtain ⟨hu,inf,z,hinf,hz,hs,hby,hzs,hpos⟩:=kT ht
  have hxv:=hops x (by rw [ho];simp [Op.operands])
  have hhv:=hops hi (by rw [ho];simp [Op.operands])
  rw [hx] at hxv
  rw [h1] at hhv
  have e1:=hxv.lit_inv
  have e2:=hhv.lit_inv
  have hb:∀m code,(Instr.sliceBound (.int .i64 0) m code).run X.P w=.ok 0 w:=fun m code=>by simp [Instr.sliceBound,asIntOf]
  exact ⟨.slice none 0 0,by simp [execOp,ho,e1,e2,Instr.sliceAt,Instr.slice,aE hu,Instr.sliceBounds,hb,sizeOf,typeInfo,hinf],CRep.lit _ rfl⟩
def ope_grow {et tn:lu} {x y:lv} {size bytes:Nat} (k:Nat) {i':Int} {kn:IntKind} (ho:o.op=.call { callee:=.builtin .append,args:= #[x,y],argTypes:= #[t,tn] }) (ht:fB X.P t=some (et,size,bytes)) (htn:tU X.P tn=some kn)
  (hx:e x=.c (.lit (.slice none 0 0))) (hy:e y=.c (.lit (.int .i64 i'))) (hik:i'=(k:Int)) (h0:0<k) (hb:k*bytes<=140737488355328) (hk:k<=140737488355328):
  OpE X o e μ fun r μ'=>∃b cap,r=.c (.lit (.slice (some ⟨b,0,none⟩) k cap))/\(k<=cap/\cap<=maxLen)/\μ'=.blk b (eJ et (cap*size))::μ:=by
 intro a w I hH hops K Q kk
 obtain ⟨hu,i,z,hi,hz,hs,hby,hzs,hpos⟩:=kT ht
 have hxv:=hops x (by rw [ho];simp [Op.operands,Call.operands])
 have hyv:=hops y (by rw [ho];simp [Op.operands,Call.operands])
 rw [hx] at hxv
 rw [hy] at hyv
 have e1:=hxv.lit_inv
 have e2:=hyv.lit_inv
 subst hs hby hik
 have htn':X.P.underlying tn=some (.int kn):=by
  unfold tU at htn
  split at htn
  ·rename_i q hq;simp only [ap] at htn;rw [hq,htn]
  ·cases htn
 have hrun:=run_append_grow_zeros (P:=X.P) w t tn o.type et i z .i64 kn hu htn' hi hz none 0 0 [] (by simp [Builtin.firstCells]) k h0 hpos zA zA zA (by rw [bt,kz h0];omega)
 rw [bt] at hrun
 have hge:=grownCap_ge w k 0 et
 have hcm:grownCap w k 0 et<=maxLen:=kp w k 0 et (by simp only [maxLen];omega)
 generalize grownCap w k 0 et=gc at *
 have hH':Heap X w.drew I μ:=by
  refine ⟨hH.lo,X.hG w w.drew (fun b hb=>rfl) hH.glob,hH.nodup,hH.own,hH.imm,fun en hen=>?_,hH.mono⟩
  have:=hH.rep en hen
  cases en with
  |row b t' cells=>
   obtain ⟨vs,h1,h2⟩:=this
   exact ⟨vs,h1,CReps.mono (w:=w) (w':=w.drew) (I:=I) (I':=I) (fun _ _=>rfl) (fun _ h=>h) h2⟩
  |vec sv t' sz rows=>
   rcases this with h|⟨h1,xs,h2,h3,h4⟩
   ·exact .inl h
   ·exact .inr ⟨h1,xs,h2,CReps.mono (w:=w) (w':=w.drew) (I:=I) (I':=I) (fun _ _=>rfl) (fun _ h=>h) h3,h4⟩
  |blk b R=>
   obtain ⟨ob,h1,h2⟩:=this
   exact ⟨ob,h1,hH.mono _ hen w w.drew I I (fun _ _=>rfl) (fun _ h=>h) _ h2⟩
  |reg bs R=>exact ⟨this.1,hH.mono _ hen w w.drew (fun _ _=>rfl) this.2⟩
  |any bs R=>exact ⟨this.1,hH.mono _ hen w w.drew I I (fun _ _=>rfl) (fun _ h=>h) (fun _ _=>rfl) this.2⟩
 obtain ⟨h1,h2⟩:=zDl hH' (.cells (([]:List Value).toArray++Builtin.zeroCells z.cells k++Builtin.zeroCells z.cells (gc-k)) et) (.blk w.heap.size (eJ et (gc*i.size))) rfl (fun _ _ _ _ _ _ _ h=>h) ⟨_,dh w.drew _,_,rfl,by
  simp only [lj,size_zeroCells,hzs,←ej]
  simp only [lf,lLn,bt]
  rw [←ej];congr 1;omega⟩
 have hrun2:(execOp a.eval o).run X.P w=.ok (.value (.slice (some ⟨w.heap.size,0,none⟩) k gc)) (w.drew.alloc (.cells (([]:List Value).toArray++Builtin.zeroCells z.cells k++Builtin.zeroCells z.cells (gc-k)) et)):=by
  simp only [execOp,ho,resolve,invoke,builtin,aP,aU,aA,iq,aK,ck,e1,e2,hrun]
 exact zCa hrun2 (kk _ _ _ I _ ⟨w.heap.size,gc,rfl,⟨hge,hcm⟩,rfl⟩ (CRep.lit _ rfl) h1 ⟨h2.os,h2.tape,h2.output,h2.size,h2.block,h2.imm,h2.imm',h2.own'⟩)
def det_cut_row {et:lu} {x hi:lv} {size bytes b k cap:Nat} (p:Nat) (ho:o.op=.slice t x none (some hi) none) (ht:fB X.P t=some (et,size,bytes)) (hx:e x=.c (.lit (.slice (some ⟨b,0,none⟩) k cap))) (h1:e hi=.c (.lit (.int .i64 0))) (hp:nth μ p=some (.blk b (eJ et (cap*size)))) (hk:0<k/\k<=cap/\cap<=maxLen):
  Det X o e μ (.c (.lit (.slice (some ⟨b,0,none⟩) 0 cap))) (pN μ p (.vec (.slice (some ⟨b,0,none⟩) 0 cap) et size [])):=by
 intro a w I hH hops K Q kk
 obtain ⟨hu,inf,z,hinf,hz,hs,hby,hzs,hpos⟩:=kT ht
 have hxv:=hops x (by rw [ho];simp [Op.operands])
 have hhv:=hops hi (by rw [ho];simp [Op.operands])
 rw [hx] at hxv
 rw [h1] at hhv
 have e1:=hxv.lit_inv
 have e2:=hhv.lit_inv
 obtain ⟨ob,hob,cs,rfl,hcs⟩:=hH.rep _ (zAy hp)
 have hb:∀m code,(Instr.sliceBound (.int .i64 0) m code).run X.P w=.ok 0 w:=fun m code=>by simp [Instr.sliceBound,asIntOf]
 have hrun:(execOp a.eval o).run X.P w=.ok (.value (.slice (some ⟨b,0,none⟩) 0 cap)) w:=by
  simp [execOp,ho,e1,e2,Instr.sliceAt,Instr.slice,aE hu,Instr.sliceBounds,hb,sizeOf,typeInfo,hinf,Addr.add]
 have hblk:(E.vec (.slice (some ⟨b,0,none⟩) 0 cap) et size []).blocks=(E.blk b (eJ et (cap*size))).blocks:=by
  obtain ⟨c,rfl⟩:∃c,cap=c+1:=⟨cap-1,zA⟩
  rfl
 have hrep:ERep w I (.vec (.slice (some ⟨b,0,none⟩) 0 cap) et size []):=by
  refine .inr ⟨?_,[],⟨uD,.inr ⟨b,cap,cs,rfl,bn _,hob,bn _,hk.2.2,hcs,uD⟩⟩,.nil,uD⟩
  obtain ⟨c,rfl⟩:∃c,cap=c+1:=⟨cap-1,zA⟩
  simp [svB]
 obtain ⟨hH',hx'⟩:=Heap.write (w':=w) hH (en':=.vec (.slice (some ⟨b,0,none⟩) 0 cap) et size []) hp rfl rfl rfl (aH _) (fun _ _ _=>rfl) (by rw [hblk];simp [E.blocks]) (fun b' h=>.inl (by rw [hblk] at h;exact h)) trivial hrep
 exact zCa hrun (kk _ _ _ I w ⟨rfl,rfl⟩ (CRep.lit _ rfl) hH' hx')
end
end Go.Eng
end
section
namespace Go.Eng
open Go Go.RowKit
section drawq
variable {X:Cfg} {n:Nat} {z:Z} {Q:Exit->S->Prop} {regs:List (Nat×V)} {μ:List E} {l:List Oper} {m:Nat}
end drawq
def P2 (X:Cfg) (n:Nat) (z z1:Z) (Q:Exit->S->Prop) (regs:List (Nat×V)) (l:List Oper) (s:Nat) (ks:List Kd) (rs1:List V) (μ1:List E):Prop:=
 ∀(fuel:Nat) (listed:Array Bool) (a:Act) (w:World) (I:Nat->Prop),listed.size=l.length->unl listed=fuel->(∀i,s+1<=i->i<l.length->listed.getD i true=false)->vZ l listed->listed.getD s true=true->(∀i,i<s->(kd ks i).fl=false->listed.getD i true=true)->
  Heap X w I μ1->(∀t,VRep w I (gY (l.take (s+1)) rs1 (fun i=>listed.getD i true) (dF regs t) t) (a.tmps.getD t undef))->Ext z1.w z1.I z1.μ w I μ1->a.defers=z1.ds->a.tmps.size=n->
  wpAnyIn (fen z.rd) 0 X.P .any l.toArray (gU X n z1 Q) fuel listed a w
section drawg
variable {X:Cfg} {n:Nat} {z:Z} {Q:Exit->S->Prop} {regs:List (Nat×V)} {μ:List E} {l:List Oper} {s:Nat} {M:List E->Prop} {ks:List Kd}
end drawg
open Go.Lib
section
variable {X:Cfg} {o:Oper} {e:lv->V} {μ:List E} {t:lu} {α:Type} {f:α->List C} {l:List α}
def zTu {et:lu} {size bytes k:Nat} {x hi:lv} (ho:o.op=.slice t x none (some hi) none) (ht:fB X.P t=some (et,size,bytes)) (hx:e x=.c (.sl size (l.map f))) (h2:e hi=.c (.lit (.int .i64 k))) (hk:k<=l.length):
  Det X o e μ (.c (.sl size ((l.take k).map f))) μ:=by
 have h:=det_cut_sl (X:=X) (μ:=μ) 0 k ho ht hx (show bnd e none 0 0 from rfl) (show bnd e (some hi) _ k from ⟨.i64,k,h2,rfl⟩) (bn _) (by simpa using hk)
 rw [aY,←List.map_take] at h
 exact h
def zCk {et:lu} {size bytes k:Nat} {x lo:lv} (ho:o.op=.slice t x (some lo) none none) (ht:fB X.P t=some (et,size,bytes)) (hx:e x=.c (.sl size (l.map f))) (h2:e lo=.c (.lit (.int .i64 k))) (hk:k<=l.length):
  Det X o e μ (.c (.sl size ((l.drop k).map f))) μ:=by
 have h:=det_cut_sl (X:=X) (μ:=μ) k (l.map f).length ho ht hx (show bnd e (some lo) 0 k from ⟨.i64,k,h2,rfl⟩) (show bnd e none _ _ from rfl) (by simpa using hk) (aH _)
 rw [ll,←List.map_drop] at h
 exact h
end
/-! ## Lending an own slice to a function that only reads -/
def eF:C->Bool
 |.lit _=>true
 |_=>false
def cD:V->Bool
 |.c x=>eF x
 |.agg l=>l.all eF
 |_=>false
def iA:V->Bool
 |.tup l=>l.all cD
 |x=>cD x
variable {I' I:Nat->Prop} {w' w:World}
def litC_rep {x:C} {v:Value} (h:eF x=true) (r:CRep w I x v):CRep w' I' x v:=by
 cases x with
 |lit u=>cases r with|lit _ h1=>exact .lit _ h1
 |_=>cases h
def litCs_rep {l:List C} {vs:List Value} (h:l.all eF=true) (r:CReps w I l vs):CReps w' I' l vs:=by
 induction r with
 |nil=>exact .nil
 |cons a _ ih=>
  simp only [aW,ae] at h
  exact .cons (litC_rep h.1 a) (ih h.2)
def zXy {x:V} {v:Value} (h:cD x=true) (r:V1Rep w I x v):V1Rep w' I' x v:=by
 cases x with
 |c y=>exact litC_rep h r
 |agg l=>obtain ⟨vs,e,k⟩:=r;exact ⟨vs,e,litCs_rep h k⟩
 |_=>cases h
def litV1s_rep {w w':World} {I I':Nat->Prop}:∀{l:List V} {vs:List Value},l.all cD=true->V1Reps w I l vs->V1Reps w' I' l vs
 |[],[],_,_=>trivial
 |x::l,v::vs,h,r=>by
  simp only [aW,ae] at h
  exact ⟨zXy h.1 r.1,litV1s_rep h.2 r.2⟩
 |[],_::_,_,r=>r.elim
 |_::_,[],_,r=>r.elim
def litV_rep {x:V} {v:Value} (h:iA x=true) (r:VRep w I x v):VRep w' I' x v:=by
 cases x with
 |tup l=>obtain ⟨vs,e,k⟩:=r;exact ⟨vs,e,litV1s_rep h k⟩
 |c y=>exact zXy (x:=.c y) h r
 |agg l=>exact zXy (x:=.agg l) h r
 |un=>cases h
 |ifv b y=>cases h
def cG (sv:Value) (size:Nat) (rows:List (List C)):List V->List V->Prop
 |[],[]=>True
 |x::xs,y::ys=>(x=y∨(x=.c (.lit sv)/\y=.c (.sl size rows)))/\cG sv size rows xs ys
 |_,_=>False
def lends_reps {sv:Value} {size:Nat} {rows:List (List C)} {w:World} {I I0:Nat->Prop} (hI:∀b,I b->I0 b) (hs:CRep w I0 (.sl size rows) sv):∀{l l':List V} {vs:List Value},cG sv size rows l l'->V1Reps w I l vs->V1Reps w I0 l' vs
 |[],[],[],_,_=>trivial
 |[],[],_::_,_,h=>h.elim
 |x::xs,y::ys,[],_,h=>h.elim
 |x::xs,y::ys,v::vs,k,h=>by
  refine ⟨?_,lends_reps hI hs k.2 h.2⟩
  rcases k.1 with rfl|⟨rfl,rfl⟩
  ·exact V1Rep.mono (fun _ _=>rfl) hI h.1
  ·have e:v=sv:=by cases h.1 with|lit _ _=>rfl
   rw [e];exact hs
 |[],_::_,_,k,_=>(k:False).elim
 |_::_,[],_,k,_=>(k:False).elim
def Con.borrow {X:Cfg} {f:FuncId} {args args':List V} {r:V} {sv:Value} {t:lu} {size:Nat} {rows:List (List C)} (h:Pur X f args r) (hl:iA r=true) (ha:cG sv size rows args' args):
  Con X f args' [.vec sv t size rows] fun r' μ'=>r'=r/\μ'=[.vec sv t size rows]:=by
 intro w I vs hH hv
 have hrep:=hH.rep _ (aO.2 rfl)
 have H0:Heap X w (fun b=>I b∨b∈(E.vec sv t size rows).blocks) []:=by
  refine ⟨hH.lo,hH.glob,by simp [bC],fun b hb=>by simp [bC] at hb,?_,fun en hen=>by simp at hen,fun en hen=>by simp at hen⟩
  rintro b (h|h)
  ·exact hH.imm b h
  ·exact hrep.lt h
 have hs:CRep w (fun b=>I b∨b∈(E.vec sv t size rows).blocks) (.sl size rows) sv:=vec_sl (hrep.mono (w':=w) trivial (fun _ _=>rfl) (fun b h=>.inl h) fun _ _=>rfl) fun b hb=>.inr hb
 refine (h w _ vs H0 (lends_reps (fun b h=>.inl h) hs ha hv)).mono ?_
 rintro en w' ⟨v,r',μ',I',h1,rfl,h3,h4,h5⟩
 have still:=H0.still h5
 refine ⟨v,r',[.vec sv t size rows],I,h1,⟨rfl,rfl⟩,litV_rep hl h3,?_,?_⟩
 ·refine ⟨cc hH.lo h5.size,X.hG w w' (fun b hb=>h5.block b (gk hb hH.lo) (by simp [bC])) hH.glob,hH.nodup,hH.own,fun b hb=>gk (hH.imm b hb) h5.size,?_,hH.mono⟩
  intro e he
  rw [aO.1 he]
  exact hrep.mono (w':=w') trivial (fun b hb=>still b (.inl hb)) (fun b h=>h) fun b hb=>still b (.inr hb)
 ·exact ⟨h5.os,h5.tape,h5.output,h5.size,fun b hb _=>h5.block b hb (by simp [bC]),fun b h=>h,fun b h=>.inl h,fun b h=>.inl h⟩
def cQ (sv:Value) (size:Nat) (rows:List (List C)):List V->List V->Prop
 |[],[]=>True
 |x::xs,y::ys=>((x=.c (.lit sv)/\y=.c (.sl size rows))∨(VLe x y/\y.plain=true))/\cQ sv size rows xs ys
 |_,_=>False
def vlend_mid {sv:Value} {size:Nat} {rows:List (List C)}:∀{l l':List V},cQ sv size rows l l'->∃m,nB l m/\cG sv size rows m l'
 |[],[],_=>⟨[],trivial,trivial⟩
 |x::xs,y::ys,h=>by
  obtain ⟨m,h1,h2⟩:=vlend_mid h.2
  rcases h.1 with ⟨rfl,rfl⟩|⟨h3,h4⟩
  ·exact ⟨.c (.lit sv)::m,⟨VLe.refl _,rfl,h1⟩,.inr ⟨rfl,rfl⟩,h2⟩
  ·exact ⟨y::m,⟨h3,h4,h1⟩,.inl rfl,h2⟩
 |[],_::_,h=>(h:False).elim
 |_::_,[],h=>(h:False).elim
def zQy {X:Cfg} {o:Oper} {e:lv->V} {μ:List E} {f:FuncId} {arg_:List lv} {ts:Array lu} {args:List V} {r:V} {sv:Value} {t:lu} {size:Nat} {rows:List (List C)} (p:Nat) (ho:o.op=.call { callee:=.value (.func f),args:=arg_.toArray,argTypes:=ts }) (hf:bA X.P f=true)
  (hp:nth μ p=some (.vec sv t size rows)) (hc:Pur X f args r) (hl:iA r=true) (ha:cQ sv size rows (arg_.map e) args):Det X o e μ r μ:=by
 obtain ⟨m,h1,h2⟩:=vlend_mid ha
 have hpk:rT [p] μ=some ([.vec sv t size rows],pV μ p):=by unfold rT;rw [hp];rfl
 refine OpE.det_perm (a:=.vec sv t size rows::pV μ p) ?_ (zHm hp).symm
 have hb:Con X f m [.vec sv t size rows] fun r' μ'=>r'=r/\μ'=[.vec sv t size rows]:=Con.borrow hc hl h2
 exact (zBm ho hf ((hb.frame (pV μ p)).perm (zIi hpk)) h1).mono fun r' μ' ⟨_,⟨h1,h2⟩,h3⟩=>⟨h1,by rw [h3,h2];rfl⟩
end Go.Eng
end
section
namespace Go.Eng
open Go Go.RowKit
inductive Kx where
 |q (rd:List Nat)
 |e (w:Nat) (rd:List Nat)
 |f (w:Nat)
 |w (w:Nat) (rd:List Nat)
 |g (w:Nat) (rd:List Nat)
 |h (w:Nat) (rd:List Nat)
structure It where
 i:Nat
 k:Kx
def upd (ρ:Nat->V) (d:Option Tmp) (v:V):Nat->V:=fun t=>if d=some t then v else ρ t
def evF (ρ:Nat->V) (x:lv):V:=match x with
 |.tmp t=>ρ t
 |y=>ev [] y
def zQv (regs:List (Nat×V)):evF (dF regs)=ev regs:=by
 funext x;cases x<;>rfl
def look_upd (regs:List (Nat×V)) (d:Tmp) (v:V):upd (dF regs) (some d) v=dF ((d,v)::regs):=by
 funext t;rw [zBt];unfold upd
 by_cases h:d=t
 ·rw [ab h,ab (by rw [h])]
 ·rw [aa h,aa (by simpa using h)]
def upd_none (ρ:Nat->V) (v:V):upd ρ none v=ρ:=by funext t;unfold upd;rw [aa uD]
def GDetF (X:Cfg) (n:Nat) (ops:Array Oper) (o:Oper) (ρ:Nat->V) (μ:List E) (r:V):Prop:=
 ∀(a:Act) (w:World) (I:Nat->Prop),Heap X w I μ->(∀t,t∈o.looksAt ops->VRep w I (ρ t) (a.tmps.getD t undef))->a.tmps.size=n->
  ∀(K:Act->World->Prop) (Q:Exit->Act->World->Prop),(∀v I' w',VRep w' I' r v->Heap X w' I' μ->Ext w I μ w' I' μ->K (a.put o.dst v) w')->
   if Region.wanted o (yielded ops a.tmps) then OW X.P o a w K Q else K (a.put o.dst undef) w
variable {o:Oper} {X:Cfg} {ρ:Nat->V} {ops:Array Oper} {n:Nat} {r:V}
def GDetF.congr {ρ':Nat->V} {μ:List E} (h:GDetF X n ops o ρ μ r) (he:∀t,t∈o.looksAt ops->ρ t=ρ' t):GDetF X n ops o ρ' μ r:=
 fun a w I hH hR hs=>h a w I hH (fun t ht=>by rw [he t ht];exact hR t ht) hs
def GDetF.wide {μ φ ψ:List E} (h:GDetF X n ops o ρ μ r) (p:ψ.Perm (μ++φ)):GDetF X n ops o ρ ψ r:=by
 intro a w I hH hR hs K Q k
 have hH1:=hH.perm p
 refine h a w I hH1.left hR hs K Q ?_
 intro v I' w' hv hH' hx
 obtain ⟨h6,h7⟩:=hH1.frame hH' hx
 exact k v I' w' hv (h6.perm p.symm) (h7.perm p.symm p.symm)
variable {e:lv->V}
def OpE.wide {μ φ ψ:List E} {R:V->List E->Prop} (h:OpE X o e μ R) (p:ψ.Perm (μ++φ)):OpE X o e ψ fun r μ''=>∃μ',R r μ'/\μ''=μ'++φ:=by
 intro a w I hH hops K Q k
 have hH1:=hH.perm p
 refine h a w I hH1.left hops K Q ?_
 intro v r μ' I' w' hr hv hH' hx
 obtain ⟨h6,h7⟩:=hH1.frame hH' hx
 exact k v r _ I' w' ⟨μ',hr,rfl⟩ hv h6 (h7.perm p.symm (bh _))
def OpE.congr {e':lv->V} {μ:List E} {R:V->List E->Prop} (h:OpE X o e μ R) (he:∀x,x∈o.op.operands->e x=e' x):OpE X o e' μ R:=
 fun a w I hH hops=>h a w I hH fun x hx=>by rw [he x hx];exact hops x hx
/-! ## Slots of memory -/
def rQ (m:List (Option E)) (s:Nat):Option E:=(nth m s).join
def fp (m:List (Option E)) (l:List Nat):List E:=l.filterMap (rQ m)
def nY (m:List (Option E)):List E:=m.filterMap id
def clr:List (Option E)->List Nat->List (Option E)
 |m,[]=>m
 |m,s::l=>clr (m.set s none) l
variable {s:Nat}
def zCe {m:List (Option E)} {t:Nat} {v:Option E} (h:s≠t):rQ (m.set s v) t=rQ m t:=by
 unfold rQ;rw [zGp,zGp,gt h]
def zWm {m:List (Option E)} {v:Option E} (h:s<m.length):rQ (m.set s v) s=v:=by
 unfold rQ;rw [zGp,dk h];cases v<;>rfl
def wR {m:List (Option E)} {s:Nat} {v:Option E}:∀{l:List Nat},s ∉ l->fp (m.set s v) l=fp m l
 |[],_=>rfl
 |t::l,h=>by
  unfold fp
  rw [cu,cu,zCe (fun e=>h (by simp [e]))]
  have:=wR (m:=m) (s:=s) (v:=v) (l:=l) (fun e=>h (by simp [e]))
  unfold fp at this
  rw [this]
def qAa:∀(m:List (Option E)) (s:Nat),(nY m).Perm ((rQ m s).toList++nY (m.set s none))
 |[],s=>by cases s<;>exact bh _
 |x::m,0=>by cases x<;>exact bh _
 |x::m,s+1=>by
  have ih:=qAa m s
  have e:rQ (x::m) (s+1)=rQ m s:=rfl
  rw [e,iP]
  cases x with
  |none=>exact ih
  |some y=>
   show (y::nY m).Perm ((rQ m s).toList++(y::nY (m.set s none)))
   exact (ih.cons y).trans (je.symm)
def zHe:∀(ks:List Nat) (m:List (Option E)),ks.Nodup->(nY m).Perm (fp m ks++nY (clr m ks))
 |[],m,_=>bh _
 |s::ks,m,h=>by
  have hs:s ∉ ks:=(cm.1 h).1
  have ih:=zHe ks (m.set s none) (cm.1 h).2
  rw [wR hs] at ih
  have h1:=(qAa m s).trans (ih.append_left _)
  have e:fp m (s::ks)=(rQ m s).toList++fp m ks:=by
   unfold fp;rw [cu];cases rQ m s<;>rfl
  rw [e,lAa]
  exact h1
def clr_set {m:List (Option E)} {v:Option E} (l:List Nat):clr (m.set s v) (s::l)=clr m (s::l):=by
 show clr ((m.set s v).set s none) l=clr (m.set s none) l
 rw [fz]
def zNm {m:List (Option E)} {w:Nat} {rd:List Nat} {en:E} (hn:(w::rd).Nodup) (hw:w<m.length):((en::fp m rd)++nY (clr m (w::rd))).Perm (nY (m.set w (some en))):=by
 have h:=zHe (w::rd) (m.set w (some en)) hn
 rw [clr_set] at h
 have e:fp (m.set w (some en)) (w::rd)=en::fp m rd:=by
  have:=wR (m:=m) (s:=w) (v:=some en) (cm.1 hn).1
  unfold fp at this⊢
  rw [cu,zWm hw,this]
 rw [e] at h
 exact h.symm
def set_self {m:List (Option E)} {w:Nat} (h:nth m w=some none):m.set w none=m:=by
 rw [zGp] at h
 apply gn
 intro i
 by_cases hi:w=i
 ·subst hi;rw [dk (ai.1 h).1,h]
 ·rw [gt hi]
def allE_fresh {m:List (Option E)} {w:Nat} {en:E} (h:nth m w=some none):(en::nY m).Perm (nY (m.set w (some en))):=by
 have hw:w<m.length:=by rw [zGp] at h;exact (ai.1 h).1
 have h1:=qAa (m.set w (some en)) w
 rw [zWm hw,fz,set_self h] at h1
 exact h1.symm
/-! ## The derivation,in an order of our own -/
abbrev Rfs:=List (Nat×(V->E->Prop))
def rG:Rfs->Nat->V->E->Prop
 |[],_=>fun _ _=>False
 |(j,R)::r,i=>bif Nat.beq j i then R else rG r i
def stF (o:Oper) (e:lv->V) (en:E):E:=match o.op with
 |.store _ x y=>(match e x,mD (e y),en with
  |.c (.lit (.pointer (some a))),some new,.row b u cs=>.row b u (spl cs a.off new)
  |_,_,_=>en)
 |_=>en
def zPj {e':lv->V} (h:∀x,x∈o.op.operands->e x=e' x):stF o e=stF o e':=by
 funext en
 unfold stF
 split
 ·rename_i t x y ho
  rw [h x (by rw [ho];simp [Op.operands]),h y (by rw [ho];simp [Op.operands])]
 ·rfl
def pM (l:List Oper) (i:Nat):Option Tmp:=(nth l i).bind (·.dst)
def SQ (X:Cfg) (n:Nat) (l:List Oper) (F:Rfs) (K:(Nat->V)->List (Option E)->Prop):List It->(Nat->V)->List (Option E)->Prop
 |[],ρ,m=>K ρ m
 |⟨i,.q rd⟩::its,ρ,m=>∃o,nth l i=some o/\rd.Nodup/\∃r,GDetF X n l.toArray o ρ (fp m rd) r/\SQ X n l F K its (upd ρ o.dst r) m
 |⟨i,.e w rd⟩::its,ρ,m=>∃o,nth l i=some o/\o.guard=none/\(w<m.length/\(w::rd).Nodup)/\∃R,OpE X o (evF ρ) (fp m (w::rd)) R/\∀r μ',R r μ'->∃en,μ'=en::fp m rd/\SQ X n l F K its (upd ρ o.dst r) (m.set w (some en))
 |⟨i,.f w⟩::its,ρ,m=>∀r en,rG F i r en->SQ X n l F K its (upd ρ (pM l i) r) (m.set w (some en))
 |⟨i,.g w rd⟩::its,ρ,m=>∃o,nth l i=some o/\o.guard=none/\o.dst=none/\(w<m.length/\(w::rd).Nodup)/\∃en,rQ m w=some en/\OpE X o (evF ρ) (fp m (w::rd)) (fun _ μ'=>μ'=stF o (evF ρ) en::fp m rd)/\SQ X n l F K its ρ (m.set w (some (stF o (evF ρ) en)))
 |⟨i,.h w rd⟩::its,ρ,m=>∃o,nth l i=some o/\o.guard=none/\(w<m.length/\(w::rd).Nodup)/\∃R,OpE X o (evF ρ) (fp m (w::rd)) R/\(∃r en,R r (en::fp m rd))/\∀r μ',R r μ'->∃en,μ'=en::fp m rd/\SQ X n l F K its (upd ρ o.dst r) (m.set w (some en))
 |⟨i,.w w rd⟩::its,ρ,m=>∃o,nth l i=some o/\o.guard=none/\(w<m.length/\(w::rd).Nodup)/\∃r en,OpE X o (evF ρ) (fp m (w::rd)) (fun r' μ'=>r'=r/\μ'=en::fp m rd)/\SQ X n l F K its (upd ρ o.dst r) (m.set w (some en))
def rI (l:List Oper) (i:Nat):List Tmp:=match nth l i with
 |some o=>o.looksAt l.toArray
 |none=>[]
def rA (l:List Oper) (i j:Nat):Bool:=
 (rI l j).all (fun t=> !(pM l i==some t))&&(rI l i).all (fun t=> !(pM l j==some t))&&((pM l i==none)|| !(pM l i==pM l j))
def Kx.wr:Kx->Option Nat
 |.q _=>none
 |.e v _=>some v
 |.f v=>some v
 |.w v _=>some v
 |.g v _=>some v
 |.h v _=>some v
def Kx.rds:Kx->List Nat
 |.q rd=>rd
 |.e _ rd=>rd
 |.f _=>[]
 |.w _ rd=>rd
 |.g _ rd=>rd
 |.h _ rd=>rd
def fM (a b:Kx):Bool:=
 (match a.wr with|some w=>b.rds.all (fun s=> !Nat.beq s w)&&(match b.wr with|some v=> !Nat.beq v w|none=>true)|none=>true)&&
 (match b.wr with|some w=>a.rds.all (fun s=> !Nat.beq s w)|none=>true)
def rW:Kx->Kx->Bool
 |.q _,.q _=>true
 |.q _,.e _ _=>true
 |.q _,.w _ _=>true
 |.w _ _,.q _=>true
 |.w _ _,.e _ _=>true
 |.w _ _,.w _ _=>true
 |.q _,.g _ _=>true
 |.g _ _,.g _ _=>true
 |.f _,.g _ _=>true
 |.q _,.h _ _=>true
 |.h _ _,.g _ _=>true
 |_,.f _=>true
 |_,_=>false
def isF:Kx->Bool
 |.f _=>true
 |_=>false
def rU (l:List Oper) (a b:It):Bool:=(rW a.k b.k&&fM a.k b.k&&rA l a.i b.i)||(!isF b.k&&pO l 40 b.i a.i)
variable {l:List Oper} {i:Nat}
def regFree_spec {j:Nat} (h:rA l i j=true):
  (∀t,t∈rI l j->pM l i≠some t)/\(∀t,t∈rI l i->pM l j≠some t)/\(pM l i=none∨pM l i≠pM l j):=by
 unfold rA at h
 simp only [ae,lAe,ao,gv,aI,ff] at h
 exact ⟨h.1.1,h.1.2,h.2⟩
def zEd (h:nth l i=some o):pM l i=o.dst:=by unfold pM;rw [h];rfl
def wY (h:nth l i=some o):rI l i=o.looksAt l.toArray:=by unfold rI;rw [h]
variable {d:Option Tmp}
def zDd {e:Option Tmp} {u v:V} (h:d=none∨d≠e):upd (upd ρ d u) e v=upd (upd ρ e v) d u:=by
 funext t
 unfold upd
 by_cases h1:d=some t
 ·by_cases h2:e=some t
  ·rcases h with h|h
   ·rw [h] at h1;cases h1
   ·exact absurd (h1.trans h2.symm) h
  ·simp [h1,h2]
 ·by_cases h2:e=some t
  ·simp [h1,h2]
  ·simp [h1,h2]
def zNt {v:V} {t:Nat} (h:d≠some t):upd ρ d v t=ρ t:=aa h
def zBp {v:V} (h:∀t,t∈o.looksAt ops->d≠some t):∀x,x∈o.op.operands->evF (upd ρ d v) x=evF ρ x:=by
 intro x hx
 cases x with
 |tmp t=>exact zNt (h t (looks_op hx))
 |_=>rfl
section
variable {X:Cfg} {n:Nat} {l:List Oper} {F:Rfs} {K:(Nat->V)->List (Option E)->Prop}
def SQ.swap {a b:It} {its:List It} {ρ:Nat->V} {m:List (Option E)} (hk:rW a.k b.k=true) (hm:fM a.k b.k=true) (hr:rA l a.i b.i=true) (hF:∀w,a.k=.f w->∃r en,rG F a.i r en) (h:SQ X n l F K (a::b::its) ρ m):SQ X n l F K (b::a::its) ρ m:=by
 obtain ⟨i,ka⟩:=a
 obtain ⟨j,kb⟩:=b
 simp only at hk hm hr hF
 obtain ⟨f1,f2,f3⟩:=regFree_spec hr
 cases ka with
 |q rd=>
  obtain ⟨o,ho,hn1,r,hG,h⟩:=h
  rw [wY ho] at f2
  rw [zEd ho] at f1 f3
  cases kb with
  |q rd2=>
   obtain ⟨o2,ho2,hn2,r2,hG2,h⟩:=h
   rw [wY ho2] at f1
   rw [zEd ho2] at f2 f3
   refine ⟨o2,ho2,hn2,r2,hG2.congr fun t ht=>zNt (f1 t ht),o,ho,hn1,r,hG.congr fun t ht=>(zNt (f2 t ht)).symm,?_⟩
   rw [←zDd f3];exact h
  |e w rd2=>
   obtain ⟨o2,ho2,hg2,hw2,R,hO,h⟩:=h
   rw [wY ho2] at f1
   rw [zEd ho2] at f2 f3
   simp only [fM,Kx.wr,Kx.rds,aL,lAe,ao] at hm
   refine ⟨o2,ho2,hg2,hw2,R,hO.congr fun x hx=>zBp f1 x hx,fun r2 μ' hrr=>?_⟩
   exact v22
  |f w=>
   simp only [fM,Kx.wr,Kx.rds,aL,lAe,ao] at hm
   have hn:w ∉ rd:=fun hin=>by have:=hm w hin;rw [aR] at this;cases this
   refine fun r2 en hrr=>⟨o,ho,hn1,r,?_,?_⟩
   ·rw [wR hn];exact hG.congr fun t ht=>(zNt (f2 t ht)).symm
   ·rw [←zDd f3];exact h r2 en hrr
  |g w rd2=>
   obtain ⟨o2,ho2,hg2,hd2,hw2,en0,hs0,hO,h⟩:=h
   rw [wY ho2] at f1
   simp only [fM,Kx.wr,Kx.rds,aL,lAe,ao] at hm
   have hn:w ∉ rd:=fun hin=>by have:=hm w hin;rw [aR] at this;cases this
   have e:stF o2 (evF (upd ρ o.dst r))=stF o2 (evF ρ):=zPj fun x hx=>zBp f1 x hx
   rw [e] at hO h
   refine ⟨o2,ho2,hg2,hd2,hw2,en0,hs0,hO.congr fun x hx=>zBp f1 x hx,o,ho,hn1,r,?_,h⟩
   rw [wR hn];exact hG
  |h w rd2=>
   obtain ⟨o2,ho2,hg2,hw2,R,hO,hne,h⟩:=h
   rw [wY ho2] at f1
   rw [zEd ho2] at f2 f3
   simp only [fM,Kx.wr,Kx.rds,aL,lAe,ao] at hm
   refine ⟨o2,ho2,hg2,hw2,R,hO.congr fun x hx=>zBp f1 x hx,hne,fun r2 μ' hrr=>?_⟩
   exact v22
  |w w rd2=>
   obtain ⟨o2,ho2,hg2,hw2,r2,en,hO,h⟩:=h
   rw [wY ho2] at f1
   rw [zEd ho2] at f2 f3
   simp only [fM,Kx.wr,Kx.rds,aL,lAe,ao] at hm
   have hn:w ∉ rd:=fun hin=>by have:=hm w hin;rw [aR] at this;cases this
   refine ⟨o2,ho2,hg2,hw2,r2,en,hO.congr fun x hx=>zBp f1 x hx,o,ho,hn1,r,?_,?_⟩
   ·rw [wR hn];exact hG.congr fun t ht=>(zNt (f2 t ht)).symm
   ·rw [←zDd f3];exact h
 |w w rd=>
  obtain ⟨o,ho,hg,hw,r,en,hO,h⟩:=h
  rw [wY ho] at f2
  rw [zEd ho] at f1 f3
  cases kb with
  |q rd2=>
   obtain ⟨o2,ho2,hn2,r2,hG2,h⟩:=h
   rw [wY ho2] at f1
   rw [zEd ho2] at f2 f3
   simp only [fM,Kx.wr,Kx.rds,bv,lAe,ao] at hm
   have hn:w ∉ rd2:=fun hin=>by have:=hm w hin;rw [aR] at this;cases this
   rw [wR hn] at hG2
   refine ⟨o2,ho2,hn2,r2,hG2.congr fun t ht=>zNt (f1 t ht),o,ho,hg,hw,r,en,hO.congr fun x hx=>(zBp f2 x hx).symm,?_⟩
   rw [←zDd f3];exact h
  |e w2 rd2=>
   obtain ⟨o2,ho2,hg2,hw2,R,hO2,h⟩:=h
   rw [wY ho2] at f1
   rw [zEd ho2] at f2 f3
   simp only [fM,Kx.wr,Kx.rds,ae,lAe,ao] at hm
   have hne:w2≠w:=fun e=>by rw [e,aR] at hm;cases hm.1.2
   have hn:w ∉ rd2:=fun hin=>by have:=hm.1.1 w hin;rw [aR] at this;cases this
   have hn':w2 ∉ rd:=fun hin=>by have:=hm.2 w2 hin;rw [aR] at this;cases this
   have hn2:w ∉ w2::rd2:=fun hin=>by rcases af.1 hin with e|e;exact hne e.symm;exact hn e
   have hn2':w2 ∉ w::rd:=fun hin=>by rcases af.1 hin with e|e;exact hne e;exact hn' e
   rw [wR hn2] at hO2
   refine ⟨o2,ho2,hg2,⟨by simpa using hw2.1,hw2.2⟩,R,hO2.congr fun x hx=>zBp f1 x hx,fun r2 μ' hrr=>?_⟩
   obtain ⟨en2,he,h⟩:=h r2 μ' hrr
   rw [wR hn] at he
   refine ⟨en2,he,o,ho,hg,⟨by simpa using hw.1,hw.2⟩,r,en,?_,?_⟩
   ·rw [wR hn2',wR hn'];exact hO.congr fun x hx=>(zBp f2 x hx).symm
   ·rw [←zDd f3,ek _ _ hne];exact h
  |w w2 rd2=>
   obtain ⟨o2,ho2,hg2,hw2,r2,en2,hO2,h⟩:=h
   rw [wY ho2] at f1
   rw [zEd ho2] at f2 f3
   simp only [fM,Kx.wr,Kx.rds,ae,lAe,ao] at hm
   have hne:w2≠w:=fun e=>by rw [e,aR] at hm;cases hm.1.2
   have hn:w ∉ rd2:=fun hin=>by have:=hm.1.1 w hin;rw [aR] at this;cases this
   have hn':w2 ∉ rd:=fun hin=>by have:=hm.2 w2 hin;rw [aR] at this;cases this
   have hn2:w ∉ w2::rd2:=fun hin=>by rcases af.1 hin with e|e;exact hne e.symm;exact hn e
   have hn2':w2 ∉ w::rd:=fun hin=>by rcases af.1 hin with e|e;exact hne e;exact hn' e
   rw [wR hn2,wR hn] at hO2
   refine ⟨o2,ho2,hg2,⟨by simpa using hw2.1,hw2.2⟩,r2,en2,hO2.congr fun x hx=>zBp f1 x hx,o,ho,hg,⟨by simpa using hw.1,hw.2⟩,r,en,?_,?_⟩
   ·rw [wR hn2',wR hn'];exact hO.congr fun x hx=>(zBp f2 x hx).symm
   ·rw [←zDd f3,ek _ _ hne];exact h
  |f w2=>
   simp only [fM,Kx.wr,Kx.rds,fh,aL,ae,lAe,ao] at hm
   have hne:w2≠w:=fun e=>by rw [e,aR] at hm;cases hm.1
   have hn:w2 ∉ rd:=fun hin=>by have:=hm.2 w2 hin;rw [aR] at this;cases this
   have hn2:w2 ∉ w::rd:=fun hin=>by rcases af.1 hin with e|e;exact hne e;exact hn e
   refine fun r2 en2 hrr2=>⟨o,ho,hg,⟨by simpa using hw.1,hw.2⟩,r,en,?_,?_⟩
   ·rw [wR hn2,wR hn];exact hO.congr fun x hx=>(zBp f2 x hx).symm
   ·rw [←zDd f3,ek _ _ hne]
    exact h r2 en2 hrr2
  |g w2 rd2=>cases hk
  |h w2 rd2=>cases hk
 |g w rd=>
  cases kb with
  |q rd2=>cases hk
  |e w2 rd2=>cases hk
  |w w2 rd2=>cases hk
  |f w2=>
   obtain ⟨o,ho,hg,hd,hw,en0,hs0,hO,h⟩:=h
   rw [wY ho] at f2
   simp only [fM,Kx.wr,Kx.rds,fh,aL,ae,lAe,ao] at hm
   have hne:w2≠w:=fun e=>by rw [e,aR] at hm;cases hm.1
   have hn:w2 ∉ rd:=fun hin=>by have:=hm.2 w2 hin;rw [aR] at this;cases this
   have hn2:w2 ∉ w::rd:=fun hin=>by rcases af.1 hin with e|e;exact hne e;exact hn e
   refine fun r2 en2 hrr2=>?_
   have e:stF o (evF (upd ρ (pM l j) r2))=stF o (evF ρ):=zPj fun x hx=>zBp f2 x hx
   refine ⟨o,ho,hg,hd,⟨by simpa using hw.1,hw.2⟩,en0,by rw [zCe hne];exact hs0,?_,?_⟩
   ·rw [wR hn2,wR hn,e];exact hO.congr fun x hx=>(zBp f2 x hx).symm
   ·rw [e,ek _ _ hne];exact h r2 en2 hrr2
  |g w2 rd2=>
   obtain ⟨o,ho,hg,hd,hw,en0,hs0,hO,o2,ho2,hg2,hd2,hw2,en2,hs2,hO2,h⟩:=h
   simp only [fM,Kx.wr,Kx.rds,ae,lAe,ao] at hm
   have hne:w2≠w:=fun e=>by rw [e,aR] at hm;cases hm.1.2
   have hn:w ∉ rd2:=fun hin=>by have:=hm.1.1 w hin;rw [aR] at this;cases this
   have hn':w2 ∉ rd:=fun hin=>by have:=hm.2 w2 hin;rw [aR] at this;cases this
   have hn2:w ∉ w2::rd2:=fun hin=>by rcases af.1 hin with e|e;exact hne e.symm;exact hn e
   have hn2':w2 ∉ w::rd:=fun hin=>by rcases af.1 hin with e|e;exact hne e;exact hn' e
   rw [zCe (fy hne)] at hs2
   rw [wR hn2,wR hn] at hO2
   rw [ek _ _ (fy hne)] at h
   exact ⟨o2,ho2,hg2,hd2,⟨by simpa using hw2.1,hw2.2⟩,en2,hs2,hO2,o,ho,hg,hd,⟨by simpa using hw.1,hw.2⟩,en0,by rw [zCe hne];exact hs0,by rw [wR hn2',wR hn'];exact hO,h⟩
  |h w2 rd2=>cases hk
 |h w rd=>
  cases kb with
  |q rd2=>cases hk
  |e w2 rd2=>cases hk
  |w w2 rd2=>cases hk
  |h w2 rd2=>cases hk
  |f w2=>
   obtain ⟨o,ho,hg,hw,R,hO,hne0,h⟩:=h
   rw [wY ho] at f2
   rw [zEd ho] at f1 f3
   simp only [fM,Kx.wr,Kx.rds,fh,aL,ae,lAe,ao] at hm
   have hne:w2≠w:=fun e=>by rw [e,aR] at hm;cases hm.1
   have hn:w2 ∉ rd:=fun hin=>by have:=hm.2 w2 hin;rw [aR] at this;cases this
   have hn2:w2 ∉ w::rd:=fun hin=>by rcases af.1 hin with e|e;exact hne e;exact hn e
   refine fun r2 en2 hrr2=>⟨o,ho,hg,⟨by simpa using hw.1,hw.2⟩,R,?_,by rw [wR hn];exact hne0,fun r μ' hrr=>?_⟩
   ·rw [wR hn2];exact hO.congr fun x hx=>(zBp f2 x hx).symm
   ·obtain ⟨en,he,h⟩:=h r μ' hrr
    refine ⟨en,by rw [wR hn];exact he,?_⟩
    rw [←zDd f3,ek _ _ hne]
    exact h r2 en2 hrr2
  |g w2 rd2=>
   obtain ⟨o,ho,hg,hw,R,hO,⟨r0,e0,hr0⟩,h⟩:=h
   obtain ⟨e1,he1,o2,ho2,hg2,hd2,hw2,en2,hs2,hO2,_⟩:=h r0 _ hr0
   cases he1
   rw [wY ho2] at f1
   rw [wY ho] at f2
   rw [zEd ho] at f1
   simp only [fM,Kx.wr,Kx.rds,ae,lAe,ao] at hm
   have hne:w2≠w:=fun e=>by rw [e,aR] at hm;cases hm.1.2
   have hn:w ∉ rd2:=fun hin=>by have:=hm.1.1 w hin;rw [aR] at this;cases this
   have hn':w2 ∉ rd:=fun hin=>by have:=hm.2 w2 hin;rw [aR] at this;cases this
   have hn2:w ∉ w2::rd2:=fun hin=>by rcases af.1 hin with e|e;exact hne e.symm;exact hn e
   have hn2':w2 ∉ w::rd:=fun hin=>by rcases af.1 hin with e|e;exact hne e;exact hn' e
   have key:∀r,stF o2 (evF (upd ρ o.dst r))=stF o2 (evF ρ):=fun r=>zPj fun x hx=>zBp f1 x hx
   rw [zCe (fy hne)] at hs2
   rw [wR hn2,wR hn,key] at hO2
   refine ⟨o2,ho2,hg2,hd2,⟨by simpa using hw2.1,hw2.2⟩,en2,hs2,hO2.congr fun x hx=>zBp f1 x hx,o,ho,hg,⟨by simpa using hw.1,hw.2⟩,R,?_,⟨r0,e0,by rw [wR hn'];exact hr0⟩,fun r μ' hrr=>?_⟩
   ·rw [wR hn2'];exact hO
   ·obtain ⟨e3,he3,o3,ho3,_,_,_,en3,hs3,_,hS⟩:=h r μ' hrr
    rw [ho2] at ho3;cases ho3
    rw [zCe (fy hne),hs2] at hs3;cases hs3
    rw [key,ek _ _ (fy hne)] at hS
    exact ⟨e3,by rw [wR hn'];exact he3,hS⟩
 |e w rd=>
  cases kb with
  |q rd2=>cases hk
  |e w2 rd2=>cases hk
  |w w2 rd2=>cases hk
  |g w2 rd2=>cases hk
  |h w2 rd2=>cases hk
  |f w2=>
   obtain ⟨o,ho,hg,hw,R,hO,h⟩:=h
   rw [wY ho] at f2
   rw [zEd ho] at f1 f3
   simp only [fM,Kx.wr,Kx.rds,fh,aL,ae,lAe,ao] at hm
   have hne:w2≠w:=fun e=>by rw [e,aR] at hm;cases hm.1
   have hn:w2 ∉ rd:=fun hin=>by have:=hm.2 w2 hin;rw [aR] at this;cases this
   have hn2:w2 ∉ w::rd:=fun hin=>by rcases af.1 hin with e|e;exact hne e;exact hn e
   refine fun r2 en2 hrr2=>⟨o,ho,hg,⟨by simpa using hw.1,hw.2⟩,R,?_,fun r μ' hrr=>?_⟩
   ·rw [wR hn2];exact hO.congr fun x hx=>(zBp f2 x hx).symm
   ·obtain ⟨en,he,h⟩:=h r μ' hrr
    refine ⟨en,by rw [wR hn];exact he,?_⟩
    rw [←zDd f3,ek _ _ hne]
    exact h r2 en2 hrr2
 |f w=>
  cases kb with
  |q rd2=>cases hk
  |e w2 rd2=>cases hk
  |w w2 rd2=>cases hk
  |g w2 rd2=>
   obtain ⟨r0,e0,hr0⟩:=hF w rfl
   obtain ⟨o2,ho2,hg2,hd2,hw2,en2,hs2,hO2,_⟩:=h r0 e0 hr0
   rw [wY ho2] at f1
   simp only [fM,Kx.wr,Kx.rds,fh,bv,ae,lAe,ao] at hm
   have hne:w2≠w:=fun e=>by rw [e,aR] at hm;cases hm.2
   have hn:w ∉ rd2:=fun hin=>by have:=hm.1 w hin;rw [aR] at this;cases this
   have hn2:w ∉ w2::rd2:=fun hin=>by rcases af.1 hin with e|e;exact hne e.symm;exact hn e
   have key:∀r,stF o2 (evF (upd ρ (pM l i) r))=stF o2 (evF ρ):=fun r=>zPj fun x hx=>zBp f1 x hx
   rw [zCe (fy hne)] at hs2
   rw [wR hn2,wR hn,key] at hO2
   refine ⟨o2,ho2,hg2,hd2,⟨by simpa using hw2.1,hw2.2⟩,en2,hs2,hO2.congr fun x hx=>zBp f1 x hx,fun r en hrr=>?_⟩
   obtain ⟨o3,ho3,_,_,_,en3,hs3,_,hS⟩:=h r en hrr
   rw [ho2] at ho3;cases ho3
   rw [zCe (fy hne),hs2] at hs3;cases hs3
   rw [key,ek _ _ (fy hne)] at hS
   exact hS
  |h w2 rd2=>cases hk
  |f w2=>
   simp only [fM,Kx.wr,Kx.rds,fh,aL,bv,ao] at hm
   have hne:w2≠w:=fun e=>by rw [e,aR] at hm;cases hm
   refine fun r2 en2 hrr2 r en hrr=>?_
   rw [←zDd f3,ek _ _ hne]
   exact h r en hrr r2 en2 hrr2
def SQ.front {b:It} {its:List It}:∀{A:List It} {ρ:Nat->V} {m:List (Option E)},(∀a,a∈A->rW a.k b.k=true/\fM a.k b.k=true/\rA l a.i b.i=true/\∀w,a.k=.f w->∃r en,rG F a.i r en)->SQ X n l F K (A++b::its) ρ m->SQ X n l F K (b::(A++its)) ρ m
 |[],_,_,_,h=>h
 |a::A,ρ,m,hA,h=>by
  obtain ⟨h1,h2,h3,h4⟩:=hA a uD
  refine SQ.swap h1 h2 h3 h4 ?_
  obtain ⟨i,ka⟩:=a
  have ih:=fun ρ m=>SQ.front (b:=b) (its:=its) (A:=A) (ρ:=ρ) (m:=m) fun a ha=>hA a (by simp [ha])
  cases ka with
  |q rd=>obtain ⟨o,ho,hn,r,hG,h⟩:=h;exact ⟨o,ho,hn,r,hG,ih _ _ h⟩
  |e w rd=>obtain ⟨o,ho,hg,hw,R,hO,h⟩:=h;exact ⟨o,ho,hg,hw,R,hO,fun r μ' hrr=>by obtain ⟨en,he,h⟩:=h r μ' hrr;exact ⟨en,he,ih _ _ h⟩⟩
  |f w=>exact fun r en hrr=>ih _ _ (h r en hrr)
  |w w rd=>obtain ⟨o,ho,hg,hw,r,en,hO,h⟩:=h;exact ⟨o,ho,hg,hw,r,en,hO,ih _ _ h⟩
  |g w rd=>obtain ⟨o,ho,hg,hd,hw,en,hs,hO,h⟩:=h;exact ⟨o,ho,hg,hd,hw,en,hs,hO,ih _ _ h⟩
  |h w rd=>obtain ⟨o,ho,hg,hw,R,hO,hne,h⟩:=h;exact ⟨o,ho,hg,hw,R,hO,hne,fun r μ' hrr=>by obtain ⟨en,he,h⟩:=h r μ' hrr;exact ⟨en,he,ih _ _ h⟩⟩
def xV (l:List Oper) (s:Nat) (it:It):Bool:= !isF it.k||((rI l it.i).all fun t=>(List.range s).all fun j=> !(pM l j==some t))&&(nth l it.i).any fun o=>o.guard==none
def cK (X:Cfg) (l:List Oper) (F:Rfs) (ρ0:Nat->V) (its:List It):Prop:=∀i w,(⟨i,.f w⟩:It)∈its->∃o,nth l i=some o/\o.guard=none/\sO X o (evF ρ0) (rG F i)/\∃r en,rG F i r en
def nG (l:List Oper):List It->Bool
 |[]=>true
 |a::r=>r.all (rU l a)&&nG l r
def zXh {l:List Oper} {b:It}:∀{A B:List It},nG l (A++b::B)=true->nG l (A++B)=true/\(∀a,a∈A->rU l a b=true)/\(∀a,a∈B->rU l b a=true)
 |[],B,h=>by
  simp only [lNa,nG,ae,lAe] at h
  exact ⟨h.2,fun a ha=>(by cases ha),h.1⟩
 |a::A,B,h=>by
  simp only [lCa,nG,ae,lAe] at h
  obtain ⟨h1,h2,h3⟩:=zXh h.2
  refine ⟨?_,fun x hx=>?_,h3⟩
  ·simp only [lCa,nG,ae,lAe]
   exact ⟨fun x hx=>h.1 x (by rcases aq.1 hx with k|k<;>simp [k]),h1⟩
  ·rcases af.1 hx with rfl|hx
   ·exact h.1 b uD
   ·exact h2 x hx
def eH (X:Cfg) (n:Nat) (z:Z) (l:List Oper) (s:Nat) (Q:Exit->S->Prop) (ρ:Nat->V) (m:List (Option E)):Prop:=∃regs,ρ=dF regs/\RWP X n z l.toArray (l.drop s) Q ⟨regs,nY m⟩
end
section draw
variable {X:Cfg} {n:Nat} {z:Z} {Q:Exit->S->Prop} {l:List Oper} {s:Nat} {F:Rfs}
def listed_tf {listed:Array Bool} {j:Nat} (hj:j<listed.size):listed.getD j true=listed.getD j false:=by
 rw [am,am,aD hj];rfl
def unl_count {m:Nat} {listed:Array Bool} (hsz:listed.size=l.length) (hml:m<=l.length) (hq:∀i,i<m->listed.getD i true=true) (htail:∀i,m<=i->i<l.length->listed.getD i true=false):unl listed=l.length-m:=by
 have hL:listed.toList=(List.range l.length).map fun i=>decide (i<m):=by
  apply gn
  intro i
  by_cases hi:i<l.length
  ·rw [bu,ee hi]
   have hv:listed.getD i true=decide (i<m):=by
    by_cases him:i<m
    ·rw [hq i him];simp [him]
    ·rw [htail i zA hi];simp [him]
   rw [am,aD zA] at hv
   rw [kf,aD zA]
   simpa using hv
  ·rw [du uE,du uE]
 unfold unl
 rw [hL]
 have hr:∀N,m<=N->((List.range N).map fun i=>decide (i<m)).count false=N-m:=by
  intro N hN
  induction N with
  |zero=>simp
  |succ N ihN=>
   exact s8
 exact hr _ hml
def draw_c {z1:Z} (hz:ZLe z z1) (ok:DrawOk l s) (hsl:s<=l.length) (hdst:l.all (dstOk n)=true) {ρ0:Nat->V}:∀(fuel:Nat) (its:List It) (ρ:Nat->V) (m:List (Option E)) (listed:Array Bool) (a:Act) (w:World) (I:Nat->Prop),
  listed.size=l.length->unl listed=fuel->(∀i,s<=i->i<l.length->listed.getD i true=false)->vZ l listed->
  (∀i,i<s->(listed.getD i true=false↔∃k,(⟨i,k⟩:It)∈its))->(its.map It.i).Nodup->(∀it,it∈its->it.i<s)->nG l its=true->its.all (xV l s)=true->cK X l F ρ0 its->
  (∀t,(∀j,j<s->pM l j≠some t)->ρ t=ρ0 t)->(∀i v,(⟨i,.f v⟩:It)∈its->nth m v=some none)->
  SQ X n l F (eH X n z l s Q) its ρ m->Heap X w I (nY m)->(∀t,VRep w I (ρ t) (a.tmps.getD t undef))->Ext z1.w z1.I z1.μ w I (nY m)->a.defers=z1.ds->a.tmps.size=n->
  wpAnyIn (fen z.rd) 0 X.P .any l.toArray (gU X n z1 Q) fuel listed a w:=by
 intro fuel
 induction fuel with
 |zero=>
  intro its ρ m listed a w I hsz hun htail hclo hits hnd hlt hp hf1 hF hρ hfm hSQ hH hR hx hd hs
  have hall:∀i,i<l.length->listed.getD i true=true:=by
   intro i hi
   cases hb:listed.getD i true with
   |true=>rfl
   |false=>have:=zRu hb;omega
  have hsl':s=l.length:=by
   rcases eg s l.length with h|h
   ·have h1:=htail s (aH _) h;rw [hall s h] at h1;cases h1
   ·omega
  have hnil:its=[]:=by
   cases its with
   |nil=>rfl
   |cons it r=>
    have h1:=hlt it uD
    have h2:=(hits it.i h1).2 ⟨it.k,uD⟩
    rw [hall it.i zA] at h2;cases h2
  subst hnil
  obtain ⟨regs,rfl,hk⟩:=hSQ
  refine zIs ok 0 l.length listed a w hsz hsl (aH _) (fun i hi=>by rw [hall i hi];simp [hi]) zA ?_
  have:=hk (by rw [hsl'];simp) z1 hz a w ⟨I,hH,hR,hx,hd,hs⟩
  rwa [hsl'] at this
 |succ fuel ih=>
  intro its ρ m listed a w I hsz hun htail hclo hits hnd hlt hp hf1 hF hρ hfm hSQ hH hR hx hd hs
  cases hits0:its with
  |nil=>
   subst hits0
   have hq:∀i,i<s->listed.getD i true=true:=by
    intro i hi
    cases hb:listed.getD i true with
    |true=>rfl
    |false=>obtain ⟨k,hk⟩:=(hits i hi).1 hb;cases hk
   obtain ⟨regs,rfl,hk⟩:=hSQ
   refine zIs ok (fuel+1) s listed a w hsz (aH _) hsl (fun i hi=>?_) ?_ ?_
   ·by_cases him:i<s
    ·rw [hq i him];simp [him]
    ·rw [htail i zA hi];simp [him]
   ·have:=unl_count (m:=s) (l:=l) (listed:=listed) hsz hsl hq htail
    omega
   ·exact hk (by
     rw [lAe] at hdst⊢
     exact fun o ho=>hdst o (lMd ho)) z1 hz a w ⟨I,hH,hR,hx,hd,hs⟩
  |cons it0 its0=>
   have hi0s:=hlt it0 (by rw [hits0];simp)
   have hb00:=(hits it0.i hi0s).2 ⟨it0.k,by rw [hits0];simp⟩
   have hex:∃i,i<s/\listed.getD i true=false/\∀j,j<i->listed.getD j true=true:=by
    have strong:∀N i,i<N->i<s->listed.getD i true=false->∃i,i<s/\listed.getD i true=false/\∀j,j<i->listed.getD j true=true:=by
     intro N
     induction N with
     |zero=>intro i h;omega
     |succ N ihN=>
      exact o6
    exact strong (it0.i+1) it0.i zA hi0s hb00
   obtain ⟨i0,hi0,hb0,hmin⟩:=hex
   refine ⟨fun hnil=>?_,fun i hi=>?_⟩
   ·exfalso
    have hlt0:i0<l.length:=by omega
    have:i0∈Region.ready .any l.toArray listed:=by
     rw [ic]
     refine ⟨hb0,l[i0],by simp [hlt0],fun e he hb=>?_⟩
     have hlt:=ok.back i0 l[i0] (ak hlt0) e he hb
     have h2:=hmin e.on hlt
     rw [←listed_tf zA]
     exact h2
    rw [hnil] at this
    simp at this
   ·rw [ic] at hi
    obtain ⟨hbi,o,ho,hedge⟩:=hi
    have ho':l[i]? =some o:=by simpa using ho
    have hil:i<l.length:=(ai.1 ho').1
    have hun2:∀j,j<l.length->listed.getD j true=false->¬listed.getD j false=true:=fun j hj h1 h2=>by
     rw [←listed_tf zA,h1] at h2;cases h2
    have him:i<s:=by
     rcases eg i s with h|h
     ·exact h
     ·exfalso
      rcases eg s i with hgt|hge
      ·obtain ⟨e,he1,he2,he3⟩:=ok.tail1 i o ho' hgt
       have h1:=hedge e he1 he3
       rw [he2] at h1
       exact hun2 (i-1) zA (htail (i-1) zA zA) h1
      ·have him:i=s:=by omega
       subst him
       exact hun2 i0 zA hb0 (zJm hclo ho' hedge (ok.tail0 o ho' i0 hi0))
    obtain ⟨k,hk⟩:=(hits i him).1 hbi
    obtain ⟨A,B,hAB⟩:=List.append_of_mem hk
    rw [hAB] at hSQ hp hnd hits hlt hf1 hF hfm
    obtain ⟨hp1,hp2,hp3⟩:=zXh hp
    have hnd':((A++B).map It.i).Nodup/\(∀it,it∈A++B->it.i≠i):=by
     rw [aC,aK] at hnd
     have h1:=(je (a:=i) (l₁:=A.map It.i) (l₂:=B.map It.i)).nodup_iff.1 hnd
     rw [←aC] at h1
     obtain ⟨h2,h3⟩:=cm.1 h1
     exact ⟨h3,fun it hit e=>h2 (e ▸ kl hit)⟩
    have hmem:∀it,it∈A++B->it∈A++⟨i,k⟩::B:=fun it hit=>by
     rcases aq.1 hit with h|h<;>simp [h]
    have hfree:∀it,it∈A->rW it.k k=true/\fM it.k k=true/\rA l it.i i=true/\∀w,it.k=.f w->∃r en,rG F it.i r en:=by
     intro it hit
     have h1:=hp2 it hit
     unfold rU at h1
     simp only [aI,ae] at h1
     rcases h1 with h1|h1
     ·refine ⟨h1.1.1,h1.1.2,h1.2,fun w hw=>?_⟩
      obtain ⟨o9,_,_,_,h9⟩:=hF it.i w (by rw [←hw];simp [hit])
      exact h9
     ·exfalso
      have h2:=zJm hclo ho' hedge h1.2
      have h3:=hlt it (by simp [hit])
      have h4:=(hits it.i h3).2 ⟨it.k,by simp [hit]⟩
      exact hun2 it.i zA h4 h2
    have hSQ':=SQ.front hfree hSQ
    have hdo:dstOk n o=true:=by
     rw [lAe] at hdst
     exact hdst o (bg ho')
    have hon:nth l i=some o:=by rw [zGp];exact ho'
    simp only [wpOpIn,ho]
    have step:∀(r:V) (m':List (Option E)) v I' w',SQ X n l F (eH X n z l s Q) (A++B) (upd ρ o.dst r) m'->(∀j v,(⟨j,.f v⟩:It)∈A++B->nth m' v=some none)->VRep w' I' r v->Heap X w' I' (nY m')->Ext w I (nY m) w' I' (nY m')->wpAnyIn (fen z.rd) 0 X.P .any l.toArray (gU X n z1 Q) fuel (listed.setIfInBounds i true) (a.put o.dst v) w':=by
     intro r m' v I' w' hS hfm' hv hH' hx'
     have hu:=zRu hbi
     refine ih (A++B) (upd ρ o.dst r) m' (listed.setIfInBounds i true) _ w' I' (by simp [hsz]) zA (fun j hj hjl=>?_) (fun j oj hoj hb e he1 he3=>?_) (fun j hj=>?_) hnd'.1 (fun it hit=>hlt it (hmem it hit)) hp1 ?_ (fun j v hj=>hF j v (hmem _ hj)) (fun t ht=>?_) hfm' hS hH' (fun t=>?_) (hx.trans hx') ?_ ?_
     ·rw [im true zA];exact htail j hj hjl
     ·exact r7
     ·by_cases hji:j=i
      ·subst hji
       constructor
       ·intro h
        rw [am,cx] at h
        simp [show j<listed.size by omega] at h
       ·rintro ⟨k',hk'⟩
        exact absurd rfl (hnd'.2 _ hk')
      ·rw [im true (fy hji),hits j hj]
       constructor
       ·rintro ⟨k',hk'⟩
        refine ⟨k',?_⟩
        rcases aq.1 hk' with h|h
        ·simp [h]
        ·rcases af.1 h with h|h
         ·injection h with h1 h2;exact absurd h1 hji
         ·simp [h]
       ·rintro ⟨k',hk'⟩
        exact ⟨k',hmem _ hk'⟩
     ·rw [lAe] at hf1⊢
      exact fun it hit=>hf1 it (hmem it hit)
     ·rw [zNt (by have:=ht i him;rw [zEd hon] at this;exact this)]
      exact hρ t ht
     ·cases hod:o.dst with
      |none=>rw [upd_none];exact hH.vrep hx' (hR t)
      |some d=>
       have hdn:d<n:=by simp only [dstOk,hod,ae] at hdo;simpa [cl] using hdo.1
       rw [zUs hs hdn]
       by_cases hdt:d=t
       ·subst hdt;rw [ab rfl,upd,ab rfl];exact hv
       ·rw [aa hdt,zNt (by simpa using hdt)];exact hH.vrep hx' (hR t)
     ·cases hod:o.dst<;>simp [Act.put,hd]
     ·cases hod:o.dst<;>simp [Act.put,hs]
    have hlook:∀t,t∈o.looksAt l.toArray->VRep w I (ρ t) (a.tmps.getD t undef):=fun t _=>hR t
    have hops:∀x,x∈o.op.operands->VRep w I (evF ρ x) (a.eval x):=by
     intro x hx
     cases x with
     |tmp t=>exact hR t
     |const v=>exact zTd w I v
     |global g=>exact CRep.lit _ rfl
     |func f=>exact CRep.fn (.func f) [] [] [] [] rfl rfl (fun j c u hc=>by simp at hc) (fun j c u hc=>by simp at hc)
    have keep:∀v,(∀it,it∈A++B->isF it.k=true->it.k.wr≠some v)->∀en,∀j u,(⟨j,.f u⟩:It)∈A++B->nth (m.set v (some en)) u=some none:=by
     intro v hv en j u hj
     have h1:=hfm j u (hmem _ hj)
     have hne:v≠u:=fun e=>hv _ hj rfl (by rw [e];rfl)
     rw [zGp,gt hne,←zGp];exact h1
    have wrs:∀v,k.wr=some v->∀it,it∈A++B->isF it.k=true->it.k.wr≠some v:=by
     intro v hv it hit hF1 hw
     rcases aq.1 hit with h|h
     ·have h1:=(hfree it h).2.1
      unfold fM at h1
      rw [hw,hv] at h1
      simp [aR] at h1
     ·have h1:=hp3 it h
      unfold rU at h1
      rw [hF1] at h1
      simp only [bf,aZ,gi,ae] at h1
      have h2:=h1.1.2
      unfold fM at h2
      simp only [hw,hv] at h2
      simp [aR] at h2
    cases k with
    |q rd=>
     obtain ⟨o2,ho2,hrn,r,hG,hS⟩:=hSQ'
     rw [hon] at ho2;cases ho2
     have hG':=(hG.wide (zHe rd m hrn)) a w I hH hlook hs (wpAnyIn (fen z.rd) 0 X.P .any l.toArray (gU X n z1 Q) fuel (listed.setIfInBounds i true)) (gU X n z1 Q) fun v I' w' hv hH' hx'=>step r m v I' w' hS (fun j u hj=>hfm j u (hmem _ hj)) hv hH' hx'
     exact v13
    |e v rd=>
     obtain ⟨o2,ho2,hg,⟨hw1,hw2⟩,R,hO,hS⟩:=hSQ'
     exact n6
    |w v rd=>
     obtain ⟨o2,ho2,hg,⟨hw1,hw2⟩,r0,en0,hO,hS0⟩:=hSQ'
     rw [hon] at ho2;cases ho2
     have hO':=(hO.wide (zHe (v::rd) m hw2)) a w I hH hops (wpAnyIn (fen z.rd) 0 X.P .any l.toArray (gU X n z1 Q) fuel (listed.setIfInBounds i true)) (gU X n z1 Q) (by
      rintro u r _ I' w' ⟨μ',hrr,rfl⟩ hv hH' hx'
      obtain ⟨rfl,rfl⟩:=hrr
      have hS':=hS0
      have hpm:=zNm (m:=m) (en:=en0) hw2 hw1
      exact step r _ u I' w' hS' (keep v (wrs v rfl) en0) hv (hH'.perm hpm) (hx'.perm (bh _) hpm))
     exact v34
    |h v rd=>
     obtain ⟨o2,ho2,hg,⟨hw1,hw2⟩,R,hO,_,hS⟩:=hSQ'
     exact n6
    |g v rd=>
     obtain ⟨o2,ho2,hg,hd2,⟨hw1,hw2⟩,en0,_,hO,hS0⟩:=hSQ'
     rw [hon] at ho2;cases ho2
     have hO':=(hO.wide (zHe (v::rd) m hw2)) a w I hH hops (wpAnyIn (fen z.rd) 0 X.P .any l.toArray (gU X n z1 Q) fuel (listed.setIfInBounds i true)) (gU X n z1 Q) (by
      rintro u r _ I' w' ⟨μ',rfl,rfl⟩ hv hH' hx'
      have hpm:=zNm (m:=m) (en:=stF o (evF ρ) en0) hw2 hw1
      exact step r _ u I' w' (by rw [hd2,upd_none];exact hS0) (keep v (wrs v rfl) _) hv (hH'.perm hpm) (hx'.perm (bh _) hpm))
     exact v34
    |f v=>
     obtain ⟨o2,ho2,hg,hFr,_⟩:=hF i v uD
     rw [hon] at ho2;cases ho2
     have hfv:=hfm i v uD
     have hFr':sO X o (evF ρ) (rG F i):=by
      refine OpE.congr hFr fun x hx=>?_
      cases x with
      |tmp t=>
       have h1:=ax.1 hf1 ⟨i,.f v⟩ uD
       simp only [xV,isF,bf,eu,ae,lAe,ao,gv,cn,wY hon] at h1
       exact (hρ t (h1.1 t (looks_op hx))).symm
      |_=>rfl
     have hO':=(OpE.wide (φ:=nY m) hFr' (bh _)) a w I hH hops (wpAnyIn (fen z.rd) 0 X.P .any l.toArray (gU X n z1 Q) fuel (listed.setIfInBounds i true)) (gU X n z1 Q) (by
      rintro u r _ I' w' ⟨_,⟨en,hrr,rfl⟩,rfl⟩ hv hH' hx'
      have hpm:=allE_fresh (en:=en) hfv
      have hS':=hSQ' r en hrr
      rw [zEd hon] at hS'
      exact step r _ u I' w' hS' (keep v (wrs v rfl) en) hv (hH'.perm hpm) (hx'.perm (bh _) hpm))
     exact v34
def vM:List Nat->Bool
 |[]=>true
 |a::r=>r.all (fun b=> !Nat.beq a b)&&vM r
def eO (l:List Oper) (s:Nat) (its:List It):Bool:=
 its.all (fun it=>Nat.blt it.i s)&&(List.range s).all (fun i=>(its.map It.i).contains i)&&vM (its.map It.i)&&nG l its&&its.all (xV l s)
def FX (X:Cfg) (l:List Oper) (regs:List (Nat×V)):List It->Rfs->(Rfs->Prop)->Prop
 |[],F,K=>K F
 |⟨i,.f _⟩::its,F,K=>∃o,nth l i=some o/\o.guard=none/\∃Rf,sO X o (ev regs) Rf/\(∃r en,Rf r en)/\FX X l regs its (F++[(i,Rf)]) K
 |_::its,F,K=>FX X l regs its F K
def rfOf_app {F:Rfs} {i:Nat} {G:Rfs} (h:i∈F.map Prod.fst):rG (F++G) i=rG F i:=by
 induction F with
 |nil=>cases h
 |cons a F ih=>
  obtain ⟨j,R⟩:=a
  show (bif Nat.beq j i then R else rG (F++G) i)=bif Nat.beq j i then R else rG F i
  cases hb:Nat.beq j i with
  |true=>rfl
  |false=>
   simp only [az]
   refine ih ?_
   rcases af.1 h with h|h
   ·rw [h] at hb;simp [aR] at hb
   ·exact h
def rfOf_new {F:Rfs} {i:Nat} {R:V->E->Prop} (h:i ∉ F.map Prod.fst):rG (F++[(i,R)]) i=R:=by
 induction F with
 |nil=>show (bif Nat.beq i i then R else _)=R;rw [aR];rfl
 |cons a F ih=>
  obtain ⟨j,R'⟩:=a
  show (bif Nat.beq j i then R' else rG (F++[(i,R)]) i)=R
  cases hb:Nat.beq j i with
  |true=>exact absurd (bk hb).symm (fun e=>h (by simp [e]))
  |false=>exact ih fun e=>h (by simp [e])
def FX.parts {X:Cfg} {l:List Oper} {regs:List (Nat×V)} {K:Rfs->Prop}:∀{its:List It} {F:Rfs},(its.map It.i).Nodup->(∀it,it∈its->it.i ∉ F.map Prod.fst)->FX X l regs its F K->∃G,cK X l (F++G) (dF regs) its/\K (F++G)/\∀i,i∈G.map Prod.fst->i∈its.map It.i
 |[],F,_,_,h=>⟨[],fun i w hi=>(by cases hi),by rw [lAn];exact h,fun i hi=>(by cases hi)⟩
 |⟨i,.q rd⟩::its,F,hn,hd,h=>by
  exact t8
 |⟨i,.e w0 rd⟩::its,F,hn,hd,h=>by
  exact t8
 |⟨i,.w w0 rd⟩::its,F,hn,hd,h=>by
  exact t8
 |⟨i,.g w0 rd⟩::its,F,hn,hd,h=>by
  exact t8
 |⟨i,.h w0 rd⟩::its,F,hn,hd,h=>by
  exact t8
 |⟨i,.f w0⟩::its,F,hn,hd,h=>by
  obtain ⟨o,ho,hg,Rf,hF,hne,h⟩:=h
  have hi:=hd ⟨i,.f w0⟩ uD
  obtain ⟨G,h1,h2,h3⟩:=FX.parts (its:=its) (cm.1 hn).2 (fun it hit e=>by
   rw [aC] at e
   rcases aq.1 e with e|e
   ·exact hd it (by simp [hit]) e
   ·have e2:it.i=i:=by simpa using e
    exact (cm.1 hn).1 (by show i∈its.map It.i;rw [←e2];exact kl hit)) h
  refine ⟨(i,Rf)::G,fun j w hj=>?_,by simpa using h2,fun j hj=>?_⟩
  ·have e0:F++(i,Rf)::G=F++[(i,Rf)]++G:=by simp
   rcases af.1 hj with e|e
   ·injection e with e1 e2
    subst e1
    refine ⟨o,ho,hg,?_⟩
    rw [e0,rfOf_app uD,rfOf_new hi,zQv];exact ⟨hF,hne⟩
   ·rw [e0];exact h1 j w e
  ·rcases af.1 hj with e|e
   ·simp [e]
   ·exact au _ (h3 j e)
def zXm:∀{L:List Nat},vM L=true->L.Nodup
 |[],_=>jp
 |a::r,h=>by
  simp only [vM,ae,lAe,ao] at h
  exact cm.2 ⟨fun hin=>(by have:=h.1 a hin;rw [aR] at this;cases this),zXm h.2⟩
def zOd:∀k:Nat,(List.replicate k (none:Option E)).filterMap id=[]
 |0=>rfl
 |k+1=>by rw [List.replicate_succ,cu];exact zOd k
def kK {regs:List (Nat×V)} {μ:List E} {id:Nat} (s k:Nat) (its:List It) (hm:X.P.follows .mixedOrders=true) (hchk:rZ l s=true) (hits:eO l s its=true) (hml:Nat.ble s l.length=true) (hd:l.all (dstOk n)=true) (hfm:(its.all fun it=>match it.k with|.f w=>Nat.blt w k|_=>true)=true)
  (h:FX X l regs its [] fun F=>SQ X n l F (eH X n z l s Q) its (dF regs) (List.replicate k none++μ.map some)):AWP X n z (.region id l.toArray true) Q ⟨regs,μ⟩:=by
 intro z1 hz a w st
 obtain ⟨I,hH,hR,hx,hdf,hs⟩:=st.drew
 unfold eO at hits
 simp only [ae,lAe] at hits
 obtain ⟨⟨⟨⟨g1,g2⟩,g3⟩,g4⟩,g5⟩:=hits
 have hsl:=cj hml
 have hin:∀i,i<s->i∈its.map It.i:=fun i hi=>by simpa using g2 i (cn.2 hi)
 have hnd:(its.map It.i).Nodup:=zXm g3
 obtain ⟨G,h1,h2,h3⟩:=FX.parts hnd (fun it _ e=>by cases e) h
 rw [lNa] at h1 h2
 have hall:nY (List.replicate k none++μ.map some)=μ:=by
  unfold nY
  rw [ke]
  rw [zOd k,lNa,List.filterMap_map]
  show List.filterMap some μ=μ
  exact List.filterMap_some
 refine ji hm ?_
 refine draw_c (F:=G) hz (drawOk hchk) hsl hd _ its (dF regs) _ _ a _ I uD ?_ (fun i _ hi=>by simp [hi]) (fun j o ho hb=>by
  have hlt:j<l.length:=(ai.1 ho).1
  simp [hlt] at hb) (fun i hi=>?_) hnd (fun it hit=>by have:=g1 it hit;simpa [cl] using this) g4 (ax.2 g5) h1 (fun t _=>rfl) (fun i v hv=>?_) h2 (by rw [hall];exact hH) hR (by rw [hall];exact hx) hdf hs
 ·unfold unl
  simp
 ·constructor
  ·intro _
   obtain ⟨it,hit,e⟩:=bq.1 (hin i hi)
   exact ⟨it.k,by rw [←e];exact hit⟩
  ·intro _
   simp [show i<l.length by omega]
 ·have h4:=ax.1 hfm _ hv
  have h5:v<k:=by simpa [cl] using h4
  rw [zGp,dt (by simpa using h5),List.getElem?_replicate,ab h5]
end draw
/-! ## Steps of a derivation -/
section rules
variable {X:Cfg} {n:Nat} {z:Z} {Q:Exit->S->Prop} {l:List Oper} {s:Nat} {F:Rfs} {K:(Nat->V)->List (Option E)->Prop} {its:List It} {o:Oper} {regs:List (Nat×V)} {m:List (Option E)} {i:Nat} {rd:List Nat}
def qF {r:V} {d:Tmp} (ho:nth l i=some o) (hn:rd.Nodup) (hd:o.dst=some d) (hg:o.guard=none) (h:Det X o (ev regs) (fp m rd) r (fp m rd)) (k:SQ X n l F K its (dF ((d,r)::regs)) m):SQ X n l F K (⟨i,.q rd⟩::its) (dF regs) m:=
 ⟨o,ho,hn,r,zIq hg h,by rw [hd,look_upd];exact k⟩
def mq {r:V} {d:Tmp} (q:(nth l i).bind (fun o=>(dgO o).map fun d=>(o,d))=some (o,d)) (h:Det X o (ev regs) (fp m rd) r (fp m rd)) (k:SQ X n l F K its (dF ((d,r)::regs)) m) (hn:rd.Nodup:=by decide):SQ X n l F K (⟨i,.q rd⟩::its) (dF regs) m:=by
 cases ho:nth l i with
 |none=>rw [ho] at q;cases q
 |some o'=>
  cases hd:dgO o' with
  |none=>simp [ho,hd] at q
  |some d'=>
   simp [ho,hd] at q;obtain ⟨rfl,rfl⟩:=q
   exact qF ho hn (dgs hd).1 (dgs hd).2 h k
def zKm {w:Nat} {R:V->List E->Prop} {d:Tmp} (ho:nth l i=some o) (hw:Nat.blt w m.length=true) (hn:(w::rd).Nodup) (hd:o.dst=some d) (hg:o.guard=none) (h:OpE X o (ev regs) (fp m (w::rd)) R) (k:∀r μ',R r μ'->∃en,μ'=en::fp m rd/\SQ X n l F K its (dF ((d,r)::regs)) (m.set w (some en))):SQ X n l F K (⟨i,.e w rd⟩::its) (dF regs) m:=
 ⟨o,ho,hg,⟨by simpa [cl] using hw,hn⟩,R,by rw [zQv];exact h,fun r μ' hr=>by obtain ⟨en,h1,h2⟩:=k r μ' hr;exact ⟨en,h1,by rw [hd,look_upd];exact h2⟩⟩
def zGl {w:Nat} {R:V->List E->Prop} (ho:nth l i=some o) (hw:Nat.blt w m.length=true) (hn:(w::rd).Nodup) (hd:o.dst=none) (hg:o.guard=none) (h:OpE X o (ev regs) (fp m (w::rd)) R) (k:∀r μ',R r μ'->∃en,μ'=en::fp m rd/\SQ X n l F K its (dF regs) (m.set w (some en))):SQ X n l F K (⟨i,.e w rd⟩::its) (dF regs) m:=
 ⟨o,ho,hg,⟨by simpa [cl] using hw,hn⟩,R,by rw [zQv];exact h,fun r μ' hr=>by obtain ⟨en,h1,h2⟩:=k r μ' hr;exact ⟨en,h1,by rw [hd,upd_none];exact h2⟩⟩
def sq_v0 {w:Nat} {r:V} {en en0:E} (ho:nth l i=some o) (hw:Nat.blt w m.length=true) (hn:(w::rd).Nodup) (hd:o.dst=none) (hg:o.guard=none) (hs:rQ m w=some en0) (h:Det X o (ev regs) (fp m (w::rd)) r (en::fp m rd)) (he:stF o (ev regs) en0=en) (k:SQ X n l F K its (dF regs) (m.set w (some en))):SQ X n l F K (⟨i,.g w rd⟩::its) (dF regs) m:=
 ⟨o,ho,hg,hd,⟨by simpa [cl] using hw,hn⟩,en0,hs,by rw [zQv,he];exact OpE.mono h fun r' μ' e=>e.2,by rw [zQv,he];exact k⟩
def zPk {w:Nat} {d:Tmp} {R:V->E->Prop} (hR:rG F i=R) (hd:pM l i=some d) (k:∀r en,R r en->SQ X n l F K its (dF ((d,r)::regs)) (m.set w (some en))):SQ X n l F K (⟨i,.f w⟩::its) (dF regs) m:=
 fun r en hr=>by rw [hR] at hr;rw [hd,look_upd];exact k r en hr
def zBe {μ:List E} (hμ:nY m=μ) (h:RWP X n z l.toArray (l.drop s) Q ⟨regs,μ⟩):SQ X n l F (eH X n z l s Q) [] (dF regs) m:=⟨regs,rfl,by rw [hμ];exact h⟩
def zX {k:Kx} {Kf:Rfs->Prop} {G:Rfs} (hk:isF k=false) (h:FX X l regs its G Kf):FX X l regs (⟨i,k⟩::its) G Kf:=by
 cases k with
 |f w=>cases hk
 |q _=>exact h
 |e _ _=>exact h
 |w _ _=>exact h
 |g _ _=>exact h
 |h _ _=>exact h
def zQp {w:Nat} {Kf:Rfs->Prop} {G:Rfs} {Rf:V->E->Prop} (ho:nth l i=some o) (hg:o.guard=none) (h:sO X o (ev regs) Rf) (hne:∃r en,Rf r en) (k:FX X l regs its (G++[(i,Rf)]) Kf):FX X l regs (⟨i,.f w⟩::its) G Kf:=⟨o,ho,hg,Rf,h,hne,k⟩
def zBj {Kf:Rfs->Prop} {G:Rfs} (h:Kf G):FX X l regs [] G Kf:=h
end rules
section
variable {X:Cfg} {o:Oper} {e:lv->V} {μ:List E} {t:lu}
end
section
variable {X:Cfg} {o:Oper} {e:lv->V} {μ:List E}
end
variable {rows' rows:List (List C)} {sv:Value} {t:lu}
def mem2_eq' {u:lu} {b:Nat} {cs:List C} {bμ:List E} (h:rows=rows'):E.vec sv t n rows::E.row b u cs::bμ=[E.vec sv t n rows',E.row b u cs]++bμ:=by rw [h];rfl
def zGv {bμ:List E} (h:rows=rows'):E.vec sv t n rows::bμ=[E.vec sv t n rows']++bμ:=by rw [h];rfl
def Con.dropG {f:FuncId} {args:List V} {μ:List E} {Q:V->List E->Prop} (h:Con X f args μ fun r μ'=>∃μ2,(∃ν1 ν2,μ'=ν1++(μ2++ν2))/\Q r μ2):Con X f args μ Q:=by
 intro w I vs hH ha
 refine (h w I vs hH ha).mono ?_
 rintro en w' ⟨v,r,μ',I',h1,⟨μ2,⟨ν1,ν2,rfl⟩,h2⟩,h4,h5,h6⟩
 exact ⟨v,r,μ2,I',h1,h2,h4,(Heap.dropL h5).left,h6.less fun b hb=>by
  rw [kA,kA];exact aq.2 (.inr (aq.2 (.inl hb)))⟩
def flat_take {size:Nat}:∀{rows:List (List C)} (k:Nat),(∀r,r∈rows->r.length=size)->(rows.take k).flatten=rows.flatten.take (k*size)/\(rows.drop k).flatten=rows.flatten.drop (k*size)
 |[],k,_=>by simp
 |r::rows,0,h=>by simp
 |r::rows,k+1,h=>by
  have hr:=h r uD
  obtain ⟨h1,h2⟩:=flat_take (rows:=rows) k fun r' hr'=>h r' (by simp [hr'])
  have e:(k+1)*size=r.length+k*size:=by rw [dx,hr];omega
  constructor
  ·rw [aF,ez,ez,h1,e,jd,aS (l:=r) zA,dg]
  ·rw [aQ,ez,h2,e,gd,dp (l:=r) zA,dg,lNa]
section
variable {X:Cfg} {o:Oper} {e:lv->V} {μ:List E} {t:lu}
end
/-! ## Cells that are fresh,and what they read as -/
inductive FReps (w:World) (J:Nat->Prop):List C->List Value->Prop where
 |nil:FReps w J [] []
 |cons {c:C} {v:Value} {cs:List C} {vs:List Value} (h:FRep w J c v) (t:FReps w J cs vs):FReps w J (c::cs) (v::vs)
def FReps.mono {w w':World} {J J':Nat->Prop} (hw:∀b,J b->w'.heap[b]? =w.heap[b]?) (hI:∀b,J b->J' b) {cs:List C} {vs:List Value} (h:FReps w J cs vs):FReps w' J' cs vs:=by
 induction h with
 |nil=>exact .nil
 |cons h _ ih=>exact .cons (h.mono hw hI) ih
variable {w:World}
def FReps.lits {J:Nat->Prop} {cs:List C} {vs:List Value} (h:FReps w J cs vs) (w':World) (I:Nat->Prop):CReps w' I (vs.map .lit) vs:=by
 induction h with
 |nil=>exact .nil
 |cons h _ ih=>exact .cons (.lit _ h.one) ih
section
variable {sv:Value} {c:C}
def sX (sv:Value) (c:C):List C->List C->Prop
 |[],[]=>True
 |x::xs,y::ys=>(x=y∨(x=.lit sv/\y=c))/\sX sv c xs ys
 |_,_=>False
def zRj {w:World} {I:Nat->Prop} (h:CRep w I c sv):∀{xs ys:List C} {vs:List Value},sX sv c xs ys->CReps w I xs vs->CReps w I ys vs
 |[],[],_,_,k=>k
 |x::xs,y::ys,_,hc,.cons hd tl=>by
  refine .cons ?_ (zRj h hc.2 tl)
  rcases hc.1 with rfl|⟨rfl,rfl⟩
  ·exact hd
  ·cases hd;exact h
 |[],_::_,_,h,_=>(h:False).elim
 |_::_,[],_,h,_=>(h:False).elim
structure EFlC (sv:Value) (c:C) (e e':E):Prop where
 blocks:e'.blocks=e.blocks
 mono:e.Mono->e'.Mono
 rep:∀w I,CRep w I c sv->ERep w I e->ERep w I e'
def EFlC.refl (e:E):EFlC sv c e e:=⟨rfl,fun h=>h,fun _ _ _ h=>h⟩
def EFlC.row {b:Nat} {t:lu} {cs ds:List C} (h:sX sv c cs ds):EFlC sv c (.row b t cs) (.row b t ds):=
 ⟨rfl,fun _=>trivial,fun _ _ hs ⟨vs,h1,h2⟩=>⟨vs,h1,zRj hs h h2⟩⟩
def cflC_length {xs ys:List C} (h:sX sv c xs ys):ys.length=xs.length:=by
 induction xs generalizing ys with
 |nil=>cases ys with
  |nil=>rfl
  |cons y ys=>exact h.elim
 |cons x xs ih=>cases ys with
  |nil=>exact h.elim
  |cons y ys=>simp [ih h.2]
def cflC_refl (xs:List C):sX sv c xs xs:=by
 induction xs with
 |nil=>trivial
 |cons x xs ih=>exact ⟨.inl rfl,ih⟩
def zZt {xs ys xs' ys':List C} (h:sX sv c xs ys) (k:sX sv c xs' ys'):sX sv c (xs++xs') (ys++ys'):=by
 induction xs generalizing ys with
 |nil=>cases ys with
  |nil=>exact k
  |cons y ys=>exact h.elim
 |cons x xs ih=>cases ys with
  |nil=>exact h.elim
  |cons y ys=>exact ⟨h.1,ih h.2⟩
def flat_cflC {R:List (List C)} {i:Nat} {r r':List C} (hi:R[i]? =some r) (h:sX sv c r r'):sX sv c R.flatten (R.set i r').flatten:=by
 induction R generalizing i with
 |nil=>simp at hi
 |cons q R ih=>
  cases i with
  |zero=>
   simp at hi;subst hi
   simpa using zZt h (cflC_refl R.flatten)
  |succ i=>simpa using zZt (cflC_refl q) (ih (by simpa using hi))
def EFlC.vec {s:Value} {t:lu} {n i:Nat} {R:List (List C)} {r r':List C} (hi:R[i]? =some r) (h:sX sv c r r'):EFlC sv c (.vec s t n R) (.vec s t n (R.set i r')):=by
 refine ⟨rfl,fun _=>trivial,fun w I hs k=>?_⟩
 rcases k with ⟨_,_,rfl⟩|⟨h1,xs,h2,h3,h4⟩
 ·simp at hi
 ·refine .inr ⟨h1,xs,by rw [ed];exact h2,zRj hs (flat_cflC hi h) h3,fun q hq=>?_⟩
  rcases ge hq with h|h
  ·exact h4 q h
  ·subst h;rw [cflC_length ‹_›];exact h4 r (bg hi)
def FLC (sv:Value) (c:C) (x y:V):Prop:=∀w I v,CRep w I c sv->VRep w I x v->VRep w I y v
def FLC.sl:FLC sv c (.c (.lit sv)) (.c c):=by
 intro w I v h hv
 rw [hv.lit_inv]
 exact h
def FLC.agg {xs ys:List C} (h:sX sv c xs ys):FLC sv c (.agg xs) (.agg ys):=by
 intro w I v hs hv
 obtain ⟨vs,rfl,hc⟩:=hv.agg_inv
 exact ⟨vs,rfl,zRj hs h hc⟩
end
abbrev Cfg.up (X:Cfg) (n:Nat) (h:X.N<=n):Cfg:=⟨X.P,n,X.G,fun w w' hb=>X.hG w w' fun b hb'=>hb b (gk hb' h)⟩
def Con.up {X:Cfg} {f:FuncId} {args:List V} {μ:List E} {Q:V->List E->Prop} (h:Con X f args μ Q) (n:Nat) (hn:X.N<=n):Con (X.up n hn) f args μ Q:=by
 intro w I vs hH ha
 have H0:Heap X w I μ:=⟨cc hn hH.lo,hH.glob,hH.nodup,fun b hb=>⟨cc hn (hH.own b hb).1,(hH.own b hb).2⟩,hH.imm,hH.rep,hH.mono⟩
 refine (h w I vs H0 ha).mono ?_
 rintro en w' ⟨v,r,μ',I',h1,h2,h3,h4,h5⟩
 refine ⟨v,r,μ',I',h1,h2,h3,⟨cc hH.lo h5.size,h4.glob,h4.nodup,fun b hb=>⟨?_,(h4.own b hb).2⟩,h4.imm,h4.rep,h4.mono⟩,h5⟩
 rcases h5.own' b hb with h|h
 ·exact (hH.own b h).1
 ·exact cc hH.lo h
/-! ## A fresh tree,handed over -/
def kpV (m:Nat) (u u':Value):Prop:=
 u'=u∨(∃k a b,u=.int k a/\u'=.int k b)∨(∃s t,u=.string s/\u'=.string t/\t.size<=s.size+m)∨(∃a b,u=.bool a/\u'=.bool b)
variable {m:Nat}
def kpV.mono {m':Nat} (h:m<=m') {u u':Value} (k:kpV m u u'):kpV m' u u':=by
 rcases k with k|k|⟨s,t,h1,h2,h3⟩|k
 ·exact .inl k
 ·exact .inr (.inl k)
 ·exact .inr (.inr (.inl ⟨s,t,h1,h2,zA⟩))
 ·exact .inr (.inr (.inr k))
def kpV.one {u u':Value} (h:kpV m u u') (h1:u.oneCell'=true):u'.oneCell'=true:=by
 rcases h with rfl|⟨_,_,_,_,rfl⟩|⟨_,_,_,rfl,_⟩|⟨_,_,_,rfl⟩<;>first|exact h1|rfl
def Kp (w0:World) (bs:List Nat) (m:Nat) (w:World):Prop:=
 ∀b,b∈bs->∀cs t,w0.heap[b]? =some (.cells cs t (0,0))->∃cs',w.heap[b]? =some (.cells cs' t (0,0))/\cs'.size=cs.size/\∀(i:Nat) (u u':Value),cs[i]? =some u->cs'[i]? =some u'->kpV m u u'
def Kp.refl (w0:World) (bs:List Nat) (m:Nat):Kp w0 bs m w0:=fun b _ cs t h=>⟨cs,h,rfl,fun i u u' h1 h2=>.inl (by rw [h1] at h2;exact (Option.some.inj h2).symm)⟩
def Kp.up {w0:World} {bs:List Nat} {m':Nat} (hm:m<=m') (h:Kp w0 bs m w):Kp w0 bs m' w:=fun b hb cs t hc=>by
 obtain ⟨cs',h1,h2,h3⟩:=h b hb cs t hc
 exact ⟨cs',h1,h2,fun i u u' a b=>(h3 i u u' a b).mono hm⟩
def Kp.mono (w0:World) (bs:List Nat) (m:Nat):(E.reg bs (Kp w0 bs m)).Mono:=fun w w' hw h b hb cs t hc=>by
 obtain ⟨cs',h1,h2,h3⟩:=h b hb cs t hc
 exact ⟨cs',by rw [hw b hb];exact h1,h2,h3⟩
section
variable {X:Cfg} {o:Oper} {e:lv->V} {μ:List E} {w0:World} {bs:List Nat} {m:Nat}
def gh_inv {P:Value->Prop} {w:World} {I:Nat->Prop} {v:Value} (h:CRep w I (.gh P) v):P v:=by
 cases h with|gh _ _ _ h=>exact h
def ope_call_reg {f:FuncId} {arg_:List lv} {ts:Array lu} {args:List V} {en en':E} {r0:V} (p:Nat) (hp:nth μ p=some en) (ho:o.op=.call { callee:=.value (.func f),args:=arg_.toArray,argTypes:=ts }) (hf:bA X.P f=true)
  (hc:Con X f args [en] fun r μ'=>r=r0/\μ'=[en']) (ha:nB (arg_.map e) args):OpE X o e μ fun r μ'=>r=r0/\μ'=pN μ p en':=by
 have h1:OpE X o e (en::pV μ p) fun r μ'=>r=r0/\μ'=en'::pV μ p:=
  (zBm ho hf (hc.frame (pV μ p)) ha).mono fun r μ' ⟨μ1,⟨h1,h2⟩,h3⟩=>⟨h1,by rw [h3,h2];rfl⟩
 intro a w I hH hops K Q k
 refine h1 a w I (hH.perm (zHm hp)) hops K Q ?_
 rintro v r μ' I' w' ⟨rfl,rfl⟩ hv hH' hx
 exact k v _ _ I' w' ⟨rfl,rfl⟩ hv (hH'.perm (zPm en' hp).symm) (hx.perm (zHm hp).symm (zPm en' hp).symm)
def zPx {α:Type} {R:α->V} {En:α->E} {f:FuncId} {arg_:List lv} {ts:Array lu} {args:List V} (ho:o.op=.call { callee:=.value (.func f),args:=arg_.toArray,argTypes:=ts }) (hf:bA X.P f=true)
  (hc:Con X f args [] fun r μ'=>∃a,r=R a/\μ'=[En a]) (ha:nB (arg_.map e) args):OpE X o e μ fun r μ'=>∃a,r=R a/\μ'=En a::μ:=
 (zBm ho hf (hc.frame μ) ha).mono fun r μ' ⟨_,⟨a,h1,h2⟩,h3⟩=>⟨a,h1,by rw [h3,h2];rfl⟩
end
abbrev ZS:C:=.gh fun v=>∃a,v=.slice a 0 0
section
variable {X:Cfg} {o:Oper} {e:lv->V} {μ:List E} {t:lu} {w0:World} {bs:List Nat} {m:Nat}
def zOw {et:lu} {size bytes:Nat} {zs:List Value} (ho:o.op=.buildSlice t 0 ([]:List (Nat×lv)).toArray) (ht:fB X.P t=some (et,size,bytes)) (hz:fL X.P et=some zs):Det X o e μ (.c ZS) μ:=by
 intro a w I hH hops K Q k
 obtain ⟨us,hrun,hc,hul⟩:=zSc (X:=X) (I:=I) (rows:=[]) ho ht hz uD rfl rfl rfl hops
 let w':=w.alloc (.cells us.toArray et)
 have hsz:w'.heap.size=w.heap.size+1:=by show (w.heap.push _).size=_;simp
 have hold:∀b,b<w.heap.size->w'.heap[b]? =w.heap[b]? :=fun b hb=>Below.heap_alloc w _ b hb
 have still:∀b,I b->w'.heap[b]? =w.heap[b]? :=fun b hb=>hold b (hH.imm b hb)
 have hH':Heap X w' I μ:=
  ⟨by have:=hH.lo;omega,X.hG _ _ (fun b hb=>hold b (by have:=hH.lo;omega)) hH.glob,hH.nodup,hH.own,fun b hb=>by have:=hH.imm b hb;omega,fun en hen=>(hH.rep en hen).mono (hH.mono en hen) still (fun _ h=>h) fun b hb=>hold b ((hH.rep en hen).lt hb),hH.mono⟩
 have hx':Ext w I μ w' I μ:=⟨rfl,rfl,rfl,zA,fun b hb _=>hold b hb,fun _ h=>h,fun b hb=>.inl hb,fun b hb=>.inl hb⟩
 exact zCa hrun (k _ _ μ I w' ⟨rfl,rfl⟩ (CRep.gh _ _ rfl ⟨_,rfl⟩) hH' hx')
def zOp {et:lu} {x y:lv} {size bytes:Nat} {news:List (List C)} (ho:o.op=.call { callee:=.builtin .append,args:= #[x,y],argTypes:= #[t,t] }) (ht:fB X.P t=some (et,size,bytes))
  (hx:e x=.c ZS) (hy:e y=.c (.sl size news)) (hb:news.length*bytes<=140737488355328) (hn:news.length<=140737488355328):
  OpE X o e μ fun r μ'=>∃sv',r=.c (.lit sv')/\μ'=.vec sv' et size news::μ:=by
 intro a w I hH hops K Q k
 have hxv:=hops x (by rw [ho];simp [Op.operands,Call.operands])
 have hyv:=hops y (by rw [ho];simp [Op.operands,Call.operands])
 rw [hx] at hxv
 rw [hy] at hyv
 obtain ⟨a0,h1⟩:=gh_inv (show CRep w I ZS (a.eval x) from hxv)
 have hbl:(E.vec (.slice a0 0 0) et size []).blocks=[]:=by cases a0<;>rfl
 have ebl:bC (.vec (.slice a0 0 0) et size []::μ)=bC μ:=by rw [wW,hbl];rfl
 have hH0:Heap X w I (.vec (.slice a0 0 0) et size []::μ):=by
  refine ⟨hH.lo,hH.glob,by rw [ebl];exact hH.nodup,fun b hb=>hH.own b (by rw [ebl] at hb;exact hb),hH.imm,fun en hen=>?_,fun en hen=>?_⟩
  ·rcases af.1 hen with rfl|h
   ·exact .inl ⟨a0,rfl,rfl⟩
   ·exact hH.rep en h
  ·rcases af.1 hen with rfl|h
   ·trivial
   ·exact hH.mono en h
 have hp:nth (.vec (.slice a0 0 0) et size []::μ) 0=some (.vec (.slice a0 0 0) et size []):=rfl
 obtain ⟨v',w',hrun,e1,e2,e3,e4,e5,e6,e7,hone⟩:=zNw (P:=X.P) (ty:=o.type) ht (hH0.rep _ (zAy hp)) hyv (fun b hb=>⟨hH.imm b hb,fun h=>by rw [show svB (.slice a0 0 0)=[] from hbl] at h;cases h⟩) (by simp only [maxLen,lLn];omega) (by simpa using hb)
 obtain ⟨hH',hx'⟩:=Heap.write (w':=w') hH0 (en':=.vec v' et size ([]++news)) hp e1 e2 e3 e4 e5 (by simp only [E.blocks];unfold svB;split<;>simp) e6 trivial e7
 have hx2:Ext w I μ w' I (.vec v' et size news::μ):=⟨hx'.os,hx'.tape,hx'.output,hx'.size,fun b h1 h2=>hx'.block b h1 (by rw [ebl];exact h2),hx'.imm,fun b h=>by have:=hx'.imm' b h;rw [ebl] at this;exact this,fun b h=>by have:=hx'.own' b h;rw [ebl] at this;exact this⟩
 refine zCa ?_ (k v' _ _ I w' ⟨v',rfl,rfl⟩ (CRep.lit _ hone) hH' hx2)
 simp only [execOp,ho,resolve,invoke,builtin,aP,aU,aA,iq,aK,ck,h1,hrun]
end
section
variable {X:Cfg} {o:Oper} {e:lv->V} {μ:List E} {t:lu}
def zJo {et:lu} {size bytes k:Nat} {x hi:lv} {sv:Value} {rows:List (List C)} (p:Nat) (ho:o.op=.slice t x none (some hi) none) (ht:fB X.P t=some (et,size,bytes)) (hx:e x=.c (.lit sv))
  (hp:nth μ p=some (.vec sv et size rows)) {i:Int} (h2:e hi=.c (.lit (.int .i64 i))) (hik:i=(k:Int)) (hk:k<=rows.length):
  OpE X o e μ fun r μ'=>∃sv',r=.c (.lit sv')/\μ'=pN μ p (.vec sv' et size (rows.take k)):=by
 subst hik
 intro a w I hH hops K Q kk
 obtain ⟨hu,inf,z,hinf,hz,hs,hby,hzs,hpos⟩:=kT ht
 have hxv:=hops x (by rw [ho];simp [Op.operands])
 have hhv:=hops hi (by rw [ho];simp [Op.operands])
 rw [hx] at hxv
 rw [h2] at hhv
 have e1:=hxv.lit_inv
 rcases hH.rep _ (zAy hp) with ⟨a0,rfl,rfl⟩|⟨hb,xs,hown,hc,hr⟩
 ·have hk0:k=0:=by simpa using hk
  subst hk0
  have e2:=hhv.lit_inv
  have hb:∀m code,(Instr.sliceBound (.int .i64 0) m code).run X.P w=.ok 0 w:=fun m code=>by simp [Instr.sliceBound,asIntOf]
  obtain ⟨hH',hx'⟩:=Heap.write (w':=w) hH (en':=.vec (.slice a0 0 0) et size []) hp rfl rfl rfl (aH _) (fun _ _ _=>rfl) (by simp only [E.blocks];unfold svB;split<;>simp) (fun b hb=>.inl hb) trivial (.inl ⟨a0,rfl,rfl⟩)
  refine zCa (v:=.slice a0 0 0) (w':=w) ?_ (kk _ _ _ I w ⟨_,rfl,rfl⟩ (CRep.lit _ rfl) hH' hx')
  simp [execOp,ho,e1,e2,Instr.sliceAt,Instr.slice,aE hu,Instr.sliceBounds,hb,sizeOf,typeInfo,hinf]
 ·rcases hown.2 with ⟨rfl,h0⟩|⟨g,cap,cur,rfl,hbg,hg,hnc,hcm,hcs,htake⟩
  ·exact absurd rfl hb
  ·obtain ⟨c',rfl⟩:∃c',cap=c'+1:=by
    cases cap with
    |zero=>exact absurd rfl hb
    |succ c'=>exact ⟨c',rfl⟩
   have hrun:∀code,(Instr.sliceBound (a.eval hi) (c'+1) code).run X.P w=.ok k w:=fun code=>bnd_run hhv rfl zA
   obtain ⟨f1,_⟩:=flat_take (rows:=rows) k hr
   have hl1:(xs.take (k*size)).length=k*size:=by rw [aG,hown.1];exact bw (dc _ zA)
   have hl2:(rows.take k).length=k:=by rw [aG];omega
   obtain ⟨hH',hx'⟩:=Heap.write (w':=w) hH (en':=.vec (.slice (some ⟨g,0,none⟩) k (c'+1)) et size (rows.take k)) hp rfl rfl rfl (aH _) (fun _ _ _=>rfl) (by simp only [E.blocks];unfold svB;simp) (fun b hb=>.inl hb) trivial
    (.inr ⟨by unfold svB;simp,xs.take (k*size),by
     rw [hl2]
     refine ⟨hl1,.inr ⟨g,c'+1,cur,rfl,hbg,hg,zA,hcm,hcs,?_⟩⟩
     rw [←htake,fb,bw (dc _ zA)],by rw [f1];exact hc.take _,fun r hr'=>hr r (ec hr')⟩)
   refine zCa (v:=.slice (some ⟨g,0,none⟩) k (c'+1)) (w':=w) ?_ (kk _ _ _ I w ⟨_,rfl,rfl⟩ (CRep.lit _ rfl) hH' hx')
   have hB:(Instr.sliceBounds true rows.length (c'+1) none (some (a.eval hi)) none).run X.P w=.ok (0,k,c'+1) w:=by simp [Instr.sliceBounds,hrun]
   simp [execOp,ho,e1,Instr.sliceAt,Instr.slice,aE hu,hB,sizeOf,typeInfo,hinf,hs,Addr.add_lit]
def kI {f:FuncId} {arg_:List lv} {ts:Array lu} {args:List V} {μf φ:List E} {r:V} (ps:List Nat) (ho:o.op=.call { callee:=.value (.func f),args:=arg_.toArray,argTypes:=ts }) (hf:bA X.P f=true)
  (hc:Con X f args μf fun r' μ'=>r'=r/\μ'=μf) (ha:nB (arg_.map e) args) (hp:rT ps μ=some (μf,φ)):Det X o e μ r μ:=by
 have h:=zMg (o:=o) (e:=e) ps ho hf hc ha hp
 exact OpE.det_perm (a:=tC ps μf φ) h ((zIz ps μf φ).trans (zIi hp).symm)
def zFe {f:FuncId} {arg_:List lv} {ts:Array lu} {args:List V} {μf φ:List E} {Q:V->List E->Prop} (ps:List Nat) (ho:o.op=.call { callee:=.value (.func f),args:=arg_.toArray,argTypes:=ts }) (hf:bA X.P f=true)
  (hc:Con X f args μf Q) (ha:nB (arg_.map e) args) (hp:rT ps μ=some (μf,φ)):OpE X o e μ fun r μ'=>∃μf',Q r μf'/\μ'=tC ps μf' φ:=by
 have h1:=zBm (o:=o) (e:=e) ho hf ((hc.frame φ).perm (zIi hp)) ha
 intro a w I hH hops K Q' k
 refine h1 a w I hH hops K Q' ?_
 rintro v r μ' I' w' ⟨μ1,hq,rfl⟩ hv hH' hx
 have p:=(zIz ps μ1 φ).symm
 exact k v r _ I' w' ⟨μ1,hq,rfl⟩ hv (hH'.perm p) (hx.perm (bh _) p)
end
def setN_nth {α:Type}:∀{l:List α} {p:Nat} {x:α},nth l p=some x->pN l p x=l
 |[],_,_,h=>by simp [nth] at h
 |y::l,0,x,h=>by simp only [nth,ap] at h;subst h;rfl
 |y::l,p+1,x,h=>by
  have:=setN_nth (l:=l) (p:=p) h
  show y::pN l p x=y::l
  rw [this]
def Weak.vecEq {regs:List (Nat×V)} {μ:List E} {size:Nat} (p:Nat) (hp:nth μ p=some (.vec sv t size rows)) (h:rows=rows'):Weak ⟨regs,μ⟩ ⟨regs,pN μ p (.vec sv t size rows')⟩:=by
 subst h
 rw [setN_nth hp]
 intro X n z a w hs
 exact hs
def Con.keep {f:FuncId} {args:List V} {μ:List E} (h:Con X f args μ fun r' μ'=>r'=r/\∃ν,μ'=ν++μ):Con X f args μ fun r' μ'=>r'=r/\μ'=μ:=Con.drop h
def efles_refl {sv:Value} {size:Nat} {rows:List (List C)}:∀μ:List E,xK sv size rows μ μ
 |[]=>trivial
 |_::μ=>⟨EFle.refl _,efles_refl μ⟩
section
variable {X:Cfg} {o:Oper} {e:lv->V} {μ:List E} {x:lv}
end
/-! ## A slice of numbers that may be nil -/
def sT:Option (List Int)->C
 |none=>.lit (.slice none 0 0)
 |some w=>.sl 1 (w.map fun n=>[.lit (.int .i64 n)])
def fndC_le (q:Option (List Int)):VLe (.c (sT q)) (.c (.sl 1 ((q.getD []).map fun n=>[.lit (.int .i64 n)]))):=by
 cases q with
 |none=>exact VLe.nil
 |some w=>exact VLe.refl _
variable {I:Nat->Prop}
def fnd_nil {q:Option (List Int)} {v:Value} (hq:∀u,q=some u->u≠[]) (h:CRep w I (sT q) v):∃ad len cap,v=.slice ad len cap/\ad.isNone=q.isNone:=by
 cases q with
 |none=>
  cases (h:CRep w I (.lit (.slice none 0 0)) v) with
  |lit _ _=>exact ⟨none,0,0,rfl,rfl⟩
 |some u=>
  have h:CRep w I (.sl 1 (u.map fun n=>[C.lit (.int .i64 n)])) v:=h
  have hu:=hq u rfl
  generalize hrows:(u.map fun n=>[C.lit (.int .i64 n)])=rows at h
  cases h with
  |nil _ ad cap=>exact absurd (List.map_eq_nil_iff.1 hrows) hu
  |sl _ _ ad cap us hI hl' hcap hc hr=>exact ⟨some ad,rows.length,cap,rfl,rfl⟩
section
variable {X:Cfg} {o:Oper} {e:lv->V} {μ:List E} {t ty et:lu} {size bytes:Nat} {x y:lv}
def zZe {q:Option (List Int)} (ho:o.op=.binOp .eql t x y ty) (ht:fB X.P t=some (et,size,bytes)) (hx:e x=.c (sT q)) (hy:e y=.c (.lit (.slice none 0 0))) (hq:∀u,q=some u->u≠[]):Det X o e μ (.c (.lit (.bool q.isNone))) μ:=
 kN fun a w I _ hops=>by
  obtain ⟨hu,_⟩:=kT ht
  have hxv:=hops x (by rw [ho];simp [Op.operands])
  have hyv:=hops y (by rw [ho];simp [Op.operands])
  rw [hx] at hxv
  rw [hy] at hyv
  obtain ⟨ad,len,cap,hv,hn⟩:=fnd_nil hq (show CRep w I (sT q) (a.eval x) from hxv)
  have h3:=run_equal_slice_nil w (P:=X.P) t et ad len cap hu
  have h4:(binOp .eql t (.slice ad len cap) (.slice none 0 0)).run X.P w=.ok (.bool ad.isNone) w:=by
   simp only [binOp];simp [h3]
  have h5:(eqGuard .eql t x y (.slice ad len cap) (.slice none 0 0)).run X.P w=.ok () w:=by simp [eqGuard]
  refine ⟨.bool q.isNone,?_,CRep.lit _ rfl⟩
  rw [←hn]
  simp only [execOp,ho,hv,hyv.lit_inv,aP,h5,h4,aA,aU]
def det_fnil_ne {q:Option (List Int)} (ho:o.op=.binOp .neq t x y ty) (ht:fB X.P t=some (et,size,bytes)) (hx:e x=.c (sT q)) (hy:e y=.c (.lit (.slice none 0 0))) (hq:∀u,q=some u->u≠[]):Det X o e μ (.c (.lit (.bool q.isSome))) μ:=
 kN fun a w I _ hops=>by
  obtain ⟨hu,_⟩:=kT ht
  have hxv:=hops x (by rw [ho];simp [Op.operands])
  have hyv:=hops y (by rw [ho];simp [Op.operands])
  rw [hx] at hxv
  rw [hy] at hyv
  obtain ⟨ad,len,cap,hv,hn⟩:=fnd_nil hq (show CRep w I (sT q) (a.eval x) from hxv)
  have h3:=run_equal_slice_nil w (P:=X.P) t et ad len cap hu
  have h4:(binOp .neq t (.slice ad len cap) (.slice none 0 0)).run X.P w=.ok (.bool !ad.isNone) w:=by
   simp only [binOp];simp [h3]
  have h5:(eqGuard .neq t x y (.slice ad len cap) (.slice none 0 0)).run X.P w=.ok () w:=by simp [eqGuard]
  have e1:q.isSome= !ad.isNone:=by rw [hn];cases q<;>rfl
  refine ⟨.bool q.isSome,?_,CRep.lit _ rfl⟩
  rw [e1]
  simp only [execOp,ho,hv,hyv.lit_inv,aP,h5,h4,aA,aU]
end
/-! ## Arrays -/
def eI (P:Program) (t:lu):Option (Nat×lu×Nat):=match P.underlying t with
 |some (.array n e)=>(match P.info? e with|some i=>some (n,e,i.size)|none=>none)
 |_=>none
def arrT_parts {P:Program} {e:lu} {size:Nat} (h:eI P t=some (n,e,size)):P.underlying t=some (.array n e)/\∃i,P.info? e=some i/\i.size=size:=by
 unfold eI at h
 split at h
 ·rename_i n' e' hu
  split at h
  ·rename_i i hi
   simp only [ap,aJ] at h
   obtain ⟨rfl,rfl,rfl⟩:=h
   exact ⟨hu,i,hi,rfl⟩
  ·cases h
 ·cases h
def yZ {μ:List E} {et:lu} {x y:lv} {size b off:Nat} {i:Int} (ho:o.op=.indexAddr t x y) (ht:eI X.P t=some (n,et,size)) (hx:e x=.c (.lit (.pointer (some ⟨b,off,none⟩)))) (hy:e y=.c (.lit (.int .i64 i))) (h0:0<=i) (hi:i<n):
  Det X o e μ (.c (.lit (.pointer (some ⟨b,off+i.toNat*size,none⟩)))) μ:=
 kN fun a w I hH hops=>by
  have hxv:=hops x (by rw [ho];simp [Op.operands])
  have hyv:=hops y (by rw [ho];simp [Op.operands])
  rw [hx] at hxv
  rw [hy] at hyv
  obtain ⟨hu,inf,hinf,hs⟩:=arrT_parts ht
  refine ⟨.pointer (some ⟨b,off+i.toNat*size,none⟩),?_,CRep.lit _ rfl⟩
  simp [execOp,ho,hxv.lit_inv,hyv.lit_inv,Instr.indexAt,asIntOf,aE hu,Instr.sureAddr,h0,hi,sizeOf,typeInfo,hinf,hs,zFb]
section
variable {X:Cfg} {o:Oper} {e:lv->V} {μ:List E}
end
section
variable {X:Cfg} {o:Oper} {e:lv->V}
def ope_call_tail {α:Type} {R:α->V} {En:α->E} {f:FuncId} {arg_:List lv} {ts:Array lu} {args:List V} {en:E} {rest:List E} (ho:o.op=.call { callee:=.value (.func f),args:=arg_.toArray,argTypes:=ts }) (hf:bA X.P f=true)
  (hc:Con X f args rest fun r μ'=>∃a,r=R a/\μ'=[En a]) (ha:nB (arg_.map e) args):OpE X o e (en::rest) fun r μ'=>∃a,r=R a/\μ'=[en,En a]:=by
 have h1:OpE X o e (rest++[en]) fun r μ'=>∃a,r=R a/\μ'=[En a,en]:=
  (zBm ho hf (hc.frame [en]) ha).mono fun r μ' ⟨μ1,⟨a,h1,h2⟩,h3⟩=>⟨a,h1,by rw [h3,h2];rfl⟩
 have p1:(en::rest).Perm (rest++[en]):=(List.perm_append_singleton en rest).symm
 intro a w I hH hops K Q k
 refine h1 a w I (hH.perm p1) hops K Q ?_
 rintro v r μ' I' w' ⟨b,rfl,rfl⟩ hv hH' hx
 exact k v _ _ I' w' ⟨b,rfl,rfl⟩ hv (hH'.perm (List.Perm.swap en (En b) [])) (hx.perm p1.symm (List.Perm.swap en (En b) []))
end
section
variable {X:Cfg} {o:Oper} {e:lv->V} {μ:List E}
def zJp {f:FuncId} {arg_:List lv} {ts:Array lu} {args:List V} {Q:V->List E->Prop} (ho:o.op=.call { callee:=.value (.func f),args:=arg_.toArray,argTypes:=ts }) (hf:bA X.P f=true)
  (hc:Con X f args [] Q) (ha:nB (arg_.map e) args):OpE X o e μ fun r μ'=>∃μ1,Q r μ1/\μ'=μ++μ1:=by
 have h1:OpE X o e μ fun r μ'=>∃μ1,Q r μ1/\μ'=μ1++μ:=
  (zBm ho hf (hc.frame μ) ha).mono fun r μ' ⟨μ1,h1,h2⟩=>⟨μ1,h1,h2⟩
 intro a w I hH hops K Q' k
 refine h1 a w I hH hops K Q' ?_
 rintro v r μ' I' w' ⟨μ1,h2,rfl⟩ hv hH' hx
 exact k v _ _ I' w' ⟨μ1,h2,rfl⟩ hv (hH'.perm fq) (hx.perm (bh μ) fq)
end
def Weak.regsEq {r r':List (Nat×V)} {μ μ':List E} (h:cR r' r) (e:μ=μ'):Weak ⟨r,μ⟩ ⟨r',μ'⟩:=by subst e;exact Weak.regs h
/-! Several entries as one. -/
def pkR (μ:List E) (w:World) (I:Nat->Prop):Prop:=∀e,e∈μ->ERep w I e
def pk (μ:List E):E:=.any (bC μ) (pkR μ)
def zIh (μ:List E):bC [pk μ]=bC μ:=by rw [wW];simp [pk,E.blocks,bC]
def pk_mono {μ:List E} (h:∀e,e∈μ->e.Mono):(pk μ).Mono:=fun w w' I I' hw hI hb hR e he=>
 ERep.mono (h e he) hw hI (fun b hbe=>hb b (zAf he hbe)) (hR e he)
def Heap.pack {μ:List E} (h:Heap X w I μ):Heap X w I [pk μ]:=by
 refine ⟨h.lo,h.glob,by rw [zIh];exact h.nodup,fun b hb=>h.own b (by rw [zIh] at hb;exact hb),h.imm,fun e he=>?_,fun e he=>?_⟩
 ·obtain rfl:=aO.1 he
  exact ⟨fun b hb=>h.lt hb,h.rep⟩
 ·obtain rfl:=aO.1 he
  exact pk_mono h.mono
def Heap.unpack {μ:List E} (hm:∀e,e∈μ->e.Mono) (h:Heap X w I [pk μ]):Heap X w I μ:=by
 have hr:=h.rep _ (aO.2 rfl)
 exact ⟨h.lo,h.glob,by have:=h.nodup;rw [zIh] at this;exact this,fun b hb=>h.own b (by rw [zIh];exact hb),h.imm,hr.2,hm⟩
def Ext.same_r {w':World} {I':Nat->Prop} {μ μ' φ':List E} (x:Ext w I μ w' I' μ') (e:bC φ'=bC μ'):Ext w I μ w' I' φ':=
 ⟨x.os,x.tape,x.output,x.size,x.block,x.imm,x.imm',fun b hb=>x.own' b (by rw [←e];exact hb)⟩
def Ext.same_l {w':World} {I':Nat->Prop} {μ μ' φ:List E} (x:Ext w I μ w' I' μ') (e:bC φ=bC μ):Ext w I φ w' I' μ':=
 ⟨x.os,x.tape,x.output,x.size,fun b hb hm=>x.block b hb (by rw [←e];exact hm),x.imm,fun b hb=>by rw [e];exact x.imm' b hb,fun b hb=>by rw [e];exact x.own' b hb⟩
def Con.pack {X:Cfg} {f:FuncId} {args:List V} {μ:List E} {Q:V->List E->Prop} (h:Con X f args μ Q):Con X f args μ fun r μ'=>∃φ,Q r φ/\μ'=[pk φ]:=by
 intro w I vs hH ha
 refine (h w I vs hH ha).mono ?_
 rintro en w' ⟨v,r,μ',I',h1,h2,h3,h4,h5⟩
 exact ⟨v,r,[pk μ'],I',h1,⟨μ',h2,rfl⟩,h3,h4.pack,h5.same_r (zIh μ')⟩
def Con.unpack {X:Cfg} {f:FuncId} {args:List V} {μ:List E} {Q:V->List E->Prop} (h:Con X f args μ Q) (hm:∀e,e∈μ->e.Mono):Con X f args [pk μ] Q:=by
 intro w I vs hH ha
 refine (h w I vs (hH.unpack hm) ha).mono ?_
 rintro en w' ⟨v,r,μ',I',h1,h2,h3,h4,h5⟩
 exact ⟨v,r,μ',I',h1,h2,h3,h4,h5.same_l (zIh μ)⟩
section
variable {P:Program} {b:Frame} {a:Act} {k:List Item} {cs:List Frame} {w:World}
end
section
variable {X:Cfg} {o:Oper} {e:lv->V} {μ:List E}
end
open Go.Lib
section
variable {X:Cfg} {o:Oper} {e:lv->V} {μ:List E}
def zBw {t:lu} {x:lv} {n:Int} (ho:o.op=.unOp .neg t x) (hx:e x=.c (.lit (.int .i64 n))) (h:tQ (-n)):Det X o e μ (.c (.lit (.int .i64 (-n)))) μ:=by
 have:=zHz (X:=X) (μ:=μ) ho hx
 rwa [zDf h] at this
def zIt {src dst:lu} {x:lv} {k k':IntKind} {n m:Int} (ho:o.op=.convert src dst x) (hs:(X.P.underlying src).isSome=true) (hd:tU X.P dst=some k) (hx:e x=.c (.lit (.int k' n))) (h:k.wrap n=m):Det X o e μ (.c (.lit (.int k m))) μ:=by
 have:=zAo (X:=X) (μ:=μ) ho hs hd hx
 rwa [h] at this
def det_shlE {t ty:lu} {x y:lv} {k k':IntKind} {a b m:Int} (ho:o.op=.binOp .shl t x y ty) (hx:e x=.c (.lit (.int k a))) (hy:e y=.c (.lit (.int k' b))) (h0:0<=b) (h:k.wrap (a*2^(min b.toNat k.bits))=m):Det X o e μ (.c (.lit (.int k m))) μ:=by
 have:=det_shl (X:=X) (μ:=μ) ho hx hy h0
 rwa [h] at this
def det_quoE {t ty:lu} {x y:lv} {k:IntKind} {a b m:Int} (ho:o.op=.binOp .quo t x y ty) (hx:e x=.c (.lit (.int k a))) (hy:e y=.c (.lit (.int k b))) (hb:b≠0) (h:k.wrap (a.tdiv b)=m):Det X o e μ (.c (.lit (.int k m))) μ:=by
 have:=zKb (X:=X) (μ:=μ) ho hx hy hb
 rwa [h] at this
def zGk {b off:Nat} {t:lu} {cs cs' new:List C} (p:Nat) (h:nth μ p=some (.row b t cs)) (hl:off+new.length<=cs.length) (he:spl cs off new=cs'):
  sD μ (.lit (.pointer (some ⟨b,off,none⟩))) new (pN μ p (.row b t cs')):=by
 subst he
 exact zFu p h (iI hl)
def st_vecE {sv:Value} {size i off:Nat} {t:lu} {rows rows':List (List C)} {row new:List C} (p:Nat) (h:nth μ p=some (.vec sv t size rows)) (hi:rows[i]? =some row) (hl:Nat.ble (off+new.length) row.length=true) (he:rows.set i (spl row off new)=rows'):
  sD μ (.vptr sv size i off) new (pN μ p (.vec sv t size rows')):=by
 subst he
 exact zDp p h hi hl
def wJ {t:lu} {x:lv} {c:C} {cells l rest:List C} {m:Nat} (ho:o.op=.load t x) (ht:nE X.P t=some m) (hx:e x=.c c) (hp:pY μ c cells) (hc:cells=l++rest) (hl:l.length=m):
  Det X o e μ (.agg l) μ:=by
 have h:=zU (X:=X) (e:=e) ho ht hx hp (by rw [hc];exact iI (by rw [lLa];omega))
 rw [hc,←hl,ii] at h
 exact h
end
/-! ## Own memory lent to a function that makes memory -/
section
variable {X:Cfg} {o:Oper} {e:lv->V} {μ:List E}
end
end Go.Eng
end
section
namespace Go.Eng
open Go Go.RowKit
def mem2c_eq {sv:Value} {c:C} {t u:lu} {n b:Nat} {rows rows':List (List C)} {bμ:List E} (h:rows=rows'):E.vec sv t n rows::E.row b u [c,.lit sv]::bμ=[E.vec sv t n rows',E.row b u [c,.lit sv]]++bμ:=by rw [h];rfl
section
variable {X:Cfg} {o:Oper} {e:lv->V} {μ:List E} {t ty:lu} {x y:lv} {a b:Nat}
abbrev vUn (n:Nat):V:=.c (.lit (.int .u64 (n:Int)))
def zQx (ho:o.op=.binOp .and t x y ty) (hx:e x=vUn a) (hy:e y=.c (.lit (.int .u64 4294967295))) (ha:a<18446744073709551616):Det X o e μ (vUn (a%4294967296)) μ:=
 det_bits ho (.inl rfl) hx hy (fun P w=>by rw [intBits_and,and_low32 _ zA zA];rfl) rfl
def zKa (ho:o.op=.binOp .shr t x y ty) (hx:e x=vUn a) (hy:e y=.c (.lit (.int .u64 32))):Det X o e μ (vUn (a/4294967296)) μ:=by
 have h:=det_shr (X:=X) (μ:=μ) ho hx hy zB
 have e1:(a:Int).fdiv (2^(min (32:Int).toNat IntKind.u64.bits))=((a/4294967296:Nat):Int):=by
  rw [show (2:Int)^(min (32:Int).toNat IntKind.u64.bits)=4294967296 by decide,Int.fdiv_eq_ediv_of_nonneg _ zB]
  omega
 rw [e1] at h
 exact h
def zUr {n:Nat} (h:n<18446744073709551616):IntKind.u64.wrap (n:Int)=n:=IntWalk.u64_in _ ⟨zA,zA⟩
def zEz (ho:o.op=.binOp .mul t x y ty) (hx:e x=vUn a) (hy:e y=vUn b) (h:a*b<18446744073709551616):Det X o e μ (vUn (a*b)) μ:=by
 have h1:=zZc (X:=X) (μ:=μ) ho hx hy
 rw [←gj,zUr h] at h1
 exact h1
def zEe (ho:o.op=.binOp .add t x y ty) (hx:e x=vUn a) (hy:e y=vUn b) (h:a+b<18446744073709551616):Det X o e μ (vUn (a+b)) μ:=by
 have h1:=zMh (X:=X) (μ:=μ) ho hx hy
 rw [←jn,zUr h] at h1
 exact h1
def det_umod (ho:o.op=.binOp .mul t x y ty) (hx:e x=vUn a) (hy:e y=vUn b):Det X o e μ (vUn (a*b%18446744073709551616)) μ:=by
 have h1:=zZc (X:=X) (μ:=μ) ho hx hy
 rw [←gj,show IntKind.u64.wrap ((a*b:Nat):Int)=((a*b%18446744073709551616:Nat):Int) by rw [lm];omega] at h1
 exact h1
def zNh (ho:o.op=.binOp .quo t x y ty) (hx:e x=vUn a) (hy:e y=vUn b) (hb:b≠0/\a<18446744073709551616):Det X o e μ (vUn (a/b)) μ:=by
 have h:=zKb (X:=X) (μ:=μ) ho hx hy zA
 have hle:=Nat.div_le_self a b
 rw [show ((a:Int).tdiv (b:Int))=((a/b:Nat):Int) from rfl,zUr zA] at h
 exact h
def zVj (ho:o.op=.binOp .rem t x y ty) (hx:e x=vUn a) (hy:e y=vUn b) (hb:b≠0):Det X o e μ (vUn (a%b)) μ:=zOv ho hx hy zA
end
end Go.Eng
end
