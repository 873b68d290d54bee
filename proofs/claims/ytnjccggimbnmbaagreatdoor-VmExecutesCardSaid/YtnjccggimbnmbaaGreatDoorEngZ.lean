/-
  The engine,part R: an append of a make to the nil slice,cuts of it,capacities,the greatest of four.
  The engine,part S: regions in open order where quiet operations float behind the one that changes memory.
  The engine,part T: cuts of slices that are maps of lists.
  The engine,part U: regions whose order is open,in general: quiet operations,a chain of operations that change memory or make it,and makers of new memory that hang on nothing in the region.
  The engine,part V: make of slices that nobody writes any more.
  The engine,part W: ranges over functions with a ghost; calls that turn an own slice into another.
  The engine,part AA: ranges over functions with a ghost that may be left early.
  The engine,part AB: memory on both sides of what a call hands back is forgotten.
  The engine,part AD: cuts of an own slice as plain values,the append of one of its cuts to another,clear behind its end.
  The engine,part AE: results whose whole tree is fresh: slices left alone as fresh ones,regions of the caller's own,lending a region.
  The engine,part AF: a region of the caller's own whose cells may be written,kind by kind.
  The engine,part AG: slice literals without elements,and what is appended to them; truth values of a region.
  The engine,part AH: an own slice cut at its end; calls that read memory of the caller's own.
  The engine,part AI: memory as it is; a contract where more is known of the package-level variables.
  The engine,part AJ: an array's cell,at a written index.
  The engine,part AK: a region of the caller's own lent to a function that reads; from here on a region is known cell by cell.
  The engine,part AL: a call that takes all memory behind the first entry and gives one entry for it.
  The engine,part AM: a call whose new memory stands behind the old,and memory written in another way.
  The engine,part AN: a call of a function value that reads memory of the caller's own and leaves it as it is.
  The engine,part AO: a body in which a label stands and to which nothing jumps.
  The engine,part AP: arrays of two strings,made and compared; a cell of an array that is left alone.
  The engine,part AT: cells of arrays in a variable of the call's own at any index; cuts of own slices as values,copies into them,own memory lent to a function that makes memory.
  The engine: numbers of 64 bits without a sign,as natural numbers.
  Conditions: none.
-/
import Derived.Test.YtnjccggimbnmbaaGreatDoorEngY
import Derived.Lib.AppendZerosOnto
import Derived.Laws.MakeOwn
import Derived.Laws.CopyRow
import Derived.Laws.BytesArg
import Derived.Scope
import Derived.ChangeKeysEq
import Derived.Laws.MathBits
import Derived.Laws.Bits64b
set_option linter.unusedSimpArgs false
set_option linter.unusedVariables false
section
namespace Go.Eng
open Go Go.RowKit Go.Lib
theorem Heap.dropL {X:Cfg} {w:World} {I:Nat->Prop}:∀{ν μ:List E},Heap X w I (ν++μ)->Heap X w I μ
 |[],_,h=>h
 |_::_,_,h=>Heap.dropL (Heap.tail h)
theorem Con.drop {X:Cfg} {f:FuncId} {args:List V} {μ μ2:List E} {R:V} (h:Con X f args μ fun r μ'=>r=R/\∃ν,μ'=ν++μ2):Con X f args μ fun r μ'=>r=R/\μ'=μ2:=by
 intro w I vs hH ha
 refine (h w I vs hH ha).mono ?_
 rintro en w' ⟨v,r,μ',I',h1,⟨h2,ν,rfl⟩,h4,h5,h6⟩
 exact ⟨v,r,μ2,I',h1,⟨h2,rfl⟩,h4,Heap.dropL h5,h6.less fun b hb=>by rw [yW];exact List.mem_append.2 (.inr hb)⟩
section
variable {X:Cfg} {o:Oper} {e:Operand->V} {μ:List E} {t:TypeId}
end
end Go.Eng
end
section
namespace Go.Eng
open Go Go.RowKit
section drawq
variable {X:Cfg} {n:Nat} {z:Z} {Q:Exit->S->Prop} {regs:List (Nat×V)} {μ:List E} {l:List Oper} {m:Nat}
end drawq
section drawg
variable {X:Cfg} {n:Nat} {z:Z} {Q:Exit->S->Prop} {regs:List (Nat×V)} {μ:List E} {l:List Oper} {s:Nat} {M:List E->Prop} {ks:List Kd}
end drawg
end Go.Eng
end
section
namespace Go.Eng
open Go Go.RowKit Go.Lib
section
variable {X:Cfg} {o:Oper} {e:Operand->V} {μ:List E} {t:TypeId} {α:Type} {f:α->List C} {l:List α}
theorem zPr {et:TypeId} {size bytes k:Nat} {x hi:Operand} (ho:o.op=.slice t x none (some hi) none) (ht:dK X.P t=some (et,size,bytes)) (hx:e x=.c (.sl size (l.map f))) (h2:e hi=.c (.lit (.int .i64 k))) (hk:k<=l.length):
  Det X o e μ (.c (.sl size ((l.take k).map f))) μ:=by
 have h:=zOu (X:=X) (μ:=μ) 0 k ho ht hx (show bnd e none 0 0 from rfl) (show bnd e (some hi) _ k from ⟨.i64,k,h2,rfl⟩) (Nat.zero_le _) (by simpa using hk)
 rw [List.drop_zero,←List.map_take] at h
 exact h
theorem det_cut_drop {et:TypeId} {size bytes k:Nat} {x lo:Operand} (ho:o.op=.slice t x (some lo) none none) (ht:dK X.P t=some (et,size,bytes)) (hx:e x=.c (.sl size (l.map f))) (h2:e lo=.c (.lit (.int .i64 k))) (hk:k<=l.length):
  Det X o e μ (.c (.sl size ((l.drop k).map f))) μ:=by
 have h:=zOu (X:=X) (μ:=μ) k (l.map f).length ho ht hx (show bnd e (some lo) 0 k from ⟨.i64,k,h2,rfl⟩) (show bnd e none _ _ from rfl) (by simpa using hk) (Nat.le_refl _)
 rw [List.take_length,←List.map_drop] at h
 exact h
end
/-! ## Lending an own slice to a function that only reads -/
def sK:C->Bool
 |.lit _=>true
 |_=>false
def tT:V->Bool
 |.c x=>sK x
 |.agg l=>l.all sK
 |_=>false
def xB:V->Bool
 |.tup l=>l.all tT
 |x=>tT x
theorem litC_rep {w w':World} {I I':Nat->Prop} {x:C} {v:Value} (h:sK x=true) (r:CRep w I x v):CRep w' I' x v:=by
 cases x with
 |lit u=>cases r with|lit _ h1=>exact .lit _ h1
 |_=>cases h
theorem zTe {w w':World} {I I':Nat->Prop} {l:List C} {vs:List Value} (h:l.all sK=true) (r:CReps w I l vs):CReps w' I' l vs:=by
 induction r with
 |nil=>exact .nil
 |cons a _ ih=>
  simp only [List.all_cons,Bool.and_eq_true] at h
  exact .cons (litC_rep h.1 a) (ih h.2)
theorem zTd {w w':World} {I I':Nat->Prop} {x:V} {v:Value} (h:tT x=true) (r:V1Rep w I x v):V1Rep w' I' x v:=by
 cases x with
 |c y=>exact litC_rep h r
 |agg l=>obtain ⟨vs,e,k⟩:=r;exact ⟨vs,e,zTe h k⟩
 |_=>cases h
theorem litV1s_rep {w w':World} {I I':Nat->Prop}:∀{l:List V} {vs:List Value},l.all tT=true->V1Reps w I l vs->V1Reps w' I' l vs
 |[],[],_,_=>trivial
 |x::l,v::vs,h,r=>by
  simp only [List.all_cons,Bool.and_eq_true] at h
  exact ⟨zTd h.1 r.1,litV1s_rep h.2 r.2⟩
 |[],_::_,_,r=>r.elim
 |_::_,[],_,r=>r.elim
theorem litV_rep {w w':World} {I I':Nat->Prop} {x:V} {v:Value} (h:xB x=true) (r:VRep w I x v):VRep w' I' x v:=by
 cases x with
 |tup l=>obtain ⟨vs,e,k⟩:=r;exact ⟨vs,e,litV1s_rep h k⟩
 |c y=>exact zTd (x:=.c y) h r
 |agg l=>exact zTd (x:=.agg l) h r
 |un=>cases h
 |ifv b y=>cases h
def tW (sv:Value) (size:Nat) (rows:List (List C)):List V->List V->Prop
 |[],[]=>True
 |x::xs,y::ys=>(x=y∨(x=.c (.lit sv)/\y=.c (.sl size rows)))/\tW sv size rows xs ys
 |_,_=>False
theorem lends_reps {sv:Value} {size:Nat} {rows:List (List C)} {w:World} {I I0:Nat->Prop} (hI:∀b,I b->I0 b) (hs:CRep w I0 (.sl size rows) sv):∀{l l':List V} {vs:List Value},tW sv size rows l l'->V1Reps w I l vs->V1Reps w I0 l' vs
 |[],[],[],_,_=>trivial
 |[],[],_::_,_,h=>h.elim
 |x::xs,y::ys,[],_,h=>h.elim
 |x::xs,y::ys,v::vs,k,h=>by
  refine ⟨?_,lends_reps hI hs k.2 h.2⟩
  rcases k.1 with rfl|⟨rfl,rfl⟩
  ·exact V1Rep.mono (fun _ _=>rfl) hI h.1
  ·have e:v=sv:=by cases h.1 with|lit _ _=>rfl
   rw [e];exact hs
 |[],_::_,_,k,_=>(k:False).elim
 |_::_,[],_,k,_=>(k:False).elim
theorem Con.borrow {X:Cfg} {f:FuncId} {args args':List V} {r:V} {sv:Value} {t:TypeId} {size:Nat} {rows:List (List C)} (h:Pur X f args r) (hl:xB r=true) (ha:tW sv size rows args' args):
  Con X f args' [.vec sv t size rows] fun r' μ'=>r'=r/\μ'=[.vec sv t size rows]:=by
 intro w I vs hH hv
 have hrep:=hH.rep _ (List.mem_singleton.2 rfl)
 have H0:Heap X w (fun b=>I b∨b∈(E.vec sv t size rows).blocks) []:=by
  exact v53
 have hs:CRep w (fun b=>I b∨b∈(E.vec sv t size rows).blocks) (.sl size rows) sv:=vec_sl (hrep.mono (w':=w) trivial (fun _ _=>rfl) (fun b h=>.inl h) fun _ _=>rfl) fun b hb=>.inr hb
 refine (h w _ vs H0 (lends_reps (fun b h=>.inl h) hs ha hv)).mono ?_
 rintro en w' ⟨v,r',μ',I',h1,rfl,h3,h4,h5⟩
 have still:=H0.still h5
 refine ⟨v,r',[.vec sv t size rows],I,h1,⟨rfl,rfl⟩,litV_rep hl h3,?_,?_⟩
 ·refine ⟨Nat.le_trans hH.lo h5.size,X.hG w w' (fun b hb=>h5.block b (Nat.lt_of_lt_of_le hb hH.lo) (by simp [bB])) hH.glob,hH.nodup,hH.own,fun b hb=>Nat.lt_of_lt_of_le (hH.imm b hb) h5.size,?_,hH.mono⟩
  intro e he
  rw [List.mem_singleton.1 he]
  exact hrep.mono (w':=w') trivial (fun b hb=>still b (.inl hb)) (fun b h=>h) fun b hb=>still b (.inr hb)
 ·exact ⟨h5.os,h5.tape,h5.output,h5.size,fun b hb _=>h5.block b hb (by simp [bB]),fun b h=>h,fun b h=>.inl h,fun b h=>.inl h⟩
def vM (sv:Value) (size:Nat) (rows:List (List C)):List V->List V->Prop
 |[],[]=>True
 |x::xs,y::ys=>((x=.c (.lit sv)/\y=.c (.sl size rows))∨(VLe x y/\y.plain=true))/\vM sv size rows xs ys
 |_,_=>False
theorem vlend_mid {sv:Value} {size:Nat} {rows:List (List C)}:∀{l l':List V},vM sv size rows l l'->∃m,mL l m/\tW sv size rows m l'
 |[],[],_=>⟨[],trivial,trivial⟩
 |x::xs,y::ys,h=>by
  obtain ⟨m,h1,h2⟩:=vlend_mid h.2
  rcases h.1 with ⟨rfl,rfl⟩|⟨h3,h4⟩
  ·exact ⟨.c (.lit sv)::m,⟨VLe.refl _,rfl,h1⟩,.inr ⟨rfl,rfl⟩,h2⟩
  ·exact ⟨y::m,⟨h3,h4,h1⟩,.inl rfl,h2⟩
 |[],_::_,h=>(h:False).elim
 |_::_,[],h=>(h:False).elim
theorem zNe {X:Cfg} {o:Oper} {e:Operand->V} {μ:List E} {f:FuncId} {arg_:List Operand} {ts:Array TypeId} {args:List V} {r:V} {sv:Value} {t:TypeId} {size:Nat} {rows:List (List C)} (p:Nat) (ho:o.op=.call { callee:=.value (.func f),args:=arg_.toArray,argTypes:=ts }) (hf:bA X.P f=true)
  (hp:nth μ p=some (.vec sv t size rows)) (hc:Pur X f args r) (hl:xB r=true) (ha:vM sv size rows (arg_.map e) args):Det X o e μ r μ:=by
 obtain ⟨m,h1,h2⟩:=vlend_mid ha
 have hpk:mT [p] μ=some ([.vec sv t size rows],mX μ p):=by unfold mT;rw [hp];rfl
 refine OpE.det_perm (a:=.vec sv t size rows::mX μ p) ?_ (zHs hp).symm
 have hb:Con X f m [.vec sv t size rows] fun r' μ'=>r'=r/\μ'=[.vec sv t size rows]:=Con.borrow hc hl h2
 exact (zBw ho hf ((hb.frame (mX μ p)).perm (zFd hpk)) h1).mono fun r' μ' ⟨_,⟨h1,h2⟩,h3⟩=>⟨h1,by rw [h3,h2];rfl⟩
end Go.Eng
end
section
namespace Go.Eng
open Go Go.RowKit
inductive Kx where
 |q (rd:List Nat)
 |e (w:Nat) (rd:List Nat)
 |f (w:Nat)
 |w (w:Nat) (rd:List Nat)
 |g (w:Nat) (rd:List Nat)
 |h (w:Nat) (rd:List Nat)
structure It where
 i:Nat
 k:Kx
def upd (ρ:Nat->V) (d:Option Tmp) (v:V):Nat->V:=fun t=>if d=some t then v else ρ t
def evF (ρ:Nat->V) (x:Operand):V:=match x with
 |.tmp t=>ρ t
 |y=>ev [] y
theorem zMw (regs:List (Nat×V)):evF (bT regs)=ev regs:=by
 funext x;cases x<;>rfl
theorem look_upd (regs:List (Nat×V)) (d:Tmp) (v:V):upd (bT regs) (some d) v=bT ((d,v)::regs):=by
 funext t;rw [zBm];unfold upd
 by_cases h:d=t
 ·rw [if_pos h,if_pos (by rw [h])]
 ·rw [if_neg h,if_neg (by simpa using h)]
theorem upd_none (ρ:Nat->V) (v:V):upd ρ none v=ρ:=by funext t;unfold upd;rw [if_neg (by simp)]
def GDetF (X:Cfg) (n:Nat) (ops:Array Oper) (o:Oper) (ρ:Nat->V) (μ:List E) (r:V):Prop:=
 ∀(a:Act) (w:World) (I:Nat->Prop),Heap X w I μ->(∀t,t∈o.looksAt ops->VRep w I (ρ t) (a.tmps.getD t undef))->a.tmps.size=n->
  ∀(K:Act->World->Prop) (Q:Exit->Act->World->Prop),(∀v I' w',VRep w' I' r v->Heap X w' I' μ->Ext w I μ w' I' μ->K (a.put o.dst v) w')->
   if Region.wanted o (yielded ops a.tmps) then OW X.P o a w K Q else K (a.put o.dst undef) w
theorem GDetF.congr {X:Cfg} {n:Nat} {ops:Array Oper} {o:Oper} {ρ ρ':Nat->V} {μ:List E} {r:V} (h:GDetF X n ops o ρ μ r) (he:∀t,t∈o.looksAt ops->ρ t=ρ' t):GDetF X n ops o ρ' μ r:=
 fun a w I hH hR hs=>h a w I hH (fun t ht=>by rw [he t ht];exact hR t ht) hs
theorem GDetF.wide {X:Cfg} {n:Nat} {ops:Array Oper} {o:Oper} {ρ:Nat->V} {μ φ ψ:List E} {r:V} (h:GDetF X n ops o ρ μ r) (p:ψ.Perm (μ++φ)):GDetF X n ops o ρ ψ r:=by
 intro a w I hH hR hs K Q k
 have hH1:=hH.perm p
 refine h a w I hH1.left hR hs K Q ?_
 intro v I' w' hv hH' hx
 obtain ⟨h6,h7⟩:=hH1.frame hH' hx
 exact k v I' w' hv (h6.perm p.symm) (h7.perm p.symm p.symm)
theorem OpE.wide {X:Cfg} {o:Oper} {e:Operand->V} {μ φ ψ:List E} {R:V->List E->Prop} (h:OpE X o e μ R) (p:ψ.Perm (μ++φ)):OpE X o e ψ fun r μ''=>∃μ',R r μ'/\μ''=μ'++φ:=by
 intro a w I hH hops K Q k
 have hH1:=hH.perm p
 refine h a w I hH1.left hops K Q ?_
 intro v r μ' I' w' hr hv hH' hx
 obtain ⟨h6,h7⟩:=hH1.frame hH' hx
 exact k v r _ I' w' ⟨μ',hr,rfl⟩ hv h6 (h7.perm p.symm (List.Perm.refl _))
theorem OpE.congr {X:Cfg} {o:Oper} {e e':Operand->V} {μ:List E} {R:V->List E->Prop} (h:OpE X o e μ R) (he:∀x,x∈o.op.operands->e x=e' x):OpE X o e' μ R:=
 fun a w I hH hops=>h a w I hH fun x hx=>by rw [he x hx];exact hops x hx
/-! ## Slots of memory -/
def nT (m:List (Option E)) (s:Nat):Option E:=(nth m s).join
def fp (m:List (Option E)) (l:List Nat):List E:=l.filterMap (nT m)
def lX (m:List (Option E)):List E:=m.filterMap id
def clr:List (Option E)->List Nat->List (Option E)
 |m,[]=>m
 |m,s::l=>clr (m.set s none) l
theorem zBz {m:List (Option E)} {s t:Nat} {v:Option E} (h:s≠t):nT (m.set s v) t=nT m t:=by
 unfold nT;rw [zFv,zFv,List.getElem?_set_ne h]
theorem zSb {m:List (Option E)} {s:Nat} {v:Option E} (h:s<m.length):nT (m.set s v) s=v:=by
 unfold nT;rw [zFv,List.getElem?_set_self h];cases v<;>rfl
theorem wP {m:List (Option E)} {s:Nat} {v:Option E}:∀{l:List Nat},s ∉ l->fp (m.set s v) l=fp m l
 |[],_=>rfl
 |t::l,h=>by
  unfold fp
  rw [List.filterMap_cons,List.filterMap_cons,zBz (fun e=>h (by simp [e]))]
  have:=wP (m:=m) (s:=s) (v:=v) (l:=l) (fun e=>h (by simp [e]))
  unfold fp at this
  rw [this]
theorem zUv:∀(m:List (Option E)) (s:Nat),(lX m).Perm ((nT m s).toList++lX (m.set s none))
 |[],s=>by cases s<;>exact List.Perm.refl _
 |x::m,0=>by cases x<;>exact List.Perm.refl _
 |x::m,s+1=>by
  have ih:=zUv m s
  have e:nT (x::m) (s+1)=nT m s:=rfl
  rw [e,List.set_cons_succ]
  cases x with
  |none=>exact ih
  |some y=>
   show (y::lX m).Perm ((nT m s).toList++(y::lX (m.set s none)))
   exact (ih.cons y).trans (List.perm_middle.symm)
theorem zFs:∀(ks:List Nat) (m:List (Option E)),ks.Nodup->(lX m).Perm (fp m ks++lX (clr m ks))
 |[],m,_=>List.Perm.refl _
 |s::ks,m,h=>by
  have hs:s ∉ ks:=(List.nodup_cons.1 h).1
  have ih:=zFs ks (m.set s none) (List.nodup_cons.1 h).2
  rw [wP hs] at ih
  have h1:=(zUv m s).trans (ih.append_left _)
  have e:fp m (s::ks)=(nT m s).toList++fp m ks:=by
   unfold fp;rw [List.filterMap_cons];cases nT m s<;>rfl
  rw [e,List.append_assoc]
  exact h1
theorem clr_set {m:List (Option E)} {s:Nat} {v:Option E} (l:List Nat):clr (m.set s v) (s::l)=clr m (s::l):=by
 show clr ((m.set s v).set s none) l=clr (m.set s none) l
 rw [List.set_set]
theorem zKr {m:List (Option E)} {w:Nat} {rd:List Nat} {en:E} (hn:(w::rd).Nodup) (hw:w<m.length):((en::fp m rd)++lX (clr m (w::rd))).Perm (lX (m.set w (some en))):=by
 have h:=zFs (w::rd) (m.set w (some en)) hn
 rw [clr_set] at h
 have e:fp (m.set w (some en)) (w::rd)=en::fp m rd:=by
  have:=wP (m:=m) (s:=w) (v:=some en) (List.nodup_cons.1 hn).1
  unfold fp at this⊢
  rw [List.filterMap_cons,zSb hw,this]
 rw [e] at h
 exact h.symm
theorem set_self {m:List (Option E)} {w:Nat} (h:nth m w=some none):m.set w none=m:=by
 rw [zFv] at h
 apply List.ext_getElem?
 intro i
 by_cases hi:w=i
 ·subst hi;rw [List.getElem?_set_self (List.getElem?_eq_some_iff.1 h).1,h]
 ·rw [List.getElem?_set_ne hi]
theorem allE_fresh {m:List (Option E)} {w:Nat} {en:E} (h:nth m w=some none):(en::lX m).Perm (lX (m.set w (some en))):=by
 have hw:w<m.length:=by rw [zFv] at h;exact (List.getElem?_eq_some_iff.1 h).1
 have h1:=zUv (m.set w (some en)) w
 rw [zSb hw,List.set_set,set_self h] at h1
 exact h1.symm
/-! ## The derivation,in an order of our own -/
abbrev Rfs:=List (Nat×(V->E->Prop))
def nI:Rfs->Nat->V->E->Prop
 |[],_=>fun _ _=>False
 |(j,R)::r,i=>bif Nat.beq j i then R else nI r i
def stF (o:Oper) (e:Operand->V) (en:E):E:=match o.op with
 |.store _ x y=>(match e x,jO (e y),en with
  |.c (.lit (.pointer (some a))),some new,.row b u cs=>.row b u (spl cs a.off new)
  |_,_,_=>en)
 |_=>en
theorem zMa {o:Oper} {e e':Operand->V} (h:∀x,x∈o.op.operands->e x=e' x):stF o e=stF o e':=by
 funext en
 unfold stF
 split
 ·rename_i t x y ho
  rw [h x (by rw [ho];simp [Op.operands]),h y (by rw [ho];simp [Op.operands])]
 ·rfl
def mM (l:List Oper) (i:Nat):Option Tmp:=(nth l i).bind (·.dst)
def SQ (X:Cfg) (n:Nat) (l:List Oper) (F:Rfs) (K:(Nat->V)->List (Option E)->Prop):List It->(Nat->V)->List (Option E)->Prop
 |[],ρ,m=>K ρ m
 |⟨i,.q rd⟩::its,ρ,m=>∃o,nth l i=some o/\rd.Nodup/\∃r,GDetF X n l.toArray o ρ (fp m rd) r/\SQ X n l F K its (upd ρ o.dst r) m
 |⟨i,.e w rd⟩::its,ρ,m=>∃o,nth l i=some o/\o.guard=none/\(w<m.length/\(w::rd).Nodup)/\∃R,OpE X o (evF ρ) (fp m (w::rd)) R/\∀r μ',R r μ'->∃en,μ'=en::fp m rd/\SQ X n l F K its (upd ρ o.dst r) (m.set w (some en))
 |⟨i,.f w⟩::its,ρ,m=>∀r en,nI F i r en->SQ X n l F K its (upd ρ (mM l i) r) (m.set w (some en))
 |⟨i,.g w rd⟩::its,ρ,m=>∃o,nth l i=some o/\o.guard=none/\o.dst=none/\(w<m.length/\(w::rd).Nodup)/\∃en,nT m w=some en/\OpE X o (evF ρ) (fp m (w::rd)) (fun _ μ'=>μ'=stF o (evF ρ) en::fp m rd)/\SQ X n l F K its ρ (m.set w (some (stF o (evF ρ) en)))
 |⟨i,.h w rd⟩::its,ρ,m=>∃o,nth l i=some o/\o.guard=none/\(w<m.length/\(w::rd).Nodup)/\∃R,OpE X o (evF ρ) (fp m (w::rd)) R/\(∃r en,R r (en::fp m rd))/\∀r μ',R r μ'->∃en,μ'=en::fp m rd/\SQ X n l F K its (upd ρ o.dst r) (m.set w (some en))
 |⟨i,.w w rd⟩::its,ρ,m=>∃o,nth l i=some o/\o.guard=none/\(w<m.length/\(w::rd).Nodup)/\∃r en,OpE X o (evF ρ) (fp m (w::rd)) (fun r' μ'=>r'=r/\μ'=en::fp m rd)/\SQ X n l F K its (upd ρ o.dst r) (m.set w (some en))
def nL (l:List Oper) (i:Nat):List Tmp:=match nth l i with
 |some o=>o.looksAt l.toArray
 |none=>[]
def mZ (l:List Oper) (i j:Nat):Bool:=
 (nL l j).all (fun t=> !(mM l i==some t))&&(nL l i).all (fun t=> !(mM l j==some t))&&((mM l i==none)|| !(mM l i==mM l j))
def Kx.wr:Kx->Option Nat
 |.q _=>none
 |.e v _=>some v
 |.f v=>some v
 |.w v _=>some v
 |.g v _=>some v
 |.h v _=>some v
def Kx.rds:Kx->List Nat
 |.q rd=>rd
 |.e _ rd=>rd
 |.f _=>[]
 |.w _ rd=>rd
 |.g _ rd=>rd
 |.h _ rd=>rd
def dP (a b:Kx):Bool:=
 (match a.wr with|some w=>b.rds.all (fun s=> !Nat.beq s w)&&(match b.wr with|some v=> !Nat.beq v w|none=>true)|none=>true)&&
 (match b.wr with|some w=>a.rds.all (fun s=> !Nat.beq s w)|none=>true)
def nW:Kx->Kx->Bool
 |.q _,.q _=>true
 |.q _,.e _ _=>true
 |.q _,.w _ _=>true
 |.w _ _,.q _=>true
 |.w _ _,.e _ _=>true
 |.w _ _,.w _ _=>true
 |.q _,.g _ _=>true
 |.g _ _,.g _ _=>true
 |.f _,.g _ _=>true
 |.q _,.h _ _=>true
 |.h _ _,.g _ _=>true
 |_,.f _=>true
 |_,_=>false
def isF:Kx->Bool
 |.f _=>true
 |_=>false
def nV (l:List Oper) (a b:It):Bool:=(nW a.k b.k&&dP a.k b.k&&mZ l a.i b.i)||(!isF b.k&&nU l 40 b.i a.i)
theorem regFree_spec {l:List Oper} {i j:Nat} (h:mZ l i j=true):
  (∀t,t∈nL l j->mM l i≠some t)/\(∀t,t∈nL l i->mM l j≠some t)/\(mM l i=none∨mM l i≠mM l j):=by
 unfold mZ at h
 simp only [Bool.and_eq_true,List.all_eq_true,Bool.not_eq_true',beq_eq_false_iff_ne,Bool.or_eq_true,beq_iff_eq] at h
 exact ⟨h.1.1,h.1.2,h.2⟩
theorem zDt {l:List Oper} {i:Nat} {o:Oper} (h:nth l i=some o):mM l i=o.dst:=by unfold mM;rw [h];rfl
theorem wX {l:List Oper} {i:Nat} {o:Oper} (h:nth l i=some o):nL l i=o.looksAt l.toArray:=by unfold nL;rw [h]
theorem zCw {ρ:Nat->V} {d e:Option Tmp} {u v:V} (h:d=none∨d≠e):upd (upd ρ d u) e v=upd (upd ρ e v) d u:=by
 funext t
 unfold upd
 by_cases h1:d=some t
 ·by_cases h2:e=some t
  ·rcases h with h|h
   ·rw [h] at h1;cases h1
   ·exact absurd (h1.trans h2.symm) h
  ·simp [h1,h2]
 ·by_cases h2:e=some t
  ·simp [h1,h2]
  ·simp [h1,h2]
theorem zKx {ρ:Nat->V} {d:Option Tmp} {v:V} {t:Nat} (h:d≠some t):upd ρ d v t=ρ t:=if_neg h
theorem zBh {ops:Array Oper} {ρ:Nat->V} {d:Option Tmp} {v:V} {o:Oper} (h:∀t,t∈o.looksAt ops->d≠some t):∀x,x∈o.op.operands->evF (upd ρ d v) x=evF ρ x:=by
 intro x hx
 cases x with
 |tmp t=>exact zKx (h t (looks_op hx))
 |_=>rfl
section
variable {X:Cfg} {n:Nat} {l:List Oper} {F:Rfs} {K:(Nat->V)->List (Option E)->Prop}
theorem SQ.swap {a b:It} {its:List It} {ρ:Nat->V} {m:List (Option E)} (hk:nW a.k b.k=true) (hm:dP a.k b.k=true) (hr:mZ l a.i b.i=true) (hF:∀w,a.k=.f w->∃r en,nI F a.i r en) (h:SQ X n l F K (a::b::its) ρ m):SQ X n l F K (b::a::its) ρ m:=by
 obtain ⟨i,ka⟩:=a
 obtain ⟨j,kb⟩:=b
 simp only at hk hm hr hF
 obtain ⟨f1,f2,f3⟩:=regFree_spec hr
 cases ka with
 |q rd=>
  obtain ⟨o,ho,hn1,r,hG,h⟩:=h
  rw [wX ho] at f2
  rw [zDt ho] at f1 f3
  cases kb with
  |q rd2=>
   obtain ⟨o2,ho2,hn2,r2,hG2,h⟩:=h
   rw [wX ho2] at f1
   rw [zDt ho2] at f2 f3
   refine ⟨o2,ho2,hn2,r2,hG2.congr fun t ht=>zKx (f1 t ht),o,ho,hn1,r,hG.congr fun t ht=>(zKx (f2 t ht)).symm,?_⟩
   rw [←zCw f3];exact h
  |e w rd2=>
   obtain ⟨o2,ho2,hg2,hw2,R,hO,h⟩:=h
   rw [wX ho2] at f1
   rw [zDt ho2] at f2 f3
   simp only [dP,Kx.wr,Kx.rds,Bool.true_and,List.all_eq_true,Bool.not_eq_true'] at hm
   refine ⟨o2,ho2,hg2,hw2,R,hO.congr fun x hx=>zBh f1 x hx,fun r2 μ' hrr=>?_⟩
   exact v28
  |f w=>
   simp only [dP,Kx.wr,Kx.rds,Bool.true_and,List.all_eq_true,Bool.not_eq_true'] at hm
   have hn:w ∉ rd:=fun hin=>by have:=hm w hin;rw [Nat.beq_refl] at this;cases this
   refine fun r2 en hrr=>⟨o,ho,hn1,r,?_,?_⟩
   ·rw [wP hn];exact hG.congr fun t ht=>(zKx (f2 t ht)).symm
   ·rw [←zCw f3];exact h r2 en hrr
  |g w rd2=>
   obtain ⟨o2,ho2,hg2,hd2,hw2,en0,hs0,hO,h⟩:=h
   rw [wX ho2] at f1
   simp only [dP,Kx.wr,Kx.rds,Bool.true_and,List.all_eq_true,Bool.not_eq_true'] at hm
   have hn:w ∉ rd:=fun hin=>by have:=hm w hin;rw [Nat.beq_refl] at this;cases this
   have e:stF o2 (evF (upd ρ o.dst r))=stF o2 (evF ρ):=zMa fun x hx=>zBh f1 x hx
   rw [e] at hO h
   refine ⟨o2,ho2,hg2,hd2,hw2,en0,hs0,hO.congr fun x hx=>zBh f1 x hx,o,ho,hn1,r,?_,h⟩
   rw [wP hn];exact hG
  |h w rd2=>
   obtain ⟨o2,ho2,hg2,hw2,R,hO,hne,h⟩:=h
   rw [wX ho2] at f1
   rw [zDt ho2] at f2 f3
   simp only [dP,Kx.wr,Kx.rds,Bool.true_and,List.all_eq_true,Bool.not_eq_true'] at hm
   refine ⟨o2,ho2,hg2,hw2,R,hO.congr fun x hx=>zBh f1 x hx,hne,fun r2 μ' hrr=>?_⟩
   exact v28
  |w w rd2=>
   obtain ⟨o2,ho2,hg2,hw2,r2,en,hO,h⟩:=h
   rw [wX ho2] at f1
   rw [zDt ho2] at f2 f3
   simp only [dP,Kx.wr,Kx.rds,Bool.true_and,List.all_eq_true,Bool.not_eq_true'] at hm
   have hn:w ∉ rd:=fun hin=>by have:=hm w hin;rw [Nat.beq_refl] at this;cases this
   refine ⟨o2,ho2,hg2,hw2,r2,en,hO.congr fun x hx=>zBh f1 x hx,o,ho,hn1,r,?_,?_⟩
   ·rw [wP hn];exact hG.congr fun t ht=>(zKx (f2 t ht)).symm
   ·rw [←zCw f3];exact h
 |w w rd=>
  obtain ⟨o,ho,hg,hw,r,en,hO,h⟩:=h
  rw [wX ho] at f2
  rw [zDt ho] at f1 f3
  cases kb with
  |q rd2=>
   obtain ⟨o2,ho2,hn2,r2,hG2,h⟩:=h
   rw [wX ho2] at f1
   rw [zDt ho2] at f2 f3
   simp only [dP,Kx.wr,Kx.rds,Bool.and_true,List.all_eq_true,Bool.not_eq_true'] at hm
   have hn:w ∉ rd2:=fun hin=>by have:=hm w hin;rw [Nat.beq_refl] at this;cases this
   rw [wP hn] at hG2
   refine ⟨o2,ho2,hn2,r2,hG2.congr fun t ht=>zKx (f1 t ht),o,ho,hg,hw,r,en,hO.congr fun x hx=>(zBh f2 x hx).symm,?_⟩
   rw [←zCw f3];exact h
  |e w2 rd2=>
   obtain ⟨o2,ho2,hg2,hw2,R,hO2,h⟩:=h
   rw [wX ho2] at f1
   rw [zDt ho2] at f2 f3
   simp only [dP,Kx.wr,Kx.rds,Bool.and_eq_true,List.all_eq_true,Bool.not_eq_true'] at hm
   have hne:w2≠w:=fun e=>by rw [e,Nat.beq_refl] at hm;cases hm.1.2
   have hn:w ∉ rd2:=fun hin=>by have:=hm.1.1 w hin;rw [Nat.beq_refl] at this;cases this
   have hn':w2 ∉ rd:=fun hin=>by have:=hm.2 w2 hin;rw [Nat.beq_refl] at this;cases this
   have hn2:w ∉ w2::rd2:=fun hin=>by rcases List.mem_cons.1 hin with e|e;exact hne e.symm;exact hn e
   have hn2':w2 ∉ w::rd:=fun hin=>by rcases List.mem_cons.1 hin with e|e;exact hne e;exact hn' e
   rw [wP hn2] at hO2
   refine ⟨o2,ho2,hg2,⟨by simpa using hw2.1,hw2.2⟩,R,hO2.congr fun x hx=>zBh f1 x hx,fun r2 μ' hrr=>?_⟩
   obtain ⟨en2,he,h⟩:=h r2 μ' hrr
   rw [wP hn] at he
   refine ⟨en2,he,o,ho,hg,⟨by simpa using hw.1,hw.2⟩,r,en,?_,?_⟩
   ·rw [wP hn2',wP hn'];exact hO.congr fun x hx=>(zBh f2 x hx).symm
   ·rw [←zCw f3,List.set_comm _ _ hne];exact h
  |w w2 rd2=>
   obtain ⟨o2,ho2,hg2,hw2,r2,en2,hO2,h⟩:=h
   rw [wX ho2] at f1
   rw [zDt ho2] at f2 f3
   simp only [dP,Kx.wr,Kx.rds,Bool.and_eq_true,List.all_eq_true,Bool.not_eq_true'] at hm
   have hne:w2≠w:=fun e=>by rw [e,Nat.beq_refl] at hm;cases hm.1.2
   have hn:w ∉ rd2:=fun hin=>by have:=hm.1.1 w hin;rw [Nat.beq_refl] at this;cases this
   have hn':w2 ∉ rd:=fun hin=>by have:=hm.2 w2 hin;rw [Nat.beq_refl] at this;cases this
   have hn2:w ∉ w2::rd2:=fun hin=>by rcases List.mem_cons.1 hin with e|e;exact hne e.symm;exact hn e
   have hn2':w2 ∉ w::rd:=fun hin=>by rcases List.mem_cons.1 hin with e|e;exact hne e;exact hn' e
   rw [wP hn2,wP hn] at hO2
   refine ⟨o2,ho2,hg2,⟨by simpa using hw2.1,hw2.2⟩,r2,en2,hO2.congr fun x hx=>zBh f1 x hx,o,ho,hg,⟨by simpa using hw.1,hw.2⟩,r,en,?_,?_⟩
   ·rw [wP hn2',wP hn'];exact hO.congr fun x hx=>(zBh f2 x hx).symm
   ·rw [←zCw f3,List.set_comm _ _ hne];exact h
  |f w2=>
   simp only [dP,Kx.wr,Kx.rds,List.all_nil,Bool.true_and,Bool.and_eq_true,List.all_eq_true,Bool.not_eq_true'] at hm
   have hne:w2≠w:=fun e=>by rw [e,Nat.beq_refl] at hm;cases hm.1
   have hn:w2 ∉ rd:=fun hin=>by have:=hm.2 w2 hin;rw [Nat.beq_refl] at this;cases this
   have hn2:w2 ∉ w::rd:=fun hin=>by rcases List.mem_cons.1 hin with e|e;exact hne e;exact hn e
   refine fun r2 en2 hrr2=>⟨o,ho,hg,⟨by simpa using hw.1,hw.2⟩,r,en,?_,?_⟩
   ·rw [wP hn2,wP hn];exact hO.congr fun x hx=>(zBh f2 x hx).symm
   ·rw [←zCw f3,List.set_comm _ _ hne]
    exact h r2 en2 hrr2
  |g w2 rd2=>cases hk
  |h w2 rd2=>cases hk
 |g w rd=>
  cases kb with
  |q rd2=>cases hk
  |e w2 rd2=>cases hk
  |w w2 rd2=>cases hk
  |f w2=>
   obtain ⟨o,ho,hg,hd,hw,en0,hs0,hO,h⟩:=h
   rw [wX ho] at f2
   simp only [dP,Kx.wr,Kx.rds,List.all_nil,Bool.true_and,Bool.and_eq_true,List.all_eq_true,Bool.not_eq_true'] at hm
   have hne:w2≠w:=fun e=>by rw [e,Nat.beq_refl] at hm;cases hm.1
   have hn:w2 ∉ rd:=fun hin=>by have:=hm.2 w2 hin;rw [Nat.beq_refl] at this;cases this
   have hn2:w2 ∉ w::rd:=fun hin=>by rcases List.mem_cons.1 hin with e|e;exact hne e;exact hn e
   refine fun r2 en2 hrr2=>?_
   have e:stF o (evF (upd ρ (mM l j) r2))=stF o (evF ρ):=zMa fun x hx=>zBh f2 x hx
   refine ⟨o,ho,hg,hd,⟨by simpa using hw.1,hw.2⟩,en0,by rw [zBz hne];exact hs0,?_,?_⟩
   ·rw [wP hn2,wP hn,e];exact hO.congr fun x hx=>(zBh f2 x hx).symm
   ·rw [e,List.set_comm _ _ hne];exact h r2 en2 hrr2
  |g w2 rd2=>
   obtain ⟨o,ho,hg,hd,hw,en0,hs0,hO,o2,ho2,hg2,hd2,hw2,en2,hs2,hO2,h⟩:=h
   simp only [dP,Kx.wr,Kx.rds,Bool.and_eq_true,List.all_eq_true,Bool.not_eq_true'] at hm
   have hne:w2≠w:=fun e=>by rw [e,Nat.beq_refl] at hm;cases hm.1.2
   have hn:w ∉ rd2:=fun hin=>by have:=hm.1.1 w hin;rw [Nat.beq_refl] at this;cases this
   have hn':w2 ∉ rd:=fun hin=>by have:=hm.2 w2 hin;rw [Nat.beq_refl] at this;cases this
   have hn2:w ∉ w2::rd2:=fun hin=>by rcases List.mem_cons.1 hin with e|e;exact hne e.symm;exact hn e
   have hn2':w2 ∉ w::rd:=fun hin=>by rcases List.mem_cons.1 hin with e|e;exact hne e;exact hn' e
   rw [zBz (Ne.symm hne)] at hs2
   rw [wP hn2,wP hn] at hO2
   rw [List.set_comm _ _ (Ne.symm hne)] at h
   exact ⟨o2,ho2,hg2,hd2,⟨by simpa using hw2.1,hw2.2⟩,en2,hs2,hO2,o,ho,hg,hd,⟨by simpa using hw.1,hw.2⟩,en0,by rw [zBz hne];exact hs0,by rw [wP hn2',wP hn'];exact hO,h⟩
  |h w2 rd2=>cases hk
 |h w rd=>
  cases kb with
  |q rd2=>cases hk
  |e w2 rd2=>cases hk
  |w w2 rd2=>cases hk
  |h w2 rd2=>cases hk
  |f w2=>
   obtain ⟨o,ho,hg,hw,R,hO,hne0,h⟩:=h
   rw [wX ho] at f2
   rw [zDt ho] at f1 f3
   simp only [dP,Kx.wr,Kx.rds,List.all_nil,Bool.true_and,Bool.and_eq_true,List.all_eq_true,Bool.not_eq_true'] at hm
   have hne:w2≠w:=fun e=>by rw [e,Nat.beq_refl] at hm;cases hm.1
   have hn:w2 ∉ rd:=fun hin=>by have:=hm.2 w2 hin;rw [Nat.beq_refl] at this;cases this
   have hn2:w2 ∉ w::rd:=fun hin=>by rcases List.mem_cons.1 hin with e|e;exact hne e;exact hn e
   refine fun r2 en2 hrr2=>⟨o,ho,hg,⟨by simpa using hw.1,hw.2⟩,R,?_,by rw [wP hn];exact hne0,fun r μ' hrr=>?_⟩
   ·rw [wP hn2];exact hO.congr fun x hx=>(zBh f2 x hx).symm
   ·obtain ⟨en,he,h⟩:=h r μ' hrr
    refine ⟨en,by rw [wP hn];exact he,?_⟩
    rw [←zCw f3,List.set_comm _ _ hne]
    exact h r2 en2 hrr2
  |g w2 rd2=>
   obtain ⟨o,ho,hg,hw,R,hO,⟨r0,e0,hr0⟩,h⟩:=h
   obtain ⟨e1,he1,o2,ho2,hg2,hd2,hw2,en2,hs2,hO2,_⟩:=h r0 _ hr0
   cases he1
   rw [wX ho2] at f1
   rw [wX ho] at f2
   rw [zDt ho] at f1
   simp only [dP,Kx.wr,Kx.rds,Bool.and_eq_true,List.all_eq_true,Bool.not_eq_true'] at hm
   have hne:w2≠w:=fun e=>by rw [e,Nat.beq_refl] at hm;cases hm.1.2
   have hn:w ∉ rd2:=fun hin=>by have:=hm.1.1 w hin;rw [Nat.beq_refl] at this;cases this
   have hn':w2 ∉ rd:=fun hin=>by have:=hm.2 w2 hin;rw [Nat.beq_refl] at this;cases this
   have hn2:w ∉ w2::rd2:=fun hin=>by rcases List.mem_cons.1 hin with e|e;exact hne e.symm;exact hn e
   have hn2':w2 ∉ w::rd:=fun hin=>by rcases List.mem_cons.1 hin with e|e;exact hne e;exact hn' e
   have key:∀r,stF o2 (evF (upd ρ o.dst r))=stF o2 (evF ρ):=fun r=>zMa fun x hx=>zBh f1 x hx
   rw [zBz (Ne.symm hne)] at hs2
   rw [wP hn2,wP hn,key] at hO2
   refine ⟨o2,ho2,hg2,hd2,⟨by simpa using hw2.1,hw2.2⟩,en2,hs2,hO2.congr fun x hx=>zBh f1 x hx,o,ho,hg,⟨by simpa using hw.1,hw.2⟩,R,?_,⟨r0,e0,by rw [wP hn'];exact hr0⟩,fun r μ' hrr=>?_⟩
   ·rw [wP hn2'];exact hO
   ·obtain ⟨e3,he3,o3,ho3,_,_,_,en3,hs3,_,hS⟩:=h r μ' hrr
    rw [ho2] at ho3;cases ho3
    rw [zBz (Ne.symm hne),hs2] at hs3;cases hs3
    rw [key,List.set_comm _ _ (Ne.symm hne)] at hS
    exact ⟨e3,by rw [wP hn'];exact he3,hS⟩
 |e w rd=>
  cases kb with
  |q rd2=>cases hk
  |e w2 rd2=>cases hk
  |w w2 rd2=>cases hk
  |g w2 rd2=>cases hk
  |h w2 rd2=>cases hk
  |f w2=>
   obtain ⟨o,ho,hg,hw,R,hO,h⟩:=h
   rw [wX ho] at f2
   rw [zDt ho] at f1 f3
   simp only [dP,Kx.wr,Kx.rds,List.all_nil,Bool.true_and,Bool.and_eq_true,List.all_eq_true,Bool.not_eq_true'] at hm
   have hne:w2≠w:=fun e=>by rw [e,Nat.beq_refl] at hm;cases hm.1
   have hn:w2 ∉ rd:=fun hin=>by have:=hm.2 w2 hin;rw [Nat.beq_refl] at this;cases this
   have hn2:w2 ∉ w::rd:=fun hin=>by rcases List.mem_cons.1 hin with e|e;exact hne e;exact hn e
   refine fun r2 en2 hrr2=>⟨o,ho,hg,⟨by simpa using hw.1,hw.2⟩,R,?_,fun r μ' hrr=>?_⟩
   ·rw [wP hn2];exact hO.congr fun x hx=>(zBh f2 x hx).symm
   ·obtain ⟨en,he,h⟩:=h r μ' hrr
    refine ⟨en,by rw [wP hn];exact he,?_⟩
    rw [←zCw f3,List.set_comm _ _ hne]
    exact h r2 en2 hrr2
 |f w=>
  cases kb with
  |q rd2=>cases hk
  |e w2 rd2=>cases hk
  |w w2 rd2=>cases hk
  |g w2 rd2=>
   obtain ⟨r0,e0,hr0⟩:=hF w rfl
   obtain ⟨o2,ho2,hg2,hd2,hw2,en2,hs2,hO2,_⟩:=h r0 e0 hr0
   rw [wX ho2] at f1
   simp only [dP,Kx.wr,Kx.rds,List.all_nil,Bool.and_true,Bool.and_eq_true,List.all_eq_true,Bool.not_eq_true'] at hm
   have hne:w2≠w:=fun e=>by rw [e,Nat.beq_refl] at hm;cases hm.2
   have hn:w ∉ rd2:=fun hin=>by have:=hm.1 w hin;rw [Nat.beq_refl] at this;cases this
   have hn2:w ∉ w2::rd2:=fun hin=>by rcases List.mem_cons.1 hin with e|e;exact hne e.symm;exact hn e
   have key:∀r,stF o2 (evF (upd ρ (mM l i) r))=stF o2 (evF ρ):=fun r=>zMa fun x hx=>zBh f1 x hx
   rw [zBz (Ne.symm hne)] at hs2
   rw [wP hn2,wP hn,key] at hO2
   refine ⟨o2,ho2,hg2,hd2,⟨by simpa using hw2.1,hw2.2⟩,en2,hs2,hO2.congr fun x hx=>zBh f1 x hx,fun r en hrr=>?_⟩
   obtain ⟨o3,ho3,_,_,_,en3,hs3,_,hS⟩:=h r en hrr
   rw [ho2] at ho3;cases ho3
   rw [zBz (Ne.symm hne),hs2] at hs3;cases hs3
   rw [key,List.set_comm _ _ (Ne.symm hne)] at hS
   exact hS
  |h w2 rd2=>cases hk
  |f w2=>
   simp only [dP,Kx.wr,Kx.rds,List.all_nil,Bool.true_and,Bool.and_true,Bool.not_eq_true'] at hm
   have hne:w2≠w:=fun e=>by rw [e,Nat.beq_refl] at hm;cases hm
   refine fun r2 en2 hrr2 r en hrr=>?_
   rw [←zCw f3,List.set_comm _ _ hne]
   exact h r en hrr r2 en2 hrr2
theorem SQ.front {b:It} {its:List It}:∀{A:List It} {ρ:Nat->V} {m:List (Option E)},(∀a,a∈A->nW a.k b.k=true/\dP a.k b.k=true/\mZ l a.i b.i=true/\∀w,a.k=.f w->∃r en,nI F a.i r en)->SQ X n l F K (A++b::its) ρ m->SQ X n l F K (b::(A++its)) ρ m
 |[],_,_,_,h=>h
 |a::A,ρ,m,hA,h=>by
  obtain ⟨h1,h2,h3,h4⟩:=hA a (by simp)
  refine SQ.swap h1 h2 h3 h4 ?_
  obtain ⟨i,ka⟩:=a
  have ih:=fun ρ m=>SQ.front (b:=b) (its:=its) (A:=A) (ρ:=ρ) (m:=m) fun a ha=>hA a (by simp [ha])
  cases ka with
  |q rd=>obtain ⟨o,ho,hn,r,hG,h⟩:=h;exact ⟨o,ho,hn,r,hG,ih _ _ h⟩
  |e w rd=>obtain ⟨o,ho,hg,hw,R,hO,h⟩:=h;exact ⟨o,ho,hg,hw,R,hO,fun r μ' hrr=>by obtain ⟨en,he,h⟩:=h r μ' hrr;exact ⟨en,he,ih _ _ h⟩⟩
  |f w=>exact fun r en hrr=>ih _ _ (h r en hrr)
  |w w rd=>obtain ⟨o,ho,hg,hw,r,en,hO,h⟩:=h;exact ⟨o,ho,hg,hw,r,en,hO,ih _ _ h⟩
  |g w rd=>obtain ⟨o,ho,hg,hd,hw,en,hs,hO,h⟩:=h;exact ⟨o,ho,hg,hd,hw,en,hs,hO,ih _ _ h⟩
  |h w rd=>obtain ⟨o,ho,hg,hw,R,hO,hne,h⟩:=h;exact ⟨o,ho,hg,hw,R,hO,hne,fun r μ' hrr=>by obtain ⟨en,he,h⟩:=h r μ' hrr;exact ⟨en,he,ih _ _ h⟩⟩
def tL (l:List Oper) (s:Nat) (it:It):Bool:= !isF it.k||((nL l it.i).all fun t=>(List.range s).all fun j=> !(mM l j==some t))&&(nth l it.i).any fun o=>o.guard==none
def vA (X:Cfg) (l:List Oper) (F:Rfs) (ρ0:Nat->V) (its:List It):Prop:=∀i w,(⟨i,.f w⟩:It)∈its->∃o,nth l i=some o/\o.guard=none/\pO X o (evF ρ0) (nI F i)/\∃r en,nI F i r en
def lJ (l:List Oper):List It->Bool
 |[]=>true
 |a::r=>r.all (nV l a)&&lJ l r
theorem zSt {l:List Oper} {b:It}:∀{A B:List It},lJ l (A++b::B)=true->lJ l (A++B)=true/\(∀a,a∈A->nV l a b=true)/\(∀a,a∈B->nV l b a=true)
 |[],B,h=>by
  simp only [List.nil_append,lJ,Bool.and_eq_true,List.all_eq_true] at h
  exact ⟨h.2,fun a ha=>(by cases ha),h.1⟩
 |a::A,B,h=>by
  simp only [List.cons_append,lJ,Bool.and_eq_true,List.all_eq_true] at h
  obtain ⟨h1,h2,h3⟩:=zSt h.2
  refine ⟨?_,fun x hx=>?_,h3⟩
  ·simp only [List.cons_append,lJ,Bool.and_eq_true,List.all_eq_true]
   exact ⟨fun x hx=>h.1 x (by rcases List.mem_append.1 hx with k|k<;>simp [k]),h1⟩
  ·rcases List.mem_cons.1 hx with rfl|hx
   ·exact h.1 b (by simp)
   ·exact h2 x hx
def xD (X:Cfg) (n:Nat) (z:Z) (l:List Oper) (s:Nat) (Q:Exit->S->Prop) (ρ:Nat->V) (m:List (Option E)):Prop:=∃regs,ρ=bT regs/\RWP X n z l.toArray (l.drop s) Q ⟨regs,lX m⟩
end
section draw
variable {X:Cfg} {n:Nat} {z:Z} {Q:Exit->S->Prop} {l:List Oper} {s:Nat} {F:Rfs}
theorem listed_tf {listed:Array Bool} {j:Nat} (hj:j<listed.size):listed.getD j true=listed.getD j false:=by
 rw [Array.getD_eq_getD_getElem?,Array.getD_eq_getD_getElem?,Array.getElem?_eq_getElem hj];rfl
theorem unl_count {m:Nat} {listed:Array Bool} (hsz:listed.size=l.length) (hml:m<=l.length) (hq:∀i,i<m->listed.getD i true=true) (htail:∀i,m<=i->i<l.length->listed.getD i true=false):unl listed=l.length-m:=by
 have hL:listed.toList=(List.range l.length).map fun i=>decide (i<m):=by
  apply List.ext_getElem?
  intro i
  by_cases hi:i<l.length
  ·rw [List.getElem?_map,List.getElem?_range hi]
   have hv:listed.getD i true=decide (i<m):=by
    by_cases him:i<m
    ·rw [hq i him];simp [him]
    ·rw [htail i (by omega) hi];simp [him]
   rw [Array.getD_eq_getD_getElem?,Array.getElem?_eq_getElem (by omega)] at hv
   rw [Array.getElem?_toList,Array.getElem?_eq_getElem (by omega)]
   simpa using hv
  ·rw [List.getElem?_eq_none (by simp;omega),List.getElem?_eq_none (by simp;omega)]
 unfold unl
 rw [hL]
 exact o6
theorem draw_c {z1:Z} (hz:ZLe z z1) (ok:DrawOk l s) (hsl:s<=l.length) (hdst:l.all (dstOk n)=true) {ρ0:Nat->V}:∀(fuel:Nat) (its:List It) (ρ:Nat->V) (m:List (Option E)) (listed:Array Bool) (a:Act) (w:World) (I:Nat->Prop),
  listed.size=l.length->unl listed=fuel->(∀i,s<=i->i<l.length->listed.getD i true=false)->tP l listed->
  (∀i,i<s->(listed.getD i true=false↔∃k,(⟨i,k⟩:It)∈its))->(its.map It.i).Nodup->(∀it,it∈its->it.i<s)->lJ l its=true->its.all (tL l s)=true->vA X l F ρ0 its->
  (∀t,(∀j,j<s->mM l j≠some t)->ρ t=ρ0 t)->(∀i v,(⟨i,.f v⟩:It)∈its->nth m v=some none)->
  SQ X n l F (xD X n z l s Q) its ρ m->Heap X w I (lX m)->(∀t,VRep w I (ρ t) (a.tmps.getD t undef))->Ext z1.w z1.I z1.μ w I (lX m)->a.defers=z1.ds->a.tmps.size=n->
  wpAnyIn (fen z.rd) 0 X.P .any l.toArray (gA X n z1 Q) fuel listed a w:=by
 intro fuel
 induction fuel with
 |zero=>
  intro its ρ m listed a w I hsz hun htail hclo hits hnd hlt hp hf1 hF hρ hfm hSQ hH hR hx hd hs
  have hall:∀i,i<l.length->listed.getD i true=true:=by
   intro i hi
   cases hb:listed.getD i true with
   |true=>rfl
   |false=>have:=unl_set hb;omega
  have hsl':s=l.length:=by
   rcases Nat.lt_or_ge s l.length with h|h
   ·have h1:=htail s (Nat.le_refl _) h;rw [hall s h] at h1;cases h1
   ·omega
  have hnil:its=[]:=by
   cases its with
   |nil=>rfl
   |cons it r=>
    have h1:=hlt it (by simp)
    have h2:=(hits it.i h1).2 ⟨it.k,by simp⟩
    rw [hall it.i (by omega)] at h2;cases h2
  subst hnil
  obtain ⟨regs,rfl,hk⟩:=hSQ
  refine zMx ok 0 l.length listed a w hsz hsl (Nat.le_refl _) (fun i hi=>by rw [hall i hi];simp [hi]) (by omega) ?_
  have:=hk (by rw [hsl'];simp) z1 hz a w ⟨I,hH,hR,hx,hd,hs⟩
  rwa [hsl'] at this
 |succ fuel ih=>
  intro its ρ m listed a w I hsz hun htail hclo hits hnd hlt hp hf1 hF hρ hfm hSQ hH hR hx hd hs
  cases hits0:its with
  |nil=>
   subst hits0
   have hq:∀i,i<s->listed.getD i true=true:=by
    intro i hi
    cases hb:listed.getD i true with
    |true=>rfl
    |false=>obtain ⟨k,hk⟩:=(hits i hi).1 hb;cases hk
   obtain ⟨regs,rfl,hk⟩:=hSQ
   refine zMx ok (fuel+1) s listed a w hsz (Nat.le_refl _) hsl (fun i hi=>?_) ?_ ?_
   ·by_cases him:i<s
    ·rw [hq i him];simp [him]
    ·rw [htail i (by omega) hi];simp [him]
   ·have:=unl_count (m:=s) (l:=l) (listed:=listed) hsz hsl hq htail
    omega
   ·exact hk (by
     rw [List.all_eq_true] at hdst⊢
     exact fun o ho=>hdst o (List.mem_of_mem_drop ho)) z1 hz a w ⟨I,hH,hR,hx,hd,hs⟩
  |cons it0 its0=>
   have hi0s:=hlt it0 (by rw [hits0];simp)
   have hb00:=(hits it0.i hi0s).2 ⟨it0.k,by rw [hits0];simp⟩
   have hex:∃i,i<s/\listed.getD i true=false/\∀j,j<i->listed.getD j true=true:=by
    have strong:∀N i,i<N->i<s->listed.getD i true=false->∃i,i<s/\listed.getD i true=false/\∀j,j<i->listed.getD j true=true:=by
     intro N
     induction N with
     |zero=>intro i h;omega
     |succ N ihN=>
      exact v12
    exact strong (it0.i+1) it0.i (by omega) hi0s hb00
   obtain ⟨i0,hi0,hb0,hmin⟩:=hex
   refine ⟨fun hnil=>?_,fun i hi=>?_⟩
   ·exfalso
    have hlt0:i0<l.length:=by omega
    have:i0∈Region.ready .any l.toArray listed:=by
     rw [mem_ready]
     refine ⟨hb0,l[i0],by simp [hlt0],fun e he hb=>?_⟩
     have hlt:=ok.back i0 l[i0] (List.getElem?_eq_getElem hlt0) e he hb
     have h2:=hmin e.on hlt
     rw [←listed_tf (by omega)]
     exact h2
    rw [hnil] at this
    simp at this
   ·rw [mem_ready] at hi
    obtain ⟨hbi,o,ho,hedge⟩:=hi
    have ho':l[i]? =some o:=by simpa using ho
    have hil:i<l.length:=(List.getElem?_eq_some_iff.1 ho').1
    have hun2:∀j,j<l.length->listed.getD j true=false->¬listed.getD j false=true:=fun j hj h1 h2=>by
     rw [←listed_tf (by omega),h1] at h2;cases h2
    have him:i<s:=by
     rcases Nat.lt_or_ge i s with h|h
     ·exact h
     ·exfalso
      rcases Nat.lt_or_ge s i with hgt|hge
      ·obtain ⟨e,he1,he2,he3⟩:=ok.tail1 i o ho' hgt
       have h1:=hedge e he1 he3
       rw [he2] at h1
       exact hun2 (i-1) (by omega) (htail (i-1) (by omega) (by omega)) h1
      ·have him:i=s:=by omega
       subst him
       exact hun2 i0 (by omega) hb0 (zLl hclo ho' hedge (ok.tail0 o ho' i0 hi0))
    obtain ⟨k,hk⟩:=(hits i him).1 hbi
    obtain ⟨A,B,hAB⟩:=List.append_of_mem hk
    rw [hAB] at hSQ hp hnd hits hlt hf1 hF hfm
    obtain ⟨hp1,hp2,hp3⟩:=zSt hp
    have hnd':((A++B).map It.i).Nodup/\(∀it,it∈A++B->it.i≠i):=by
     rw [List.map_append,List.map_cons] at hnd
     have h1:=(List.perm_middle (a:=i) (l₁:=A.map It.i) (l₂:=B.map It.i)).nodup_iff.1 hnd
     rw [←List.map_append] at h1
     obtain ⟨h2,h3⟩:=List.nodup_cons.1 h1
     exact ⟨h3,fun it hit e=>h2 (e ▸ List.mem_map_of_mem hit)⟩
    have hmem:∀it,it∈A++B->it∈A++⟨i,k⟩::B:=fun it hit=>by
     rcases List.mem_append.1 hit with h|h<;>simp [h]
    have hfree:∀it,it∈A->nW it.k k=true/\dP it.k k=true/\mZ l it.i i=true/\∀w,it.k=.f w->∃r en,nI F it.i r en:=by
     intro it hit
     have h1:=hp2 it hit
     unfold nV at h1
     simp only [Bool.or_eq_true,Bool.and_eq_true] at h1
     rcases h1 with h1|h1
     ·refine ⟨h1.1.1,h1.1.2,h1.2,fun w hw=>?_⟩
      obtain ⟨o9,_,_,_,h9⟩:=hF it.i w (by rw [←hw];simp [hit])
      exact h9
     ·exfalso
      have h2:=zLl hclo ho' hedge h1.2
      have h3:=hlt it (by simp [hit])
      have h4:=(hits it.i h3).2 ⟨it.k,by simp [hit]⟩
      exact hun2 it.i (by omega) h4 h2
    have hSQ':=SQ.front hfree hSQ
    have hdo:dstOk n o=true:=by
     rw [List.all_eq_true] at hdst
     exact hdst o (List.mem_of_getElem? ho')
    have hon:nth l i=some o:=by rw [zFv];exact ho'
    simp only [wpOpIn,ho]
    have step:∀(r:V) (m':List (Option E)) v I' w',SQ X n l F (xD X n z l s Q) (A++B) (upd ρ o.dst r) m'->(∀j v,(⟨j,.f v⟩:It)∈A++B->nth m' v=some none)->VRep w' I' r v->Heap X w' I' (lX m')->Ext w I (lX m) w' I' (lX m')->wpAnyIn (fen z.rd) 0 X.P .any l.toArray (gA X n z1 Q) fuel (listed.setIfInBounds i true) (a.put o.dst v) w':=by
     intro r m' v I' w' hS hfm' hv hH' hx'
     have hu:=unl_set hbi
     refine ih (A++B) (upd ρ o.dst r) m' (listed.setIfInBounds i true) _ w' I' (by simp [hsz]) (by omega) (fun j hj hjl=>?_) (fun j oj hoj hb e he1 he3=>?_) (fun j hj=>?_) hnd'.1 (fun it hit=>hlt it (hmem it hit)) hp1 ?_ (fun j v hj=>hF j v (hmem _ hj)) (fun t ht=>?_) hfm' hS hH' (fun t=>?_) (hx.trans hx') ?_ ?_
     ·rw [getD_set_ne true (by omega)];exact htail j hj hjl
     ·exact k8
     ·by_cases hji:j=i
      ·subst hji
       constructor
       ·intro h
        rw [Array.getD_eq_getD_getElem?,Array.getElem?_setIfInBounds] at h
        simp [show j<listed.size by omega] at h
       ·rintro ⟨k',hk'⟩
        exact absurd rfl (hnd'.2 _ hk')
      ·rw [getD_set_ne true (Ne.symm hji),hits j hj]
       constructor
       ·rintro ⟨k',hk'⟩
        refine ⟨k',?_⟩
        rcases List.mem_append.1 hk' with h|h
        ·simp [h]
        ·rcases List.mem_cons.1 h with h|h
         ·injection h with h1 h2;exact absurd h1 hji
         ·simp [h]
       ·rintro ⟨k',hk'⟩
        exact ⟨k',hmem _ hk'⟩
     ·rw [List.all_eq_true] at hf1⊢
      exact fun it hit=>hf1 it (hmem it hit)
     ·rw [zKx (by have:=ht i him;rw [zDt hon] at this;exact this)]
      exact hρ t ht
     ·cases hod:o.dst with
      |none=>rw [upd_none];exact hH.vrep hx' (hR t)
      |some d=>
       have hdn:d<n:=by simp only [dstOk,hod,Bool.and_eq_true] at hdo;simpa [Nat.blt_eq] using hdo.1
       rw [tmps_put hs hdn]
       by_cases hdt:d=t
       ·subst hdt;rw [if_pos rfl,upd,if_pos rfl];exact hv
       ·rw [if_neg hdt,zKx (by simpa using hdt)];exact hH.vrep hx' (hR t)
     ·cases hod:o.dst<;>simp [Act.put,hd]
     ·cases hod:o.dst<;>simp [Act.put,hs]
    have hlook:∀t,t∈o.looksAt l.toArray->VRep w I (ρ t) (a.tmps.getD t undef):=fun t _=>hR t
    have hops:∀x,x∈o.op.operands->VRep w I (evF ρ x) (a.eval x):=by
     intro x hx
     cases x with
     |tmp t=>exact hR t
     |const v=>exact zOv w I v
     |global g=>exact CRep.lit _ rfl
     |func f=>exact CRep.fn (.func f) [] [] [] [] rfl rfl (fun j c u hc=>by simp at hc) (fun j c u hc=>by simp at hc)
    have keep:∀v,(∀it,it∈A++B->isF it.k=true->it.k.wr≠some v)->∀en,∀j u,(⟨j,.f u⟩:It)∈A++B->nth (m.set v (some en)) u=some none:=by
     intro v hv en j u hj
     have h1:=hfm j u (hmem _ hj)
     have hne:v≠u:=fun e=>hv _ hj rfl (by rw [e];rfl)
     rw [zFv,List.getElem?_set_ne hne,←zFv];exact h1
    have wrs:∀v,k.wr=some v->∀it,it∈A++B->isF it.k=true->it.k.wr≠some v:=by
     intro v hv it hit hF1 hw
     rcases List.mem_append.1 hit with h|h
     ·have h1:=(hfree it h).2.1
      unfold dP at h1
      rw [hw,hv] at h1
      simp [Nat.beq_refl] at h1
     ·have h1:=hp3 it h
      unfold nV at h1
      rw [hF1] at h1
      simp only [Bool.not_true,Bool.false_and,Bool.or_false,Bool.and_eq_true] at h1
      have h2:=h1.1.2
      unfold dP at h2
      simp only [hw,hv] at h2
      simp [Nat.beq_refl] at h2
    cases k with
    |q rd=>
     obtain ⟨o2,ho2,hrn,r,hG,hS⟩:=hSQ'
     rw [hon] at ho2;cases ho2
     have hG':=(hG.wide (zFs rd m hrn)) a w I hH hlook hs (wpAnyIn (fen z.rd) 0 X.P .any l.toArray (gA X n z1 Q) fuel (listed.setIfInBounds i true)) (gA X n z1 Q) fun v I' w' hv hH' hx'=>step r m v I' w' hS (fun j u hj=>hfm j u (hmem _ hj)) hv hH' hx'
     split
     ·rename_i hw;rw [if_pos hw] at hG';exact hG' (dstOk.nd hdo) _
     ·rename_i hw;rw [if_neg hw] at hG';exact ⟨fun _ _=>trivial,hG'⟩
    |e v rd=>
     obtain ⟨o2,ho2,hg,⟨hw1,hw2⟩,R,hO,hS⟩:=hSQ'
     exact m7
    |w v rd=>
     obtain ⟨o2,ho2,hg,⟨hw1,hw2⟩,r0,en0,hO,hS0⟩:=hSQ'
     rw [hon] at ho2;cases ho2
     have hO':=(hO.wide (zFs (v::rd) m hw2)) a w I hH hops (wpAnyIn (fen z.rd) 0 X.P .any l.toArray (gA X n z1 Q) fuel (listed.setIfInBounds i true)) (gA X n z1 Q) (by
      rintro u r _ I' w' ⟨μ',hrr,rfl⟩ hv hH' hx'
      obtain ⟨rfl,rfl⟩:=hrr
      have hS':=hS0
      have hpm:=zKr (m:=m) (en:=en0) hw2 hw1
      exact step r _ u I' w' hS' (keep v (wrs v rfl) en0) hv (hH'.perm hpm) (hx'.perm (List.Perm.refl _) hpm))
     exact v47
    |h v rd=>
     obtain ⟨o2,ho2,hg,⟨hw1,hw2⟩,R,hO,_,hS⟩:=hSQ'
     exact m7
    |g v rd=>
     obtain ⟨o2,ho2,hg,hd2,⟨hw1,hw2⟩,en0,_,hO,hS0⟩:=hSQ'
     rw [hon] at ho2;cases ho2
     have hO':=(hO.wide (zFs (v::rd) m hw2)) a w I hH hops (wpAnyIn (fen z.rd) 0 X.P .any l.toArray (gA X n z1 Q) fuel (listed.setIfInBounds i true)) (gA X n z1 Q) (by
      rintro u r _ I' w' ⟨μ',rfl,rfl⟩ hv hH' hx'
      have hpm:=zKr (m:=m) (en:=stF o (evF ρ) en0) hw2 hw1
      exact step r _ u I' w' (by rw [hd2,upd_none];exact hS0) (keep v (wrs v rfl) _) hv (hH'.perm hpm) (hx'.perm (List.Perm.refl _) hpm))
     exact v47
    |f v=>
     obtain ⟨o2,ho2,hg,hFr,_⟩:=hF i v (by simp)
     rw [hon] at ho2;cases ho2
     have hfv:=hfm i v (by simp)
     have hFr':pO X o (evF ρ) (nI F i):=by
      refine OpE.congr hFr fun x hx=>?_
      cases x with
      |tmp t=>
       have h1:=List.all_eq_true.1 hf1 ⟨i,.f v⟩ (by simp)
       simp only [tL,isF,Bool.not_true,Bool.false_or,Bool.and_eq_true,List.all_eq_true,Bool.not_eq_true',beq_eq_false_iff_ne,List.mem_range,wX hon] at h1
       exact (hρ t (h1.1 t (looks_op hx))).symm
      |_=>rfl
     have hO':=(OpE.wide (φ:=lX m) hFr' (List.Perm.refl _)) a w I hH hops (wpAnyIn (fen z.rd) 0 X.P .any l.toArray (gA X n z1 Q) fuel (listed.setIfInBounds i true)) (gA X n z1 Q) (by
      rintro u r _ I' w' ⟨_,⟨en,hrr,rfl⟩,rfl⟩ hv hH' hx'
      have hpm:=allE_fresh (en:=en) hfv
      have hS':=hSQ' r en hrr
      rw [zDt hon] at hS'
      exact step r _ u I' w' hS' (keep v (wrs v rfl) en) hv (hH'.perm hpm) (hx'.perm (List.Perm.refl _) hpm))
     exact v47
def sH:List Nat->Bool
 |[]=>true
 |a::r=>r.all (fun b=> !Nat.beq a b)&&sH r
def xF (l:List Oper) (s:Nat) (its:List It):Bool:=
 its.all (fun it=>Nat.blt it.i s)&&(List.range s).all (fun i=>(its.map It.i).contains i)&&sH (its.map It.i)&&lJ l its&&its.all (tL l s)
def FX (X:Cfg) (l:List Oper) (regs:List (Nat×V)):List It->Rfs->(Rfs->Prop)->Prop
 |[],F,K=>K F
 |⟨i,.f _⟩::its,F,K=>∃o,nth l i=some o/\o.guard=none/\∃Rf,pO X o (ev regs) Rf/\(∃r en,Rf r en)/\FX X l regs its (F++[(i,Rf)]) K
 |_::its,F,K=>FX X l regs its F K
theorem rfOf_app {F:Rfs} {i:Nat} {G:Rfs} (h:i∈F.map Prod.fst):nI (F++G) i=nI F i:=by
 induction F with
 |nil=>cases h
 |cons a F ih=>
  obtain ⟨j,R⟩:=a
  show (bif Nat.beq j i then R else nI (F++G) i)=bif Nat.beq j i then R else nI F i
  cases hb:Nat.beq j i with
  |true=>rfl
  |false=>
   simp only [cond_false]
   refine ih ?_
   rcases List.mem_cons.1 h with h|h
   ·rw [h] at hb;simp [Nat.beq_refl] at hb
   ·exact h
theorem rfOf_new {F:Rfs} {i:Nat} {R:V->E->Prop} (h:i ∉ F.map Prod.fst):nI (F++[(i,R)]) i=R:=by
 induction F with
 |nil=>show (bif Nat.beq i i then R else _)=R;rw [Nat.beq_refl];rfl
 |cons a F ih=>
  obtain ⟨j,R'⟩:=a
  show (bif Nat.beq j i then R' else nI (F++[(i,R)]) i)=R
  cases hb:Nat.beq j i with
  |true=>exact absurd (Nat.eq_of_beq_eq_true hb).symm (fun e=>h (by simp [e]))
  |false=>exact ih fun e=>h (by simp [e])
theorem FX.parts {X:Cfg} {l:List Oper} {regs:List (Nat×V)} {K:Rfs->Prop}:∀{its:List It} {F:Rfs},(its.map It.i).Nodup->(∀it,it∈its->it.i ∉ F.map Prod.fst)->FX X l regs its F K->∃G,vA X l (F++G) (bT regs) its/\K (F++G)/\∀i,i∈G.map Prod.fst->i∈its.map It.i
 |[],F,_,_,h=>⟨[],fun i w hi=>(by cases hi),by rw [List.append_nil];exact h,fun i hi=>(by cases hi)⟩
 |⟨i,.q rd⟩::its,F,hn,hd,h=>by
  exact s5
 |⟨i,.e w0 rd⟩::its,F,hn,hd,h=>by
  exact s5
 |⟨i,.w w0 rd⟩::its,F,hn,hd,h=>by
  exact s5
 |⟨i,.g w0 rd⟩::its,F,hn,hd,h=>by
  exact s5
 |⟨i,.h w0 rd⟩::its,F,hn,hd,h=>by
  exact s5
 |⟨i,.f w0⟩::its,F,hn,hd,h=>by
  obtain ⟨o,ho,hg,Rf,hF,hne,h⟩:=h
  have hi:=hd ⟨i,.f w0⟩ (by simp)
  obtain ⟨G,h1,h2,h3⟩:=FX.parts (its:=its) (List.nodup_cons.1 hn).2 (fun it hit e=>by
   rw [List.map_append] at e
   rcases List.mem_append.1 e with e|e
   ·exact hd it (by simp [hit]) e
   ·have e2:it.i=i:=by simpa using e
    exact (List.nodup_cons.1 hn).1 (by show i∈its.map It.i;rw [←e2];exact List.mem_map_of_mem hit)) h
  refine ⟨(i,Rf)::G,fun j w hj=>?_,by simpa using h2,fun j hj=>?_⟩
  ·have e0:F++(i,Rf)::G=F++[(i,Rf)]++G:=by simp
   rcases List.mem_cons.1 hj with e|e
   ·injection e with e1 e2
    subst e1
    refine ⟨o,ho,hg,?_⟩
    rw [e0,rfOf_app (by simp),rfOf_new hi,zMw];exact ⟨hF,hne⟩
   ·rw [e0];exact h1 j w e
  ·rcases List.mem_cons.1 hj with e|e
   ·simp [e]
   ·exact List.mem_cons_of_mem _ (h3 j e)
theorem zSx:∀{L:List Nat},sH L=true->L.Nodup
 |[],_=>List.nodup_nil
 |a::r,h=>by
  simp only [sH,Bool.and_eq_true,List.all_eq_true,Bool.not_eq_true'] at h
  exact List.nodup_cons.2 ⟨fun hin=>(by have:=h.1 a hin;rw [Nat.beq_refl] at this;cases this),zSx h.2⟩
theorem zLd:∀k:Nat,(List.replicate k (none:Option E)).filterMap id=[]
 |0=>rfl
 |k+1=>by rw [List.replicate_succ,List.filterMap_cons];exact zLd k
theorem kG {regs:List (Nat×V)} {μ:List E} {id:Nat} (s k:Nat) (its:List It) (hm:X.P.follows .mixedOrders=true) (hchk:rA l s=true) (hits:xF l s its=true) (hml:Nat.ble s l.length=true) (hd:l.all (dstOk n)=true) (hfm:(its.all fun it=>match it.k with|.f w=>Nat.blt w k|_=>true)=true)
  (h:FX X l regs its [] fun F=>SQ X n l F (xD X n z l s Q) its (bT regs) (List.replicate k none++μ.map some)):AWP X n z (.region id l.toArray true) Q ⟨regs,μ⟩:=by
 intro z1 hz a w st
 obtain ⟨I,hH,hR,hx,hdf,hs⟩:=st.drew
 unfold xF at hits
 simp only [Bool.and_eq_true,List.all_eq_true] at hits
 obtain ⟨⟨⟨⟨g1,g2⟩,g3⟩,g4⟩,g5⟩:=hits
 have hsl:=Nat.le_of_ble_eq_true hml
 have hin:∀i,i<s->i∈its.map It.i:=fun i hi=>by simpa using g2 i (List.mem_range.2 hi)
 have hnd:(its.map It.i).Nodup:=zSx g3
 obtain ⟨G,h1,h2,h3⟩:=FX.parts hnd (fun it _ e=>by cases e) h
 rw [List.nil_append] at h1 h2
 have hall:lX (List.replicate k none++μ.map some)=μ:=by
  unfold lX
  rw [List.filterMap_append]
  rw [zLd k,List.nil_append,List.filterMap_map]
  show List.filterMap some μ=μ
  exact List.filterMap_some
 refine wpIn_region_any hm ?_
 refine draw_c (F:=G) hz (drawOk hchk) hsl hd _ its (bT regs) _ _ a _ I (by simp) ?_ (fun i _ hi=>by simp [hi]) (fun j o ho hb=>by
  have hlt:j<l.length:=(List.getElem?_eq_some_iff.1 ho).1
  simp [hlt] at hb) (fun i hi=>?_) hnd (fun it hit=>by have:=g1 it hit;simpa [Nat.blt_eq] using this) g4 (List.all_eq_true.2 g5) h1 (fun t _=>rfl) (fun i v hv=>?_) h2 (by rw [hall];exact hH) hR (by rw [hall];exact hx) hdf hs
 ·unfold unl
  simp
 ·constructor
  ·intro _
   obtain ⟨it,hit,e⟩:=List.mem_map.1 (hin i hi)
   exact ⟨it.k,by rw [←e];exact hit⟩
  ·intro _
   simp [show i<l.length by omega]
 ·have h4:=List.all_eq_true.1 hfm _ hv
  have h5:v<k:=by simpa [Nat.blt_eq] using h4
  rw [zFv,List.getElem?_append_left (by simpa using h5),List.getElem?_replicate,if_pos h5]
end draw
/-! ## Steps of a derivation -/
section rules
variable {X:Cfg} {n:Nat} {z:Z} {Q:Exit->S->Prop} {l:List Oper} {s:Nat} {F:Rfs} {K:(Nat->V)->List (Option E)->Prop} {its:List It} {o:Oper} {regs:List (Nat×V)} {m:List (Option E)} {i:Nat} {rd:List Nat}
theorem qA {r:V} {d:Tmp} (ho:nth l i=some o) (hn:rd.Nodup) (hd:o.dst=some d) (hg:o.guard=none) (h:Det X o (ev regs) (fp m rd) r (fp m rd)) (k:SQ X n l F K its (bT ((d,r)::regs)) m):SQ X n l F K (⟨i,.q rd⟩::its) (bT regs) m:=
 ⟨o,ho,hn,r,gdet_plain hg h,by rw [hd,look_upd];exact k⟩
theorem zIx {w:Nat} {R:V->List E->Prop} {d:Tmp} (ho:nth l i=some o) (hw:Nat.blt w m.length=true) (hn:(w::rd).Nodup) (hd:o.dst=some d) (hg:o.guard=none) (h:OpE X o (ev regs) (fp m (w::rd)) R) (k:∀r μ',R r μ'->∃en,μ'=en::fp m rd/\SQ X n l F K its (bT ((d,r)::regs)) (m.set w (some en))):SQ X n l F K (⟨i,.e w rd⟩::its) (bT regs) m:=
 ⟨o,ho,hg,⟨by simpa [Nat.blt_eq] using hw,hn⟩,R,by rw [zMw];exact h,fun r μ' hr=>by obtain ⟨en,h1,h2⟩:=k r μ' hr;exact ⟨en,h1,by rw [hd,look_upd];exact h2⟩⟩
theorem zGq {w:Nat} {R:V->List E->Prop} (ho:nth l i=some o) (hw:Nat.blt w m.length=true) (hn:(w::rd).Nodup) (hd:o.dst=none) (hg:o.guard=none) (h:OpE X o (ev regs) (fp m (w::rd)) R) (k:∀r μ',R r μ'->∃en,μ'=en::fp m rd/\SQ X n l F K its (bT regs) (m.set w (some en))):SQ X n l F K (⟨i,.e w rd⟩::its) (bT regs) m:=
 ⟨o,ho,hg,⟨by simpa [Nat.blt_eq] using hw,hn⟩,R,by rw [zMw];exact h,fun r μ' hr=>by obtain ⟨en,h1,h2⟩:=k r μ' hr;exact ⟨en,h1,by rw [hd,upd_none];exact h2⟩⟩
theorem sq_v0 {w:Nat} {r:V} {en en0:E} (ho:nth l i=some o) (hw:Nat.blt w m.length=true) (hn:(w::rd).Nodup) (hd:o.dst=none) (hg:o.guard=none) (hs:nT m w=some en0) (h:Det X o (ev regs) (fp m (w::rd)) r (en::fp m rd)) (he:stF o (ev regs) en0=en) (k:SQ X n l F K its (bT regs) (m.set w (some en))):SQ X n l F K (⟨i,.g w rd⟩::its) (bT regs) m:=
 ⟨o,ho,hg,hd,⟨by simpa [Nat.blt_eq] using hw,hn⟩,en0,hs,by rw [zMw,he];exact OpE.mono h fun r' μ' e=>e.2,by rw [zMw,he];exact k⟩
theorem zEv {w:Nat} {d:Tmp} {R:V->E->Prop} (hR:nI F i=R) (hd:mM l i=some d) (k:∀r en,R r en->SQ X n l F K its (bT ((d,r)::regs)) (m.set w (some en))):SQ X n l F K (⟨i,.f w⟩::its) (bT regs) m:=
 fun r en hr=>by rw [hR] at hr;rw [hd,look_upd];exact k r en hr
theorem zAy {μ:List E} (hμ:lX m=μ) (h:RWP X n z l.toArray (l.drop s) Q ⟨regs,μ⟩):SQ X n l F (xD X n z l s Q) [] (bT regs) m:=⟨regs,rfl,by rw [hμ];exact h⟩
theorem zU {k:Kx} {Kf:Rfs->Prop} {G:Rfs} (hk:isF k=false) (h:FX X l regs its G Kf):FX X l regs (⟨i,k⟩::its) G Kf:=by
 cases k with
 |f w=>cases hk
 |q _=>exact h
 |e _ _=>exact h
 |w _ _=>exact h
 |g _ _=>exact h
 |h _ _=>exact h
theorem zFb {w:Nat} {Kf:Rfs->Prop} {G:Rfs} {Rf:V->E->Prop} (ho:nth l i=some o) (hg:o.guard=none) (h:pO X o (ev regs) Rf) (hne:∃r en,Rf r en) (k:FX X l regs its (G++[(i,Rf)]) Kf):FX X l regs (⟨i,.f w⟩::its) G Kf:=⟨o,ho,hg,Rf,h,hne,k⟩
theorem zAz {Kf:Rfs->Prop} {G:Rfs} (h:Kf G):FX X l regs [] G Kf:=h
end rules
end Go.Eng
end
section
namespace Go.Eng
open Go Go.RowKit
theorem zLc {z:Array Value} {size:Nat} (hz:z.size=size) (hpos:0<size):∀k:Nat,(madeCells z (k*size)).toList=(List.replicate k z.toList).flatten
 |0=>by simp [madeCells]
 |k+1=>by
  have ih:=zLc hz hpos k
  rw [List.replicate_succ',List.flatten_append,←ih]
  unfold madeCells
  rw [Array.toList_map,Array.toList_map,Array.toList_range,Array.toList_range,Nat.add_mul,Nat.one_mul,List.range_add,List.map_append]
  congr 1
  rw [List.map_map,List.flatten_cons,List.flatten_nil,List.append_nil]
  apply List.ext_getElem?
  intro i
  by_cases hi:i<size
  ·rw [List.getElem?_map,List.getElem?_range hi,Option.map_some]
   have h1:(k*size+i)%z.size=i:=by rw [hz,Nat.mul_comm,Nat.mul_add_mod,Nat.mod_eq_of_lt hi]
   simp only [Function.comp_apply,h1]
   rw [getElem!_pos z i (by omega),Array.getElem?_toList,Array.getElem?_eq_getElem (by omega)]
  ·rw [List.getElem?_eq_none (by simp;omega),List.getElem?_eq_none (by simp;omega)]
theorem zLa {w:World} {I:Nat->Prop} {row:List C} {vs:List Value} (h:CReps w I row vs):∀k:Nat,CReps w I (List.replicate k row).flatten (List.replicate k vs).flatten
 |0=>.nil
 |k+1=>by rw [List.replicate_succ,List.replicate_succ,List.flatten_cons,List.flatten_cons];exact h.append (zLa h k)
section
variable {X:Cfg} {o:Oper} {e:Operand->V} {μ:List E} {t:TypeId}
end
end Go.Eng
end
section
namespace Go.Eng
open Go Go.RowKit
section
variable {X:Cfg} {o:Oper} {e:Operand->V} {μ:List E}
end
end Go.Eng
end
section
namespace Go.Eng
open Go Go.RowKit
theorem mem2_eq' {sv:Value} {t u:TypeId} {n b:Nat} {rows rows':List (List C)} {cs:List C} {bμ:List E} (h:rows=rows'):E.vec sv t n rows::E.row b u cs::bμ=[E.vec sv t n rows',E.row b u cs]++bμ:=by rw [h];rfl
theorem zBg {sv:Value} {t:TypeId} {n:Nat} {rows rows':List (List C)} {bμ:List E} (h:rows=rows'):E.vec sv t n rows::bμ=[E.vec sv t n rows']++bμ:=by rw [h];rfl
end Go.Eng
end
section
namespace Go.Eng
open Go Go.RowKit
end Go.Eng
end
section
namespace Go.Eng
open Go Go.RowKit
theorem flat_take {size:Nat}:∀{rows:List (List C)} (k:Nat),(∀r,r∈rows->r.length=size)->(rows.take k).flatten=rows.flatten.take (k*size)/\(rows.drop k).flatten=rows.flatten.drop (k*size)
 |[],k,_=>by simp
 |r::rows,0,h=>by simp
 |r::rows,k+1,h=>by
  have hr:=h r (by simp)
  obtain ⟨h1,h2⟩:=flat_take (rows:=rows) k fun r' hr'=>h r' (by simp [hr'])
  have e:(k+1)*size=r.length+k*size:=by rw [Nat.succ_mul,hr];omega
  constructor
  ·rw [List.take_succ_cons,List.flatten_cons,List.flatten_cons,h1,e,List.take_append,List.take_of_length_le (l:=r) (by omega),Nat.add_sub_cancel_left]
  ·rw [List.drop_succ_cons,List.flatten_cons,h2,e,List.drop_append,List.drop_of_length_le (l:=r) (by omega),Nat.add_sub_cancel_left,List.nil_append]
section
variable {X:Cfg} {o:Oper} {e:Operand->V} {μ:List E} {t:TypeId}
end
end Go.Eng
end
section
namespace Go.Eng
open Go Go.RowKit
/-! ## Cells that are fresh,and what they read as -/
inductive FReps (w:World) (J:Nat->Prop):List C->List Value->Prop where
 |nil:FReps w J [] []
 |cons {c:C} {v:Value} {cs:List C} {vs:List Value} (h:FRep w J c v) (t:FReps w J cs vs):FReps w J (c::cs) (v::vs)
theorem FReps.mono {w w':World} {J J':Nat->Prop} (hw:∀b,J b->w'.heap[b]? =w.heap[b]?) (hI:∀b,J b->J' b) {cs:List C} {vs:List Value} (h:FReps w J cs vs):FReps w' J' cs vs:=by
 induction h with
 |nil=>exact .nil
 |cons h _ ih=>exact .cons (h.mono hw hI) ih
theorem FReps.lits {w:World} {J:Nat->Prop} {cs:List C} {vs:List Value} (h:FReps w J cs vs) (w':World) (I:Nat->Prop):CReps w' I (vs.map .lit) vs:=by
 induction h with
 |nil=>exact .nil
 |cons h _ ih=>exact .cons (.lit _ h.one) ih
section
variable {sv:Value} {c:C}
def pV (sv:Value) (c:C):List C->List C->Prop
 |[],[]=>True
 |x::xs,y::ys=>(x=y∨(x=.lit sv/\y=c))/\pV sv c xs ys
 |_,_=>False
theorem zNn {w:World} {I:Nat->Prop} (h:CRep w I c sv):∀{xs ys:List C} {vs:List Value},pV sv c xs ys->CReps w I xs vs->CReps w I ys vs
 |[],[],_,_,k=>k
 |x::xs,y::ys,_,hc,.cons hd tl=>by
  refine .cons ?_ (zNn h hc.2 tl)
  rcases hc.1 with rfl|⟨rfl,rfl⟩
  ·exact hd
  ·cases hd;exact h
 |[],_::_,_,h,_=>(h:False).elim
 |_::_,[],_,h,_=>(h:False).elim
structure EFlC (sv:Value) (c:C) (e e':E):Prop where
 blocks:e'.blocks=e.blocks
 mono:e.Mono->e'.Mono
 rep:∀w I,CRep w I c sv->ERep w I e->ERep w I e'
theorem EFlC.refl (e:E):EFlC sv c e e:=⟨rfl,fun h=>h,fun _ _ _ h=>h⟩
theorem EFlC.row {b:Nat} {t:TypeId} {cs ds:List C} (h:pV sv c cs ds):EFlC sv c (.row b t cs) (.row b t ds):=
 ⟨rfl,fun _=>trivial,fun _ _ hs ⟨vs,h1,h2⟩=>⟨vs,h1,zNn hs h h2⟩⟩
theorem cflC_length {xs ys:List C} (h:pV sv c xs ys):ys.length=xs.length:=by
 induction xs generalizing ys with
 |nil=>cases ys with
  |nil=>rfl
  |cons y ys=>exact h.elim
 |cons x xs ih=>cases ys with
  |nil=>exact h.elim
  |cons y ys=>simp [ih h.2]
theorem cflC_refl (xs:List C):pV sv c xs xs:=by
 induction xs with
 |nil=>trivial
 |cons x xs ih=>exact ⟨.inl rfl,ih⟩
theorem zUo {xs ys xs' ys':List C} (h:pV sv c xs ys) (k:pV sv c xs' ys'):pV sv c (xs++xs') (ys++ys'):=by
 induction xs generalizing ys with
 |nil=>cases ys with
  |nil=>exact k
  |cons y ys=>exact h.elim
 |cons x xs ih=>cases ys with
  |nil=>exact h.elim
  |cons y ys=>exact ⟨h.1,ih h.2⟩
theorem flat_cflC {R:List (List C)} {i:Nat} {r r':List C} (hi:R[i]? =some r) (h:pV sv c r r'):pV sv c R.flatten (R.set i r').flatten:=by
 induction R generalizing i with
 |nil=>simp at hi
 |cons q R ih=>
  cases i with
  |zero=>
   simp at hi;subst hi
   simpa using zUo h (cflC_refl R.flatten)
  |succ i=>simpa using zUo (cflC_refl q) (ih (by simpa using hi))
theorem EFlC.vec {s:Value} {t:TypeId} {n i:Nat} {R:List (List C)} {r r':List C} (hi:R[i]? =some r) (h:pV sv c r r'):EFlC sv c (.vec s t n R) (.vec s t n (R.set i r')):=by
 refine ⟨rfl,fun _=>trivial,fun w I hs k=>?_⟩
 rcases k with ⟨_,_,rfl⟩|⟨h1,xs,h2,h3,h4⟩
 ·simp at hi
 ·refine .inr ⟨h1,xs,by rw [List.length_set];exact h2,zNn hs (flat_cflC hi h) h3,fun q hq=>?_⟩
  rcases List.mem_or_eq_of_mem_set hq with h|h
  ·exact h4 q h
  ·subst h;rw [cflC_length ‹_›];exact h4 r (List.mem_of_getElem? hi)
def FLC (sv:Value) (c:C) (x y:V):Prop:=∀w I v,CRep w I c sv->VRep w I x v->VRep w I y v
theorem FLC.sl:FLC sv c (.c (.lit sv)) (.c c):=by
 intro w I v h hv
 rw [hv.lit_inv]
 exact h
theorem FLC.agg {xs ys:List C} (h:pV sv c xs ys):FLC sv c (.agg xs) (.agg ys):=by
 intro w I v hs hv
 obtain ⟨vs,rfl,hc⟩:=hv.agg_inv
 exact ⟨vs,rfl,zNn hs h hc⟩
end
abbrev Cfg.up (X:Cfg) (n:Nat) (h:X.N<=n):Cfg:=⟨X.P,n,X.G,fun w w' hb=>X.hG w w' fun b hb'=>hb b (Nat.lt_of_lt_of_le hb' h)⟩
theorem Con.up {X:Cfg} {f:FuncId} {args:List V} {μ:List E} {Q:V->List E->Prop} (h:Con X f args μ Q) (n:Nat) (hn:X.N<=n):Con (X.up n hn) f args μ Q:=by
 intro w I vs hH ha
 have H0:Heap X w I μ:=⟨Nat.le_trans hn hH.lo,hH.glob,hH.nodup,fun b hb=>⟨Nat.le_trans hn (hH.own b hb).1,(hH.own b hb).2⟩,hH.imm,hH.rep,hH.mono⟩
 refine (h w I vs H0 ha).mono ?_
 rintro en w' ⟨v,r,μ',I',h1,h2,h3,h4,h5⟩
 refine ⟨v,r,μ',I',h1,h2,h3,⟨Nat.le_trans hH.lo h5.size,h4.glob,h4.nodup,fun b hb=>⟨?_,(h4.own b hb).2⟩,h4.imm,h4.rep,h4.mono⟩,h5⟩
 rcases h5.own' b hb with h|h
 ·exact (hH.own b h).1
 ·exact Nat.le_trans hH.lo h
/-! ## A fresh tree,handed over -/
end Go.Eng
end
section
namespace Go.Eng
open Go Go.RowKit
def kpV (m:Nat) (u u':Value):Prop:=
 u'=u∨(∃k a b,u=.int k a/\u'=.int k b)∨(∃s t,u=.string s/\u'=.string t/\t.size<=s.size+m)∨(∃a b,u=.bool a/\u'=.bool b)
theorem kpV.mono {m m':Nat} (h:m<=m') {u u':Value} (k:kpV m u u'):kpV m' u u':=by
 rcases k with k|k|⟨s,t,h1,h2,h3⟩|k
 ·exact .inl k
 ·exact .inr (.inl k)
 ·exact .inr (.inr (.inl ⟨s,t,h1,h2,by omega⟩))
 ·exact .inr (.inr (.inr k))
theorem kpV.one {m:Nat} {u u':Value} (h:kpV m u u') (h1:u.oneCell'=true):u'.oneCell'=true:=by
 rcases h with rfl|⟨_,_,_,_,rfl⟩|⟨_,_,_,rfl,_⟩|⟨_,_,_,rfl⟩<;>first|exact h1|rfl
def Kp (w0:World) (bs:List Nat) (m:Nat) (w:World):Prop:=
 ∀b,b∈bs->∀cs t,w0.heap[b]? =some (.cells cs t (0,0))->∃cs',w.heap[b]? =some (.cells cs' t (0,0))/\cs'.size=cs.size/\∀(i:Nat) (u u':Value),cs[i]? =some u->cs'[i]? =some u'->kpV m u u'
theorem Kp.refl (w0:World) (bs:List Nat) (m:Nat):Kp w0 bs m w0:=fun b _ cs t h=>⟨cs,h,rfl,fun i u u' h1 h2=>.inl (by rw [h1] at h2;exact (Option.some.inj h2).symm)⟩
theorem Kp.up {w0 w:World} {bs:List Nat} {m m':Nat} (hm:m<=m') (h:Kp w0 bs m w):Kp w0 bs m' w:=fun b hb cs t hc=>by
 obtain ⟨cs',h1,h2,h3⟩:=h b hb cs t hc
 exact ⟨cs',h1,h2,fun i u u' a b=>(h3 i u u' a b).mono hm⟩
theorem Kp.mono (w0:World) (bs:List Nat) (m:Nat):(E.reg bs (Kp w0 bs m)).Mono:=fun w w' hw h b hb cs t hc=>by
 obtain ⟨cs',h1,h2,h3⟩:=h b hb cs t hc
 exact ⟨cs',by rw [hw b hb];exact h1,h2,h3⟩
section
variable {X:Cfg} {o:Oper} {e:Operand->V} {μ:List E} {w0:World} {bs:List Nat} {m:Nat}
theorem gh_inv {P:Value->Prop} {w:World} {I:Nat->Prop} {v:Value} (h:CRep w I (.gh P) v):P v:=by
 cases h with|gh _ _ _ h=>exact h
end
end Go.Eng
end
section
namespace Go.Eng
open Go Go.RowKit
abbrev ZS:C:=.gh fun v=>∃a,v=.slice a 0 0
section
variable {X:Cfg} {o:Oper} {e:Operand->V} {μ:List E} {t:TypeId} {w0:World} {bs:List Nat} {m:Nat}
theorem zLu {et:TypeId} {size bytes:Nat} {zs:List Value} (ho:o.op=.buildSlice t 0 ([]:List (Nat×Operand)).toArray) (ht:dK X.P t=some (et,size,bytes)) (hz:dM X.P et=some zs):Det X o e μ (.c ZS) μ:=by
 intro a w I hH hops K Q k
 obtain ⟨us,hrun,hc,hul⟩:=zNx (X:=X) (I:=I) (rows:=[]) ho ht hz (by simp) rfl rfl rfl hops
 let w':=w.alloc (.cells us.toArray et)
 have hsz:w'.heap.size=w.heap.size+1:=by show (w.heap.push _).size=_;simp
 have dC:∀b,b<w.heap.size->w'.heap[b]? =w.heap[b]? :=fun b hb=>Below.heap_alloc w _ b hb
 have still:∀b,I b->w'.heap[b]? =w.heap[b]? :=fun b hb=>dC b (hH.imm b hb)
 have hH':Heap X w' I μ:=
  ⟨by have:=hH.lo;omega,X.hG _ _ (fun b hb=>dC b (by have:=hH.lo;omega)) hH.glob,hH.nodup,hH.own,fun b hb=>by have:=hH.imm b hb;omega,fun en hen=>(hH.rep en hen).mono (hH.mono en hen) still (fun _ h=>h) fun b hb=>dC b ((hH.rep en hen).lt hb),hH.mono⟩
 have hx':Ext w I μ w' I μ:=⟨rfl,rfl,rfl,by omega,fun b hb _=>dC b hb,fun _ h=>h,fun b hb=>.inl hb,fun b hb=>.inl hb⟩
 exact zBb hrun (k _ _ μ I w' ⟨rfl,rfl⟩ (CRep.gh _ _ rfl ⟨_,rfl⟩) hH' hx')
theorem zLm {et:TypeId} {x y:Operand} {size bytes:Nat} {news:List (List C)} (ho:o.op=.call { callee:=.builtin .append,args:= #[x,y],argTypes:= #[t,t] }) (ht:dK X.P t=some (et,size,bytes))
  (hx:e x=.c ZS) (hy:e y=.c (.sl size news)) (hb:news.length*bytes<=140737488355328) (hn:news.length<=140737488355328):
  OpE X o e μ fun r μ'=>∃sv',r=.c (.lit sv')/\μ'=.vec sv' et size news::μ:=by
 intro a w I hH hops K Q k
 have hxv:=hops x (by rw [ho];simp [Op.operands,Call.operands])
 have hyv:=hops y (by rw [ho];simp [Op.operands,Call.operands])
 rw [hx] at hxv
 rw [hy] at hyv
 obtain ⟨a0,h1⟩:=gh_inv (show CRep w I ZS (a.eval x) from hxv)
 have hbl:(E.vec (.slice a0 0 0) et size []).blocks=[]:=by cases a0<;>rfl
 have ebl:bB (.vec (.slice a0 0 0) et size []::μ)=bB μ:=by rw [wW,hbl];rfl
 have hH0:Heap X w I (.vec (.slice a0 0 0) et size []::μ):=by
  refine ⟨hH.lo,hH.glob,by rw [ebl];exact hH.nodup,fun b hb=>hH.own b (by rw [ebl] at hb;exact hb),hH.imm,fun en hen=>?_,fun en hen=>?_⟩
  ·rcases List.mem_cons.1 hen with rfl|h
   ·exact .inl ⟨a0,rfl,rfl⟩
   ·exact hH.rep en h
  ·rcases List.mem_cons.1 hen with rfl|h
   ·trivial
   ·exact hH.mono en h
 have hp:nth (.vec (.slice a0 0 0) et size []::μ) 0=some (.vec (.slice a0 0 0) et size []):=rfl
 obtain ⟨v',w',hrun,e1,e2,e3,e4,e5,e6,e7,hone⟩:=zKz (P:=X.P) (ty:=o.type) ht (hH0.rep _ (zAg hp)) hyv (fun b hb=>⟨hH.imm b hb,fun h=>by rw [show svB (.slice a0 0 0)=[] from hbl] at h;cases h⟩) (by simp only [maxLen,List.length_nil];omega) (by simpa using hb)
 obtain ⟨hH',hx'⟩:=Heap.write (w':=w') hH0 (en':=.vec v' et size ([]++news)) hp e1 e2 e3 e4 e5 (by simp only [E.blocks];unfold svB;split<;>simp) e6 trivial e7
 have hx2:Ext w I μ w' I (.vec v' et size news::μ):=⟨hx'.os,hx'.tape,hx'.output,hx'.size,fun b h1 h2=>hx'.block b h1 (by rw [ebl];exact h2),hx'.imm,fun b h=>by have:=hx'.imm' b h;rw [ebl] at this;exact this,fun b h=>by have:=hx'.own' b h;rw [ebl] at this;exact this⟩
 refine zBb ?_ (k v' _ _ I w' ⟨v',rfl,rfl⟩ (CRep.lit _ hone) hH' hx2)
 simp only [execOp,ho,resolve,invoke,builtin,Sem.run_bind,Sem.run_pure,Result.andThen_ok,List.map_toArray,List.map_cons,List.map_nil,h1,hrun]
end
end Go.Eng
end
section
namespace Go.Eng
open Go Go.RowKit
section
variable {X:Cfg} {o:Oper} {e:Operand->V} {μ:List E} {t:TypeId}
theorem zHq {et:TypeId} {size bytes k:Nat} {x hi:Operand} {sv:Value} {rows:List (List C)} (p:Nat) (ho:o.op=.slice t x none (some hi) none) (ht:dK X.P t=some (et,size,bytes)) (hx:e x=.c (.lit sv))
  (hp:nth μ p=some (.vec sv et size rows)) {i:Int} (h2:e hi=.c (.lit (.int .i64 i))) (hik:i=(k:Int)) (hk:k<=rows.length):
  OpE X o e μ fun r μ'=>∃sv',r=.c (.lit sv')/\μ'=lZ μ p (.vec sv' et size (rows.take k)):=by
 subst hik
 intro a w I hH hops K Q kk
 obtain ⟨hu,inf,z,hinf,hz,hs,hby,hzs,hpos⟩:=kZ ht
 have hxv:=hops x (by rw [ho];simp [Op.operands])
 have hhv:=hops hi (by rw [ho];simp [Op.operands])
 rw [hx] at hxv
 rw [h2] at hhv
 have e1:=hxv.lit_inv
 rcases hH.rep _ (zAg hp) with ⟨a0,rfl,rfl⟩|⟨hb,xs,hown,hc,hr⟩
 ·have hk0:k=0:=by simpa using hk
  subst hk0
  have e2:=hhv.lit_inv
  have hb:∀m code,(Instr.sliceBound (.int .i64 0) m code).run X.P w=.ok 0 w:=fun m code=>by simp [Instr.sliceBound,asIntOf]
  obtain ⟨hH',hx'⟩:=Heap.write (w':=w) hH (en':=.vec (.slice a0 0 0) et size []) hp rfl rfl rfl (Nat.le_refl _) (fun _ _ _=>rfl) (by simp only [E.blocks];unfold svB;split<;>simp) (fun b hb=>.inl hb) trivial (.inl ⟨a0,rfl,rfl⟩)
  refine zBb (v:=.slice a0 0 0) (w':=w) ?_ (kk _ _ _ I w ⟨_,rfl,rfl⟩ (CRep.lit _ rfl) hH' hx')
  simp [execOp,ho,e1,e2,Instr.sliceAt,Instr.slice,run_underlying hu,Instr.sliceBounds,hb,sizeOf,typeInfo,hinf]
 ·rcases hown.2 with ⟨rfl,h0⟩|⟨g,cap,cur,rfl,hbg,hg,hnc,hcm,hcs,htake⟩
  ·exact absurd rfl hb
  ·obtain ⟨c',rfl⟩:∃c',cap=c'+1:=by
    cases cap with
    |zero=>exact absurd rfl hb
    |succ c'=>exact ⟨c',rfl⟩
   have hrun:∀code,(Instr.sliceBound (a.eval hi) (c'+1) code).run X.P w=.ok k w:=fun code=>zUq hhv rfl (by omega)
   obtain ⟨f1,_⟩:=flat_take (rows:=rows) k hr
   have hl1:(xs.take (k*size)).length=k*size:=by rw [List.length_take,hown.1];exact Nat.min_eq_left (Nat.mul_le_mul_right _ (by omega))
   have hl2:(rows.take k).length=k:=by rw [List.length_take];omega
   obtain ⟨hH',hx'⟩:=Heap.write (w':=w) hH (en':=.vec (.slice (some ⟨g,0,none⟩) k (c'+1)) et size (rows.take k)) hp rfl rfl rfl (Nat.le_refl _) (fun _ _ _=>rfl) (by simp only [E.blocks];unfold svB;simp) (fun b hb=>.inl hb) trivial
    (.inr ⟨by unfold svB;simp,xs.take (k*size),by
     rw [hl2]
     refine ⟨hl1,.inr ⟨g,c'+1,cur,rfl,hbg,hg,by omega,hcm,hcs,?_⟩⟩
     rw [←htake,List.take_take,Nat.min_eq_left (Nat.mul_le_mul_right _ (by omega))],by rw [f1];exact hc.take _,fun r hr'=>hr r (List.mem_of_mem_take hr')⟩)
   refine zBb (v:=.slice (some ⟨g,0,none⟩) k (c'+1)) (w':=w) ?_ (kk _ _ _ I w ⟨_,rfl,rfl⟩ (CRep.lit _ rfl) hH' hx')
   have hB:(Instr.sliceBounds true rows.length (c'+1) none (some (a.eval hi)) none).run X.P w=.ok (0,k,c'+1) w:=by simp [Instr.sliceBounds,hrun]
   simp [execOp,ho,e1,Instr.sliceAt,Instr.slice,run_underlying hu,hB,sizeOf,typeInfo,hinf,hs,Addr.add_lit]
theorem yG {f:FuncId} {arg_:List Operand} {ts:Array TypeId} {args:List V} {μf φ:List E} {r:V} (ps:List Nat) (ho:o.op=.call { callee:=.value (.func f),args:=arg_.toArray,argTypes:=ts }) (hf:bA X.P f=true)
  (hc:Con X f args μf fun r' μ'=>r'=r/\μ'=μf) (ha:mL (arg_.map e) args) (hp:mT ps μ=some (μf,φ)):Det X o e μ r μ:=by
 have h:=kX (o:=o) (e:=e) ps ho hf hc ha hp
 exact OpE.det_perm (a:=rE ps μf φ) h ((zHi ps μf φ).trans (zFd hp).symm)
theorem zJm {f:FuncId} {arg_:List Operand} {ts:Array TypeId} {args:List V} {μf φ:List E} {Q:V->List E->Prop} (ps:List Nat) (ho:o.op=.call { callee:=.value (.func f),args:=arg_.toArray,argTypes:=ts }) (hf:bA X.P f=true)
  (hc:Con X f args μf Q) (ha:mL (arg_.map e) args) (hp:mT ps μ=some (μf,φ)):OpE X o e μ fun r μ'=>∃μf',Q r μf'/\μ'=rE ps μf' φ:=by
 have h1:=zBw (o:=o) (e:=e) ho hf ((hc.frame φ).perm (zFd hp)) ha
 intro a w I hH hops K Q' k
 refine h1 a w I hH hops K Q' ?_
 rintro v r μ' I' w' ⟨μ1,hq,rfl⟩ hv hH' hx
 have p:=(zHi ps μ1 φ).symm
 exact k v r _ I' w' ⟨μ1,hq,rfl⟩ hv (hH'.perm p) (hx.perm (List.Perm.refl _) p)
end
theorem setN_nth {α:Type}:∀{l:List α} {p:Nat} {x:α},nth l p=some x->lZ l p x=l
 |[],_,_,h=>by simp [nth] at h
 |y::l,0,x,h=>by simp only [nth,Option.some.injEq] at h;subst h;rfl
 |y::l,p+1,x,h=>by
  have:=setN_nth (l:=l) (p:=p) h
  show y::lZ l p x=y::l
  rw [this]
theorem Weak.vecEq {regs:List (Nat×V)} {μ:List E} {sv:Value} {t:TypeId} {size:Nat} {rows rows':List (List C)} (p:Nat) (hp:nth μ p=some (.vec sv t size rows)) (h:rows=rows'):Weak ⟨regs,μ⟩ ⟨regs,lZ μ p (.vec sv t size rows')⟩:=by
 subst h
 rw [setN_nth hp]
 intro X n z a w hs
 exact hs
theorem Con.keep {X:Cfg} {f:FuncId} {args:List V} {μ:List E} {r:V} (h:Con X f args μ fun r' μ'=>r'=r/\∃ν,μ'=ν++μ):Con X f args μ fun r' μ'=>r'=r/\μ'=μ:=Con.drop h
end Go.Eng
end
section
namespace Go.Eng
open Go Go.RowKit
theorem Con.upG {X X':Cfg} (hP:X'.P=X.P) (hN:X.N<=X'.N) (hG:∀w,X'.G w->X.G w) {f:FuncId} {args:List V} {μ:List E} {Q:V->List E->Prop} (h:Con X f args μ Q):Con X' f args μ Q:=by
 obtain ⟨P,N,G,g⟩:=X
 obtain ⟨P',N',G',g'⟩:=X'
 subst hP
 intro w I vs hH ha
 have H0:Heap ⟨P',N,G,g⟩ w I μ:=⟨Nat.le_trans hN hH.lo,hG _ hH.glob,hH.nodup,fun b hb=>⟨Nat.le_trans hN (hH.own b hb).1,(hH.own b hb).2⟩,hH.imm,hH.rep,hH.mono⟩
 refine (h w I vs H0 ha).mono ?_
 rintro en w' ⟨v,r,μ',I',h1,h2,h3,h4,h5⟩
 refine ⟨v,r,μ',I',h1,h2,h3,⟨Nat.le_trans hH.lo h5.size,g' w w' (fun b hb=>?_) hH.glob,h4.nodup,fun b hb=>⟨?_,(h4.own b hb).2⟩,h4.imm,h4.rep,h4.mono⟩,h5⟩
 ·refine h5.block b (Nat.lt_of_lt_of_le hb hH.lo) fun hm=>?_
  have:=(hH.own b hm).1
  exact absurd this (by show ¬N'<=b;omega)
 ·rcases h5.own' b hb with h|h
  ·exact (hH.own b h).1
  ·exact Nat.le_trans hH.lo h
section
variable {X:Cfg} {o:Oper} {e:Operand->V} {μ:List E} {x:Operand}
end
/-! ## A slice of numbers that may be nil -/
section
variable {X:Cfg} {o:Oper} {e:Operand->V} {μ:List E} {t ty et:TypeId} {size bytes:Nat} {x y:Operand}
end
end Go.Eng
end
section
namespace Go.Eng
open Go Go.RowKit
/-! ## Arrays -/
def rW (P:Program) (t:TypeId):Option (Nat×TypeId×Nat):=match P.underlying t with
 |some (.array n e)=>(match P.info? e with|some i=>some (n,e,i.size)|none=>none)
 |_=>none
theorem zPa {P:Program} {t e:TypeId} {n size:Nat} (h:rW P t=some (n,e,size)):P.underlying t=some (.array n e)/\∃i,P.info? e=some i/\i.size=size:=by
 unfold rW at h
 split at h
 ·rename_i n' e' hu
  split at h
  ·rename_i i hi
   simp only [Option.some.injEq,Prod.mk.injEq] at h
   obtain ⟨rfl,rfl,rfl⟩:=h
   exact ⟨hu,i,hi,rfl⟩
  ·cases h
 ·cases h
theorem yU {X:Cfg} {o:Oper} {e:Operand->V} {μ:List E} {t et:TypeId} {x y:Operand} {n size b off:Nat} {i:Int} (ho:o.op=.indexAddr t x y) (ht:rW X.P t=some (n,et,size)) (hx:e x=.c (.lit (.pointer (some ⟨b,off,none⟩)))) (hy:e y=.c (.lit (.int .i64 i))) (h0:0<=i) (hi:i<n):
  Det X o e μ (.c (.lit (.pointer (some ⟨b,off+i.toNat*size,none⟩)))) μ:=
 kL fun a w I hH hops=>by
  have hxv:=hops x (by rw [ho];simp [Op.operands])
  have hyv:=hops y (by rw [ho];simp [Op.operands])
  rw [hx] at hxv
  rw [hy] at hyv
  obtain ⟨hu,inf,hinf,hs⟩:=zPa ht
  refine ⟨.pointer (some ⟨b,off+i.toNat*size,none⟩),?_,CRep.lit _ rfl⟩
  simp [execOp,ho,hxv.lit_inv,hyv.lit_inv,Instr.indexAt,asIntOf,run_underlying hu,Instr.sureAddr,h0,hi,sizeOf,typeInfo,hinf,hs,zBj]
end Go.Eng
end
section
namespace Go.Eng
open Go Go.RowKit
section
variable {X:Cfg} {o:Oper} {e:Operand->V} {μ:List E}
end
end Go.Eng
end
section
namespace Go.Eng
open Go Go.RowKit
section
variable {X:Cfg} {o:Oper} {e:Operand->V}
end
end Go.Eng
end
section
namespace Go.Eng
open Go Go.RowKit
section
variable {X:Cfg} {o:Oper} {e:Operand->V} {μ:List E}
end
end Go.Eng
end
section
namespace Go.Eng
open Go Go.RowKit
end Go.Eng
end
section
namespace Go.Eng
open Go Go.RowKit
section
variable {P:Program} {b:Frame} {a:Act} {k:List Item} {cs:List Frame} {w:World}
theorem zDx {c:Code}:step P (lone (b.atR a (.code (.scope c)::k)) cs w)=.next (lone (b.atR a (.code c::.inScope c::k)) cs w):=
 step_lone_go (by simp [stepG,stepG.exec,Frame.atR])
theorem stepR_inScope {c:Code}:step P (lone (b.atR a (.inScope c::k)) cs w)=.next (lone (b.atR a k) cs w):=
 step_lone_go (by simp [stepG,stepG.exec,Frame.atR])
end
theorem wpIn_scope {F:Fence} {n:Nat} {P:Program} {Q:Exit->Act->World->Prop} {a:Act} {w:World} {c:Code} (h:c.wpIn F n P (Exit.noGoto Q) a w):(Code.scope c).wpIn F n P Q a w:=by
 intro b k cs hro hb hr
 have h0:(lone (b.atR a (.code (.scope c)::k)) cs w).fenced P F:=fenced_calm hb hr rfl
 obtain ⟨e,a₁,w₁,hq,harr⟩:=h b (.inScope c::k) cs hro hb hr
 cases e with
 |normal=>exact ⟨.normal,a₁,w₁,hq,.head h0 zDx (StepsIn.trans harr (.one (fenced_calm hb hr rfl) stepR_inScope))⟩
 |exit id'=>
  have hx:exitTo id' (.inScope c::k)=exitTo id' k:=by simp [exitTo]
  exact ⟨.exit id',a₁,w₁,hq,fun k' hk=>.head h0 zDx (harr.1 k' (by rw [hx];exact hk)),
   fun hr' hk=>let ⟨k₁,h1,h2⟩:=harr.2 hr' (by rw [hx];exact hk);⟨k₁,h1,.head h0 zDx h2⟩⟩
 |goto l=>exact hq.elim
 |ret=>exact ⟨_,a₁,w₁,hq,.of_steps (.one h0 zDx) harr⟩
 |panic ch=>exact ⟨_,a₁,w₁,hq,.of_steps (.one h0 zDx) harr⟩
 |outgrown=>exact ⟨_,a₁,w₁,hq,.of_steps (.one h0 zDx) harr⟩
def xH (Q:Exit->S->Prop):Exit->S->Prop
 |.goto _,_=>False
 |e,σ=>Q e σ
theorem awp_scope {X:Cfg} {n:Nat} {z:Z} {Q:Exit->S->Prop} {σ:S} {c:Code} (h:AWP X n z c (xH Q) σ):AWP X n z (.scope c) Q σ:=by
 intro z1 hz1 a w s
 refine wpIn_scope (wpIn_mono (h z1 hz1 a w s) ?_)
 rintro e a' w' ⟨z2,σ',hz2,q,s'⟩
 cases e with
 |goto l=>exact q.elim
 |_=>exact ⟨z2,σ',hz2,q,s'⟩
end Go.Eng
end
section
namespace Go.Eng
open Go Go.RowKit
section
variable {X:Cfg} {o:Oper} {e:Operand->V} {μ:List E}
def sF (P:Program) (t:TypeId):Option (Nat×Nat):=match P.underlying t with
 |some (.array n e)=>(match P.info? e with|some i=>some (n,i.size)|none=>none)
 |_=>none
theorem det_build_arr {t:TypeId} {zs:List Value} {n size:Nat} {parts:List (Nat×Operand)} {cells:List C} (ho:o.op=.build t parts.toArray) (hz:dM X.P t=some zs) (hp:sF X.P t=some (n,size)) (hf:mK (fun i=>some (i*size,size)) (zs.map .lit) (parts.map fun p=>(p.1,e p.2))=some cells):
  Det X o e μ (.agg cells) μ:=
 kL fun a w I _ hops=>by
  unfold dM at hz
  split at hz
  ·rename_i i hi
   split at hz
   ·rename_i v hv
    split at hz
    ·rename_i hall
     simp only [Option.some.injEq] at hz
     subst hz
     have hc:CReps w I (v.cells.toList.map .lit) v.cells.toList:=CReps.lits _ fun u hu=>by
      rw [Array.all_eq_true_iff_forall_mem] at hall
      exact hall u (by simpa using hu)
     unfold sF at hp
     split at hp
     ·rename_i n' e' hu
      split at hp
      ·rename_i ie hie
       simp only [Option.some.injEq,Prod.mk.injEq] at hp
       obtain ⟨rfl,rfl⟩:=hp
       obtain ⟨us,hfill,hcs⟩:=zNp (w:=w) (I:=I) (a:=a) (fun i=>some (i*ie.size,ie.size)) (parts:=parts) (fun p hp'=>hops p.2 (by rw [ho];simp [Op.operands];exact ⟨p.1,hp'⟩)) hc hf
       refine ⟨.agg us.toArray,?_,us,rfl,hcs⟩
       simp only [execOp,ho,Instr.build,zeroValue,Sem.run_bind,typeInfo,run_program,hi,hv,Sem.run_pure,Result.andThen_ok,run_underlying hu,sizeOf,hie]
       simp only [List.map_toArray,Array.toArray_toList] at hfill⊢
       rw [hfill]
       rfl
      ·cases hp
     ·cases hp
    ·cases hz
   ·cases hz
  ·cases hz
end
end Go.Eng
end
section
namespace Go.Eng
open Go Go.RowKit Go.Lib
section
variable {X:Cfg} {o:Oper} {e:Operand->V} {μ:List E}
theorem run_ptr_ne_nil {P:Program} {w:World} {t te:TypeId} (hp:P.underlying t=some (.pointer te)) (a:Option Addr):(binOp .neq t (.pointer a) (.pointer none)).run P w=.ok (.bool (!a.isNone)) w:=by
 exact v42
theorem det_ptr_ne {t te ty:TypeId} {x y:Operand} {a:Option Addr} (ho:o.op=.binOp .neq t x y ty) (hx:e x=.c (.lit (.pointer a))) (hy:e y=.c (.lit (.pointer none))) (hp:X.P.underlying t=some (.pointer te)):Det X o e μ (.c (.lit (.bool (!a.isNone)))) μ:=
 zAx ho hx hy (fun w=>by simp only [eqGuard,Sem.run_bind,Sem.run_pure,Result.andThen_ok];exact run_ptr_ne_nil hp a) rfl
theorem run_ptr_eq_nil {P:Program} {w:World} {t te:TypeId} (hp:P.underlying t=some (.pointer te)) (a:Option Addr):(binOp .eql t (.pointer a) (.pointer none)).run P w=.ok (.bool a.isNone) w:=by
 exact v42
theorem zOs {t te ty:TypeId} {x y:Operand} {a:Option Addr} (ho:o.op=.binOp .eql t x y ty) (hx:e x=.c (.lit (.pointer a))) (hy:e y=.c (.lit (.pointer none))) (hp:X.P.underlying t=some (.pointer te)):Det X o e μ (.c (.lit (.bool a.isNone))) μ:=
 zAx ho hx hy (fun w=>by simp only [eqGuard,Sem.run_bind,Sem.run_pure,Result.andThen_ok];exact run_ptr_eq_nil hp a) rfl
theorem zHz {t et:TypeId} {x y:Operand} {n:Nat} {i:Int} {l:List C} {d:C} (ho:o.op=.index t x y) (ht:rW X.P t=some (n,et,1)) (h1:jL X.P et=true) (hx:e x=.agg l) (hy:e y=.c (.lit (.int .i64 i))) (h0:0<=i) (hi:i<n) (hd:l[i.toNat]? =some d):Det X o e μ (.c d) μ:=
 kL fun a w I _ hops=>by
  have hxv:=hops x (by rw [ho];simp [Op.operands])
  have hyv:=hops y (by rw [ho];simp [Op.operands])
  rw [hx] at hxv
  rw [hy] at hyv
  obtain ⟨hu,inf,hinf,hs⟩:=zPa ht
  obtain ⟨vs,hv,hcs⟩:=hxv.agg_inv
  obtain ⟨u,hu1,hu2⟩:=hcs.at_ hd
  obtain ⟨g1,g2⟩:=zFj h1 w
  refine ⟨u,?_,hu2⟩
  simp [execOp,ho,hv,hyv.lit_inv,Instr.index,asIntOf,run_underlying hu,h0,hi,g1,g2,part,hu1]
theorem and255 (b:Int):0<=IntKind.i64.wrap ((BitVec.ofInt 64 b&&&BitVec.ofInt 64 255).toNat:Int)/\IntKind.i64.wrap ((BitVec.ofInt 64 b&&&BitVec.ofInt 64 255).toNat:Int)<256/\(0<=b->b<=255->IntKind.i64.wrap ((BitVec.ofInt 64 b&&&BitVec.ofInt 64 255).toNat:Int)=b):=by
 have e:(BitVec.ofInt 64 b&&&BitVec.ofInt 64 255).toNat=(BitVec.ofInt 64 b).toNat%256:=by
  rw [BitVec.toNat_and,show (BitVec.ofInt 64 255).toNat=2^8-1 by decide,Nat.and_two_pow_sub_one_eq_mod]
 rw [e]
 have h1:=Nat.mod_lt (BitVec.ofInt 64 b).toNat (show 0<256 by omega)
 rw [zAv ⟨by omega,by omega⟩]
 refine ⟨by omega,by omega,fun h2 h3=>?_⟩
 have:(BitVec.ofInt 64 b).toNat=b.toNat:=by
  rw [BitVec.toNat_ofInt]
  omega
 rw [this]
 omega
def lS (b:Int):Int:=IntKind.i64.wrap ((BitVec.ofInt 64 b&&&BitVec.ofInt 64 255).toNat:Int)
theorem det_low8 {t ty:TypeId} {x y:Operand} {b:Int} (ho:o.op=.binOp .and t x y ty) (hx:e x=.c (.lit (.int .i64 b))) (hy:e y=.c (.lit (.int .i64 255))):Det X o e μ (.c (.lit (.int .i64 (lS b)))) μ:=
 det_bits ho (.inl rfl) hx hy (fun P w=>by rfl) rfl
theorem zBq {t:TypeId} {x:Operand} {n:Int} (ho:o.op=.unOp .neg t x) (hx:e x=.c (.lit (.int .i64 n))) (h:lY (-n)):Det X o e μ (.c (.lit (.int .i64 (-n)))) μ:=by
 have:=zFr (X:=X) (μ:=μ) ho hx
 rwa [zAv h] at this
theorem zEl {src dst:TypeId} {x:Operand} {k k':IntKind} {n m:Int} (ho:o.op=.convert src dst x) (hs:(X.P.underlying src).isSome=true) (hd:tC X.P dst=some k) (hx:e x=.c (.lit (.int k' n))) (h:k.wrap n=m):Det X o e μ (.c (.lit (.int k m))) μ:=by
 have:=wK (X:=X) (μ:=μ) ho hs hd hx
 rwa [h] at this
theorem zKn {t ty:TypeId} {x y:Operand} {k k':IntKind} {a b m:Int} (ho:o.op=.binOp .shl t x y ty) (hx:e x=.c (.lit (.int k a))) (hy:e y=.c (.lit (.int k' b))) (h0:0<=b) (h:k.wrap (a*2^(min b.toNat k.bits))=m):Det X o e μ (.c (.lit (.int k m))) μ:=by
 have:=zUg (X:=X) (μ:=μ) ho hx hy h0
 rwa [h] at this
theorem det_quoE {t ty:TypeId} {x y:Operand} {k:IntKind} {a b m:Int} (ho:o.op=.binOp .quo t x y ty) (hx:e x=.c (.lit (.int k a))) (hy:e y=.c (.lit (.int k b))) (hb:b≠0) (h:k.wrap (a.tdiv b)=m):Det X o e μ (.c (.lit (.int k m))) μ:=by
 have:=zUh (X:=X) (μ:=μ) ho hx hy hb
 rwa [h] at this
theorem det_shrE {t ty:TypeId} {x y:Operand} {k k':IntKind} {a b m:Int} (ho:o.op=.binOp .shr t x y ty) (hx:e x=.c (.lit (.int k a))) (hy:e y=.c (.lit (.int k' b))) (h0:0<=b) (h:a.fdiv (2^(min b.toNat k.bits))=m):Det X o e μ (.c (.lit (.int k m))) μ:=by
 have:=det_shr (X:=X) (μ:=μ) ho hx hy h0
 rwa [h] at this
theorem det_cut_arrp {t et:TypeId} {x:Operand} {n size b off:Nat} (ho:o.op=.slice t x none none none) (ht:rW X.P t=some (n,et,size)) (hx:e x=.c (.lit (.pointer (some ⟨b,off,none⟩)))) (hn:0<n):Det X o e μ (.c (.lit (.slice (some ⟨b,off,none⟩) n n))) μ:=
 kL fun a w I _ hops=>by
  have hxv:=hops x (by rw [ho];simp [Op.operands])
  rw [hx] at hxv
  obtain ⟨hu,inf,hinf,hs⟩:=zPa ht
  have h0:¬n=0:=by omega
  exact ⟨.slice (some ⟨b,off,none⟩) n n,by simp [execOp,ho,hxv.lit_inv,Instr.sliceAt,run_underlying hu,Instr.sureAddr,Instr.sliceBounds,sizeOf,typeInfo,hinf,h0,zBj],CRep.lit _ rfl⟩
theorem zNd {t:TypeId} {x:Operand} {m g off:Nat} {us:List Value} (ho:o.op=.load t x) (ht:lA X.P t=some m) (hx:e x=.c (.lit (.pointer (some ⟨g,off,none⟩)))) (hl:us.length=m) (h1:us.all Value.oneCell'=true) (hg:∀w,X.G w->∀j u,us[j]? =some u->w.cell? ⟨g,off+j,none⟩=some u):
  Det X o e μ (.agg (us.map .lit)) μ:=
 kL fun a w I hH hops=>by
  have hxv:=hops x (by rw [ho];simp [Op.operands])
  rw [hx] at hxv
  obtain ⟨g1,g2⟩:=zGi ht w
  have hload:=run_loadCells_list (P:=X.P) w ⟨g,off,none⟩ us (fun j v hj=>by rw [zBj];exact hg w hH.glob j v hj)
  rw [hl] at hload
  refine ⟨.agg us.toArray,?_,us,rfl,CReps.lits us fun v hv=>List.all_eq_true.1 h1 v hv⟩
  simp only [execOp,ho,hxv.lit_inv,Instr.loadAt,Instr.sureAddr,loadVar,Sem.run_bind,Sem.run_pure,Result.andThen_ok,g1,g2,if_true,hload]
/-! ## Structs with structs in them,held against each other -/
def pJ (P:Program):List Field->Nat->Option (List FK)
 |[],_=>some []
 |f::r,o=>
  if f.name ≠ "_" ∧ f.offset = o then
   match fkT P f.type with
   |some k=>(match pJ P r (o+1) with|some ks=>some (k::ks)|none=>none)
   |none=>match P.underlying f.type,P.info? f.type with
    |some (.struct fs),some i=>if P.stoodInHeld f.type=false then (match rY P fs.toList 0,pJ P r (o+i.size) with|some ks,some ks'=>if ks.length=i.size then some (ks++ks') else none|_,_=>none) else none
    |_,_=>none
  else none
def tM (P:Program) (t:TypeId):Option (List FK):=match P.underlying t with
 |some (.struct fs)=>if P.stoodInHeld t=false/\P.eqGuardType P.depth t=false then pJ P fs.toList 0 else none
 |_=>none
theorem zRa:∀{ks:List FK} {xs ys:List C},mW ks xs ys=true->xs.length=ks.length/\ys.length=ks.length
 |.int::ks,.lit (.int .i64 _)::xs,.lit (.int .i64 _)::ys,h=>by have:=zRa (ks:=ks) (xs:=xs) (ys:=ys) h;simp [this]
 |.str::ks,.lit (.string _)::xs,.lit (.string _)::ys,h=>by have:=zRa (ks:=ks) (xs:=xs) (ys:=ys) h;simp [this]
 |.bool::ks,.lit (.bool _)::xs,.lit (.bool _)::ys,h=>by have:=zRa (ks:=ks) (xs:=xs) (ys:=ys) h;simp [this]
 |[],[],[],_=>⟨rfl,rfl⟩
theorem zKl:∀{ks ks':List FK} {xs ys:List C},mW (ks++ks') xs ys=true->mW ks (xs.take ks.length) (ys.take ks.length)=true/\mW ks' (xs.drop ks.length) (ys.drop ks.length)=true
 |[],ks',xs,ys,h=>⟨by simp [mW],by simpa using h⟩
 |.int::ks,ks',.lit (.int .i64 _)::xs,.lit (.int .i64 _)::ys,h=>by have:=zKl (ks:=ks) (ks':=ks') (xs:=xs) (ys:=ys) h;simpa [mW] using this
 |.str::ks,ks',.lit (.string _)::xs,.lit (.string _)::ys,h=>by have:=zKl (ks:=ks) (ks':=ks') (xs:=xs) (ys:=ys) h;simpa [mW] using this
 |.bool::ks,ks',.lit (.bool _)::xs,.lit (.bool _)::ys,h=>by have:=zKl (ks:=ks) (ks':=ks') (xs:=xs) (ys:=ys) h;simpa [mW] using this
theorem zPi:∀(n:Nat) {xs ys:List C},xs.length=ys.length->bF xs ys=(bF (xs.take n) (ys.take n)&&bF (xs.drop n) (ys.drop n))
 |0,xs,ys,_=>by simp [bF]
 |n+1,[],[],_=>by simp [bF]
 |n+1,x::xs,y::ys,h=>by
  simp only [bF,List.take_succ_cons,List.drop_succ_cons]
  rw [zPi n (by simpa using h),Bool.and_assoc]
 |n+1,[],_::_,h=>by simp at h
 |n+1,_::_,[],h=>by simp at h
theorem zDr {P:Program} {w:World} {I:Nat->Prop} (d:Nat) {US VS:Array Value}:∀(fs:List Field) (o:Nat) (ks:List FK) (xs ys:List C) (us vs:List Value),pJ P fs o=some ks->mW ks xs ys=true->CReps w I xs us->CReps w I ys vs->
  US.toList.drop o=us->VS.toList.drop o=vs->(Op.eqFields (d+2) US VS fs).run P w=.ok (bF xs ys) w
 |[],o,ks,xs,ys,us,vs,hf,hk,_,_,_,_=>by
  simp only [pJ,Option.some.injEq] at hf
  subst hf
  match xs,ys,hk with
  |[],[],_=>simp [Op.eqFields,bF]
 |f::r,o,ks,xs,ys,us,vs,hf,hk,hx,hy,hu,hv=>by
  unfold pJ at hf
  split at hf
  ·rename_i hn
   split at hf
   ·rename_i k hk1
    split at hf
    ·rename_i ks' hk2
     simp only [Option.some.injEq] at hf
     subst hf
     cases k with
     |int=>
      have ht:∃k,P.underlying f.type=some (.int k):=by
       unfold fkT at hk1;split at hk1<;>first|exact ⟨_,by assumption⟩|cases hk1
      obtain ⟨kk,ht⟩:=ht
      match xs,ys,hk,hx,hy with
      |.lit (.int .i64 a)::xs,.lit (.int .i64 b)::ys,hk,.cons h1 hx,.cons h2 hy=>
       cases h1;cases h2
       obtain ⟨u0,u1⟩:=zCy hu
       obtain ⟨v0,v1⟩:=zCy hv
       have:=eqStep hn.1 hn.2 (by simp [isAgg,run_underlying ht]) (by simpa using u0) (by simpa using v0) (run_equalIn_int w (d+1) f.type .i64 kk a b ht) (zDr d r (o+1) ks' xs ys _ _ hk2 hk hx hy u1 v1)
       simp only [bF,cEq]
       exact this
     |str=>
      have ht:P.underlying f.type=some .string:=by
       unfold fkT at hk1;split at hk1<;>first|assumption|cases hk1
      match xs,ys,hk,hx,hy with
      |.lit (.string a)::xs,.lit (.string b)::ys,hk,.cons h1 hx,.cons h2 hy=>
       cases h1;cases h2
       obtain ⟨u0,u1⟩:=zCy hu
       obtain ⟨v0,v1⟩:=zCy hv
       have:=eqStep hn.1 hn.2 (by simp [isAgg,run_underlying ht]) (by simpa using u0) (by simpa using v0) (run_equalIn_string w (d+1) f.type a b ht) (zDr d r (o+1) ks' xs ys _ _ hk2 hk hx hy u1 v1)
       rw [str_beq] at this
       simpa [bF,cEq] using this
     |bool=>
      have ht:P.underlying f.type=some .bool:=by
       unfold fkT at hk1;split at hk1<;>first|assumption|cases hk1
      match xs,ys,hk,hx,hy with
      |.lit (.bool a)::xs,.lit (.bool b)::ys,hk,.cons h1 hx,.cons h2 hy=>
       cases h1;cases h2
       obtain ⟨u0,u1⟩:=zCy hu
       obtain ⟨v0,v1⟩:=zCy hv
       have:=eqStep hn.1 hn.2 (by simp [isAgg,run_underlying ht]) (by simpa using u0) (by simpa using v0) (run_equalIn_bool' w (d+1) f.type a b ht) (zDr d r (o+1) ks' xs ys _ _ hk2 hk hx hy u1 v1)
       simpa [bF,cEq] using this
    ·cases hf
   ·split at hf
    ·rename_i fs2 i hu2 hi2
     split at hf
     ·rename_i hst
      split at hf
      ·rename_i ks1 ks2 e1 e2
       split at hf
       ·rename_i hlen
        simp only [Option.some.injEq] at hf
        subst hf
        obtain ⟨lx,ly⟩:=zRa hk
        obtain ⟨q1,q2⟩:=zKl hk
        rw [zPi ks1.length (by omega)]
        have hagg:(isAgg f.type).run P w=.ok true w:=by simp [isAgg,run_underlying hu2]
        have hsz:(sizeOf f.type).run P w=.ok i.size w:=by simp [sizeOf,typeInfo,hi2]
        have inner:(Op.equalIn (d+2) f.type (.agg (us.take ks1.length).toArray) (.agg (vs.take ks1.length).toArray)).run P w=.ok (bF (xs.take ks1.length) (ys.take ks1.length)) w:=by
         have hfs:P.fieldsOf f.type=fs2:=by simp [Program.fieldsOf,hu2]
         rw [run_equalIn_struct w (d+1) f.type _ _ (by rw [hfs];exact hu2) hst,hfs]
         exact zEj d fs2.toList 0 ks1 _ _ _ _ e1 q1 (hx.take _) (hy.take _) (by simp) (by simp)
        have rest:=zDr (US:=US) (VS:=VS) d r (o+i.size) ks2 (xs.drop ks1.length) (ys.drop ks1.length) (us.drop ks1.length) (vs.drop ks1.length) e2 q2 (hx.drop _) (hy.drop _) (by rw [←hlen,←hu,List.drop_drop]) (by rw [←hlen,←hv,List.drop_drop])
        have px:US.extract o (o+i.size)=(us.take ks1.length).toArray:=by
         refine Array.ext' ?_
         rw [Array.toList_extract,List.extract_eq_take_drop,Nat.add_sub_cancel_left,←hu,hlen]
        have py:VS.extract o (o+i.size)=(vs.take ks1.length).toArray:=by
         refine Array.ext' ?_
         rw [Array.toList_extract,List.extract_eq_take_drop,Nat.add_sub_cancel_left,←hv,hlen]
        have hp:∀A:Array Value,(part f.type A f.offset).run P w=.ok (.agg (A.extract o (o+i.size))) w:=fun A=>by simp [part,hagg,hsz,hn.2]
        generalize bF (xs.take ks1.length) (ys.take ks1.length)=b1 at *
        generalize bF (xs.drop ks1.length) (ys.drop ks1.length)=b2 at *
        cases b1<;>simp [Op.eqFields,hn.1,hp,px,py,inner,rest]
       ·cases hf
      ·cases hf
     ·cases hf
    ·cases hf
  ·cases hf
theorem det_aeql2 {t ty:TypeId} {x y:Operand} {ks:List FK} {xs ys:List C} (ho:o.op=.binOp .eql t x y ty) (ht:tM X.P t=some ks) (hx:e x=.agg xs) (hy:e y=.agg ys) (hk:mW ks xs ys=true):Det X o e μ (.c (.lit (.bool (bF xs ys)))) μ:=
 kL fun a w I _ hops=>by
  have hxv:=hops x (by rw [ho];simp [Op.operands])
  have hyv:=hops y (by rw [ho];simp [Op.operands])
  rw [hx] at hxv
  rw [hy] at hyv
  obtain ⟨us,h0,hu⟩:=hxv.agg_inv
  obtain ⟨vs,h2,hv⟩:=hyv.agg_inv
  unfold tM at ht
  split at ht
  ·rename_i fs hus
   split at ht
   ·rename_i hg
    have hfs:X.P.fieldsOf t=fs:=by simp [Program.fieldsOf,hus]
    have h4:(Op.equalIn 10000 t (.agg us.toArray) (.agg vs.toArray)).run X.P w=.ok (bF xs ys) w:=by
     rw [run_equalIn_struct w 9999 t _ _ (by rw [hfs];exact hus) hg.1,hfs]
     exact zDr 9997 fs.toList 0 ks xs ys _ _ ht hk hu hv (by simp) (by simp)
    refine ⟨.bool (bF xs ys),?_,CRep.lit _ rfl⟩
    simp only [execOp,ho,h0,h2,Sem.run_bind,run_eqGuard_agg w _ _ _ _ _ _ hg.2,run_eql_struct,h4,Result.andThen_ok,Sem.run_pure]
   ·cases ht
  ·cases ht
/-! ## Rows whose cells are written as one likes -/
theorem wQ {b off:Nat} {t:TypeId} {cs cs' new:List C} (p:Nat) (h:nth μ p=some (.row b t cs)) (hl:off+new.length<=cs.length) (he:spl cs off new=cs'):
  pB μ (.lit (.pointer (some ⟨b,off,none⟩))) new (lZ μ p (.row b t cs')):=by
 subst he
 exact zEg p h (Nat.ble_eq_true_of_le hl)
theorem st_vecE {sv:Value} {size i off:Nat} {t:TypeId} {rows rows':List (List C)} {row new:List C} (p:Nat) (h:nth μ p=some (.vec sv t size rows)) (hi:rows[i]? =some row) (hl:Nat.ble (off+new.length) row.length=true) (he:rows.set i (spl row off new)=rows'):
  pB μ (.vptr sv size i off) new (lZ μ p (.vec sv t size rows')):=by
 subst he
 exact st_vec p h hi hl
theorem zCm {t:TypeId} {x:Operand} {c:C} {cells l rest:List C} {m:Nat} (ho:o.op=.load t x) (ht:lA X.P t=some m) (hx:e x=.c c) (hp:mY μ c cells) (hc:cells=l++rest) (hl:l.length=m):
  Det X o e μ (.agg l) μ:=by
 have h:=zV (X:=X) (e:=e) ho ht hx hp (by rw [hc];exact Nat.ble_eq_true_of_le (by rw [List.length_append];omega))
 rw [hc,←hl,List.take_left] at h
 exact h
theorem ope_rows {et:TypeId} {size len:Nat} {rows:List (List C)} (hpos:0<size) (hrl:rows.length=len) (hmax:len<=maxLen) (hrs:∀r,r∈rows->r.length=size)
  (h:∀(a:Act) (w:World) (I:Nat->Prop),(∀x,x∈o.op.operands->VRep w I (e x) (a.eval x))->∃us:List Value,(execOp a.eval o).run X.P w=.ok (.value (.slice (some ⟨w.heap.size,0,none⟩) len len)) (w.alloc (.cells us.toArray et))/\CReps w I rows.flatten us/\us.length=len*size):OpE X o e μ fun r μ'=>∃sv,r=.c (.lit sv)/\μ'=.vec sv et size rows::μ:=by
 intro a w I hH hops K Q k
 obtain ⟨us,hrun,hc,hul⟩:=h a w I hops
 have hlr:len=rows.length:=hrl.symm
 subst hlr
 have dC:∀b,b<w.heap.size->(w.alloc (.cells us.toArray et)).heap[b]? =w.heap[b]? :=fun b hb=>Below.heap_alloc w _ b hb
 have hrep:ERep (w.alloc (.cells us.toArray et)) I (.vec (.slice (some ⟨w.heap.size,0,none⟩) rows.length rows.length) et size rows):=
  zHf (xs:=us) ⟨hul,.inr ⟨w.heap.size,rows.length,us.toArray,rfl,Nat.zero_le _,heap_alloc_new w _,Nat.le_refl _,hmax,by simpa using hul,by simp [←hul]⟩⟩ (hc.mono (fun b hb=>dC b (hH.imm b hb)) fun _ h=>h) hrs
 cases hn:rows.length with
 |zero=>
  exact r8
 |succ n=>
  exact v30
theorem ope_make {t et:TypeId} {x y:Operand} {size bytes:Nat} {zs:List Value} {kx ky:IntKind} {i j:Int} (k:Nat) (ho:o.op=.makeSlice t x y) (ht:dK X.P t=some (et,size,bytes)) (hz0:dM X.P et=some zs)
  (hx:e x=.c (.lit (.int kx i))) (hy:e y=.c (.lit (.int ky j))) (hi:i=(k:Int)) (hj:j=(k:Int)) (hb:k*bytes<=281474976710656) (hk:k<=1073741824):OpE X o e μ fun r μ'=>∃sv,r=.c (.lit sv)/\μ'=.vec sv et size (List.replicate k (zs.map .lit))::μ:=by
 obtain ⟨hu,inf,z,hinf,hz,hs,hby,hzs,hpos⟩:=kZ ht
 have hzl:z.cells.toList=zs/\∀v,v∈zs->v.oneCell'=true:=by
  unfold dM at hz0
  rw [hinf] at hz0
  simp only [hz] at hz0
  split at hz0
  ·rename_i h
   cases hz0
   rw [Array.all_eq_true_iff_forall_mem] at h
   exact ⟨rfl,fun v hv=>h v (by simpa using hv)⟩
  ·cases hz0
 have hlen:zs.length=size:=by rw [←hzl.1];simpa using hzs
 refine ope_rows (et:=et) (len:=k) hpos (by simp) (by simp only [maxLen];omega) (fun r hr=>by rw [List.eq_of_mem_replicate hr,List.length_map,hlen]) fun a w I hops=>?_
 have h1:=hops x (by rw [ho];simp [Op.operands])
 have h2:=hops y (by rw [ho];simp [Op.operands])
 rw [hx] at h1
 rw [hy] at h2
 subst hi hj
 have hbb:(inf.bytes:Int)*(k:Int)<=281474976710656:=by
  have h:((inf.bytes*k:Nat):Int)<=281474976710656:=by rw [hby,Nat.mul_comm];omega
  rwa [Int.natCast_mul] at h
 have hr:=run_make (P:=X.P) w t et inf z hu hinf hz kx ky (k:Int) (k:Int) (by omega) (Int.le_refl _) hbb (by omega)
 simp only [Int.toNat_natCast,hs] at hr
 refine ⟨(madeCells z.cells (k*size)).toList,?_,?_,by simp [size_madeCells]⟩
 ·simp [execOp,ho,h1.lit_inv,h2.lit_inv,hr,Result.andThen]
 ·rw [zLc (by omega) hpos,hzl.1]
  exact zLa (CReps.lits zs hzl.2) k
/-! ## Cuts -/
def pP (sv:Value) (size k m:Nat) (v:Value):Prop:=∃a n cap,sv=.slice a n cap/\k+m<=n/\n<=cap/\v=.slice (if cap=k then a else a.map (·.add (k*size))) m (cap-k)
theorem zRb {t et:TypeId} {size bytes k m:Nat} {x:Operand} {lo hi:Option Operand} {sv:Value} {rows:List (List C)} (p:Nat) (ho:o.op=.slice t x lo hi none) (ht:dK X.P t=some (et,size,bytes)) (hx:e x=.c (.lit sv))
  (hp:nth μ p=some (.vec sv et size rows)) (h1:bnd e lo 0 k) (h2:bnd e hi rows.length (k+m)) (hk:k+m<=rows.length):Det X o e μ (.c (.gh (pP sv size k m))) μ:=
 kL fun a w I hH hops=>by
  obtain ⟨hu,inf,z,hinf,hz,hs,hby,hzs,hpos⟩:=kZ ht
  have hxv:=hops x (by rw [ho];simp [Op.operands])
  rw [hx] at hxv
  have e1:=hxv.lit_inv
  have hform:∃ad cap,sv=.slice ad rows.length cap/\rows.length<=cap:=by
   rcases hH.rep _ (zAg hp) with ⟨a0,rfl,rfl⟩|⟨hb,xs,hown,hc,hr⟩
   ·exact ⟨a0,0,rfl,Nat.le_refl _⟩
   ·rcases hown.2 with ⟨rfl,h0⟩|⟨g,cap,cur,rfl,hbg,hg,hnc,hcm,hcs,htake⟩
    ·exact ⟨none,0,by rw [h0],by rw [h0];exact Nat.le_refl _⟩
    ·exact ⟨_,cap,rfl,hnc⟩
  obtain ⟨ad,cap,rfl,hcap⟩:=hform
  refine ⟨.slice (if cap=k then ad else ad.map (·.add (k*size))) m (cap-k),?_,CRep.gh _ _ rfl ⟨ad,_,cap,rfl,hk,hcap,rfl⟩⟩
  have hB:(Instr.sliceBounds true rows.length cap (lo.map a.eval) (hi.map a.eval) none).run X.P w=.ok (k,k+m,cap) w:=by
   have hHi:∀xh,hi=some xh->∀code,(Instr.sliceBound (a.eval xh) cap code).run X.P w=.ok (k+m) w:=by
    rintro xh rfl code
    obtain ⟨kd,i,he,hi'⟩:=h2
    have hxh:=hops xh (by rw [ho];simp [Op.operands])
    rw [he] at hxh
    exact zUq hxh hi' (by omega)
   have hLo:∀xl,lo=some xl->∀code,(Instr.sliceBound (a.eval xl) (k+m) code).run X.P w=.ok k w:=by
    rintro xl rfl code
    obtain ⟨kd,i,he,hi'⟩:=h1
    have hxl:=hops xl (by rw [ho];simp [Op.operands])
    rw [he] at hxl
    exact zUq hxl hi' (by omega)
   cases hi with
   |none=>
    have hkm:k+m=rows.length:=h2
    cases lo with
    |none=>have:k=0:=h1;subst this;simp [Instr.sliceBounds];omega
    |some xl=>simp [Instr.sliceBounds,←hkm,hLo xl rfl]
   |some xh=>
    cases lo with
    |none=>have:k=0:=h1;subst this;simp [Instr.sliceBounds,hHi xh rfl]
    |some xl=>simp [Instr.sliceBounds,hHi xh rfl,hLo xl rfl]
  simp [execOp,ho,e1,Instr.sliceAt,Instr.slice,run_underlying hu,hB,sizeOf,typeInfo,hinf,hs]
def tH (c:C) (sv:Value) (et:TypeId) (size:Nat) (rows:List (List C)) (k m:Nat):Prop:=∀w I v,ERep w I (.vec sv et size rows)->CRep w I c v->pP sv size k m v
theorem isCut_gh {sv:Value} {et:TypeId} {size k m:Nat} {rows:List (List C)}:tH (.gh (pP sv size k m)) sv et size rows k m:=by
 intro w I v _ h
 cases h with
 |gh _ _ _ h=>exact h
theorem zKy {P:Program} (w:World) (dT sT ty elem:TypeId) (d a:Option Addr) (dLen dCap sLen sCap:Nat) (hu:P.underlying dT=some (.slice elem)) (hs:(P.info? elem).isSome=true) (hn:Nat.min sLen dLen=0):
  (Builtin.copy_ #[dT,sT] ty #[.slice d dLen dCap,.slice a sLen sCap]).run P w=.ok (goInt 0) w:=by
 obtain ⟨i,hq⟩:=Option.isSome_iff_exists.1 hs
 have hl:∀(x:Addr),(loadCells x 0).run P w=.ok #[] w:=fun x=>by simpa using run_loadCells_list (P:=P) w x [] (by simp)
 cases d<;>cases a<;>simp [Builtin.copy_,run_underlying hu,Builtin.lenOf,Builtin.firstCells,sizeOf,typeInfo,hq,hn,storeCells,hl]
theorem zMd {P:Program} (w:World) (dT sT ty elem:TypeId) (size:Nat) (g o dLen dCap:Nat) (a:Addr) (sLen sCap:Nat) (cur:Array Value) (t:TypeId) (cs:List Value)
  (hu:P.underlying dT=some (.slice elem)) (hs:(P.info? elem).map (·.size)=some size)
  (hg:w.heap[g]? =some (.cells cur t (0,0))) (hn:cs.length=Nat.min sLen dLen*size)
  (hsrc:∀j v,cs[j]? =some v->w.cell? (a.add j)=some v) (hfit:o+cs.length<=cur.size) (h1:∀v∈cs,v.oneCell'=true):
  (Builtin.copy_ #[dT,sT] ty #[.slice (some ⟨g,o,none⟩) dLen dCap,.slice (some a) sLen sCap]).run P w=
   .ok (goInt (Nat.min sLen dLen)) (w.setRow g (cur.toList.take o++cs++cur.toList.drop (o+cs.length)).toArray):=by
 have hl:=run_loadCells_list (P:=P) w a cs hsrc
 have hst:=run_storeCells_at P g o t cs 0 cur w hg (by simpa using hfit) h1
 rw [hn] at hl
 cases hq:P.info? elem with
 |none=>simp [hq] at hs
 |some i=>
  have hi:i.size=size:=by simpa [hq] using hs
  simp [Builtin.copy_,run_underlying hu,Builtin.lenOf,Builtin.firstCells,sizeOf,typeInfo,hq,hi,hl,hst]
theorem zMs {size:Nat} {rows:List (List C)} (k:Nat) (hr:∀r,r∈rows->r.length=size) (hk:k<=rows.length):(rows.take k).flatten=rows.flatten.take (k*size)/\(rows.drop k).flatten=rows.flatten.drop (k*size):=by
 have hl:(rows.take k).flatten.length=k*size:=by
  have:∀l:List (List C),(∀r,r∈l->r.length=size)->l.flatten.length=l.length*size:=by
   intro l h
   induction l with
   |nil=>simp
   |cons r l ih=>rw [List.flatten_cons,List.length_append,ih fun r hr=>h r (by simp [hr]),h r (by simp),List.length_cons,Nat.succ_mul,Nat.add_comm]
  rw [this _ fun r h=>hr r (List.mem_of_mem_take h),List.length_take,Nat.min_eq_left hk]
 have e1:rows.flatten=(rows.take k).flatten++(rows.drop k).flatten:=by rw [←List.flatten_append,List.take_append_drop]
 constructor
 ·rw [e1,←hl,List.take_left]
 ·rw [e1,←hl,List.drop_left]
theorem over_take {α:Type} (l us:List α) (a n:Nat) (h:a+us.length<=n) (h2:a<=l.length):(l.take a++us++l.drop (a+us.length)).take n=(l.take n).take a++us++(l.take n).drop (a+us.length):=by
 have e1:(l.take a++us).length=a+us.length:=by rw [List.length_append,List.length_take,Nat.min_eq_left h2]
 rw [List.take_append,List.take_of_length_le (by omega),e1,List.take_take,Nat.min_eq_left (by omega),List.drop_take]
theorem vec_over {w:World} {I:Nat->Prop} {et:TypeId} {size k:Nat} {g n cap:Nat} {rows news:List (List C)} {us:List Value} (hH:Heap X w I μ) {p:Nat} (hp:nth μ p=some (.vec (.slice (some ⟨g,0,none⟩) n cap) et size rows)) (hcap:0<cap)
    (hc:CReps w I news.flatten us) (hn:∀r,r∈news->r.length=size) (hk:k+news.length<=rows.length):
    ∃cur,w.heap[g]? =some (.cells cur et (0,0))/\us.length=news.length*size/\k*size+us.length<=cur.size/\n=rows.length/\
      (Heap X (w.setRow g (cur.toList.take (k*size)++us++cur.toList.drop (k*size+us.length)).toArray) I (lZ μ p (.vec (.slice (some ⟨g,0,none⟩) n cap) et size (rows.take k++news++rows.drop (k+news.length))))/\
       Ext w I μ (w.setRow g (cur.toList.take (k*size)++us++cur.toList.drop (k*size+us.length)).toArray) I (lZ μ p (.vec (.slice (some ⟨g,0,none⟩) n cap) et size (rows.take k++news++rows.drop (k+news.length))))):=by
  obtain ⟨c',rfl⟩:∃c',cap=c'+1:=⟨cap-1,by omega⟩
  have hbl:(E.vec (.slice (some ⟨g,0,none⟩) n (c'+1)) et size rows).blocks=[g]:=rfl
  rcases hH.rep _ (zAg hp) with ⟨a0,h0,rfl⟩|⟨hb,xs,hown,hcx,hr⟩
  · cases h0
  rcases hown.2 with ⟨h0,_⟩|⟨g',cap',cur,heq,hbg,hg,hnc,hcm,hcs,htake⟩
  · cases h0
  simp only [Value.slice.injEq,Option.some.injEq,Addr.mk.injEq] at heq
  obtain ⟨⟨rfl,_⟩,rfl,rfl⟩:=heq
  have hul:=rows_of_flat hn hc
  have hkm:(k+news.length)*size<=rows.length*size:=Nat.mul_le_mul_right _ hk
  have hcm':rows.length*size<=(c'+1)*size:=Nat.mul_le_mul_right _ hnc
  rw [Nat.add_mul] at hkm
  have hfit:k*size+us.length<=cur.size:=by rw [hcs,hul];omega
  refine ⟨cur,hg,hul,hfit,rfl,?_⟩
  have still:∀q,I q->(w.setRow g (cur.toList.take (k*size)++us++cur.toList.drop (k*size+us.length)).toArray).heap[q]? =w.heap[q]? :=fun q hq=>setRow_other w g q _ (fun e=>(hH.own g (zAs (zAg hp) (by simp [E.blocks,svB]))).2 (e ▸ hq))
  refine Heap.write hH hp rfl rfl rfl (by simp) (fun q _ hq=>setRow_other w g q _ (by simpa [E.blocks,svB] using hq)) (by simp [E.blocks,svB]) (fun q hq=>.inl hq) trivial ?_
  have hlen:(rows.take k++news++rows.drop (k+news.length)).length=rows.length:=by simp only [List.length_append,List.length_take,List.length_drop];omega
  obtain ⟨f1,_⟩:=zMs k hr (by omega)
  obtain ⟨_,f2⟩:=zMs (k+news.length) hr hk
  have hxl:xs.length=rows.length*size:=hown.1
  refine .inr ⟨by simp [svB],xs.take (k*size)++us++xs.drop (k*size+us.length),?_,?_,?_⟩
  · rw [hlen]
    refine ⟨by simp only [List.length_append,List.length_take,List.length_drop];omega,.inr ⟨g,c'+1,_,rfl,hbg,setRow_heap w g cur _ et (0,0) hg,hnc,hcm,?_,?_⟩⟩
    · simp only [List.size_toArray,List.length_append,List.length_take,List.length_drop,Array.length_toList];omega
    · show (cur.toList.take (k*size)++us++cur.toList.drop (k*size+us.length)).take (rows.length*size)=_
      rw [←htake]
      refine over_take _ _ _ _ (by omega) ?_
      rw [Array.length_toList];omega
  · rw [List.flatten_append,List.flatten_append,f1,f2,Nat.add_mul,←hul]
    exact ((((hcx.mono still fun _ h=>h).take _).append (hc.mono still fun _ h=>h)).append ((hcx.mono still fun _ h=>h).drop _))
  · intro r h
    rcases List.mem_append.1 h with h|h
    · rcases List.mem_append.1 h with h|h
      · exact hr r (List.mem_of_mem_take h)
      · exact hn r h
    · exact hr r (List.mem_of_mem_drop h)
theorem cut_pos {sv v:Value} {size k m:Nat} (h:pP sv size k m v) (hm:0<m):∃a n cap,sv=.slice a n cap/\k+m<=n/\n<=cap/\v=.slice (a.map (·.add (k*size))) m (cap-k):=by
 obtain ⟨a,n,cap,h1,h2,h3,h4⟩:=h
 exact ⟨a,n,cap,h1,h2,h3,by rw [h4,if_neg (by omega)]⟩
theorem take_zero_min {rows news:List (List C)} {k m:Nat} (h:min news.length m=0):rows.take k++news.take m++rows.drop (k+min news.length m)=rows:=by
 have:news.take m=[]:=List.eq_nil_of_length_eq_zero (by rw [List.length_take];omega)
 rw [this,h,List.append_nil,Nat.add_zero,List.take_append_drop]
theorem det_copy {t ts et:TypeId} {x y:Operand} {cx:C} {sv:Value} {size bytes k m:Nat} {rows news:List (List C)} (p:Nat) (ho:o.op=.call { callee:=.builtin .copy,args:= #[x,y],argTypes:= #[t,ts] }) (ht:dK X.P t=some (et,size,bytes))
  (hx:e x=.c cx) (hcut:tH cx sv et size rows k m) (hp:nth μ p=some (.vec sv et size rows)) (hy:e y=.c (.sl size news)) (hk:k+m<=rows.length):
  Det X o e μ (.c (.lit (.int .i64 (min news.length m:Nat)))) (lZ μ p (.vec sv et size (rows.take k++news.take m++rows.drop (k+min news.length m)))):=by
 intro a w I hH hops K Q kk
 obtain ⟨hu,inf,z,hinf,hz,hs,hby,hzs,hpos⟩:=kZ ht
 have hxv:=hops x (by rw [ho];simp [Op.operands,Call.operands])
 have hyv:=hops y (by rw [ho];simp [Op.operands,Call.operands])
 rw [hx] at hxv
 rw [hy] at hyv
 have hv:=hcut w I _ (hH.rep _ (zAg hp)) hxv
 by_cases hz0:min news.length m=0
 ·obtain ⟨a0,n0,cap0,h1,h2,h3,h4⟩:=hv
  have hsame:lZ μ p (.vec sv et size (rows.take k++news.take m++rows.drop (k+min news.length m)))=μ:=by rw [take_zero_min hz0,setN_nth hp]
  rw [hsame,hz0] at kk
  refine zBb (v:=.int .i64 0) (w':=w) ?_ (kk _ _ _ I w ⟨rfl,rfl⟩ (CRep.lit _ rfl) hH (Ext.refl _ _ _))
  rcases zSe hyv with ⟨rfl,a1,cap1,h5⟩|⟨ad,cap1,us,h5,_⟩
  ·have:=zKy (P:=X.P) w t ts o.type et (if cap0=k then a0 else a0.map (·.add (k*size))) a1 m (cap0-k) 0 cap1 hu (by rw [hinf];rfl) (by simp [Nat.min_def])
   exact v14
  ·have:=zKy (P:=X.P) w t ts o.type et (if cap0=k then a0 else a0.map (·.add (k*size))) (some ad) m (cap0-k) news.length cap1 hu (by rw [hinf];rfl) hz0
   exact v14
 ·obtain ⟨a0,n0,cap0,h1,h2,h3,h4⟩:=cut_pos hv (by omega)
  rcases zSe hyv with ⟨rfl,_⟩|⟨ad,cap1,us,h5,hc,hul,hrl,hcell⟩
  ·simp at hz0
  have hg0:∃g,a0=some ⟨g,0,none⟩:=by
   rcases hH.rep _ (zAg hp) with ⟨_,h0,rfl⟩|⟨hb,xs,hown,_⟩
   ·simp at hk;omega
   ·rcases hown.2 with ⟨h0,hn0⟩|⟨g,cap,cur,heq,_⟩
    ·omega
    ·rw [h1] at heq;simp only [Value.slice.injEq] at heq;exact ⟨g,heq.1⟩
  obtain ⟨g,rfl⟩:=hg0
  subst h1
  have hnl:(news.take m).length=min news.length m:=by rw [List.length_take,Nat.min_comm]
  obtain ⟨f1,_⟩:=zMs (rows:=news) (min news.length m) hrl (Nat.min_le_left _ _)
  have f0:news.take m=news.take (min news.length m):=by
   rcases Nat.le_total news.length m with h|h
   ·rw [List.take_of_length_le h,Nat.min_eq_left h,List.take_length]
   ·rw [Nat.min_eq_right h]
  have hc':CReps w I (news.take m).flatten (us.take (min news.length m*size)):=by rw [f0,f1];exact hc.take _
  obtain ⟨cur,hg,hul',hfit,hn,hH',hx'⟩:=vec_over (k:=k) hH hp (by omega) hc' (fun r h=>hrl r (List.mem_of_mem_take h)) (by rw [hnl];omega)
  rw [hnl] at hH' hx'
  refine zBb (v:=.int .i64 (min news.length m:Nat)) ?_ (kk _ _ _ I _ ⟨rfl,rfl⟩ (CRep.lit _ rfl) hH' hx')
  have:=zMd (P:=X.P) w t ts o.type et size g (k*size) m (cap0-k) ad news.length cap1 cur et (us.take (min news.length m*size)) hu (by rw [hinf];simp [hs]) hg (by rw [hul',hnl])
   (fun j v hj=>hcell j v (by rw [List.getElem?_take] at hj;split at hj;exact hj;cases hj)) hfit hc'.one
  have ea:(Option.map (fun q:Addr=>q.add (k*size)) (some ⟨g,0,none⟩))=some ⟨g,k*size,none⟩:=by
   rw [Option.map_some,zBj,Nat.zero_add]
  rw [ea] at h4
  exact v14
theorem det_copy_in {t ts et:TypeId} {x y:Operand} {cx cy:C} {sv:Value} {size bytes k m l:Nat} {rows:List (List C)} (p:Nat) (ho:o.op=.call { callee:=.builtin .copy,args:= #[x,y],argTypes:= #[t,ts] }) (ht:dK X.P t=some (et,size,bytes))
  (hx:e x=.c cx) (hcut:tH cx sv et size rows k m) (hp:nth μ p=some (.vec sv et size rows)) (hy:e y=.c cy) (hcy:tH cy sv et size rows 0 l) (hk:k+m<=rows.length) (hl:l<=rows.length) (hm0:0<m) (hl0:0<l):
  Det X o e μ (.c (.lit (.int .i64 (min l m:Nat)))) (lZ μ p (.vec sv et size (rows.take k++rows.take (min l m)++rows.drop (k+min l m)))):=by
 intro a w I hH hops K Q kk
 obtain ⟨hu,inf,z,hinf,hz,hs,hby,hzs,hpos⟩:=kZ ht
 have hxv:=hops x (by rw [ho];simp [Op.operands,Call.operands])
 have hyv:=hops y (by rw [ho];simp [Op.operands,Call.operands])
 rw [hx] at hxv
 rw [hy] at hyv
 obtain ⟨a0,n0,cap0,h1,h2,h3,h4⟩:=cut_pos (hcut w I _ (hH.rep _ (zAg hp)) hxv) hm0
 obtain ⟨a1,n1,cap1,g1,g2,g3,g4⟩:=cut_pos (hcy w I _ (hH.rep _ (zAg hp)) hyv) hl0
 rcases hH.rep _ (zAg hp) with ⟨_,h0,rfl⟩|⟨hb,xs,hown,hcx,hr⟩
 ·simp at hl;omega
 rcases hown.2 with ⟨h0,hn0⟩|⟨g,cap,cur0,rfl,_⟩
 ·omega
 simp only [Value.slice.injEq] at h1 g1
 obtain ⟨rfl,rfl,rfl⟩:=h1
 obtain ⟨rfl,rfl,rfl⟩:=g1
 have hnl:(rows.take (min l m)).length=min l m:=by rw [List.length_take];omega
 obtain ⟨f1,_⟩:=zMs (rows:=rows) (min l m) hr (by omega)
 have hc':CReps w I (rows.take (min l m)).flatten (xs.take (min l m*size)):=by rw [f1];exact hcx.take _
 obtain ⟨cur,hg,hul',hfit,hn,hH',hx'⟩:=vec_over (k:=k) hH hp (by omega) hc' (fun r h=>hr r (List.mem_of_mem_take h)) (by rw [hnl];omega)
 rw [hnl] at hH' hx'
 refine zBb (v:=.int .i64 (min l m:Nat)) ?_ (kk _ _ _ I _ ⟨rfl,rfl⟩ (CRep.lit _ rfl) hH' hx')
 have hcell:=hown.cells (g:=g) rfl
 have e0:(⟨g,0,none⟩:Addr).add (0*size)=⟨g,0,none⟩:=by rw [zBj];simp
 have:=zMd (P:=X.P) w t ts o.type et size g (k*size) m (cap-k) ⟨g,0,none⟩ l (cap-0) cur et (xs.take (min l m*size)) hu (by rw [hinf];simp [hs]) hg (by rw [hul',hnl])
  (fun j v hj=>hcell j v (by rw [List.getElem?_take] at hj;split at hj;exact hj;cases hj)) hfit hc'.one
 have ea:(Option.map (fun q:Addr=>q.add (k*size)) (some ⟨g,0,none⟩))=some ⟨g,k*size,none⟩:=by
  rw [Option.map_some,zBj,Nat.zero_add]
 rw [ea] at h4
 have eb:(Option.map (fun q:Addr=>q.add (0*size)) (some ⟨g,0,none⟩))=some ⟨g,0,none⟩:=by
  rw [Option.map_some,e0]
 rw [eb] at g4
 simp only [execOp,ho,resolve,invoke,builtin,Sem.run_bind,Sem.run_pure,Result.andThen_ok,List.map_toArray,List.map_cons,List.map_nil,h4,g4,this]
 rfl
theorem isCut_lit {w:World} {I:Nat->Prop} {sv:Value} {et:TypeId} {size:Nat} {rows:List (List C)} (h:ERep w I (.vec sv et size rows)):pP sv size 0 rows.length sv:=by
 have fix:∀a n cap,n=rows.length->n<=cap->sv=.slice a n cap->(a=none∨∃q:Addr,a=some q/\q.add 0=q)->pP sv size 0 rows.length sv:=by
  rintro a n cap rfl h2 rfl h4
  refine ⟨a,_,cap,rfl,by omega,h2,?_⟩
  have:a.map (fun q:Addr=>q.add (0*size))=a:=by
   rcases h4 with rfl|⟨q,rfl,hq⟩
   ·rfl
   ·rw [Option.map_some,Nat.zero_mul,hq]
  rw [this]
  simp
 have add0:∀q:Addr,q.add 0=q:=fun q=>by unfold Addr.add;simp
 rcases h with ⟨a,rfl,rfl⟩|⟨hb,xs,hown,_⟩
 ·refine fix a 0 0 rfl (Nat.le_refl _) rfl ?_
  cases a with
  |none=>exact .inl rfl
  |some q=>exact .inr ⟨q,rfl,add0 q⟩
 ·rcases hown.2 with ⟨rfl,h0⟩|⟨g,cap,cur,rfl,_,_,hnc,_⟩
  ·exact fix none 0 0 h0.symm (Nat.le_refl _) rfl (.inl rfl)
  ·exact fix _ _ cap rfl hnc rfl (.inr ⟨_,rfl,add0 _⟩)
theorem isCut_self {sv:Value} {et:TypeId} {size:Nat} {rows:List (List C)} {m:Nat} (hm:m=rows.length):tH (.lit sv) sv et size rows 0 m:=by
 subst hm
 intro w I v h hv
 cases hv
 exact isCut_lit h
end
/-! ## Own memory lent to a function that makes memory -/
def xL:E->Bool
 |.row _ _ cells=>cells.all sK
 |.vec _ _ _ rows=>rows.all fun r=>r.all sK
 |_=>false
theorem litE_rep {w w':World} {I I':Nat->Prop} {en:E} (h:xL en=true) (hb:∀b,b∈en.blocks->w'.heap[b]? =w.heap[b]?) (r:ERep w I en):ERep w' I' en:=by
 cases en with
 |row b t cells=>
  obtain ⟨vs,h1,h2⟩:=r
  exact ⟨vs,by rw [hb b (by simp [E.blocks])];exact h1,zTe h h2⟩
 |vec sv t size rows=>
  rcases r with r|⟨h1,xs,h2,h3,h4⟩
  ·exact .inl r
  ·refine .inr ⟨h1,xs,?_,?_,h4⟩
   ·rcases h2.2 with h5|⟨g,cap,cur,h5,h6,h7,h8⟩
    ·exact ⟨h2.1,.inl h5⟩
    ·exact ⟨h2.1,.inr ⟨g,cap,cur,h5,h6,by rw [hb g (svB_of h1 (by rw [h5];rfl))];exact h7,h8⟩⟩
   ·refine zTe ?_ h3
    rw [List.all_eq_true]
    intro c hc
    obtain ⟨r,hr,hc⟩:=List.mem_flatten.1 hc
    have:=List.all_eq_true.1 h r hr
    exact List.all_eq_true.1 this c hc
 |_=>cases h
def tO (en:E) (x y:C):Prop:=∀(w:World) (I I0:Nat->Prop) (v:Value),ERep w I en->(∀b,I b->I0 b)->(∀b,b∈en.blocks->I0 b)->CRep w I x v->CRep w I0 y v
def sL (en:E):List V->List V->Prop
 |[],[]=>True
 |x::xs,y::ys=>((∃c d,x=.c c/\y=.c d/\tO en c d)∨(VLe x y/\y.plain=true))/\sL en xs ys
 |_,_=>False
theorem zTg {en:E} {w:World} {I I0:Nat->Prop} (hr:ERep w I en) (hI:∀b,I b->I0 b) (hb:∀b,b∈en.blocks->I0 b):∀{l l':List V} {vs:List Value},sL en l l'->V1Reps w I l vs->V1Reps w I0 l' vs
 |[],[],[],_,_=>trivial
 |[],[],_::_,_,h=>h.elim
 |x::xs,y::ys,[],_,h=>h.elim
 |x::xs,y::ys,v::vs,k,h=>by
  refine ⟨?_,zTg hr hI hb k.2 h.2⟩
  rcases k.1 with ⟨c,d,rfl,rfl,hl⟩|⟨h3,h4⟩
  ·exact hl w I I0 v hr hI hb h.1
  ·exact V1Rep.mono (fun _ _=>rfl) hI (V.plain_v1 h4 (h3 w I v h.1.up))
 |[],_::_,_,k,_=>(k:False).elim
 |_::_,[],_,k,_=>(k:False).elim
theorem Con.borrowG {X:Cfg} {f:FuncId} {args args':List V} {en:E} {Q:V->List E->Prop} (hen:(∃b t cs,en=.row b t cs)∨∃sv t n rs,en=.vec sv t n rs) (h:Con X f args [] Q) (hq:∀r μ',Q r μ'->xB r=true/\μ'.all xL=true) (ha:sL en args' args):
  Con X f args' [en] fun r μ'=>∃μ1,Q r μ1/\μ'=μ1++[en]:=by
 have hmono:∀(w w':World) (I I':Nat->Prop),(∀b,I b->w'.heap[b]? =w.heap[b]?)->(∀b,I b->I' b)->(∀b,b∈en.blocks->w'.heap[b]? =w.heap[b]?)->ERep w I en->ERep w' I' en:=by
  intro w w' I I' h1 h2 h3 h4
  rcases hen with ⟨b,t,cs,rfl⟩|⟨sv,t,n,rs,rfl⟩
  ·exact h4.mono trivial h1 h2 h3
  ·exact h4.mono trivial h1 h2 h3
 intro w I vs hH hv
 have hrep:=hH.rep _ (List.mem_singleton.2 rfl)
 have H0:Heap X w (fun b=>I b∨b∈en.blocks) []:=by
  exact v53
 refine (h w _ vs H0 (zTg hrep (fun b h=>.inl h) (fun b h=>.inr h) ha hv)).mono ?_
 rintro en' w' ⟨v,r',μ',I',h1,hQ,h3,h4,h5⟩
 obtain ⟨q1,q2⟩:=hq _ _ hQ
 have still:=H0.still h5
 refine ⟨v,r',μ'++[en],I,h1,⟨μ',hQ,rfl⟩,litV_rep q1 h3,?_,?_⟩
 ·refine ⟨Nat.le_trans hH.lo h5.size,h4.glob,?_,?_,fun b hb=>Nat.lt_of_lt_of_le (hH.imm b hb) h5.size,?_,?_⟩
  ·rw [yW]
   refine List.nodup_append.2 ⟨h4.nodup,hH.nodup,fun a hm b hb' hab=>?_⟩
   subst hab
   exact (h4.own a hm).2 (h5.imm a (.inr (by simpa [bB] using hb')))
  ·intro b hb
   rw [yW] at hb
   rcases List.mem_append.1 hb with hb|hb
   ·exact ⟨(h4.own b hb).1,fun hI=>(h4.own b hb).2 (h5.imm b (.inl hI))⟩
   ·exact hH.own b hb
  ·intro e he
   rcases List.mem_append.1 he with he|he
   ·exact litE_rep (List.all_eq_true.1 q2 e he) (fun _ _=>rfl) (h4.rep e he)
   ·rw [List.mem_singleton.1 he]
    exact hmono w w' I I (fun b hb=>still b (.inl hb)) (fun b h=>h) (fun b hb=>still b (.inr hb)) hrep
  ·intro e he
   rcases List.mem_append.1 he with he|he
   ·exact h4.mono e he
   ·exact hH.mono e he
 ·refine ⟨h5.os,h5.tape,h5.output,h5.size,fun b hb _=>h5.block b hb (by simp [bB]),fun b h=>h,fun b h=>.inl h,fun b hb=>?_⟩
  rw [yW] at hb
  rcases List.mem_append.1 hb with hb|hb
  ·rcases h5.own' b hb with h|h
   ·simp [bB] at h
   ·exact .inr h
  ·exact .inl hb
theorem lend_cut {sv:Value} {t:TypeId} {size k m:Nat} {rows:List (List C)} (hk:k+m<=rows.length):tO (.vec sv t size rows) (.gh (pP sv size k m)) (.sl size ((rows.drop k).take m)):=by
 intro w I I0 v hr hI hb hv
 cases hv with
 |gh _ _ _ h=>
  have hs:CRep w I0 (.sl size rows) sv:=vec_sl (hr.mono (w':=w) trivial (fun _ _=>rfl) hI fun _ _=>rfl) hb
  obtain ⟨a,n,cap,rfl,h2,h3,rfl⟩:=h
  have:=cut_rep hs k (k+m) (by omega) hk (m:=cap) (by omega)
  rw [Nat.add_sub_cancel_left,List.drop_take,Nat.add_sub_cancel_left] at this
  exact this
theorem lend_arr {b off:Nat} {t:TypeId} {cs:List C} {l:List C} {rest:List C} {n:Nat} (he:cs.drop off=l++rest) (hn:l.length=n):tO (.row b t cs) (.lit (.slice (some ⟨b,off,none⟩) n n)) (.sl 1 (l.map fun c=>[c])):=by
 subst hn
 intro w I I0 v hr hI hb hv
 cases hv
 obtain ⟨vs,h1,h2⟩:=hr
 have h3:=(h2.drop off)
 rw [he] at h3
 have h4:=h3.take l.length
 rw [List.take_left] at h4
 have hl:=h4.length
 have key:=CRep.sl (w:=w) (I:=I0) 1 (l.map fun c=>[c]) ⟨b,off,none⟩ l.length (fun i _=>((vs.drop off).take l.length).getD i undef) (hb b (by simp [E.blocks])) (fun r hr=>by obtain ⟨s,_,rfl⟩:=List.mem_map.1 hr;rfl) (by simp) (fun i j hi hj=>by
  have hj0:j=0:=by omega
  subst hj0
  have hi':i<l.length:=by simpa using hi
  rw [show i*1+0=i by omega,zBj,cell_of_row w b (off+i) vs.toArray t (0,0) h1]
  have:i<((vs.drop off).take l.length).length:=by rw [←hl];exact hi'
  have hgt:=List.getElem?_eq_getElem this
  rw [List.getD_eq_getElem?_getD,hgt,Option.getD_some,←hgt]
  simp [List.getElem?_drop,List.getElem?_take,hi']) (fun i r hi j c hj=>by
  rw [List.getElem?_map] at hi
  obtain ⟨s,hs,rfl⟩:=Option.map_eq_some_iff.1 hi
  have hj0:j=0:=by have:=(List.getElem?_eq_some_iff.1 hj).1;simp at this;omega
  subst hj0
  simp only [List.getElem?_cons_zero,Option.some.injEq] at hj
  subst hj
  obtain ⟨u,hu1,hu2⟩:=h4.at_ hs
  rw [List.getD_eq_getElem?_getD,hu1,Option.getD_some]
  exact hu2.mono (fun _ _=>rfl) hI)
 simpa using key
section
variable {X:Cfg} {o:Oper} {e:Operand->V} {μ:List E}
theorem zLb {f:FuncId} {arg_:List Operand} {ts:Array TypeId} {args:List V} {en:E} {et:TypeId} {size:Nat} {rows:List (List C)} (p:Nat) (m:List V) (ho:o.op=.call { callee:=.value (.func f),args:=arg_.toArray,argTypes:=ts }) (hf:bA X.P f=true)
  (hp:nth μ p=some en) (hen:(∃b t cs,en=.row b t cs)∨∃sv t n rs,en=.vec sv t n rs) (hc:OwnR X f args et size rows) (hl:rows.all (fun r=>r.all sK)=true) (ha:sL en m args) (hm:mL (arg_.map e) m):
  OpE X o e μ fun r μ'=>∃sv,r=.c (.lit sv)/\μ'=.vec sv et size rows::μ:=by
 have hpk:mT [p] μ=some ([en],mX μ p):=by unfold mT;rw [hp];rfl
 have hb:=Con.borrowG hen hc (fun r μ' ⟨sv,h1,h2⟩=>⟨by rw [h1];rfl,by rw [h2];simp [xL,hl]⟩) ha
 have h0:=zBw ho hf ((hb.frame (mX μ p)).perm (zFd hpk)) hm
 intro a w I hH hops K Q k
 refine h0 a w I hH hops K Q ?_
 rintro v r μ' I' w' ⟨_,⟨_,⟨sv,h1,rfl⟩,rfl⟩,rfl⟩ hv hH' x
 have hperm:([E.vec sv et size rows]++[en]++mX μ p).Perm (.vec sv et size rows::μ):=List.Perm.cons _ (zHs hp).symm
 exact k v r _ I' w' ⟨sv,h1,rfl⟩ hv (hH'.perm hperm) (x.perm (List.Perm.refl _) hperm)
end
end Go.Eng
end
section
namespace Go.Eng
open Go Go.RowKit
section
variable {X:Cfg} {o:Oper} {e:Operand->V} {μ:List E} {t ty:TypeId} {x y:Operand} {a b:Nat}
abbrev vUn (n:Nat):V:=.c (.lit (.int .u64 (n:Int)))
theorem det_uand (ho:o.op=.binOp .and t x y ty) (hx:e x=vUn a) (hy:e y=.c (.lit (.int .u64 4294967295))) (ha:a<18446744073709551616):Det X o e μ (vUn (a%4294967296)) μ:=
 det_bits ho (.inl rfl) hx hy (fun P w=>by rw [intBits_and,and_low32 _ (by omega) (by omega)];rfl) rfl
theorem zNa (ho:o.op=.binOp .shr t x y ty) (hx:e x=vUn a) (hy:e y=.c (.lit (.int .u64 32))):Det X o e μ (vUn (a/4294967296)) μ:=by
 have h:=det_shr (X:=X) (μ:=μ) ho hx hy (by decide)
 have e1:(a:Int).fdiv (2^(min (32:Int).toNat IntKind.u64.bits))=((a/4294967296:Nat):Int):=by
  rw [show (2:Int)^(min (32:Int).toNat IntKind.u64.bits)=4294967296 by decide,Int.fdiv_eq_ediv_of_nonneg _ (by decide)]
  omega
 rw [e1] at h
 exact h
theorem u64_wrap {n:Nat} (h:n<18446744073709551616):IntKind.u64.wrap (n:Int)=n:=IntWalk.u64_in _ ⟨by omega,by omega⟩
theorem zKm (ho:o.op=.binOp .mul t x y ty) (hx:e x=vUn a) (hy:e y=vUn b) (h:a*b<18446744073709551616):Det X o e μ (vUn (a*b)) μ:=by
 have h1:=zOt (X:=X) (μ:=μ) ho hx hy
 rw [←Int.natCast_mul,u64_wrap h] at h1
 exact h1
theorem zNc (ho:o.op=.binOp .add t x y ty) (hx:e x=vUn a) (hy:e y=vUn b) (h:a+b<18446744073709551616):Det X o e μ (vUn (a+b)) μ:=by
 have h1:=zUi (X:=X) (μ:=μ) ho hx hy
 rw [←Int.natCast_add,u64_wrap h] at h1
 exact h1
theorem det_umod (ho:o.op=.binOp .mul t x y ty) (hx:e x=vUn a) (hy:e y=vUn b):Det X o e μ (vUn (a*b%18446744073709551616)) μ:=by
 have h1:=zOt (X:=X) (μ:=μ) ho hx hy
 rw [←Int.natCast_mul,show IntKind.u64.wrap ((a*b:Nat):Int)=((a*b%18446744073709551616:Nat):Int) by rw [IntKind.wrap_u64];omega] at h1
 exact h1
theorem zNb (ho:o.op=.binOp .quo t x y ty) (hx:e x=vUn a) (hy:e y=vUn b) (hb:b≠0/\a<18446744073709551616):Det X o e μ (vUn (a/b)) μ:=by
 have h:=zUh (X:=X) (μ:=μ) ho hx hy (by omega)
 have hle:=Nat.div_le_self a b
 rw [show ((a:Int).tdiv (b:Int))=((a/b:Nat):Int) from rfl,u64_wrap (by omega)] at h
 exact h
theorem det_urem (ho:o.op=.binOp .rem t x y ty) (hx:e x=vUn a) (hy:e y=vUn b) (hb:b≠0):Det X o e μ (vUn (a%b)) μ:=zLt ho hx hy (by omega)
end
end Go.Eng
end
