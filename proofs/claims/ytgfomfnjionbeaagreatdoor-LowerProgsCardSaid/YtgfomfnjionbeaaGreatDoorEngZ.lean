/-
  The engine,part R: an append of a make to the nil slice,cuts of it,capacities,the greatest of four.
  And what the laws need besides.
  Conditions: none.
-/
import Derived.Test.YtgfomfnjionbeaaGreatDoorEngY
import Derived.Lib.AppendZerosOnto
import Derived.Laws.MakeOwn
import Derived.Laws.CopyRow
import Derived.Laws.BytesArg
import Derived.Scope
import Derived.ChangeKeysEq
import Derived.Laws.MathBits
import Derived.Laws.Bits64b
set_option linter.unusedSimpArgs false
set_option linter.unusedVariables false
set_option linter.defProp false
section
namespace Go.Eng
open Go Go.RowKit Go.Lib
def iI (et:nr) (n:Nat) (_:World) (_:Nat->Prop) (o:Obj):Prop:=∃cs:Array Value,o=.cells cs et (0,0)/\cs.size=n
def Heap.dropL {X:Cfg} {w:World} {I:Nat->Prop}:∀{ν μ:List E},Heap X w I (ν++μ)->Heap X w I μ
 |[],_,h=>h
 |_::_,_,h=>Heap.dropL (Heap.tail h)
def Con.drop {X:Cfg} {f:FuncId} {args:List V} {μ μ2:List E} {R:V} (h:Con X f args μ λr μ'=>r=R/\∃ν,μ'=ν++μ2):Con X f args μ λr μ'=>r=R/\μ'=μ2:=by
 intro w I vs hH ha
 refine (h w I vs hH ha).mono ?_
 rintro en w' ⟨v,r,μ',I',h1,⟨h2,ν,rfl⟩,h4,h5,h6⟩
 exact ⟨v,r,μ2,I',h1,⟨h2,rfl⟩,h4,Heap.dropL h5,h6.less λb hb=>by rw [kU];exact aq.2 (.inr hb)⟩
section
variable {X:Cfg} {o:Oper} {e:ns->V} {μ:List E} {t:nr}
def qAi {et:nr} {x:ns} {size bytes:Nat} (ho:o.op=.call { callee:=.builtin .cap,args:= #[x],argTypes:= #[t] }) (ht:dW X.P t=some (et,size,bytes)) (hx:e x=.c (.lit (.slice none 0 0))):Det X o e μ (.c (.lit (.int .i64 0))) μ:=
 kW λa w I hH hops=>by
  obtain ⟨hu,_⟩:=wQ ht
  have hxv:=hops x AC
  rw [hx] at hxv
  have h1:=hxv.lit_inv
  exact ⟨.int .i64 0,by simp [execOp,ho,h1,resolve,invoke,builtin,Builtin.cap_,aK hu,goInt],CRep.lit _ rfl⟩
def qAh {et:nr} {x:ns} {size bytes:Nat} (ho:o.op=.call { callee:=.builtin .len,args:= #[x],argTypes:= #[t] }) (ht:dW X.P t=some (et,size,bytes)) (hx:e x=.c (.lit (.slice none 0 0))):Det X o e μ (.c (.lit (.int .i64 0))) μ:=
 kW λa w I hH hops=>by
  obtain ⟨hu,_⟩:=wQ ht
  have hxv:=hops x AC
  rw [hx] at hxv
  have h1:=hxv.lit_inv
  exact ⟨.int .i64 0,by simp [execOp,ho,h1,resolve,invoke,builtin,Builtin.len_,aK hu,goInt],CRep.lit _ rfl⟩
def EB {et:nr} {x hi:ns} {size bytes:Nat} (ho:o.op=.slice t x none (some hi) none) (ht:dW X.P t=some (et,size,bytes)) (hx:e x=.c (.lit (.slice none 0 0))) (h1:e hi=.c (.lit (.int .i64 0))):Det X o e μ (.c (.lit (.slice none 0 0))) μ:=
 kW λa w I hH hops=>by
  obtain ⟨hu,inf,z,hinf,hz,hs,hby,hzs,hpos⟩:=wQ ht
  have hxv:=hops x qr
  have hhv:=hops hi qr
  rw [hx] at hxv
  rw [h1] at hhv
  have e1:=hxv.lit_inv
  have e2:=hhv.lit_inv
  have hb:∀m code,(Instr.sliceBound (.int .i64 0) m code).run X.P w=.ok 0 w:=λm code=>by simp [Instr.sliceBound,asIntOf]
  exact ⟨.slice none 0 0,by simp [execOp,ho,e1,e2,Instr.sliceAt,Instr.slice,aK hu,Instr.sliceBounds,hb,sizeOf,typeInfo,hinf],CRep.lit _ rfl⟩
def QP {et tn:nr} {x y:ns} {size bytes:Nat} (k:Nat) {i':Int} {kn:IntKind} (ho:o.op=.call { callee:=.builtin .append,args:= #[x,y],argTypes:= #[t,tn] }) (ht:dW X.P t=some (et,size,bytes)) (htn:vJ X.P tn=some kn)
  (hx:e x=.c (.lit (.slice none 0 0))) (hy:e y=.c (.lit (.int .i64 i'))) (hik:i'=(k:Int)) (h0:0<k) (hb:k*bytes<=140737488355328) (hk:k<=140737488355328):
  OpE X o e μ λr μ'=>∃b cap,r=.c (.lit (.slice (some ⟨b,0,none⟩) k cap))/\(k<=cap/\cap<=maxLen)/\μ'=.blk b (iI et (cap*size))::μ:=by
 intro a w I hH hops K Q kk
 obtain ⟨hu,i,z,hi,hz,hs,hby,hzs,hpos⟩:=wQ ht
 have hxv:=hops x AC
 have hyv:=hops y AC
 rw [hx] at hxv
 rw [hy] at hyv
 have e1:=hxv.lit_inv
 have e2:=hyv.lit_inv
 subst hs hby hik
 have htn':X.P.underlying tn=some (.int kn):=by
  unfold vJ at htn
  split at htn
  ·rename_i q hq;simp only [ay] at htn;rw [hq,htn]
  ·cases htn
 have hrun:=run_append_grow_zeros (P:=X.P) w t tn o.type et i z .i64 kn hu htn' hi hz none 0 0 [] (by simp [Builtin.firstCells]) k h0 hpos zB zB zB (by rw [cd,mq h0];omega)
 rw [cd] at hrun
 have hge:=grownCap_ge w k 0 et
 have hcm:grownCap w k 0 et<=maxLen:=me w k 0 et (by simp only [maxLen];omega)
 generalize grownCap w k 0 et=gc at *
 have hH':Heap X w.drew I μ:=by
  refine ⟨hH.lo,X.hG w w.drew (λb hb=>rfl) hH.glob,hH.nodup,hH.own,hH.imm,λen hen=>?_,hH.mono⟩
  have:=hH.rep en hen
  cases en with
  |row b t' cells=>
   obtain ⟨vs,h1,h2⟩:=this
   exact ⟨vs,h1,CReps.mono (w:=w) (w':=w.drew) (I:=I) (I':=I) (λ_ _=>rfl) (λ_ h=>h) h2⟩
  |vec sv t' sz rows=>
   rcases this with h|⟨h1,xs,h2,h3,h4⟩
   ·exact .inl h
   ·exact .inr ⟨h1,xs,h2,CReps.mono (w:=w) (w':=w.drew) (I:=I) (I':=I) (λ_ _=>rfl) (λ_ h=>h) h3,h4⟩
  |blk b R=>
   obtain ⟨ob,h1,h2⟩:=this
   exact ⟨ob,h1,hH.mono _ hen w w.drew I I (λ_ _=>rfl) (λ_ h=>h) _ h2⟩
  |reg bs R=>exact ⟨this.1,hH.mono _ hen w w.drew (λ_ _=>rfl) this.2⟩
  |any bs R=>exact ⟨this.1,hH.mono _ hen w w.drew I I (λ_ _=>rfl) (λ_ h=>h) (λ_ _=>rfl) this.2⟩
 obtain ⟨h1,h2⟩:=Z2 hH' (.cells (([]:List Value).toArray++Builtin.zeroCells z.cells k++Builtin.zeroCells z.cells (gc-k)) et) (.blk w.heap.size (iI et (gc*i.size))) rfl (λ_ _ _ _ _ _ _ h=>h) ⟨_,d8 w.drew _,_,rfl,by
  simp only [nc,size_zeroCells,hzs,<-gl]
  simp only [gt,qw,cd]
  rw [<-gl];congr 1;omega⟩
 have hrun2:(execOp a.eval o).run X.P w=.ok (.value (.slice (some ⟨w.heap.size,0,none⟩) k gc)) (w.drew.alloc (.cells (([]:List Value).toArray++Builtin.zeroCells z.cells k++Builtin.zeroCells z.cells (gc-k)) et)):=by
  simp only [execOp,ho,resolve,invoke,builtin,aW,ba,aI,i9,aG,bt,e1,e2,hrun]
 exact LV hrun2 (kk _ _ _ I _ ⟨w.heap.size,gc,rfl,⟨hge,hcm⟩,rfl⟩ (CRep.lit _ rfl) h1 ⟨h2.os,h2.tape,h2.output,h2.size,h2.block,h2.imm,h2.imm',h2.own'⟩)
def EC {et:nr} {x hi:ns} {size bytes b k cap:Nat} (p:Nat) (ho:o.op=.slice t x none (some hi) none) (ht:dW X.P t=some (et,size,bytes)) (hx:e x=.c (.lit (.slice (some ⟨b,0,none⟩) k cap))) (h1:e hi=.c (.lit (.int .i64 0))) (hp:nth μ p=some (.blk b (iI et (cap*size)))) (hk:0<k/\k<=cap/\cap<=maxLen):
  Det X o e μ (.c (.lit (.slice (some ⟨b,0,none⟩) 0 cap))) (rN μ p (.vec (.slice (some ⟨b,0,none⟩) 0 cap) et size [])):=by
 intro a w I hH hops K Q kk
 obtain ⟨hu,inf,z,hinf,hz,hs,hby,hzs,hpos⟩:=wQ ht
 have hxv:=hops x qr
 have hhv:=hops hi qr
 rw [hx] at hxv
 rw [h1] at hhv
 have e1:=hxv.lit_inv
 have e2:=hhv.lit_inv
 obtain ⟨ob,hob,cs,rfl,hcs⟩:=hH.rep _ (Cc hp)
 have hb:∀m code,(Instr.sliceBound (.int .i64 0) m code).run X.P w=.ok 0 w:=λm code=>by simp [Instr.sliceBound,asIntOf]
 have hrun:(execOp a.eval o).run X.P w=.ok (.value (.slice (some ⟨b,0,none⟩) 0 cap)) w:=by
  simp [execOp,ho,e1,e2,Instr.sliceAt,Instr.slice,aK hu,Instr.sliceBounds,hb,sizeOf,typeInfo,hinf,Addr.add]
 have hblk:(E.vec (.slice (some ⟨b,0,none⟩) 0 cap) et size []).blocks=(E.blk b (iI et (cap*size))).blocks:=by
  obtain ⟨c,rfl⟩:∃c,cap=c+1:=⟨cap-1,zB⟩
  rfl
 have hrep:ERep w I (.vec (.slice (some ⟨b,0,none⟩) 0 cap) et size []):=by
  refine .inr ⟨?_,[],⟨uF,.inr ⟨b,cap,cs,rfl,cb _,hob,cb _,hk.2.2,hcs,uF⟩⟩,.nil,uF⟩
  obtain ⟨c,rfl⟩:∃c,cap=c+1:=⟨cap-1,zB⟩
  simp [BV]
 obtain ⟨hH',hx'⟩:=Heap.write (w':=w) hH (en':=.vec (.slice (some ⟨b,0,none⟩) 0 cap) et size []) hp rfl rfl rfl (aC _) (λ_ _ _=>rfl) (by rw [hblk];simp [E.blocks]) (λb' h=>.inl (by rw [hblk] at h;exact h)) trivial hrep
 exact LV hrun (kk _ _ _ I w ⟨rfl,rfl⟩ (CRep.lit _ rfl) hH' hx')
def Pd {ts:Array nr} {x y u v:ns} {kd:IntKind} {m n p q:Int} (ho:o.op=.call { callee:=.builtin .max,args:= #[x,y,u,v],argTypes:=ts }) (hx:e x=.c (.lit (.int kd m))) (hy:e y=.c (.lit (.int kd n))) (hu:e u=.c (.lit (.int kd p))) (hv:e v=.c (.lit (.int kd q))):Det X o e μ (.c (.lit (.int kd (max (max (max m n) p) q)))) μ:=
 kW λa w I _ hops=>by
  have h1:=hops x AC
  have h2:=hops y AC
  have h3:=hops u AC
  have h4:=hops v AC
  rw [hx] at h1
  rw [hy] at h2
  rw [hu] at h3
  rw [hv] at h4
  refine ⟨.int kd (max (max (max m n) p) q),?_,CRep.lit _ rfl⟩
  have hm:∀a b:Int,(if b>a then b else a)=max a b:=λa b=>by split<;>omega
  have hr:(Builtin.max_ ts o.type #[.int kd m,.int kd n,.int kd p,.int kd q]).run X.P w=.ok (.int kd (max (max (max m n) p) q)) w:=by
   simp only [Builtin.max_,List.foldlM_cons,List.foldlM_nil,Builtin.max2,hm,aW,ba,aI]
  simp [execOp,ho,h1.lit_inv,h2.lit_inv,h3.lit_inv,h4.lit_inv,resolve,invoke,builtin,hr]
end
end Go.Eng
end
section
namespace Go.Eng
open Go Go.RowKit
section drawq
variable {X:Cfg} {n:Nat} {z:Z} {Q:Exit->S->Prop} {regs:List (Nat×V)} {μ:List E} {l:List Oper} {m:Nat}
set_option maxHeartbeats 2000000 in
def EI {z1:Z} (hz:ZLe z z1) (ok:DrawOk l m) (hml:m<=l.length) (hdst:l.all (dstOk n)=true) {rs:List V} (hrs:rs.length=m) {regsF:List (Nat×V)} (hFF:∀t,bJ regsF t=bL (l.take m) rs (λ_=>true) (bJ regs t) t)
  (hk:oX X n z l.toArray (l.drop m) Q ⟨regsF,μ⟩):∀(fuel:Nat) (listed:Array Bool) (a:Act) (w:World) (I:Nat->Prop),listed.size=l.length->B2 listed=fuel->(∀i,m<=i->i<l.length->listed.getD i true=false)->
   (∀(j:Nat) o,l[j]? =some o->listed.getD j true=true->∀e,e∈o.after->Region.binds .any e=true->listed.getD e.on false=true)->
   (∀(i:Nat) o r,(l.take m)[i]? =some o->rs[i]? =some r->listed.getD i true=false->mW X n l.toArray o (dA ((l.take m).take i) (rs.take i) regs) μ r)->
   Heap X w I μ->(∀t,VRep w I (bL (l.take m) rs (λi=>listed.getD i true) (bJ regs t) t) (a.tmps.getD t undef))->Ext z1.w z1.I z1.μ w I μ->a.defers=z1.ds->a.tmps.size=n->
   wpAnyIn (se z.rd) 0 X.P .any l.toArray (dY X n z1 Q) fuel listed a w:=by
 intro fuel
 induction fuel with
 |zero=>
  intro listed a w I hsz hun htail hclo hg hH hR hx hd hs
  have hall:∀i,i<l.length->listed.getD i true=true:=by
   intro i hi
   cases hb:listed.getD i true with
   |true=>rfl
   |false=>have:=OD hb;omega
  have hml':m=l.length:=by
   rcases bz m l.length with h|h
   ·have h1:=htail m (aC _) h;rw [hall m h] at h1;cases h1
   ·omega
  refine SZ ok 0 l.length listed a w hsz hml (aC _) (λi hi=>by rw [hall i hi];simp [hi]) zB ?_
  have hreg:∀t,VRep w I (bJ regsF t) (a.tmps.getD t undef):=by
   intro t
   rw [hFF t]
   have:=hR t
   rwa [wP (g:=λ_=>true) (λi o ho _=>by
    have hlt:i<m:=by have:=(af.1 ho).1;simp at this;omega
    rw [hall i zB])] at this
  have:=hk (by rw [hml'];simp) z1 hz a w ⟨I,hH,hreg,hx,hd,hs⟩
  rwa [hml'] at this
 |succ fuel ih=>
  intro listed a w I hsz hun htail hclo hg hH hR hx hd hs
  by_cases hq:∀i,i<m->listed.getD i true=true
  ·-- all quiet ones have run
   refine SZ ok (fuel+1) m listed a w hsz (aC _) hml (λi hi=>?_) ?_ ?_
   ·by_cases him:i<m
    ·rw [hq i him];simp [him]
    ·rw [htail i zB hi];simp [him]
   ·-- the number that is left
    exact s6
   ·have hreg:∀t,VRep w I (bJ regsF t) (a.tmps.getD t undef):=by
     intro t
     rw [hFF t]
     have:=hR t
     rwa [wP (g:=λ_=>true) (λi o ho _=>by
      have hlt:i<m:=by have:=(af.1 ho).1;simp at this;omega
      rw [hq i hlt])] at this
    exact hk (by
     rw [rl] at hdst⊢
     exact λo ho=>hdst o (Yt ho)) z1 hz a w ⟨I,hH,hreg,hx,hd,hs⟩
  ·-- a quiet one is left
   have hex:∃i,i<m/\listed.getD i true=false/\∀j,j<i->listed.getD j true=true:=by
    exact j7
   obtain ⟨i0,hi0,hb0,hmin⟩:=hex
   refine ⟨λhnil=>?_,λi hi=>?_⟩
   ·exact s7
   ·rw [fw] at hi
    obtain ⟨hbi,o,ho,hedge⟩:=hi
    have ho':l[i]? =some o:=by simpa using ho
    have hil:i<l.length:=(af.1 ho').1
    have him:i<m:=by
     exact l7
    have hot:(l.take m)[i]? =some o:=by rw [az,ab him];exact ho'
    obtain ⟨r,hr⟩:∃r,rs[i]? =some r:=⟨rs[i]'zB,ak _⟩
    have hG:=hg i o r hot hr hbi
    have hlook:∀t,t∈o.looksAt l.toArray->VRep w I (bJ (dA ((l.take m).take i) (rs.take i) regs) t) (a.tmps.getD t undef):=by
     exact p9
    have hdo:dstOk n o=true:=by
     exact v75
    simp only [wpOpIn,ho]
    have step:∀v I' w',VRep w' I' r v->Heap X w' I' μ->Ext w I μ w' I' μ->wpAnyIn (se z.rd) 0 X.P .any l.toArray (dY X n z1 Q) fuel (listed.setIfInBounds i true) (a.put o.dst v) w':=by
     intro v I' w' hv hH' hx'
     have hu:=OD hbi
     refine ih (listed.setIfInBounds i true) _ w' I' Sj zB (λj hj hjl=>?_) (λj oj hoj hb e he1 he3=>?_) (λj oj rj h1 h2 h3=>hg j oj rj h1 h2 (by
      by_cases hji:j=i
      ·subst hji;exact hbi
      ·rwa [fg true (eg hji)] at h3)) hH' (λt=>?_) (hx.trans hx') ?_ ?_
     ·rw [fg true zB];exact htail j hj hjl
     ·exact v6
     ·have hvs:=Z3 (t:=t) (l:=l.take m) (rs:=rs) (f:=λj=>listed.getD j true) (d:=bJ regs t) hot hr (λj o' hj hne hnn=>by
       have hjm:j<m:=by have:=(af.1 hj).1;simp at this;omega
       exact ok.own i o ho' him j o' xV4 hjm hne hnn)
      have e1:(λj=>(listed.setIfInBounds i true).getD j true)=(λj=>if j=i then true else listed.getD j true):=by
       funext j
       exact m5
      have e2:(λj=>if j=i then false else listed.getD j true)=(λj=>listed.getD j true):=by
       funext j
       exact v61
      rw [e1,hvs,e2]
      cases hod:o.dst with
      |none=>
       rw [aa uF]
       exact hH.vrep hx' (hR t)
      |some d=>
       exact o4
     ·cases hod:o.dst<;>simp [Act.put,hd]
     ·cases hod:o.dst<;>simp [Act.put,hs]
    exact o8
end drawq
def P2 (X:Cfg) (n:Nat) (z z1:Z) (Q:Exit->S->Prop) (regs:List (Nat×V)) (l:List Oper) (s:Nat) (ks:List Kd) (rs1:List V) (μ1:List E):Prop:=
 ∀(fuel:Nat) (listed:Array Bool) (a:Act) (w:World) (I:Nat->Prop),listed.size=l.length->B2 listed=fuel->(∀i,s+1<=i->i<l.length->listed.getD i true=false)->rL l listed->listed.getD s true=true->(∀i,i<s->(kd ks i).fl=false->listed.getD i true=true)->
  Heap X w I μ1->(∀t,VRep w I (bL (l.take (s+1)) rs1 (λi=>listed.getD i true) (bJ regs t) t) (a.tmps.getD t undef))->Ext z1.w z1.I z1.μ w I μ1->a.defers=z1.ds->a.tmps.size=n->
  wpAnyIn (se z.rd) 0 X.P .any l.toArray (dY X n z1 Q) fuel listed a w
section drawg
variable {X:Cfg} {n:Nat} {z:Z} {Q:Exit->S->Prop} {regs:List (Nat×V)} {μ:List E} {l:List Oper} {s:Nat} {M:List E->Prop} {ks:List Kd}
set_option maxHeartbeats 2000000 in
def XK {z1:Z} {e:Nat} (ok:DrawOk l e) (hse:s<e) (hsl:s<l.length) (hdst:l.all (dstOk n)=true) (htlS:∀i,s<i->i<e->mN l 40 i s=true) {os:Oper} (hos:l[s]? =some os) (hgS:os.guard=none) (hkl:ks.length=s) (hedS:∀i,i<s->(kd ks i).fl=false->mN l 40 s i=true)
  (hlk:∀(i:Nat) o,l[i]? =some o->i<s->((kd ks i).fr=true->o.guard=none)/\∀t,t∈o.looksAt l.toArray->∀(j:Nat) o',l[j]? =some o'->j<s->o'.dst=some t->(kd ks j).fr=false/\((kd ks i).fr=true->j<i))
  {qs:List V} (hqs:qs.length=s) (hq:∀(i:Nat) o r,(l.take s)[i]? =some o->qs[i]? =some r->(kd ks i).fr=false->mW X n l.toArray o (fZ ((l.take s).take i) (ks.take i) (qs.take i) regs) μ r)
  {Rfs:List (V->E->Prop)} (hRl:Rfs.length=s) (hF:∀(i:Nat) o Rf,(l.take s)[i]? =some o->Rfs[i]? =some Rf->(kd ks i).fr=true->rK X o (ev (fZ (l.take s) ks qs regs)) Rf)
  (hC:∀(rs:List V) (es:List E),rs.length=s->es.length=s->(∀i,i<s->(kd ks i).fr=false->rs[i]? =qs[i]?)->(∀t,bJ (mA (l.take s) ks rs (fZ (l.take s) ks qs regs)) t=bL (l.take s) rs (λ_=>true) (bJ regs t) t)->(∀(i:Nat) r en Rf,rs[i]? =some r->es[i]? =some en->Rfs[i]? =some Rf->(kd ks i).fr=true->Rf r en)->
   ∃R,OpE X os (ev (mA (l.take s) ks rs (fZ (l.take s) ks qs regs))) (nS ks es μ) R/\∀r μ1,R r μ1->P2 X n z z1 Q regs l s ks (rs++[r]) μ1):
  ∀(fuel:Nat) (listed:Array Bool) (a:Act) (w:World) (I:Nat->Prop) (rs:List V) (es:List E) (μc:List E),listed.size=l.length->B2 listed=fuel->(∀i,s+1<=i->i<l.length->listed.getD i true=false)->rL l listed->rs.length=s+1->es.length=s->
   (∀i,i<s->(kd ks i).fr=false->rs[i]? =qs[i]?)->
   (∀(i:Nat) Rf,i<s->(kd ks i).fr=true->listed.getD i true=true->Rfs[i]? =some Rf->∃r en,rs[i]? =some r/\es[i]? =some en/\Rf r en)->
   listed.getD s true=false->μc.Perm (nY ks es (λi=>listed.getD i true)++μ)->
   Heap X w I μc->(∀t,VRep w I (bL (l.take (s+1)) rs (λi=>listed.getD i true) (bJ regs t) t) (a.tmps.getD t undef))->Ext z1.w z1.I z1.μ w I μc->a.defers=z1.ds->a.tmps.size=n->
   wpAnyIn (se z.rd) 0 X.P .any l.toArray (dY X n z1 Q) fuel listed a w:=by
 have hts:l.take (s+1)=l.take s++[os]:=yB hos
 have htl:(l.take (s+1)).length=s+1:=by simp;omega
 have hone:eH (l.take (s+1)):=by
  intro i o ho j o' ho' hne hnn
  have hi:i<s+1:=by have:=(af.1 ho).1;simp at this;omega
  have hj:j<s+1:=by have:=(af.1 ho').1;simp at this;omega
  rw [az,ab hi] at ho
  rw [az,ab hj] at ho'
  exact ok.own i o ho zB j o' ho' zB hne hnn
 intro fuel
 induction fuel with
 |zero=>
  intro listed a w I rs es μc hsz hun htail hclo hrs hes hqr hfr hbs hl0 hH hR hx hd hs
  have:=OD hbs
  omega
 |succ fuel ih=>
  intro listed a w I rs es μc hsz hun htail hclo hrs hes hqr hfr hbs hl0 hH hR hx hd hs
  by_cases hqa:∀i,i<s+1->listed.getD i true=true
  ·rw [hqa s zB] at hbs;cases hbs
  ·have hex:∃i,i<s+1/\listed.getD i true=false/\∀j,j<i->listed.getD j true=true:=by
    have:∃i,i<s+1/\listed.getD i true=false:=by
     rcases fv.1 hqa with ⟨i,hi⟩
     exact v26
    exact k7
   obtain ⟨i0,hi0,hb0,hmin⟩:=hex
   refine ⟨λhnil=>?_,λi hi=>?_⟩
   ·exact s7
   ·rw [fw] at hi
    obtain ⟨hbi,o,ho,hedge⟩:=hi
    have ho':l[i]? =some o:=by simpa using ho
    have hil:i<l.length:=(af.1 ho').1
    have hunl:∀j,j<l.length->listed.getD j true=false->¬listed.getD j false=true:=λj hj h1 h2=>by
     exact j9
    have him:i<s+1:=by
     rcases bz i (s+1) with h|h
     ·exact h
     ·exfalso
      rcases bz i e with hie|hie
      ·exact hunl s hsl hbs (ST hclo ho' hedge (htlS i zB hie))
      ·rcases bz e i with hgt|hge
       ·obtain ⟨e',he1,he2,he3⟩:=ok.tail1 i o ho' hgt
        have h1:=hedge e' he1 he3
        rw [he2] at h1
        exact hunl (i-1) zB (htail (i-1) zB zB) h1
       ·have him:i=e:=by omega
        subst him
        exact hunl s hsl hbs (ST hclo ho' hedge (ok.tail0 o ho' s hse))
    have hot:(l.take (s+1))[i]? =some o:=by rw [az,ab him];exact ho'
    have hwr:∀t,t∈o.looksAt l.toArray->∀(j:Nat) oj,(l.take (s+1))[j]? =some oj->oj.dst=some t->(j<i/\listed.getD j true=true)∨(i<j/\listed.getD j true=false):=by
     intro t ht j oj hoj hdj
     have hjm:j<s+1:=by have:=(af.1 hoj).1;simp at this;omega
     have hoj':l[j]? =some oj:=by rw [az,ab hjm] at hoj;exact hoj
     rcases ok.looks i o ho' zB t ht j oj hoj' zB hdj with ⟨hji,e,he1,he2,he3⟩|⟨hij,e,he1,he2,he3⟩
     ·have h1:=hedge e he1 he3
      rw [he2] at h1
      exact .inl ⟨hji,zPq h1⟩
     ·refine .inr ⟨hij,?_⟩
      cases hb:listed.getD j true with
      |false=>rfl
      |true=>
       exfalso
       have h1:=hclo j oj hoj' hb e he1 he3
       rw [he2] at h1
       exact hunl i hil hbi h1
    have hdo:dstOk n o=true:=by
     exact v75
    simp only [wpOpIn,ho]
    have hget:∀j,(listed.setIfInBounds i true).getD j true=if j=i then true else listed.getD j true:=by
     intro j
     exact m5
    have hclo':rL l (listed.setIfInBounds i true):=by
     intro j oj hoj hb e he1 he3
     exact v6
    have hu:=OD hbi
    have htail':∀j,s+1<=j->j<l.length->(listed.setIfInBounds i true).getD j true=false:=λj hj hjl=>by rw [fg true zB];exact htail j hj hjl
    have hregs:∀(r v:_) (I':Nat->Prop) (w':World) (μ':List E),VRep w' I' r v->Ext w I μc w' I' μ'->∀t,VRep w' I' (bL (l.take (s+1)) (rs.set i r) (λj=>(listed.setIfInBounds i true).getD j true) (bJ regs t) t) ((a.put o.dst v).tmps.getD t undef):=by
     intro r v I' w' μ' hv hx' t
     have hr:(rs.set i r)[i]? =some r:=by rw [bc zB]
     have hvs:=Z3 (t:=t) (l:=l.take (s+1)) (rs:=rs.set i r) (f:=λj=>listed.getD j true) (d:=bJ regs t) hot hr (λj o' hj hne hnn=>hone i o hot j o' hj hne hnn)
     have e1:(λj=>(listed.setIfInBounds i true).getD j true)=(λj=>if j=i then true else listed.getD j true):=funext hget
     have e2:(λj=>if j=i then false else listed.getD j true)=(λj=>listed.getD j true):=by
      funext j
      exact v61
     rw [e1,hvs,e2,zXc (by exact hbi)]
     cases hod:o.dst with
     |none=>
      rw [aa uF]
      exact hH.vrep hx' (hR t)
     |some d=>
      exact o4
    have hdf':∀v,(a.put o.dst v).defers=z1.ds:=λv=>by cases hod:o.dst<;>simp [Act.put,hd]
    have hsz':∀v,(a.put o.dst v).tmps.size=n:=λv=>by cases hod:o.dst<;>simp [Act.put,hs]
    have hqset:∀(r:V),((kd ks i).fr=false->i<s->rs[i]? =some r)->∀j,j<s->(kd ks j).fr=false->(rs.set i r)[j]? =qs[j]?:=by
     intro r hr j hj hkj
     by_cases hji:j=i
     ·subst hji;rw [bc zB,<-hqr j hj hkj,hr hkj hj]
     ·rw [cx (eg hji)];exact hqr j hj hkj
    rcases bz i s with his|his
    ·-- one of the free ones
     have hns:i≠s:=by omega
     have hkeep1:(listed.setIfInBounds i true).getD s true=listed.getD s true:=by rw [hget s,aa (eg hns)]
     have hotS:(l.take s)[i]? =some o:=by rw [az,ab his];exact ho'
     obtain ⟨hlk1,hlk2⟩:=hlk i o ho' his
     have hrsi:∃r,rs[i]? =some r:=⟨rs[i]'zB,ak _⟩
     cases hk:(kd ks i).fr with
     |false=>
      obtain ⟨r,hr⟩:∃r,qs[i]? =some r:=⟨qs[i]'zB,ak _⟩
      have hri:rs[i]? =some r:=(hqr i his hk).trans hr
      have hG:mW X n l.toArray o (fZ ((l.take s).take i) (ks.take i) (qs.take i) regs) μc r:=xd (hq i o r hotS hr hk) hl0
      have hlook:∀t,t∈o.looksAt l.toArray->VRep w I (bJ (fZ ((l.take s).take i) (ks.take i) (qs.take i) regs) t) (a.tmps.getD t undef):=by
       exact r7
      have step:∀v I' w',VRep w' I' r v->Heap X w' I' μc->Ext w I μc w' I' μc->wpAnyIn (se z.rd) 0 X.P .any l.toArray (dY X n z1 Q) fuel (listed.setIfInBounds i true) (a.put o.dst v) w':=by
       intro v I' w' hv hH' hx'
       have eset:rs.set i r=rs:=by
        apply ej
        intro j
        by_cases hji:i=j
        ·subst hji;rw [bc zB,hri]
        ·rw [cx hji]
       have hrg:=hregs r v I' w' μc hv hx'
       rw [eset] at hrg
       refine ih (listed.setIfInBounds i true) _ w' I' rs es μc Sj zB htail' hclo' hrs hes hqr ?_ (by rw [hkeep1];exact hbs) ?_ hH' hrg (hx.trans hx') (hdf' v) (hsz' v)
       ·intro j Rf hj hkj hlj hRj
        rw [hget j] at hlj
        by_cases hji:j=i
        ·subst hji;rw [hk] at hkj;cases hkj
        ·rw [aa hji] at hlj;exact hfr j Rf hj hkj hlj hRj
       ·rw [zKx (g:=λj=>listed.getD j true) (λj hj hkj=>by
         rw [hget j]
         by_cases hji:j=i
         ·subst hji;rw [hk] at hkj;cases hkj
         ·rw [aa hji])]
        exact hl0
      exact o8
     |true=>
      obtain ⟨Rf,hRf⟩:∃Rf,Rfs[i]? =some Rf:=⟨Rfs[i]'zB,ak _⟩
      have hfresh:=hF i o Rf hotS hRf hk
      have hlook:∀t,t∈o.looksAt l.toArray->VRep w I (bJ (fZ (l.take s) ks qs regs) t) (a.tmps.getD t undef):=by
       exact r5
      rw [ab (by simp [Region.wanted,hlk1 hk])]
      refine (OpE.frame hfresh μc) a w I hH (zKw hlook) _ _ ?_ (dstOk.nd hdo) _
      rintro v r μ' I' w' ⟨μ'',⟨en,hRv,rfl⟩,rfl⟩ hv hH' hx'
      refine ih (listed.setIfInBounds i true) _ w' I' (rs.set i r) (es.set i en) _ Sj zB htail' hclo' (by simp [hrs]) (by simp [hes]) (hqset r (λh=>by rw [hk] at h;cases h)) ?_ (by rw [hkeep1];exact hbs) ?_ hH' (hregs r v I' w' _ hv hx') (hx.trans hx') (hdf' v) (hsz' v)
      ·exact v13
      ·rw [show (λj=>(listed.setIfInBounds i true).getD j true)=(λj=>if j=i then true else listed.getD j true) from funext hget]
       refine List.Perm.trans ?_ (lu μ (AZ (en:=en) zB hk hbi)).symm
       exact List.Perm.cons en hl0
    ·-- the one that changes memory
     have hie:i=s:=by omega
     subst hie
     have eo:o=os:=by rw [ho'] at hos;exact Option.some.inj hos
     subst eo
     have hP:=hl0
     have hfall:∀j,j<i->(kd ks j).fr=true->listed.getD j true=true:=λj hj hkj=>by
      have hfl:(kd ks j).fl=false:=by unfold Kd.fr at hkj;unfold Kd.fl;cases h:kd ks j<;>rw [h] at hkj<;>simp_all
      exact zPq (ST hclo ho' hedge (hedS j hj hfl))
     have hE:(nY ks es (λj=>listed.getD j true)++μ).Perm (nS ks es μ):=by
      rw [zKx (g:=λ_=>true) (λj hj hkj=>hfall j zB hkj)]
      exact AY zB
     have hμ:μc.Perm (nS ks es μ):=hP.trans hE
     have hlF:∀t,bJ (mA (l.take i) ks (rs.take i) (fZ (l.take i) ks qs regs)) t=bL (l.take i) (rs.take i) (λ_=>true) (bJ regs t) t:=by
      exact p5
     obtain ⟨R,hOp,hK⟩:=hC (rs.take i) es uD hes (λj hj hkj=>by rw [az,ab hj];exact hqr j hj hkj) hlF (λj r en Rf h1 h2 h3 h4=>by
      have hj:j<i:=by have:=(af.1 h2).1;omega
      obtain ⟨r',en',k1,k2,k3⟩:=hfr j Rf hj h4 (hfall j hj h4) h3
      rw [az,ab hj,k1] at h1;cases h1
      rw [k2] at h2;cases h2
      exact k3)
     have hlook:∀t,t∈o.looksAt l.toArray->VRep w I (bJ (mA (l.take i) ks (rs.take i) (fZ (l.take i) ks qs regs)) t) (a.tmps.getD t undef):=by
      exact s8
     rw [ab (by simp [Region.wanted,hgS])]
     refine hOp a w I (hH.perm hμ) (zKw hlook) _ _ ?_ (dstOk.nd hdo) _
     intro v r μ' I' w' hr hv hH' hx'
     have hx'':Ext w I μc w' I' μ':=hx'.perm hμ.symm (bb _)
     have e1:rs.set i r=rs.take i++[r]:=by
      rw [ez,ab zB,cl zB]
     have hrg:=hregs r v I' w' _ hv hx''
     rw [e1] at hrg
     exact hK r μ' hr fuel (listed.setIfInBounds i true) _ w' I' Sj zB htail' hclo' (by rw [hget i,ab rfl]) (λj hj hfl=>by rw [hget j,aa zB];exact zPq (ST hclo ho' hedge (hedS j hj hfl))) hH' hrg (hx.trans hx'') (hdf' v) (hsz' v)
end drawg
variable {X:Cfg} {n:Nat} {r:V}
def Bc {ops:Array Oper} {o:Oper} {regs regs':List (Nat×V)} {μ:List E} (h:mW X n ops o regs μ r) (he:∀t,t∈o.looksAt ops->bJ regs t=bJ regs' t):mW X n ops o regs' μ r:=by
 intro a w I hH hl
 exact h a w I hH λt ht=>by rw [he t ht];exact hl t ht
def zHk:∀{A B:List Oper} {ra rb:List V} {regs:List (Nat×V)},ra.length=A.length->dA (A++B) (ra++rb) regs=dA B rb (dA A ra regs)
 |[],B,[],rb,regs,_=>by simp [dA]
 |_::A,B,_::ra,rb,regs,h=>by simp only [xn,dA];exact zHk tk
 |[],_,_::_,_,_,h=>by simp at h
 |_::_,_,[],_,_,h=>by simp at h
def zPm {t:Nat}:∀{A:List Oper} {ra:List V} {regs regs':List (Nat×V)},(bJ regs t=bJ regs' t)->bJ (dA A ra regs) t=bJ (dA A ra regs') t
 |[],_,_,_,h=>by simpa [dA] using h
 |o::A,[],_,_,h=>by simpa [dA] using h
 |o::A,r::ra,regs,regs',h=>by
  simp only [dA]
  refine zPm ?_
  rw [Z9,Z9,h]
def zMy {t:Nat} {A:List Oper} {ra:List V} {regs:List (Nat×V)} (h:ra.length=A.length):bJ (dA A ra regs) t=bL A ra (λ_=>true) (bJ regs t) t:=by
 have e:=VF (l:=A) (rs:=ra) (regs:=regs) (t:=t) A.length
 rw [kg,aE zB] at e
 rw [e]
 exact wP λi o ho _=>by
  have:=(af.1 ho).1
  simp [this]
def fl_fr (k:Kd) (h:k.fl=true):k.fr=false:=by cases k<;>first|rfl|cases h
def tT (l:List Oper) (s e:Nat) (ks:List Kd):Bool:=
 pS l e&&(List.range s).all (λi=>(kd ks i).fl||mN l 40 s i)&&tD l s ks&&Nat.beq ks.length s&&Nat.blt s e&&Nat.ble e l.length&&(List.range e).all (λi=>Nat.ble i s||mN l 40 i s)
set_option maxHeartbeats 2000000 in
def Ht {z:Z} {Q:Exit->S->Prop} {regs:List (Nat×V)} {μ:List E} {l:List Oper} {id:Nat} (s e:Nat) (ks:List Kd) (M:List E->Prop) {os:Oper} (hm:X.P.follows .mixedOrders=true) (hchk:tT l s e ks=true) (hos:nth l s=some os) (hgS:os.guard=none) (hd:l.all (dstOk n)=true) (h:TDq X n l.toArray M μ (l.take s) ks regs λregs'=>TDf X regs' (l.take s) ks [] λacc=>AllCh acc regs' μ λregs'' μ''=>∃R,OpE X os (ev regs'') μ'' R/\(∀r μ1,R r μ1->M μ1)/\∀r μ1,R r μ1->TD X n l.toArray μ1 ((l.take e).drop (s+1)) (lF os.dst r regs'') λregsE=>oX X n z l.toArray (l.drop e) Q ⟨regsE,μ1⟩):oU X n z (.region id l.toArray true) Q ⟨regs,μ⟩:=by
 intro z1 hz a w st
 obtain ⟨I,hH,hR,hx,hdf,hs⟩:=st.drew
 rw [Hb] at hos
 have hsl:s<l.length:=(af.1 hos).1
 simp only [tT,ae] at hchk
 obtain ⟨⟨⟨⟨⟨⟨hc1,hc2⟩,hc3⟩,hc4⟩,hc5⟩,hc6⟩,hc7⟩:=hchk
 have hkl:ks.length=s:=bj hc4
 have hse:s<e:=by simpa [cr] using hc5
 have hel:e<=l.length:=ci hc6
 have ok:DrawOk l e:=wk hc1
 obtain ⟨qs,h1,h2,h3⟩:=h.parts uD
 obtain ⟨Rfs,h4,h5,more,h6,h7⟩:=h3.parts uD
 have hts:(l.take s).length=s:=by simp;omega
 have hedS:∀i,i<s->(kd ks i).fl=false->mN l 40 s i=true:=λi hi hu=>by
  have:=aT.1 hc2 i (cw.2 hi)
  rwa [hu,dq] at this
 have hts1:l.take (s+1)=l.take s++[os]:=yB hos
 have hcut:l.take e=l.take s++[os]++(l.take e).drop (s+1):=by
  rw [<-hts1]
  have:=aZ (s+1) (l.take e)
  rw [cz,bg zB] at this
  exact this.symm
 refine ie hm ?_
 refine XK (z1:=z1) (e:=e) (regs:=regs) (μ:=μ) (ks:=ks) ok hse hsl hd (λi h1 h2=>?_) hos hgS hkl hedS (λi o ho hi=>zMz hc3 ho hi) (qs:=qs) zB (λi o r h1 h3 h4=>(h2 i o r h1 h3 h4).1) (Rfs:=Rfs) zB h5
  (λrs es hr he hqr hlF hall=>?_) _ _ a _ I (qs++[.un]) (List.replicate s (.blk 0 λ_ _ _=>True)) μ uF ?_ (λi _ hi=>by simp [hi]) (λj o ho hb=>by
   have hlt:j<l.length:=(af.1 ho).1
   simp [hlt] at hb) uD uF (λi hi _=>aV zB) (λi Rf hi _ hb=>by
   simp [show i<l.length by omega] at hb) (by simp [hsl]) ?_ hH (λt=>?_) hx hdf hs
 ·have:=aT.1 hc7 i (cw.2 h2)
  rw [aD] at this
  rcases this with h|h
  ·have:=ci h;omega
  ·exact h
 ·obtain ⟨R,hOp,hRM,hK⟩:=h7 (rs:=rs) (es:=es) zB zB hall h6
  refine ⟨R,hOp,λr μ1 hrr=>?_⟩
  have hM:=hRM r μ1 hrr
  obtain ⟨us,hul,hug,huk⟩:=(hK r μ1 hrr).parts
  have hul':us.length=e-(s+1):=by rw [hul];simp;omega
  have hlen:(rs++[r]++us).length=e:=by simp;omega
  have hA:(rs++[r]).length=(l.take s++[os]).length:=by simp;omega
  have hmid:∀t,bJ (dA (l.take s++[os]) (rs++[r]) regs) t=bJ (lF os.dst r (mA (l.take s) ks rs (fZ (l.take s) ks qs regs))) t:=λt=>by
   rw [zHk zB];simp only [dA];rw [Z9,Z9,zMy zB,hlF t]
  intro fuel listed a w I hsz hun htail hclo hls hfl hH hR hx hd' hs
  refine EI (z1:=z1) hz ok hel hd (rs:=rs++[r]++us) hlen (regs:=regs) (regsF:=dA ((l.take e).drop (s+1)) us (lF os.dst r (mA (l.take s) ks rs (fZ (l.take s) ks qs regs)))) (λt=>?_) huk fuel listed a w I hsz hun (λi h1 h2=>htail i zB h2) hclo (λi o r' ho hr' hb=>?_) hH (λt=>?_) hx hd' hs
  ·rw [<-zMy (by rw [hlen];simp;omega)]
   conv=>rhs;rw [hcut]
   rw [zHk hA]
   exact zPm (hmid t).symm
  ·have hi:i<e:=by have:=(af.1 ho).1;simp at this;omega
   have ho':l[i]? =some o:=by rw [az,ab hi] at ho;exact ho
   rcases Nat.lt_trichotomy i s with his|his|his
   ·-- a float
    have hfu:(kd ks i).fl=true:=by
     cases c:(kd ks i).fl with
     |true=>rfl
     |false=>rw [hfl i his c] at hb;cases hb
    have hfr0:(kd ks i).fr=false:=fl_fr _ hfu
    have hoS:(l.take s)[i]? =some o:=by rw [az,ab his];exact ho'
    have hrq:qs[i]? =some r':=by
     rw [aV uD,aV zB,hqr i his hfr0] at hr'
     exact hr'
    refine Bc ((h2 i o r' hoS hrq hfr0).2 hfu μ1 hM) λt ht=>?_
    have e1:=zFb (t:=t) (l:=l.take s) (ks:=ks) (rs:=qs) (regs:=regs) i zB
    rw [e1]
    have e2:=VF (l:=l.take s) (rs:=rs) (regs:=regs) (t:=t) i
    have e3:(l.take e).take i=(l.take s).take i:=by rw [cz,cz,bg zB,bg zB]
    have e4:(rs++[r]++us).take i=rs.take i:=by rw [tu,cq zB]
    rw [e3,e4,e2]
    refine zCm zB zB λj oj hoj hdj=>?_
    have hj:j<s:=by have:=(af.1 hoj).1;omega
    have hoj':l[j]? =some oj:=by rw [az,ab hj] at hoj;exact hoj
    have hkj:=((zMz hc3 ho' his).2 t ht j oj hoj' hj hdj).1
    exact ⟨by simp [hkj],λ_=>(hqr j hj hkj).symm⟩
   ·subst his;rw [hls] at hb;cases hb
   ·-- one of the tail
    have hj:((l.take e).drop (s+1))[i-(s+1)]? =some o:=by rw [ew,show s+1+(i-(s+1))=i by omega];exact ho
    have hu:us[i-(s+1)]? =some r':=by
     rw [da uD] at hr'
     rw [<-hr'];congr 1;simp;omega
    refine Bc (hug _ o r' hj hu) λt _=>?_
    have e3:(l.take e).take i=l.take s++[os]++((l.take e).drop (s+1)).take (i-(s+1)):=by
     conv=>lhs;rw [hcut]
     rw [g8,aE uD]
     congr 2;simp;omega
    have e4:(rs++[r]++us).take i=rs++[r]++us.take (i-(s+1)):=by
     rw [g8,aE uD]
     congr 2;simp;omega
    rw [e3,e4,zHk hA]
    exact zPm (hmid t).symm
  ·have:=hR t
   have key:bL (l.take e) (rs++[r]++us) (λi=>listed.getD i true) (bJ regs t) t=bL (l.take (s+1)) (rs++[r]) (λi=>listed.getD i true) (bJ regs t) t:=by
    rw [hts1,hcut]
    have app:∀(A B:List Oper) (ra rb:List V) (f:Nat->Bool) (d:V),ra.length=A.length->(∀i,A.length<=i->i<A.length+B.length->f i=false)->bL (A++B) (ra++rb) f d t=bL A ra f d t:=by
     intro A
     induction A with
     |nil=>
      intro B ra rb f d h1 h2
      cases ra with
      |nil=>
       simp only [D6,bL]
       exact WU λi o ho hf=>by
        have:=(af.1 ho).1
        rw [h2 i uF (by simpa using this)] at hf;cases hf
      |cons _ _=>simp at h1
     |cons x A ihA=>
      intro B ra rb f d h1 h2
      cases ra with
      |nil=>simp at h1
      |cons y ra=>
       simp only [xn,bL]
       exact ihA B ra rb _ _ xZ9 λi h3 h4=>h2 (i+1) uD uD
    refine app _ _ _ _ _ _ hA λi h3 h4=>htail i (by simp at h3;omega) ?_
    simp at h3 h4;omega
   rw [key];exact this
 ·unfold B2
  simp
 ·rw [wm (λi hi=>by simp at hi;simp [show i<l.length by omega])]
  exact bb _
 ·exact v14
def qAt {z:Z} {Q:Exit->S->Prop} {regs:List (Nat×V)} {μ:List E} {l:List Oper} {id:Nat} (s e:Nat) (ks:List Kd) {os:Oper} (hm:X.P.follows .mixedOrders=true) (hchk:tT l s e ks=true) (hos:nth l s=some os) (hgS:os.guard=none) (hd:l.all (dstOk n)=true) (h:TDq X n l.toArray (cE μ) μ (l.take s) ks regs λregs'=>TDf X regs' (l.take s) ks [] λacc=>AllCh acc regs' μ λregs'' μ''=>∃R,OpE X os (ev regs'') μ'' R/\(∀r μ1,R r μ1->cE μ μ1)/\∀r μ1,R r μ1->TD X n l.toArray μ1 ((l.take e).drop (s+1)) (lF os.dst r regs'') λregsE=>oX X n z l.toArray (l.drop e) Q ⟨regsE,μ1⟩):oU X n z (.region id l.toArray true) Q ⟨regs,μ⟩:=
 Ht s e ks (cE μ) hm hchk hos hgS hd h
open Go.Lib
section
variable {X:Cfg} {o:Oper} {e:ns->V} {μ:List E} {t:nr} {α:Type} {f:α->List C} {l:List α}
def ZZ {et:nr} {size bytes k:Nat} {x hi:ns} (ho:o.op=.slice t x none (some hi) none) (ht:dW X.P t=some (et,size,bytes)) (hx:e x=.c (.sl size (l.map f))) (h2:e hi=.c (.lit (.int .i64 k))) (hk:k<=l.length):
  Det X o e μ (.c (.sl size ((l.take k).map f))) μ:=by
 have h:=wd (X:=X) (μ:=μ) 0 k ho ht hx (show XA e none 0 0 from rfl) (show XA e (some hi) _ k from ⟨.i64,k,h2,rfl⟩) (cb _) (by simpa using hk)
 rw [aQ,<-List.map_take] at h
 exact h
def zJc {et:nr} {size bytes k:Nat} {x lo:ns} (ho:o.op=.slice t x (some lo) none none) (ht:dW X.P t=some (et,size,bytes)) (hx:e x=.c (.sl size (l.map f))) (h2:e lo=.c (.lit (.int .i64 k))) (hk:k<=l.length):
  Det X o e μ (.c (.sl size ((l.drop k).map f))) μ:=by
 have h:=wd (X:=X) (μ:=μ) k (l.map f).length ho ht hx (show XA e (some lo) 0 k from ⟨.i64,k,h2,rfl⟩) (show XA e none _ _ from rfl) (by simpa using hk) (aC _)
 rw [kg,<-List.map_drop] at h
 exact h
end
/-! ## Lending an own slice to a function that only FZ -/
def iA:C->Bool
 |.lit _=>true
 |_=>false
def cV:V->Bool
 |.c x=>iA x
 |.agg l=>l.all iA
 |_=>false
def iY:V->Bool
 |.tup l=>l.all cV
 |x=>cV x
variable {I' I:Nat->Prop} {w' w:World}
def Fl {x:C} {v:Value} (h:iA x=true) (r:CRep w I x v):CRep w' I' x v:=by
 cases x with
 |lit u=>cases r with|lit _ h1=>exact .lit _ h1
 |_=>cases h
def MR {l:List C} {vs:List Value} (h:l.all iA=true) (r:CReps w I l vs):CReps w' I' l vs:=by
 induction r with
 |nil=>exact .nil
 |cons a _ ih=>
  simp only [bm,ae] at h
  exact .cons (Fl h.1 a) (ih h.2)
def zZb {x:V} {v:Value} (h:cV x=true) (r:V1Rep w I x v):V1Rep w' I' x v:=by
 cases x with
 |c y=>exact Fl h r
 |agg l=>obtain ⟨vs,e,k⟩:=r;exact ⟨vs,e,MR h k⟩
 |_=>cases h
def xu {w w':World} {I I':Nat->Prop}:∀{l:List V} {vs:List Value},l.all cV=true->V1Reps w I l vs->V1Reps w' I' l vs
 |[],[],_,_=>trivial
 |x::l,v::vs,h,r=>by
  simp only [bm,ae] at h
  exact ⟨zZb h.1 r.1,xu h.2 r.2⟩
 |[],_::_,_,r=>r.elim
 |_::_,[],_,r=>r.elim
def P6 {x:V} {v:Value} (h:iY x=true) (r:VRep w I x v):VRep w' I' x v:=by
 cases x with
 |tup l=>obtain ⟨vs,e,k⟩:=r;exact ⟨vs,e,xu h k⟩
 |c y=>exact zZb (x:=.c y) h r
 |agg l=>exact zZb (x:=.agg l) h r
 |un=>cases h
 |ifv b y=>cases h
def cW (sv:Value) (size:Nat) (rows:List (List C)):List V->List V->Prop
 |[],[]=>True
 |x::xs,y::ys=>(x=y∨(x=.c (.lit sv)/\y=.c (.sl size rows)))/\cW sv size rows xs ys
 |_,_=>False
def xp {sv:Value} {size:Nat} {rows:List (List C)} {w:World} {I I0:Nat->Prop} (hI:∀b,I b->I0 b) (hs:CRep w I0 (.sl size rows) sv):∀{l l':List V} {vs:List Value},cW sv size rows l l'->V1Reps w I l vs->V1Reps w I0 l' vs
 |[],[],[],_,_=>trivial
 |[],[],_::_,_,h=>h.elim
 |x::xs,y::ys,[],_,h=>h.elim
 |x::xs,y::ys,v::vs,k,h=>by
  refine ⟨?_,xp hI hs k.2 h.2⟩
  rcases k.1 with rfl|⟨rfl,rfl⟩
  ·exact V1Rep.mono (λ_ _=>rfl) hI h.1
  ·have e:v=sv:=by cases h.1 with|lit _ _=>rfl
   rw [e];exact hs
 |[],_::_,_,k,_=>(k:False).elim
 |_::_,[],_,k,_=>(k:False).elim
def Con.borrow {f:FuncId} {args args':List V} {sv:Value} {t:nr} {size:Nat} {rows:List (List C)} (h:oK X f args r) (hl:iY r=true) (ha:cW sv size rows args' args):
  Con X f args' [.vec sv t size rows] λr' μ'=>r'=r/\μ'=[.vec sv t size rows]:=by
 intro w I vs hH hv
 have hrep:=hH.rep _ (aR.2 rfl)
 have H0:Heap X w (λb=>I b∨b∈(E.vec sv t size rows).blocks) []:=by
  refine ⟨hH.lo,hH.glob,by simp [bC],λb hb=>by simp [bC] at hb,?_,λen hen=>by simp at hen,λen hen=>by simp at hen⟩
  rintro b (h|h)
  ·exact hH.imm b h
  ·exact hrep.lt h
 have hs:CRep w (λb=>I b∨b∈(E.vec sv t size rows).blocks) (.sl size rows) sv:=Jz (hrep.mono (w':=w) trivial (λ_ _=>rfl) (λb h=>.inl h) λ_ _=>rfl) λb hb=>.inr hb
 refine (h w _ vs H0 (xp (λb h=>.inl h) hs ha hv)).mono ?_
 rintro en w' ⟨v,r',μ',I',h1,rfl,h3,h4,h5⟩
 have still:=H0.still h5
 refine ⟨v,r',[.vec sv t size rows],I,h1,⟨rfl,rfl⟩,P6 hl h3,?_,?_⟩
 ·refine ⟨aL hH.lo h5.size,X.hG w w' (λb hb=>h5.block b (gi hb hH.lo) (by simp [bC])) hH.glob,hH.nodup,hH.own,λb hb=>gi (hH.imm b hb) h5.size,?_,hH.mono⟩
  intro e he
  rw [aR.1 he]
  exact hrep.mono (w':=w') trivial (λb hb=>still b (.inl hb)) (λb h=>h) λb hb=>still b (.inr hb)
 ·exact ⟨h5.os,h5.tape,h5.output,h5.size,λb hb _=>h5.block b hb (by simp [bC]),λb h=>h,λb h=>.inl h,λb h=>.inl h⟩
def eJ (sv:Value) (size:Nat) (rows:List (List C)):List V->List V->Prop
 |[],[]=>True
 |x::xs,y::ys=>((x=.c (.lit sv)/\y=.c (.sl size rows))∨(VLe x y/\y.plain=true))/\eJ sv size rows xs ys
 |_,_=>False
def B5 {sv:Value} {size:Nat} {rows:List (List C)}:∀{l l':List V},eJ sv size rows l l'->∃m,pO l m/\cW sv size rows m l'
 |[],[],_=>⟨[],trivial,trivial⟩
 |x::xs,y::ys,h=>by
  obtain ⟨m,h1,h2⟩:=B5 h.2
  rcases h.1 with ⟨rfl,rfl⟩|⟨h3,h4⟩
  ·exact ⟨.c (.lit sv)::m,⟨VLe.refl _,rfl,h1⟩,.inr ⟨rfl,rfl⟩,h2⟩
  ·exact ⟨y::m,⟨h3,h4,h1⟩,.inl rfl,h2⟩
 |[],_::_,h=>(h:False).elim
 |_::_,[],h=>(h:False).elim
def ZT {o:Oper} {e:ns->V} {μ:List E} {f:FuncId} {arg_:List ns} {ts:Array nr} {args:List V} {sv:Value} {t:nr} {size:Nat} {rows:List (List C)} (p:Nat) (ho:o.op=.call { callee:=.value (.func f),args:=arg_.toArray,argTypes:=ts }) (hf:bA X.P f=true) (hp:nth μ p=some (.vec sv t size rows)) (hc:oK X f args r) (hl:iY r=true) (ha:eJ sv size rows (arg_.map e) args):Det X o e μ r μ:=by
 obtain ⟨m,h1,h2⟩:=B5 ha
 have hpk:sG [p] μ=some ([.vec sv t size rows],rH μ p):=by unfold sG;rw [hp];rfl
 refine OpE.det_perm (a:=.vec sv t size rows::rH μ p) ?_ (Xb hp).symm
 have hb:Con X f m [.vec sv t size rows] λr' μ'=>r'=r/\μ'=[.vec sv t size rows]:=Con.borrow hc hl h2
 exact (Sz ho hf ((hb.frame (rH μ p)).perm (zJp hpk)) h1).mono λr' μ' ⟨_,⟨h1,h2⟩,h3⟩=>⟨h1,by rw [h3,h2];rfl⟩
end Go.Eng
end
section
namespace Go.Eng
open Go Go.RowKit
inductive Kx where
 |q (rd:List Nat)
 |e (w:Nat) (rd:List Nat)
 |f (w:Nat)
 |w (w:Nat) (rd:List Nat)
 |g (w:Nat) (rd:List Nat)
 |h (w:Nat) (rd:List Nat)
structure It where
 i:Nat
 k:Kx
def zn (ρ:Nat->V) (d:Option Tmp) (v:V):Nat->V:=λt=>if d=some t then v else ρ t
def Al (ρ:Nat->V) (x:ns):V:=match x with
 |.tmp t=>ρ t
 |y=>ev [] y
def zRj (regs:List (Nat×V)):Al (bJ regs)=ev regs:=by
 funext x;cases x<;>rfl
def xv (regs:List (Nat×V)) (d:Tmp) (v:V):zn (bJ regs) (some d) v=bJ ((d,v)::regs):=by
 funext t;rw [Oj];unfold zn
 by_cases h:d=t
 ·rw [ab h,ab (by rw [h])]
 ·rw [aa h,aa tk]
def zo (ρ:Nat->V) (v:V):zn ρ none v=ρ:=by funext t;unfold zn;rw [aa uF]
def GDetF (X:Cfg) (n:Nat) (ops:Array Oper) (o:Oper) (ρ:Nat->V) (μ:List E) (r:V):Prop:=
 ∀(a:Act) (w:World) (I:Nat->Prop),Heap X w I μ->(∀t,t∈o.looksAt ops->VRep w I (ρ t) (a.tmps.getD t undef))->a.tmps.size=n->
  ∀(K:Act->World->Prop) (Q:Exit->Act->World->Prop),(∀v I' w',VRep w' I' r v->Heap X w' I' μ->Ext w I μ w' I' μ->K (a.put o.dst v) w')->
   if Region.wanted o (yielded ops a.tmps) then OW X.P o a w K Q else K (a.put o.dst undef) w
variable {o:Oper} {ρ:Nat->V} {n:Nat} {X:Cfg} {r:V}
def GDetF.congr {ops:Array Oper} {ρ':Nat->V} {μ:List E} (h:GDetF X n ops o ρ μ r) (he:∀t,t∈o.looksAt ops->ρ t=ρ' t):GDetF X n ops o ρ' μ r:=
 λa w I hH hR hs=>h a w I hH (λt ht=>by rw [he t ht];exact hR t ht) hs
def GDetF.wide {ops:Array Oper} {μ φ ψ:List E} (h:GDetF X n ops o ρ μ r) (p:ψ.Perm (μ++φ)):GDetF X n ops o ρ ψ r:=by
 intro a w I hH hR hs K Q k
 have hH1:=hH.perm p
 refine h a w I hH1.left hR hs K Q ?_
 intro v I' w' hv hH' hx
 obtain ⟨h6,h7⟩:=hH1.frame hH' hx
 exact k v I' w' hv (h6.perm p.symm) (h7.perm p.symm p.symm)
variable {e:ns->V}
def OpE.wide {μ φ ψ:List E} {R:V->List E->Prop} (h:OpE X o e μ R) (p:ψ.Perm (μ++φ)):OpE X o e ψ λr μ''=>∃μ',R r μ'/\μ''=μ'++φ:=by
 intro a w I hH hops K Q k
 have hH1:=hH.perm p
 refine h a w I hH1.left hops K Q ?_
 intro v r μ' I' w' hr hv hH' hx
 obtain ⟨h6,h7⟩:=hH1.frame hH' hx
 exact k v r _ I' w' ⟨μ',hr,rfl⟩ hv h6 (h7.perm p.symm (bb _))
def OpE.congr {e':ns->V} {μ:List E} {R:V->List E->Prop} (h:OpE X o e μ R) (he:∀x,x∈o.op.operands->e x=e' x):OpE X o e' μ R:=
 λa w I hH hops=>h a w I hH λx hx=>by rw [he x hx];exact hops x hx
/-! ## Slots of memory -/
def sF (m:List (Option E)) (s:Nat):Option E:=(nth m s).join
def fp (m:List (Option E)) (l:List Nat):List E:=l.filterMap (sF m)
def pN (m:List (Option E)):List E:=m.filterMap id
def XF:List (Option E)->List Nat->List (Option E)
 |m,[]=>m
 |m,s::l=>XF (m.set s none) l
variable {s:Nat}
def WX {m:List (Option E)} {t:Nat} {v:Option E} (h:s≠t):sF (m.set s v) t=sF m t:=by
 unfold sF;rw [Hb,Hb,cx h]
def zXk {m:List (Option E)} {v:Option E} (h:s<m.length):sF (m.set s v) s=v:=by
 unfold sF;rw [Hb,bc h];cases v<;>rfl
def rx {m:List (Option E)} {s:Nat} {v:Option E}:∀{l:List Nat},s ∉ l->fp (m.set s v) l=fp m l
 |[],_=>rfl
 |t::l,h=>by
  unfold fp
  rw [dt,dt,WX (λe=>h (by simp [e]))]
  have:=rx (m:=m) (s:=s) (v:=v) (l:=l) (λe=>h (by simp [e]))
  unfold fp at this
  rw [this]
def qAw:∀(m:List (Option E)) (s:Nat),(pN m).Perm ((sF m s).toList++pN (m.set s none))
 |[],s=>by cases s<;>exact bb _
 |x::m,0=>by cases x<;>exact bb _
 |x::m,s+1=>by
  have ih:=qAw m s
  have e:sF (x::m) (s+1)=sF m s:=rfl
  rw [e,gj]
  cases x with
  |none=>exact ih
  |some y=>
   show (y::pN m).Perm ((sF m s).toList++(y::pN (m.set s none)))
   exact (ih.cons y).trans (g9.symm)
def zIs:∀(ks:List Nat) (m:List (Option E)),ks.Nodup->(pN m).Perm (fp m ks++pN (XF m ks))
 |[],m,_=>bb _
 |s::ks,m,h=>by
  have hs:s ∉ ks:=(co.1 h).1
  have ih:=zIs ks (m.set s none) (co.1 h).2
  rw [rx hs] at ih
  have h1:=(qAw m s).trans (ih.append_left _)
  have e:fp m (s::ks)=(sF m s).toList++fp m ks:=by
   unfold fp;rw [dt];cases sF m s<;>rfl
  rw [e,tu]
  exact h1
def Tu {m:List (Option E)} {v:Option E} (l:List Nat):XF (m.set s v) (s::l)=XF m (s::l):=by
 show XF ((m.set s v).set s none) l=XF (m.set s none) l
 rw [ip]
variable {w:Nat}
def zOj {m:List (Option E)} {rd:List Nat} {en:E} (hn:(w::rd).Nodup) (hw:w<m.length):((en::fp m rd)++pN (XF m (w::rd))).Perm (pN (m.set w (some en))):=by
 have h:=zIs (w::rd) (m.set w (some en)) hn
 rw [Tu] at h
 have e:fp (m.set w (some en)) (w::rd)=en::fp m rd:=by
  have:=rx (m:=m) (s:=w) (v:=some en) (co.1 hn).1
  unfold fp at this⊢
  rw [dt,zXk hw,this]
 rw [e] at h
 exact h.symm
def Ro {m:List (Option E)} (h:nth m w=some none):m.set w none=m:=by
 rw [Hb] at h
 apply ej
 intro i
 by_cases hi:w=i
 ·subst hi;rw [bc (af.1 h).1,h]
 ·rw [cx hi]
def Ho {m:List (Option E)} {en:E} (h:nth m w=some none):(en::pN m).Perm (pN (m.set w (some en))):=by
 have hw:w<m.length:=by rw [Hb] at h;exact (af.1 h).1
 have h1:=qAw (m.set w (some en)) w
 rw [zXk hw,ip,Ro h] at h1
 exact h1.symm
/-! ## The derivation,in an order of our own -/
abbrev Rfs:=List (Nat×(V->E->Prop))
def rV:Rfs->Nat->V->E->Prop
 |[],_=>λ_ _=>False
 |(j,R)::r,i=>bif Nat.beq j i then R else rV r i
def Jg (o:Oper) (e:ns->V) (en:E):E:=match o.op with
 |.store _ x y=>(match e x,mQ (e y),en with
  |.c (.lit (.pointer (some a))),some new,.row b u cs=>.row b u (GA cs a.off new)
  |_,_,_=>en)
 |_=>en
def zQg {e':ns->V} (h:∀x,x∈o.op.operands->e x=e' x):Jg o e=Jg o e':=by
 funext en
 unfold Jg
 split
 ·rename_i t x y ho
  rw [h x qr,h y qr]
 ·rfl
def rA (l:List Oper) (i:Nat):Option Tmp:=(nth l i).bind (·.dst)
def SQ (X:Cfg) (n:Nat) (l:List Oper) (F:Rfs) (K:(Nat->V)->List (Option E)->Prop):List It->(Nat->V)->List (Option E)->Prop
 |[],ρ,m=>K ρ m
 |⟨i,.q rd⟩::its,ρ,m=>∃o,nth l i=some o/\rd.Nodup/\∃r,GDetF X n l.toArray o ρ (fp m rd) r/\SQ X n l F K its (zn ρ o.dst r) m
 |⟨i,.e w rd⟩::its,ρ,m=>∃o,nth l i=some o/\o.guard=none/\(w<m.length/\(w::rd).Nodup)/\∃R,OpE X o (Al ρ) (fp m (w::rd)) R/\∀r μ',R r μ'->∃en,μ'=en::fp m rd/\SQ X n l F K its (zn ρ o.dst r) (m.set w (some en))
 |⟨i,.f w⟩::its,ρ,m=>∀r en,rV F i r en->SQ X n l F K its (zn ρ (rA l i) r) (m.set w (some en))
 |⟨i,.g w rd⟩::its,ρ,m=>∃o,nth l i=some o/\o.guard=none/\o.dst=none/\(w<m.length/\(w::rd).Nodup)/\∃en,sF m w=some en/\OpE X o (Al ρ) (fp m (w::rd)) (λ_ μ'=>μ'=Jg o (Al ρ) en::fp m rd)/\SQ X n l F K its ρ (m.set w (some (Jg o (Al ρ) en)))
 |⟨i,.h w rd⟩::its,ρ,m=>∃o,nth l i=some o/\o.guard=none/\(w<m.length/\(w::rd).Nodup)/\∃R,OpE X o (Al ρ) (fp m (w::rd)) R/\(∃r en,R r (en::fp m rd))/\∀r μ',R r μ'->∃en,μ'=en::fp m rd/\SQ X n l F K its (zn ρ o.dst r) (m.set w (some en))
 |⟨i,.w w rd⟩::its,ρ,m=>∃o,nth l i=some o/\o.guard=none/\(w<m.length/\(w::rd).Nodup)/\∃r en,OpE X o (Al ρ) (fp m (w::rd)) (λr' μ'=>r'=r/\μ'=en::fp m rd)/\SQ X n l F K its (zn ρ o.dst r) (m.set w (some en))
def rX (l:List Oper) (i:Nat):List Tmp:=match nth l i with
 |some o=>o.looksAt l.toArray
 |none=>[]
def rM (l:List Oper) (i j:Nat):Bool:=
 (rX l j).all (λt=> !(rA l i==some t))&&(rX l i).all (λt=> !(rA l j==some t))&&((rA l i==none)|| !(rA l i==rA l j))
def Kx.wr:Kx->Option Nat
 |.q _=>none
 |.e v _=>some v
 |.f v=>some v
 |.w v _=>some v
 |.g v _=>some v
 |.h v _=>some v
def Kx.rds:Kx->List Nat
 |.q rd=>rd
 |.e _ rd=>rd
 |.f _=>[]
 |.w _ rd=>rd
 |.g _ rd=>rd
 |.h _ rd=>rd
def fM (a b:Kx):Bool:=
 (match a.wr with|some w=>b.rds.all (λs=> !Nat.beq s w)&&(match b.wr with|some v=> !Nat.beq v w|none=>true)|none=>true)&&
 (match b.wr with|some w=>a.rds.all (λs=> !Nat.beq s w)|none=>true)
def sI:Kx->Kx->Bool
 |.q _,.q _=>true
 |.q _,.e _ _=>true
 |.q _,.w _ _=>true
 |.w _ _,.q _=>true
 |.w _ _,.e _ _=>true
 |.w _ _,.w _ _=>true
 |.q _,.g _ _=>true
 |.g _ _,.g _ _=>true
 |.f _,.g _ _=>true
 |.q _,.h _ _=>true
 |.h _ _,.g _ _=>true
 |_,.f _=>true
 |_,_=>false
def isF:Kx->Bool
 |.f _=>true
 |_=>false
def sH (l:List Oper) (a b:It):Bool:=(sI a.k b.k&&fM a.k b.k&&rM l a.i b.i)||(!isF b.k&&mN l 40 b.i a.i)
variable {l:List Oper} {i:Nat}
def DG {j:Nat} (h:rM l i j=true):
  (∀t,t∈rX l j->rA l i≠some t)/\(∀t,t∈rX l i->rA l j≠some t)/\(rA l i=none∨rA l i≠rA l j):=by
 unfold rM at h
 simp only [ae,rl,aA,ij,aD,fu] at h
 exact ⟨h.1.1,h.1.2,h.2⟩
def LZ (h:nth l i=some o):rA l i=o.dst:=by unfold rA;rw [h];rfl
def Ha (h:nth l i=some o):rX l i=o.looksAt l.toArray:=by unfold rX;rw [h]
variable {d:Option Tmp}
def Sv {e:Option Tmp} {u v:V} (h:d=none∨d≠e):zn (zn ρ d u) e v=zn (zn ρ e v) d u:=by
 funext t
 unfold zn
 by_cases h1:d=some t
 ·by_cases h2:e=some t
  ·rcases h with h|h
   ·rw [h] at h1;cases h1
   ·exact absurd (h1.trans h2.symm) h
  ·simp [h1,h2]
 ·by_cases h2:e=some t
  ·simp [h1,h2]
  ·simp [h1,h2]
def VR {v:V} {t:Nat} (h:d≠some t):zn ρ d v t=ρ t:=aa h
def D3 {ops:Array Oper} {v:V} (h:∀t,t∈o.looksAt ops->d≠some t):∀x,x∈o.op.operands->Al (zn ρ d v) x=Al ρ x:=by
 intro x hx
 cases x with
 |tmp t=>exact VR (h t (xw hx))
 |_=>rfl
section
variable {X:Cfg} {n:Nat} {l:List Oper} {F:Rfs} {K:(Nat->V)->List (Option E)->Prop}
def SQ.swap {a b:It} {its:List It} {ρ:Nat->V} {m:List (Option E)} (hk:sI a.k b.k=true) (hm:fM a.k b.k=true) (hr:rM l a.i b.i=true) (hF:∀w,a.k=.f w->∃r en,rV F a.i r en) (h:SQ X n l F K (a::b::its) ρ m):SQ X n l F K (b::a::its) ρ m:=by
 obtain ⟨i,ka⟩:=a
 obtain ⟨j,kb⟩:=b
 simp only at hk hm hr hF
 obtain ⟨f1,f2,f3⟩:=DG hr
 cases ka with
 |q rd=>
  obtain ⟨o,ho,hn1,r,hG,h⟩:=h
  rw [Ha ho] at f2
  rw [LZ ho] at f1 f3
  cases kb with
  |q rd2=>
   obtain ⟨o2,ho2,hn2,r2,hG2,h⟩:=h
   rw [Ha ho2] at f1
   rw [LZ ho2] at f2 f3
   refine ⟨o2,ho2,hn2,r2,hG2.congr λt ht=>VR (f1 t ht),o,ho,hn1,r,hG.congr λt ht=>(VR (f2 t ht)).symm,?_⟩
   rw [<-Sv f3];exact h
  |e w rd2=>
   obtain ⟨o2,ho2,hg2,hw2,R,hO,h⟩:=h
   rw [Ha ho2] at f1
   rw [LZ ho2] at f2 f3
   simp only [fM,Kx.wr,Kx.rds,aM,rl,aA] at hm
   refine ⟨o2,ho2,hg2,hw2,R,hO.congr λx hx=>D3 f1 x hx,λr2 μ' hrr=>?_⟩
   exact v60
  |f w=>
   simp only [fM,Kx.wr,Kx.rds,aM,rl,aA] at hm
   have hn:w ∉ rd:=λhin=>by have:=hm w hin;rw [aX] at this;cases this
   refine λr2 en hrr=>⟨o,ho,hn1,r,?_,?_⟩
   ·rw [rx hn];exact hG.congr λt ht=>(VR (f2 t ht)).symm
   ·rw [<-Sv f3];exact h r2 en hrr
  |g w rd2=>
   obtain ⟨o2,ho2,hg2,hd2,hw2,en0,hs0,hO,h⟩:=h
   rw [Ha ho2] at f1
   simp only [fM,Kx.wr,Kx.rds,aM,rl,aA] at hm
   have hn:w ∉ rd:=λhin=>by have:=hm w hin;rw [aX] at this;cases this
   have e:Jg o2 (Al (zn ρ o.dst r))=Jg o2 (Al ρ):=zQg λx hx=>D3 f1 x hx
   rw [e] at hO h
   refine ⟨o2,ho2,hg2,hd2,hw2,en0,hs0,hO.congr λx hx=>D3 f1 x hx,o,ho,hn1,r,?_,h⟩
   rw [rx hn];exact hG
  |h w rd2=>
   obtain ⟨o2,ho2,hg2,hw2,R,hO,hne,h⟩:=h
   rw [Ha ho2] at f1
   rw [LZ ho2] at f2 f3
   simp only [fM,Kx.wr,Kx.rds,aM,rl,aA] at hm
   refine ⟨o2,ho2,hg2,hw2,R,hO.congr λx hx=>D3 f1 x hx,hne,λr2 μ' hrr=>?_⟩
   exact v60
  |w w rd2=>
   obtain ⟨o2,ho2,hg2,hw2,r2,en,hO,h⟩:=h
   rw [Ha ho2] at f1
   rw [LZ ho2] at f2 f3
   simp only [fM,Kx.wr,Kx.rds,aM,rl,aA] at hm
   have hn:w ∉ rd:=λhin=>by have:=hm w hin;rw [aX] at this;cases this
   refine ⟨o2,ho2,hg2,hw2,r2,en,hO.congr λx hx=>D3 f1 x hx,o,ho,hn1,r,?_,?_⟩
   ·rw [rx hn];exact hG.congr λt ht=>(VR (f2 t ht)).symm
   ·rw [<-Sv f3];exact h
 |w w rd=>
  obtain ⟨o,ho,hg,hw,r,en,hO,h⟩:=h
  rw [Ha ho] at f2
  rw [LZ ho] at f1 f3
  cases kb with
  |q rd2=>
   obtain ⟨o2,ho2,hn2,r2,hG2,h⟩:=h
   rw [Ha ho2] at f1
   rw [LZ ho2] at f2 f3
   simp only [fM,Kx.wr,Kx.rds,bq,rl,aA] at hm
   have hn:w ∉ rd2:=λhin=>by have:=hm w hin;rw [aX] at this;cases this
   rw [rx hn] at hG2
   refine ⟨o2,ho2,hn2,r2,hG2.congr λt ht=>VR (f1 t ht),o,ho,hg,hw,r,en,hO.congr λx hx=>(D3 f2 x hx).symm,?_⟩
   rw [<-Sv f3];exact h
  |e w2 rd2=>
   obtain ⟨o2,ho2,hg2,hw2,R,hO2,h⟩:=h
   rw [Ha ho2] at f1
   rw [LZ ho2] at f2 f3
   simp only [fM,Kx.wr,Kx.rds,ae,rl,aA] at hm
   have hne:w2≠w:=λe=>by rw [e,aX] at hm;cases hm.1.2
   have hn:w ∉ rd2:=λhin=>by have:=hm.1.1 w hin;rw [aX] at this;cases this
   have hn':w2 ∉ rd:=λhin=>by have:=hm.2 w2 hin;rw [aX] at this;cases this
   have hn2:w ∉ w2::rd2:=λhin=>by rcases ag.1 hin with e|e;exact hne e.symm;exact hn e
   have hn2':w2 ∉ w::rd:=λhin=>by rcases ag.1 hin with e|e;exact hne e;exact hn' e
   rw [rx hn2] at hO2
   refine ⟨o2,ho2,hg2,⟨by simpa using hw2.1,hw2.2⟩,R,hO2.congr λx hx=>D3 f1 x hx,λr2 μ' hrr=>?_⟩
   obtain ⟨en2,he,h⟩:=h r2 μ' hrr
   rw [rx hn] at he
   refine ⟨en2,he,o,ho,hg,⟨by simpa using hw.1,hw.2⟩,r,en,?_,?_⟩
   ·rw [rx hn2',rx hn'];exact hO.congr λx hx=>(D3 f2 x hx).symm
   ·rw [<-Sv f3,eu _ _ hne];exact h
  |w w2 rd2=>
   obtain ⟨o2,ho2,hg2,hw2,r2,en2,hO2,h⟩:=h
   rw [Ha ho2] at f1
   rw [LZ ho2] at f2 f3
   simp only [fM,Kx.wr,Kx.rds,ae,rl,aA] at hm
   have hne:w2≠w:=λe=>by rw [e,aX] at hm;cases hm.1.2
   have hn:w ∉ rd2:=λhin=>by have:=hm.1.1 w hin;rw [aX] at this;cases this
   have hn':w2 ∉ rd:=λhin=>by have:=hm.2 w2 hin;rw [aX] at this;cases this
   have hn2:w ∉ w2::rd2:=λhin=>by rcases ag.1 hin with e|e;exact hne e.symm;exact hn e
   have hn2':w2 ∉ w::rd:=λhin=>by rcases ag.1 hin with e|e;exact hne e;exact hn' e
   rw [rx hn2,rx hn] at hO2
   refine ⟨o2,ho2,hg2,⟨by simpa using hw2.1,hw2.2⟩,r2,en2,hO2.congr λx hx=>D3 f1 x hx,o,ho,hg,⟨by simpa using hw.1,hw.2⟩,r,en,?_,?_⟩
   ·rw [rx hn2',rx hn'];exact hO.congr λx hx=>(D3 f2 x hx).symm
   ·rw [<-Sv f3,eu _ _ hne];exact h
  |f w2=>
   simp only [fM,Kx.wr,Kx.rds,fc,aM,ae,rl,aA] at hm
   have hne:w2≠w:=λe=>by rw [e,aX] at hm;cases hm.1
   have hn:w2 ∉ rd:=λhin=>by have:=hm.2 w2 hin;rw [aX] at this;cases this
   have hn2:w2 ∉ w::rd:=λhin=>by rcases ag.1 hin with e|e;exact hne e;exact hn e
   refine λr2 en2 hrr2=>⟨o,ho,hg,⟨by simpa using hw.1,hw.2⟩,r,en,?_,?_⟩
   ·rw [rx hn2,rx hn];exact hO.congr λx hx=>(D3 f2 x hx).symm
   ·rw [<-Sv f3,eu _ _ hne]
    exact h r2 en2 hrr2
  |g w2 rd2=>cases hk
  |h w2 rd2=>cases hk
 |g w rd=>
  cases kb with
  |q rd2=>cases hk
  |e w2 rd2=>cases hk
  |w w2 rd2=>cases hk
  |f w2=>
   obtain ⟨o,ho,hg,hd,hw,en0,hs0,hO,h⟩:=h
   rw [Ha ho] at f2
   simp only [fM,Kx.wr,Kx.rds,fc,aM,ae,rl,aA] at hm
   have hne:w2≠w:=λe=>by rw [e,aX] at hm;cases hm.1
   have hn:w2 ∉ rd:=λhin=>by have:=hm.2 w2 hin;rw [aX] at this;cases this
   have hn2:w2 ∉ w::rd:=λhin=>by rcases ag.1 hin with e|e;exact hne e;exact hn e
   refine λr2 en2 hrr2=>?_
   have e:Jg o (Al (zn ρ (rA l j) r2))=Jg o (Al ρ):=zQg λx hx=>D3 f2 x hx
   refine ⟨o,ho,hg,hd,⟨by simpa using hw.1,hw.2⟩,en0,by rw [WX hne];exact hs0,?_,?_⟩
   ·rw [rx hn2,rx hn,e];exact hO.congr λx hx=>(D3 f2 x hx).symm
   ·rw [e,eu _ _ hne];exact h r2 en2 hrr2
  |g w2 rd2=>
   obtain ⟨o,ho,hg,hd,hw,en0,hs0,hO,o2,ho2,hg2,hd2,hw2,en2,hs2,hO2,h⟩:=h
   simp only [fM,Kx.wr,Kx.rds,ae,rl,aA] at hm
   have hne:w2≠w:=λe=>by rw [e,aX] at hm;cases hm.1.2
   have hn:w ∉ rd2:=λhin=>by have:=hm.1.1 w hin;rw [aX] at this;cases this
   have hn':w2 ∉ rd:=λhin=>by have:=hm.2 w2 hin;rw [aX] at this;cases this
   have hn2:w ∉ w2::rd2:=λhin=>by rcases ag.1 hin with e|e;exact hne e.symm;exact hn e
   have hn2':w2 ∉ w::rd:=λhin=>by rcases ag.1 hin with e|e;exact hne e;exact hn' e
   rw [WX (eg hne)] at hs2
   rw [rx hn2,rx hn] at hO2
   rw [eu _ _ (eg hne)] at h
   exact ⟨o2,ho2,hg2,hd2,⟨by simpa using hw2.1,hw2.2⟩,en2,hs2,hO2,o,ho,hg,hd,⟨by simpa using hw.1,hw.2⟩,en0,by rw [WX hne];exact hs0,by rw [rx hn2',rx hn'];exact hO,h⟩
  |h w2 rd2=>cases hk
 |h w rd=>
  cases kb with
  |q rd2=>cases hk
  |e w2 rd2=>cases hk
  |w w2 rd2=>cases hk
  |h w2 rd2=>cases hk
  |f w2=>
   obtain ⟨o,ho,hg,hw,R,hO,hne0,h⟩:=h
   rw [Ha ho] at f2
   rw [LZ ho] at f1 f3
   simp only [fM,Kx.wr,Kx.rds,fc,aM,ae,rl,aA] at hm
   have hne:w2≠w:=λe=>by rw [e,aX] at hm;cases hm.1
   have hn:w2 ∉ rd:=λhin=>by have:=hm.2 w2 hin;rw [aX] at this;cases this
   have hn2:w2 ∉ w::rd:=λhin=>by rcases ag.1 hin with e|e;exact hne e;exact hn e
   refine λr2 en2 hrr2=>⟨o,ho,hg,⟨by simpa using hw.1,hw.2⟩,R,?_,by rw [rx hn];exact hne0,λr μ' hrr=>?_⟩
   ·rw [rx hn2];exact hO.congr λx hx=>(D3 f2 x hx).symm
   ·obtain ⟨en,he,h⟩:=h r μ' hrr
    refine ⟨en,by rw [rx hn];exact he,?_⟩
    rw [<-Sv f3,eu _ _ hne]
    exact h r2 en2 hrr2
  |g w2 rd2=>
   obtain ⟨o,ho,hg,hw,R,hO,⟨r0,e0,hr0⟩,h⟩:=h
   obtain ⟨e1,he1,o2,ho2,hg2,hd2,hw2,en2,hs2,hO2,_⟩:=h r0 _ hr0
   cases he1
   rw [Ha ho2] at f1
   rw [Ha ho] at f2
   rw [LZ ho] at f1
   simp only [fM,Kx.wr,Kx.rds,ae,rl,aA] at hm
   have hne:w2≠w:=λe=>by rw [e,aX] at hm;cases hm.1.2
   have hn:w ∉ rd2:=λhin=>by have:=hm.1.1 w hin;rw [aX] at this;cases this
   have hn':w2 ∉ rd:=λhin=>by have:=hm.2 w2 hin;rw [aX] at this;cases this
   have hn2:w ∉ w2::rd2:=λhin=>by rcases ag.1 hin with e|e;exact hne e.symm;exact hn e
   have hn2':w2 ∉ w::rd:=λhin=>by rcases ag.1 hin with e|e;exact hne e;exact hn' e
   have key:∀r,Jg o2 (Al (zn ρ o.dst r))=Jg o2 (Al ρ):=λr=>zQg λx hx=>D3 f1 x hx
   rw [WX (eg hne)] at hs2
   rw [rx hn2,rx hn,key] at hO2
   refine ⟨o2,ho2,hg2,hd2,⟨by simpa using hw2.1,hw2.2⟩,en2,hs2,hO2.congr λx hx=>D3 f1 x hx,o,ho,hg,⟨by simpa using hw.1,hw.2⟩,R,?_,⟨r0,e0,by rw [rx hn'];exact hr0⟩,λr μ' hrr=>?_⟩
   ·rw [rx hn2'];exact hO
   ·obtain ⟨e3,he3,o3,ho3,_,_,_,en3,hs3,_,hS⟩:=h r μ' hrr
    rw [ho2] at ho3;cases ho3
    rw [WX (eg hne),hs2] at hs3;cases hs3
    rw [key,eu _ _ (eg hne)] at hS
    exact ⟨e3,by rw [rx hn'];exact he3,hS⟩
 |e w rd=>
  cases kb with
  |q rd2=>cases hk
  |e w2 rd2=>cases hk
  |w w2 rd2=>cases hk
  |g w2 rd2=>cases hk
  |h w2 rd2=>cases hk
  |f w2=>
   obtain ⟨o,ho,hg,hw,R,hO,h⟩:=h
   rw [Ha ho] at f2
   rw [LZ ho] at f1 f3
   simp only [fM,Kx.wr,Kx.rds,fc,aM,ae,rl,aA] at hm
   have hne:w2≠w:=λe=>by rw [e,aX] at hm;cases hm.1
   have hn:w2 ∉ rd:=λhin=>by have:=hm.2 w2 hin;rw [aX] at this;cases this
   have hn2:w2 ∉ w::rd:=λhin=>by rcases ag.1 hin with e|e;exact hne e;exact hn e
   refine λr2 en2 hrr2=>⟨o,ho,hg,⟨by simpa using hw.1,hw.2⟩,R,?_,λr μ' hrr=>?_⟩
   ·rw [rx hn2];exact hO.congr λx hx=>(D3 f2 x hx).symm
   ·obtain ⟨en,he,h⟩:=h r μ' hrr
    refine ⟨en,by rw [rx hn];exact he,?_⟩
    rw [<-Sv f3,eu _ _ hne]
    exact h r2 en2 hrr2
 |f w=>
  cases kb with
  |q rd2=>cases hk
  |e w2 rd2=>cases hk
  |w w2 rd2=>cases hk
  |g w2 rd2=>
   obtain ⟨r0,e0,hr0⟩:=hF w rfl
   obtain ⟨o2,ho2,hg2,hd2,hw2,en2,hs2,hO2,_⟩:=h r0 e0 hr0
   rw [Ha ho2] at f1
   simp only [fM,Kx.wr,Kx.rds,fc,bq,ae,rl,aA] at hm
   have hne:w2≠w:=λe=>by rw [e,aX] at hm;cases hm.2
   have hn:w ∉ rd2:=λhin=>by have:=hm.1 w hin;rw [aX] at this;cases this
   have hn2:w ∉ w2::rd2:=λhin=>by rcases ag.1 hin with e|e;exact hne e.symm;exact hn e
   have key:∀r,Jg o2 (Al (zn ρ (rA l i) r))=Jg o2 (Al ρ):=λr=>zQg λx hx=>D3 f1 x hx
   rw [WX (eg hne)] at hs2
   rw [rx hn2,rx hn,key] at hO2
   refine ⟨o2,ho2,hg2,hd2,⟨by simpa using hw2.1,hw2.2⟩,en2,hs2,hO2.congr λx hx=>D3 f1 x hx,λr en hrr=>?_⟩
   obtain ⟨o3,ho3,_,_,_,en3,hs3,_,hS⟩:=h r en hrr
   rw [ho2] at ho3;cases ho3
   rw [WX (eg hne),hs2] at hs3;cases hs3
   rw [key,eu _ _ (eg hne)] at hS
   exact hS
  |h w2 rd2=>cases hk
  |f w2=>
   simp only [fM,Kx.wr,Kx.rds,fc,aM,bq,aA] at hm
   have hne:w2≠w:=λe=>by rw [e,aX] at hm;cases hm
   refine λr2 en2 hrr2 r en hrr=>?_
   rw [<-Sv f3,eu _ _ hne]
   exact h r en hrr r2 en2 hrr2
def SQ.front {b:It} {its:List It}:∀{A:List It} {ρ:Nat->V} {m:List (Option E)},(∀a,a∈A->sI a.k b.k=true/\fM a.k b.k=true/\rM l a.i b.i=true/\∀w,a.k=.f w->∃r en,rV F a.i r en)->SQ X n l F K (A++b::its) ρ m->SQ X n l F K (b::(A++its)) ρ m
 |[],_,_,_,h=>h
 |a::A,ρ,m,hA,h=>by
  obtain ⟨h1,h2,h3,h4⟩:=hA a uF
  refine SQ.swap h1 h2 h3 h4 ?_
  obtain ⟨i,ka⟩:=a
  have ih:=λρ m=>SQ.front (b:=b) (its:=its) (A:=A) (ρ:=ρ) (m:=m) λa ha=>hA a (by simp [ha])
  cases ka with
  |q rd=>obtain ⟨o,ho,hn,r,hG,h⟩:=h;exact ⟨o,ho,hn,r,hG,ih _ _ h⟩
  |e w rd=>obtain ⟨o,ho,hg,hw,R,hO,h⟩:=h;exact ⟨o,ho,hg,hw,R,hO,λr μ' hrr=>by obtain ⟨en,he,h⟩:=h r μ' hrr;exact ⟨en,he,ih _ _ h⟩⟩
  |f w=>exact λr en hrr=>ih _ _ (h r en hrr)
  |w w rd=>obtain ⟨o,ho,hg,hw,r,en,hO,h⟩:=h;exact ⟨o,ho,hg,hw,r,en,hO,ih _ _ h⟩
  |g w rd=>obtain ⟨o,ho,hg,hd,hw,en,hs,hO,h⟩:=h;exact ⟨o,ho,hg,hd,hw,en,hs,hO,ih _ _ h⟩
  |h w rd=>obtain ⟨o,ho,hg,hw,R,hO,hne,h⟩:=h;exact ⟨o,ho,hg,hw,R,hO,hne,λr μ' hrr=>by obtain ⟨en,he,h⟩:=h r μ' hrr;exact ⟨en,he,ih _ _ h⟩⟩
def cN (l:List Oper) (s:Nat) (it:It):Bool:= !isF it.k||((rX l it.i).all λt=>(List.range s).all λj=> !(rA l j==some t))&&(nth l it.i).any λo=>o.guard==none
def eC (X:Cfg) (l:List Oper) (F:Rfs) (ρ0:Nat->V) (its:List It):Prop:=∀i w,(⟨i,.f w⟩:It)∈its->∃o,nth l i=some o/\o.guard=none/\rK X o (Al ρ0) (rV F i)/\∃r en,rV F i r en
def nV (l:List Oper):List It->Bool
 |[]=>true
 |a::r=>r.all (sH l a)&&nV l r
def zYf {l:List Oper} {b:It}:∀{A B:List It},nV l (A++b::B)=true->nV l (A++B)=true/\(∀a,a∈A->sH l a b=true)/\(∀a,a∈B->sH l b a=true)
 |[],B,h=>by
  simp only [D6,nV,ae,rl] at h
  exact ⟨h.2,λa ha=>(by cases ha),h.1⟩
 |a::A,B,h=>by
  simp only [xn,nV,ae,rl] at h
  obtain ⟨h1,h2,h3⟩:=zYf h.2
  refine ⟨?_,λx hx=>?_,h3⟩
  ·simp only [xn,nV,ae,rl]
   exact ⟨λx hx=>h.1 x (by rcases aq.1 hx with k|k<;>simp [k]),h1⟩
  ·rcases ag.1 hx with rfl|hx
   ·exact h.1 b uF
   ·exact h2 x hx
def iG (X:Cfg) (n:Nat) (z:Z) (l:List Oper) (s:Nat) (Q:Exit->S->Prop) (ρ:Nat->V) (m:List (Option E)):Prop:=∃regs,ρ=bJ regs/\oX X n z l.toArray (l.drop s) Q ⟨regs,pN m⟩
end
section draw
variable {X:Cfg} {n:Nat} {z:Z} {Q:Exit->S->Prop} {l:List Oper} {s:Nat} {F:Rfs}
def Bs {listed:Array Bool} {j:Nat} (hj:j<listed.size):listed.getD j true=listed.getD j false:=by
 rw [au,au,aN hj];rfl
def N3 {m:Nat} {listed:Array Bool} (hsz:listed.size=l.length) (hml:m<=l.length) (hq:∀i,i<m->listed.getD i true=true) (htail:∀i,m<=i->i<l.length->listed.getD i true=false):B2 listed=l.length-m:=by
 have hL:listed.toList=(List.range l.length).map λi=>decide (i<m):=by
  apply ej
  intro i
  by_cases hi:i<l.length
  ·rw [cg,eq hi]
   have hv:listed.getD i true=decide (i<m):=by
    by_cases him:i<m
    ·rw [hq i him];simp [him]
    ·rw [htail i zB hi];simp [him]
   rw [au,aN zB] at hv
   rw [gz,aN zB]
   simpa using hv
  ·rw [cy uD,cy uD]
 unfold B2
 rw [hL]
 have hr:∀N,m<=N->((List.range N).map λi=>decide (i<m)).count false=N-m:=by
  intro N hN
  induction N with
  |zero=>simp
  |succ N ihN=>
   exact o6
 exact hr _ hml
def XI {z1:Z} (hz:ZLe z z1) (ok:DrawOk l s) (hsl:s<=l.length) (hdst:l.all (dstOk n)=true) {ρ0:Nat->V}:∀(fuel:Nat) (its:List It) (ρ:Nat->V) (m:List (Option E)) (listed:Array Bool) (a:Act) (w:World) (I:Nat->Prop),
  listed.size=l.length->B2 listed=fuel->(∀i,s<=i->i<l.length->listed.getD i true=false)->rL l listed->
  (∀i,i<s->(listed.getD i true=false↔∃k,(⟨i,k⟩:It)∈its))->(its.map It.i).Nodup->(∀it,it∈its->it.i<s)->nV l its=true->its.all (cN l s)=true->eC X l F ρ0 its->
  (∀t,(∀j,j<s->rA l j≠some t)->ρ t=ρ0 t)->(∀i v,(⟨i,.f v⟩:It)∈its->nth m v=some none)->
  SQ X n l F (iG X n z l s Q) its ρ m->Heap X w I (pN m)->(∀t,VRep w I (ρ t) (a.tmps.getD t undef))->Ext z1.w z1.I z1.μ w I (pN m)->a.defers=z1.ds->a.tmps.size=n->
  wpAnyIn (se z.rd) 0 X.P .any l.toArray (dY X n z1 Q) fuel listed a w:=by
 intro fuel
 induction fuel with
 |zero=>
  intro its ρ m listed a w I hsz hun htail hclo hits hnd hlt hp hf1 hF hρ hfm hSQ hH hR hx hd hs
  have hall:∀i,i<l.length->listed.getD i true=true:=by
   intro i hi
   cases hb:listed.getD i true with
   |true=>rfl
   |false=>have:=OD hb;omega
  have hsl':s=l.length:=by
   rcases bz s l.length with h|h
   ·have h1:=htail s (aC _) h;rw [hall s h] at h1;cases h1
   ·omega
  have hnil:its=[]:=by
   cases its with
   |nil=>rfl
   |cons it r=>
    have h1:=hlt it uF
    have h2:=(hits it.i h1).2 ⟨it.k,uF⟩
    rw [hall it.i zB] at h2;cases h2
  subst hnil
  obtain ⟨regs,rfl,hk⟩:=hSQ
  refine SZ ok 0 l.length listed a w hsz hsl (aC _) (λi hi=>by rw [hall i hi];simp [hi]) zB ?_
  have:=hk (by rw [hsl'];simp) z1 hz a w ⟨I,hH,hR,hx,hd,hs⟩
  rwa [hsl'] at this
 |succ fuel ih=>
  intro its ρ m listed a w I hsz hun htail hclo hits hnd hlt hp hf1 hF hρ hfm hSQ hH hR hx hd hs
  cases hits0:its with
  |nil=>
   subst hits0
   have hq:∀i,i<s->listed.getD i true=true:=by
    intro i hi
    cases hb:listed.getD i true with
    |true=>rfl
    |false=>obtain ⟨k,hk⟩:=(hits i hi).1 hb;cases hk
   obtain ⟨regs,rfl,hk⟩:=hSQ
   refine SZ ok (fuel+1) s listed a w hsz (aC _) hsl (λi hi=>?_) ?_ ?_
   ·by_cases him:i<s
    ·rw [hq i him];simp [him]
    ·rw [htail i zB hi];simp [him]
   ·have:=N3 (m:=s) (l:=l) (listed:=listed) hsz hsl hq htail
    omega
   ·exact hk (by
     rw [rl] at hdst⊢
     exact λo ho=>hdst o (Yt ho)) z1 hz a w ⟨I,hH,hR,hx,hd,hs⟩
  |cons it0 its0=>
   have hi0s:=hlt it0 (by rw [hits0];simp)
   have hb00:=(hits it0.i hi0s).2 ⟨it0.k,by rw [hits0];simp⟩
   have hex:∃i,i<s/\listed.getD i true=false/\∀j,j<i->listed.getD j true=true:=by
    have strong:∀N i,i<N->i<s->listed.getD i true=false->∃i,i<s/\listed.getD i true=false/\∀j,j<i->listed.getD j true=true:=by
     intro N
     induction N with
     |zero=>intro i h;omega
     |succ N ihN=>
      exact r3
    exact strong (it0.i+1) it0.i zB hi0s hb00
   obtain ⟨i0,hi0,hb0,hmin⟩:=hex
   refine ⟨λhnil=>?_,λi hi=>?_⟩
   ·exfalso
    have hlt0:i0<l.length:=by omega
    have:i0∈Region.ready .any l.toArray listed:=by
     rw [fw]
     refine ⟨hb0,l[i0],by simp [hlt0],λe he hb=>?_⟩
     have hlt:=ok.back i0 l[i0] (ak hlt0) e he hb
     have h2:=hmin e.on hlt
     rw [<-Bs zB]
     exact h2
    rw [hnil] at this
    simp at this
   ·rw [fw] at hi
    obtain ⟨hbi,o,ho,hedge⟩:=hi
    have ho':l[i]? =some o:=by simpa using ho
    have hil:i<l.length:=(af.1 ho').1
    have hun2:∀j,j<l.length->listed.getD j true=false->¬listed.getD j false=true:=λj hj h1 h2=>by
     rw [<-Bs zB,h1] at h2;cases h2
    have him:i<s:=by
     rcases bz i s with h|h
     ·exact h
     ·exfalso
      rcases bz s i with hgt|hge
      ·obtain ⟨e,he1,he2,he3⟩:=ok.tail1 i o ho' hgt
       have h1:=hedge e he1 he3
       rw [he2] at h1
       exact hun2 (i-1) zB (htail (i-1) zB zB) h1
      ·have him:i=s:=by omega
       subst him
       exact hun2 i0 zB hb0 (ST hclo ho' hedge (ok.tail0 o ho' i0 hi0))
    obtain ⟨k,hk⟩:=(hits i him).1 hbi
    obtain ⟨A,B,hAB⟩:=List.append_of_mem hk
    rw [hAB] at hSQ hp hnd hits hlt hf1 hF hfm
    obtain ⟨hp1,hp2,hp3⟩:=zYf hp
    have hnd':((A++B).map It.i).Nodup/\(∀it,it∈A++B->it.i≠i):=by
     rw [ah,aG] at hnd
     have h1:=(g9 (a:=i) (l₁:=A.map It.i) (l₂:=B.map It.i)).nodup_iff.1 hnd
     rw [<-ah] at h1
     obtain ⟨h2,h3⟩:=co.1 h1
     exact ⟨h3,λit hit e=>h2 (e ▸ gd hit)⟩
    have hmem:∀it,it∈A++B->it∈A++⟨i,k⟩::B:=λit hit=>by
     rcases aq.1 hit with h|h<;>simp [h]
    have hfree:∀it,it∈A->sI it.k k=true/\fM it.k k=true/\rM l it.i i=true/\∀w,it.k=.f w->∃r en,rV F it.i r en:=by
     intro it hit
     have h1:=hp2 it hit
     unfold sH at h1
     simp only [aD,ae] at h1
     rcases h1 with h1|h1
     ·refine ⟨h1.1.1,h1.1.2,h1.2,λw hw=>?_⟩
      obtain ⟨o9,_,_,_,h9⟩:=hF it.i w (by rw [<-hw];simp [hit])
      exact h9
     ·exfalso
      have h2:=ST hclo ho' hedge h1.2
      have h3:=hlt it (by simp [hit])
      have h4:=(hits it.i h3).2 ⟨it.k,by simp [hit]⟩
      exact hun2 it.i zB h4 h2
    have hSQ':=SQ.front hfree hSQ
    have hdo:dstOk n o=true:=by
     exact v75
    have hon:nth l i=some o:=by rw [Hb];exact ho'
    simp only [wpOpIn,ho]
    have step:∀(r:V) (m':List (Option E)) v I' w',SQ X n l F (iG X n z l s Q) (A++B) (zn ρ o.dst r) m'->(∀j v,(⟨j,.f v⟩:It)∈A++B->nth m' v=some none)->VRep w' I' r v->Heap X w' I' (pN m')->Ext w I (pN m) w' I' (pN m')->wpAnyIn (se z.rd) 0 X.P .any l.toArray (dY X n z1 Q) fuel (listed.setIfInBounds i true) (a.put o.dst v) w':=by
     intro r m' v I' w' hS hfm' hv hH' hx'
     have hu:=OD hbi
     refine ih (A++B) (zn ρ o.dst r) m' (listed.setIfInBounds i true) _ w' I' Sj zB (λj hj hjl=>?_) (λj oj hoj hb e he1 he3=>?_) (λj hj=>?_) hnd'.1 (λit hit=>hlt it (hmem it hit)) hp1 ?_ (λj v hj=>hF j v (hmem _ hj)) (λt ht=>?_) hfm' hS hH' (λt=>?_) (hx.trans hx') ?_ ?_
     ·rw [fg true zB];exact htail j hj hjl
     ·exact v6
     ·by_cases hji:j=i
      ·subst hji
       constructor
       ·intro h
        rw [au,dy] at h
        simp [show j<listed.size by omega] at h
       ·rintro ⟨k',hk'⟩
        exact absurd rfl (hnd'.2 _ hk')
      ·rw [fg true (eg hji),hits j hj]
       constructor
       ·rintro ⟨k',hk'⟩
        refine ⟨k',?_⟩
        rcases aq.1 hk' with h|h
        ·simp [h]
        ·rcases ag.1 h with h|h
         ·injection h with h1 h2;exact absurd h1 hji
         ·simp [h]
       ·rintro ⟨k',hk'⟩
        exact ⟨k',hmem _ hk'⟩
     ·rw [rl] at hf1⊢
      exact λit hit=>hf1 it (hmem it hit)
     ·rw [VR (by have:=ht i him;rw [LZ hon] at this;exact this)]
      exact hρ t ht
     ·cases hod:o.dst with
      |none=>rw [zo];exact hH.vrep hx' (hR t)
      |some d=>
       have hdn:d<n:=by simp only [dstOk,hod,ae] at hdo;simpa [cr] using hdo.1
       rw [zKf hs hdn]
       by_cases hdt:d=t
       ·subst hdt;rw [ab rfl,zn,ab rfl];exact hv
       ·rw [aa hdt,VR (by simpa using hdt)];exact hH.vrep hx' (hR t)
     ·cases hod:o.dst<;>simp [Act.put,hd]
     ·cases hod:o.dst<;>simp [Act.put,hs]
    have hlook:∀t,t∈o.looksAt l.toArray->VRep w I (ρ t) (a.tmps.getD t undef):=λt _=>hR t
    have hops:∀x,x∈o.op.operands->VRep w I (Al ρ x) (a.eval x):=by
     intro x hx
     cases x with
     |tmp t=>exact hR t
     |const v=>exact zTv w I v
     |global g=>exact CRep.lit _ rfl
     |func f=>exact CRep.fn (.func f) [] [] [] [] rfl rfl (λj c u hc=>by simp at hc) (λj c u hc=>by simp at hc)
    have keep:∀v,(∀it,it∈A++B->isF it.k=true->it.k.wr≠some v)->∀en,∀j u,(⟨j,.f u⟩:It)∈A++B->nth (m.set v (some en)) u=some none:=by
     intro v hv en j u hj
     have h1:=hfm j u (hmem _ hj)
     have hne:v≠u:=λe=>hv _ hj rfl (by rw [e];rfl)
     rw [Hb,cx hne,<-Hb];exact h1
    have wrs:∀v,k.wr=some v->∀it,it∈A++B->isF it.k=true->it.k.wr≠some v:=by
     intro v hv it hit hF1 hw
     rcases aq.1 hit with h|h
     ·have h1:=(hfree it h).2.1
      unfold fM at h1
      rw [hw,hv] at h1
      simp [aX] at h1
     ·have h1:=hp3 it h
      unfold sH at h1
      rw [hF1] at h1
      simp only [aU,bf,lf,ae] at h1
      have h2:=h1.1.2
      unfold fM at h2
      simp only [hw,hv] at h2
      simp [aX] at h2
    cases k with
    |q rd=>
     obtain ⟨o2,ho2,hrn,r,hG,hS⟩:=hSQ'
     rw [hon] at ho2;cases ho2
     have hG':=(hG.wide (zIs rd m hrn)) a w I hH hlook hs (wpAnyIn (se z.rd) 0 X.P .any l.toArray (dY X n z1 Q) fuel (listed.setIfInBounds i true)) (dY X n z1 Q) λv I' w' hv hH' hx'=>step r m v I' w' hS (λj u hj=>hfm j u (hmem _ hj)) hv hH' hx'
     exact v48
    |e v rd=>
     obtain ⟨o2,ho2,hg,⟨hw1,hw2⟩,R,hO,hS⟩:=hSQ'
     exact j6
    |w v rd=>
     obtain ⟨o2,ho2,hg,⟨hw1,hw2⟩,r0,en0,hO,hS0⟩:=hSQ'
     rw [hon] at ho2;cases ho2
     have hO':=(hO.wide (zIs (v::rd) m hw2)) a w I hH hops (wpAnyIn (se z.rd) 0 X.P .any l.toArray (dY X n z1 Q) fuel (listed.setIfInBounds i true)) (dY X n z1 Q) (by
      rintro u r _ I' w' ⟨μ',hrr,rfl⟩ hv hH' hx'
      obtain ⟨rfl,rfl⟩:=hrr
      have hS':=hS0
      have hpm:=zOj (m:=m) (en:=en0) hw2 hw1
      exact step r _ u I' w' hS' (keep v (wrs v rfl) en0) hv (hH'.perm hpm) (hx'.perm (bb _) hpm))
     exact v86
    |h v rd=>
     obtain ⟨o2,ho2,hg,⟨hw1,hw2⟩,R,hO,_,hS⟩:=hSQ'
     exact j6
    |g v rd=>
     obtain ⟨o2,ho2,hg,hd2,⟨hw1,hw2⟩,en0,_,hO,hS0⟩:=hSQ'
     rw [hon] at ho2;cases ho2
     have hO':=(hO.wide (zIs (v::rd) m hw2)) a w I hH hops (wpAnyIn (se z.rd) 0 X.P .any l.toArray (dY X n z1 Q) fuel (listed.setIfInBounds i true)) (dY X n z1 Q) (by
      rintro u r _ I' w' ⟨μ',rfl,rfl⟩ hv hH' hx'
      have hpm:=zOj (m:=m) (en:=Jg o (Al ρ) en0) hw2 hw1
      exact step r _ u I' w' (by rw [hd2,zo];exact hS0) (keep v (wrs v rfl) _) hv (hH'.perm hpm) (hx'.perm (bb _) hpm))
     exact v86
    |f v=>
     obtain ⟨o2,ho2,hg,hFr,_⟩:=hF i v uF
     rw [hon] at ho2;cases ho2
     have hfv:=hfm i v uF
     have hFr':rK X o (Al ρ) (rV F i):=by
      refine OpE.congr hFr λx hx=>?_
      cases x with
      |tmp t=>
       have h1:=aT.1 hf1 ⟨i,.f v⟩ uF
       simp only [cN,isF,aU,dq,ae,rl,aA,ij,cw,Ha hon] at h1
       exact (hρ t (h1.1 t (xw hx))).symm
      |_=>rfl
     have hO':=(OpE.wide (φ:=pN m) hFr' (bb _)) a w I hH hops (wpAnyIn (se z.rd) 0 X.P .any l.toArray (dY X n z1 Q) fuel (listed.setIfInBounds i true)) (dY X n z1 Q) (by
      rintro u r _ I' w' ⟨_,⟨en,hrr,rfl⟩,rfl⟩ hv hH' hx'
      have hpm:=Ho (en:=en) hfv
      have hS':=hSQ' r en hrr
      rw [LZ hon] at hS'
      exact step r _ u I' w' hS' (keep v (wrs v rfl) en) hv (hH'.perm hpm) (hx'.perm (bb _) hpm))
     exact v86
def vY:List Nat->Bool
 |[]=>true
 |a::r=>r.all (λb=> !Nat.beq a b)&&vY r
def iK (l:List Oper) (s:Nat) (its:List It):Bool:=
 its.all (λit=>Nat.blt it.i s)&&(List.range s).all (λi=>(its.map It.i).contains i)&&vY (its.map It.i)&&nV l its&&its.all (cN l s)
def FX (X:Cfg) (l:List Oper) (regs:List (Nat×V)):List It->Rfs->(Rfs->Prop)->Prop
 |[],F,K=>K F
 |⟨i,.f _⟩::its,F,K=>∃o,nth l i=some o/\o.guard=none/\∃Rf,rK X o (ev regs) Rf/\(∃r en,Rf r en)/\FX X l regs its (F++[(i,Rf)]) K
 |_::its,F,K=>FX X l regs its F K
def Rc {F:Rfs} {i:Nat} {G:Rfs} (h:i∈F.map Prod.fst):rV (F++G) i=rV F i:=by
 induction F with
 |nil=>cases h
 |cons a F ih=>
  obtain ⟨j,R⟩:=a
  show (bif Nat.beq j i then R else rV (F++G) i)=bif Nat.beq j i then R else rV F i
  cases hb:Nat.beq j i with
  |true=>rfl
  |false=>
   simp only [aw]
   refine ih ?_
   rcases ag.1 h with h|h
   ·rw [h] at hb;simp [aX] at hb
   ·exact h
def Rd {F:Rfs} {i:Nat} {R:V->E->Prop} (h:i ∉ F.map Prod.fst):rV (F++[(i,R)]) i=R:=by
 induction F with
 |nil=>show (bif Nat.beq i i then R else _)=R;rw [aX];rfl
 |cons a F ih=>
  obtain ⟨j,R'⟩:=a
  show (bif Nat.beq j i then R' else rV (F++[(i,R)]) i)=R
  cases hb:Nat.beq j i with
  |true=>exact absurd (bj hb).symm (λe=>h (by simp [e]))
  |false=>exact ih λe=>h (by simp [e])
def FX.parts {X:Cfg} {l:List Oper} {regs:List (Nat×V)} {K:Rfs->Prop}:∀{its:List It} {F:Rfs},(its.map It.i).Nodup->(∀it,it∈its->it.i ∉ F.map Prod.fst)->FX X l regs its F K->∃G,eC X l (F++G) (bJ regs) its/\K (F++G)/\∀i,i∈G.map Prod.fst->i∈its.map It.i
 |[],F,_,_,h=>⟨[],λi w hi=>(by cases hi),by rw [rk];exact h,λi hi=>(by cases hi)⟩
 |⟨i,.q rd⟩::its,F,hn,hd,h=>by
  exact p8
 |⟨i,.e w0 rd⟩::its,F,hn,hd,h=>by
  exact p8
 |⟨i,.w w0 rd⟩::its,F,hn,hd,h=>by
  exact p8
 |⟨i,.g w0 rd⟩::its,F,hn,hd,h=>by
  exact p8
 |⟨i,.h w0 rd⟩::its,F,hn,hd,h=>by
  exact p8
 |⟨i,.f w0⟩::its,F,hn,hd,h=>by
  obtain ⟨o,ho,hg,Rf,hF,hne,h⟩:=h
  have hi:=hd ⟨i,.f w0⟩ uF
  obtain ⟨G,h1,h2,h3⟩:=FX.parts (its:=its) (co.1 hn).2 (λit hit e=>by
   rw [ah] at e
   rcases aq.1 e with e|e
   ·exact hd it (by simp [hit]) e
   ·have e2:it.i=i:=by simpa using e
    exact (co.1 hn).1 (by show i∈its.map It.i;rw [<-e2];exact gd hit)) h
  refine ⟨(i,Rf)::G,λj w hj=>?_,by simpa using h2,λj hj=>?_⟩
  ·have e0:F++(i,Rf)::G=F++[(i,Rf)]++G:=by simp
   rcases ag.1 hj with e|e
   ·injection e with e1 e2
    subst e1
    refine ⟨o,ho,hg,?_⟩
    rw [e0,Rc uF,Rd hi,zRj];exact ⟨hF,hne⟩
   ·rw [e0];exact h1 j w e
  ·rcases ag.1 hj with e|e
   ·simp [e]
   ·exact aH _ (h3 j e)
def zYi:∀{L:List Nat},vY L=true->L.Nodup
 |[],_=>iv
 |a::r,h=>by
  simp only [vY,ae,rl,aA] at h
  exact co.2 ⟨λhin=>(by have:=h.1 a hin;rw [aX] at this;cases this),zYi h.2⟩
def zOw:∀k:Nat,(List.replicate k (none:Option E)).filterMap id=[]
 |0=>rfl
 |k+1=>by rw [List.replicate_succ,dt];exact zOw k
def yN {regs:List (Nat×V)} {μ:List E} {id:Nat} (s k:Nat) (its:List It) (hm:X.P.follows .mixedOrders=true) (hchk:pS l s=true) (hits:iK l s its=true) (hml:Nat.ble s l.length=true) (hd:l.all (dstOk n)=true) (hfm:(its.all λit=>match it.k with|.f w=>Nat.blt w k|_=>true)=true)
  (h:FX X l regs its [] λF=>SQ X n l F (iG X n z l s Q) its (bJ regs) (List.replicate k none++μ.map some)):oU X n z (.region id l.toArray true) Q ⟨regs,μ⟩:=by
 intro z1 hz a w st
 obtain ⟨I,hH,hR,hx,hdf,hs⟩:=st.drew
 unfold iK at hits
 simp only [ae,rl] at hits
 obtain ⟨⟨⟨⟨g1,g2⟩,g3⟩,g4⟩,g5⟩:=hits
 have hsl:=ci hml
 have hin:∀i,i<s->i∈its.map It.i:=λi hi=>by simpa using g2 i (cw.2 hi)
 have hnd:(its.map It.i).Nodup:=zYi g3
 obtain ⟨G,h1,h2,h3⟩:=FX.parts hnd (λit _ e=>by cases e) h
 rw [D6] at h1 h2
 have hall:pN (List.replicate k none++μ.map some)=μ:=by
  unfold pN
  rw [jj]
  rw [zOw k,D6,List.filterMap_map]
  show List.filterMap some μ=μ
  exact List.filterMap_some
 refine ie hm ?_
 refine XI (F:=G) hz (wk hchk) hsl hd _ its (bJ regs) _ _ a _ I uF ?_ (λi _ hi=>by simp [hi]) (λj o ho hb=>by
  have hlt:j<l.length:=(af.1 ho).1
  simp [hlt] at hb) (λi hi=>?_) hnd (λit hit=>by have:=g1 it hit;simpa [cr] using this) g4 (aT.2 g5) h1 (λt _=>rfl) (λi v hv=>?_) h2 (by rw [hall];exact hH) hR (by rw [hall];exact hx) hdf hs
 ·unfold B2
  simp
 ·constructor
  ·intro _
   obtain ⟨it,hit,e⟩:=aY.1 (hin i hi)
   exact ⟨it.k,by rw [<-e];exact hit⟩
  ·intro _
   simp [show i<l.length by omega]
 ·have h4:=aT.1 hfm _ hv
  have h5:v<k:=by simpa [cr] using h4
  rw [Hb,aV (by simpa using h5),List.getElem?_replicate,ab h5]
end draw
/-! ## Steps of a derivation -/
section rules
variable {X:Cfg} {n:Nat} {z:Z} {Q:Exit->S->Prop} {l:List Oper} {s:Nat} {F:Rfs} {K:(Nat->V)->List (Option E)->Prop} {its:List It} {o:Oper} {regs:List (Nat×V)} {m:List (Option E)} {i:Nat} {rd:List Nat}
def zU {r:V} {d:Tmp} (ho:nth l i=some o) (hn:rd.Nodup) (hd:o.dst=some d) (hg:o.guard=none) (h:Det X o (ev regs) (fp m rd) r (fp m rd)) (k:SQ X n l F K its (bJ ((d,r)::regs)) m):SQ X n l F K (⟨i,.q rd⟩::its) (bJ regs) m:=
 ⟨o,ho,hn,r,WZ hg h,by rw [hd,xv];exact k⟩
def ot {r:V} {d:Tmp} (q:(nth l i).bind (λo=>(so o).map λd=>(o,d))=some (o,d)) (h:Det X o (ev regs) (fp m rd) r (fp m rd)) (k:SQ X n l F K its (bJ ((d,r)::regs)) m) (hn:rd.Nodup:=by decide):SQ X n l F K (⟨i,.q rd⟩::its) (bJ regs) m:=by
 cases ho:nth l i with
 |none=>rw [ho] at q;cases q
 |some o'=>
  cases hd:so o' with
  |none=>simp [ho,hd] at q
  |some d'=>
   simp [ho,hd] at q;obtain ⟨rfl,rfl⟩:=q
   exact zU ho hn (qm hd).1 (qm hd).2 h k
def sk {w:Nat} {R:V->List E->Prop} {d:Tmp} (ho:nth l i=some o) (hw:Nat.blt w m.length=true) (hn:(w::rd).Nodup) (hd:o.dst=some d) (hg:o.guard=none) (h:OpE X o (ev regs) (fp m (w::rd)) R) (k:∀r μ',R r μ'->∃en,μ'=en::fp m rd/\SQ X n l F K its (bJ ((d,r)::regs)) (m.set w (some en))):SQ X n l F K (⟨i,.e w rd⟩::its) (bJ regs) m:=
 ⟨o,ho,hg,⟨by simpa [cr] using hw,hn⟩,R,by rw [zRj];exact h,λr μ' hr=>by obtain ⟨en,h1,h2⟩:=k r μ' hr;exact ⟨en,h1,by rw [hd,xv];exact h2⟩⟩
def uh {w:Nat} {R:V->List E->Prop} (ho:nth l i=some o) (hw:Nat.blt w m.length=true) (hn:(w::rd).Nodup) (hd:o.dst=none) (hg:o.guard=none) (h:OpE X o (ev regs) (fp m (w::rd)) R) (k:∀r μ',R r μ'->∃en,μ'=en::fp m rd/\SQ X n l F K its (bJ regs) (m.set w (some en))):SQ X n l F K (⟨i,.e w rd⟩::its) (bJ regs) m:=
 ⟨o,ho,hg,⟨by simpa [cr] using hw,hn⟩,R,by rw [zRj];exact h,λr μ' hr=>by obtain ⟨en,h1,h2⟩:=k r μ' hr;exact ⟨en,h1,by rw [hd,zo];exact h2⟩⟩
def Wz {w:Nat} {r:V} {en en0:E} (ho:nth l i=some o) (hw:Nat.blt w m.length=true) (hn:(w::rd).Nodup) (hd:o.dst=none) (hg:o.guard=none) (hs:sF m w=some en0) (h:Det X o (ev regs) (fp m (w::rd)) r (en::fp m rd)) (he:Jg o (ev regs) en0=en) (k:SQ X n l F K its (bJ regs) (m.set w (some en))):SQ X n l F K (⟨i,.g w rd⟩::its) (bJ regs) m:=
 ⟨o,ho,hg,hd,⟨by simpa [cr] using hw,hn⟩,en0,hs,by rw [zRj,he];exact OpE.mono h λr' μ' e=>e.2,by rw [zRj,he];exact k⟩
def Sx {w:Nat} {d:Tmp} {R:V->E->Prop} (hR:rV F i=R) (hd:rA l i=some d) (k:∀r en,R r en->SQ X n l F K its (bJ ((d,r)::regs)) (m.set w (some en))):SQ X n l F K (⟨i,.f w⟩::its) (bJ regs) m:=
 λr en hr=>by rw [hR] at hr;rw [hd,xv];exact k r en hr
def wE {μ:List E} (hμ:pN m=μ) (h:oX X n z l.toArray (l.drop s) Q ⟨regs,μ⟩):SQ X n l F (iG X n z l s Q) [] (bJ regs) m:=⟨regs,rfl,by rw [hμ];exact h⟩
def zR {k:Kx} {Kf:Rfs->Prop} {G:Rfs} (hk:isF k=false) (h:FX X l regs its G Kf):FX X l regs (⟨i,k⟩::its) G Kf:=by
 cases k with
 |f w=>cases hk
 |q _=>exact h
 |e _ _=>exact h
 |w _ _=>exact h
 |g _ _=>exact h
 |h _ _=>exact h
def SA {w:Nat} {Kf:Rfs->Prop} {G:Rfs} {Rf:V->E->Prop} (ho:nth l i=some o) (hg:o.guard=none) (h:rK X o (ev regs) Rf) (hne:∃r en,Rf r en) (k:FX X l regs its (G++[(i,Rf)]) Kf):FX X l regs (⟨i,.f w⟩::its) G Kf:=⟨o,ho,hg,Rf,h,hne,k⟩
def wG {Kf:Rfs->Prop} {G:Rfs} (h:Kf G):FX X l regs [] G Kf:=h
end rules
section
variable {X:Cfg} {o:Oper} {e:ns->V} {μ:List E} {t:nr}
end
section
variable {X:Cfg} {o:Oper} {e:ns->V} {μ:List E}
def Dw {f:FuncId} {arg_:List ns} {ts:Array nr} {args:List V} {en:E} {t:nr} {size:Nat} {rows:List (List C)} (p:Nat) (hp:nth μ p=some en) (ho:o.op=.call { callee:=.value (.func f),args:=arg_.toArray,argTypes:=ts }) (hf:bA X.P f=true)
  (hc:Con X f args [en] λr μ'=>∃sv',r=.c (.lit sv')/\μ'=[.vec sv' t size rows]) (ha:pO (arg_.map e) args):OpE X o e μ λr μ'=>∃sv',r=.c (.lit sv')/\μ'=rN μ p (.vec sv' t size rows):=by
 have h1:OpE X o e (en::rH μ p) λr μ'=>∃sv',r=.c (.lit sv')/\μ'=.vec sv' t size rows::rH μ p:=
  (Sz ho hf (hc.frame (rH μ p)) ha).mono λr μ' ⟨μ1,⟨sv',h1,h2⟩,h3⟩=>⟨sv',h1,by rw [h3,h2];rfl⟩
 intro a w I hH hops K Q k
 refine h1 a w I (hH.perm (Xb hp)) hops K Q ?_
 rintro v r μ' I' w' ⟨sv',rfl,rfl⟩ hv hH' hx
 have ps:=zXo (.vec sv' t size rows) hp
 exact k v _ _ I' w' ⟨sv',rfl,rfl⟩ hv (hH'.perm ps.symm) (hx.perm (Xb hp).symm ps.symm)
end
variable {rows' rows:List (List C)} {sv:Value} {t:nr} {b:Nat}
def zKr {u:nr} {cs:List C} {bμ:List E} (h:rows=rows'):E.vec sv t n rows::E.row b u cs::bμ=[E.vec sv t n rows',E.row b u cs]++bμ:=by rw [h];rfl
def Uk {e:E} {u:nr} {cs:List C} {bμ:List E} (h:rows=rows'):e::E.vec sv t n rows::E.row b u cs::bμ=[e,E.vec sv t n rows',E.row b u cs]++bμ:=by rw [h];rfl
def SB {bμ:List E} (h:rows=rows'):E.vec sv t n rows::bμ=[E.vec sv t n rows']++bμ:=by rw [h];rfl
def A5 {size:Nat}:∀{rows:List (List C)} (k:Nat),(∀r,r∈rows->r.length=size)->(rows.take k).flatten=rows.flatten.take (k*size)/\(rows.drop k).flatten=rows.flatten.drop (k*size)
 |[],k,_=>by simp
 |r::rows,0,h=>by simp
 |r::rows,k+1,h=>by
  have hr:=h r uF
  obtain ⟨h1,h2⟩:=A5 (rows:=rows) k λr' hr'=>h r' (by simp [hr'])
  have e:(k+1)*size=r.length+k*size:=by rw [dx,hr];omega
  constructor
  ·rw [av,eh,eh,h1,e,g8,aE (l:=r) zB,d6]
  ·rw [aF,eh,h2,e,fy,cl (l:=r) zB,d6,D6]
section
variable {X:Cfg} {o:Oper} {e:ns->V} {μ:List E} {t:nr}
end
/-! ## Cells that are fresh,and what they read as -/
inductive FReps (w:World) (J:Nat->Prop):List C->List Value->Prop where
 |nil:FReps w J [] []
 |cons {c:C} {v:Value} {cs:List C} {vs:List Value} (h:FRep w J c v) (t:FReps w J cs vs):FReps w J (c::cs) (v::vs)
def FReps.mono {w w':World} {J J':Nat->Prop} (hw:∀b,J b->w'.heap[b]? =w.heap[b]?) (hI:∀b,J b->J' b) {cs:List C} {vs:List Value} (h:FReps w J cs vs):FReps w' J' cs vs:=by
 induction h with
 |nil=>exact .nil
 |cons h _ ih=>exact .cons (h.mono hw hI) ih
def FReps.lits {w:World} {J:Nat->Prop} {cs:List C} {vs:List Value} (h:FReps w J cs vs) (w':World) (I:Nat->Prop):CReps w' I (vs.map .lit) vs:=by
 induction h with
 |nil=>exact .nil
 |cons h _ ih=>exact .cons (.lit _ h.one) ih
section
variable {sv:Value} {c:C}
def tA (sv:Value) (c:C):List C->List C->Prop
 |[],[]=>True
 |x::xs,y::ys=>(x=y∨(x=.lit sv/\y=c))/\tA sv c xs ys
 |_,_=>False
def zRu {w:World} {I:Nat->Prop} (h:CRep w I c sv):∀{xs ys:List C} {vs:List Value},tA sv c xs ys->CReps w I xs vs->CReps w I ys vs
 |[],[],_,_,k=>k
 |x::xs,y::ys,_,hc,.cons hd tl=>by
  refine .cons ?_ (zRu h hc.2 tl)
  rcases hc.1 with rfl|⟨rfl,rfl⟩
  ·exact hd
  ·cases hd;exact h
 |[],_::_,_,h,_=>(h:False).elim
 |_::_,[],_,h,_=>(h:False).elim
structure EFlC (sv:Value) (c:C) (e e':E):Prop where
 blocks:e'.blocks=e.blocks
 mono:e.Mono->e'.Mono
 rep:∀w I,CRep w I c sv->ERep w I e->ERep w I e'
def EFlC.refl (e:E):EFlC sv c e e:=⟨rfl,λh=>h,λ_ _ _ h=>h⟩
def EFlC.row {b:Nat} {t:nr} {cs ds:List C} (h:tA sv c cs ds):EFlC sv c (.row b t cs) (.row b t ds):=
 ⟨rfl,λ_=>trivial,λ_ _ hs ⟨vs,h1,h2⟩=>⟨vs,h1,zRu hs h h2⟩⟩
def El {xs ys:List C} (h:tA sv c xs ys):ys.length=xs.length:=by
 induction xs generalizing ys with
 |nil=>cases ys with
  |nil=>rfl
  |cons y ys=>exact h.elim
 |cons x xs ih=>cases ys with
  |nil=>exact h.elim
  |cons y ys=>simp [ih h.2]
def AQ (xs:List C):tA sv c xs xs:=by
 induction xs with
 |nil=>trivial
 |cons x xs ih=>exact ⟨.inl rfl,ih⟩
def qAp {xs ys xs' ys':List C} (h:tA sv c xs ys) (k:tA sv c xs' ys'):tA sv c (xs++xs') (ys++ys'):=by
 induction xs generalizing ys with
 |nil=>cases ys with
  |nil=>exact k
  |cons y ys=>exact h.elim
 |cons x xs ih=>cases ys with
  |nil=>exact h.elim
  |cons y ys=>exact ⟨h.1,ih h.2⟩
def Ml {R:List (List C)} {i:Nat} {r r':List C} (hi:R[i]? =some r) (h:tA sv c r r'):tA sv c R.flatten (R.set i r').flatten:=by
 induction R generalizing i with
 |nil=>simp at hi
 |cons q R ih=>
  cases i with
  |zero=>
   simp at hi;subst hi
   simpa using qAp h (AQ R.flatten)
  |succ i=>simpa using qAp (AQ q) (ih xK0)
def EFlC.vec {s:Value} {t:nr} {n i:Nat} {R:List (List C)} {r r':List C} (hi:R[i]? =some r) (h:tA sv c r r'):EFlC sv c (.vec s t n R) (.vec s t n (R.set i r')):=by
 refine ⟨rfl,λ_=>trivial,λw I hs k=>?_⟩
 rcases k with ⟨_,_,rfl⟩|⟨h1,xs,h2,h3,h4⟩
 ·simp at hi
 ·refine .inr ⟨h1,xs,by rw [ep];exact h2,zRu hs (Ml hi h) h3,λq hq=>?_⟩
  rcases ga hq with h|h
  ·exact h4 q h
  ·subst h;rw [El ‹_›];exact h4 r (bw hi)
def FLC (sv:Value) (c:C) (x y:V):Prop:=∀w I v,CRep w I c sv->VRep w I x v->VRep w I y v
def FLC.sl:FLC sv c (.c (.lit sv)) (.c c):=by
 intro w I v h hv
 rw [hv.lit_inv]
 exact h
def FLC.agg {xs ys:List C} (h:tA sv c xs ys):FLC sv c (.agg xs) (.agg ys):=by
 intro w I v hs hv
 obtain ⟨vs,rfl,hc⟩:=hv.agg_inv
 exact ⟨vs,rfl,zRu hs h hc⟩
end
abbrev Cfg.up (X:Cfg) (n:Nat) (h:X.N<=n):Cfg:=⟨X.P,n,X.G,λw w' hb=>X.hG w w' λb hb'=>hb b (gi hb' h)⟩
def Con.up {X:Cfg} {f:FuncId} {args:List V} {μ:List E} {Q:V->List E->Prop} (h:Con X f args μ Q) (n:Nat) (hn:X.N<=n):Con (X.up n hn) f args μ Q:=by
 intro w I vs hH ha
 have H0:Heap X w I μ:=⟨aL hn hH.lo,hH.glob,hH.nodup,λb hb=>⟨aL hn (hH.own b hb).1,(hH.own b hb).2⟩,hH.imm,hH.rep,hH.mono⟩
 refine (h w I vs H0 ha).mono ?_
 rintro en w' ⟨v,r,μ',I',h1,h2,h3,h4,h5⟩
 refine ⟨v,r,μ',I',h1,h2,h3,⟨aL hH.lo h5.size,h4.glob,h4.nodup,λb hb=>⟨?_,(h4.own b hb).2⟩,h4.imm,h4.rep,h4.mono⟩,h5⟩
 rcases h5.own' b hb with h|h
 ·exact (hH.own b h).1
 ·exact aL hH.lo h
/-! ## A fresh tree,handed over -/
def kpV (m:Nat) (u u':Value):Prop:=
 u'=u∨(∃k a b,u=.int k a/\u'=.int k b)∨(∃s t,u=.string s/\u'=.string t/\t.size<=s.size+m)∨(∃a b,u=.bool a/\u'=.bool b)
variable {m:Nat}
def kpV.mono {m':Nat} (h:m<=m') {u u':Value} (k:kpV m u u'):kpV m' u u':=by
 rcases k with k|k|⟨s,t,h1,h2,h3⟩|k
 ·exact .inl k
 ·exact .inr (.inl k)
 ·exact .inr (.inr (.inl ⟨s,t,h1,h2,zB⟩))
 ·exact .inr (.inr (.inr k))
def kpV.one {u u':Value} (h:kpV m u u') (h1:u.oneCell'=true):u'.oneCell'=true:=by
 rcases h with rfl|⟨_,_,_,_,rfl⟩|⟨_,_,_,rfl,_⟩|⟨_,_,_,rfl⟩<;>first|exact h1|rfl
def Kp (w0:World) (bs:List Nat) (m:Nat) (w:World):Prop:=
 ∀b,b∈bs->∀cs t,w0.heap[b]? =some (.cells cs t (0,0))->∃cs',w.heap[b]? =some (.cells cs' t (0,0))/\cs'.size=cs.size/\∀(i:Nat) (u u':Value),cs[i]? =some u->cs'[i]? =some u'->kpV m u u'
def Kp.refl (w0:World) (bs:List Nat) (m:Nat):Kp w0 bs m w0:=λb _ cs t h=>⟨cs,h,rfl,λi u u' h1 h2=>.inl (by rw [h1] at h2;exact (Option.some.inj h2).symm)⟩
def Kp.up {w0 w:World} {bs:List Nat} {m':Nat} (hm:m<=m') (h:Kp w0 bs m w):Kp w0 bs m' w:=λb hb cs t hc=>by
 obtain ⟨cs',h1,h2,h3⟩:=h b hb cs t hc
 exact ⟨cs',h1,h2,λi u u' a b=>(h3 i u u' a b).mono hm⟩
def Kp.mono (w0:World) (bs:List Nat) (m:Nat):(E.reg bs (Kp w0 bs m)).Mono:=λw w' hw h b hb cs t hc=>by
 obtain ⟨cs',h1,h2,h3⟩:=h b hb cs t hc
 exact ⟨cs',by rw [hw b hb];exact h1,h2,h3⟩
section
variable {X:Cfg} {o:Oper} {e:ns->V} {μ:List E} {w0:World} {bs:List Nat} {m:Nat}
def Yj {P:Value->Prop} {w:World} {I:Nat->Prop} {v:Value} (h:CRep w I (.gh P) v):P v:=by
 cases h with|gh _ _ _ h=>exact h
end
abbrev ZS:C:=.gh λv=>∃a,v=.slice a 0 0
section
variable {X:Cfg} {o:Oper} {e:ns->V} {μ:List E} {t:nr} {w0:World} {bs:List Nat} {m:Nat}
def zPs {et:nr} {size bytes:Nat} {zs:List Value} (ho:o.op=.buildSlice t 0 ([]:List (Nat×ns)).toArray) (ht:dW X.P t=some (et,size,bytes)) (hz:dZ X.P et=some zs):Det X o e μ (.c ZS) μ:=by
 intro a w I hH hops K Q k
 obtain ⟨us,hrun,hc,hul⟩:=zSk (X:=X) (I:=I) (rows:=[]) ho ht hz uF rfl rfl rfl hops
 let w':=w.alloc (.cells us.toArray et)
 have hsz:w'.heap.size=w.heap.size+1:=by show (w.heap.push _).size=_;simp
 have hold:∀b,b<w.heap.size->w'.heap[b]? =w.heap[b]? :=λb hb=>Below.heap_alloc w _ b hb
 have still:∀b,I b->w'.heap[b]? =w.heap[b]? :=λb hb=>hold b (hH.imm b hb)
 have hH':Heap X w' I μ:=
  ⟨by have:=hH.lo;omega,X.hG _ _ (λb hb=>hold b xJ5) hH.glob,hH.nodup,hH.own,λb hb=>by have:=hH.imm b hb;omega,λen hen=>(hH.rep en hen).mono (hH.mono en hen) still (λ_ h=>h) λb hb=>hold b ((hH.rep en hen).lt hb),hH.mono⟩
 have hx':Ext w I μ w' I μ:=⟨rfl,rfl,rfl,zB,λb hb _=>hold b hb,λ_ h=>h,λb hb=>.inl hb,λb hb=>.inl hb⟩
 exact LV hrun (k _ _ μ I w' ⟨rfl,rfl⟩ (CRep.gh _ _ rfl ⟨_,rfl⟩) hH' hx')
def zPn {et:nr} {x y:ns} {size bytes:Nat} {news:List (List C)} (ho:o.op=.call { callee:=.builtin .append,args:= #[x,y],argTypes:= #[t,t] }) (ht:dW X.P t=some (et,size,bytes))
  (hx:e x=.c ZS) (hy:e y=.c (.sl size news)) (hb:news.length*bytes<=140737488355328) (hn:news.length<=140737488355328):
  OpE X o e μ λr μ'=>∃sv',r=.c (.lit sv')/\μ'=.vec sv' et size news::μ:=by
 intro a w I hH hops K Q k
 have hxv:=hops x AC
 have hyv:=hops y AC
 rw [hx] at hxv
 rw [hy] at hyv
 obtain ⟨a0,h1⟩:=Yj (show CRep w I ZS (a.eval x) from hxv)
 have hbl:(E.vec (.slice a0 0 0) et size []).blocks=[]:=by cases a0<;>rfl
 have ebl:bC (.vec (.slice a0 0 0) et size []::μ)=bC μ:=by rw [VB,hbl];rfl
 have hH0:Heap X w I (.vec (.slice a0 0 0) et size []::μ):=by
  refine ⟨hH.lo,hH.glob,by rw [ebl];exact hH.nodup,λb hb=>hH.own b (by rw [ebl] at hb;exact hb),hH.imm,λen hen=>?_,λen hen=>?_⟩
  ·rcases ag.1 hen with rfl|h
   ·exact .inl ⟨a0,rfl,rfl⟩
   ·exact hH.rep en h
  ·rcases ag.1 hen with rfl|h
   ·trivial
   ·exact hH.mono en h
 have hp:nth (.vec (.slice a0 0 0) et size []::μ) 0=some (.vec (.slice a0 0 0) et size []):=rfl
 obtain ⟨v',w',hrun,e1,e2,e3,e4,e5,e6,e7,hone⟩:=zOq (P:=X.P) (ty:=o.type) ht (hH0.rep _ (Cc hp)) hyv (λb hb=>⟨hH.imm b hb,λh=>by rw [show BV (.slice a0 0 0)=[] from hbl] at h;cases h⟩) (by simp only [maxLen,qw];omega) (by simpa using hb)
 obtain ⟨hH',hx'⟩:=Heap.write (w':=w') hH0 (en':=.vec v' et size ([]++news)) hp e1 e2 e3 e4 e5 xV2 e6 trivial e7
 have hx2:Ext w I μ w' I (.vec v' et size news::μ):=⟨hx'.os,hx'.tape,hx'.output,hx'.size,λb h1 h2=>hx'.block b h1 (by rw [ebl];exact h2),hx'.imm,λb h=>by have:=hx'.imm' b h;rw [ebl] at this;exact this,λb h=>by have:=hx'.own' b h;rw [ebl] at this;exact this⟩
 refine LV ?_ (k v' _ _ I w' ⟨v',rfl,rfl⟩ (CRep.lit _ hone) hH' hx2)
 simp only [execOp,ho,resolve,invoke,builtin,aW,ba,aI,i9,aG,bt,h1,hrun]
end
section
variable {X:Cfg} {o:Oper} {e:ns->V} {μ:List E} {t:nr}
def zKn {et:nr} {size bytes k:Nat} {x hi:ns} {sv:Value} {rows:List (List C)} (p:Nat) (ho:o.op=.slice t x none (some hi) none) (ht:dW X.P t=some (et,size,bytes)) (hx:e x=.c (.lit sv))
  (hp:nth μ p=some (.vec sv et size rows)) {i:Int} (h2:e hi=.c (.lit (.int .i64 i))) (hik:i=(k:Int)) (hk:k<=rows.length):
  OpE X o e μ λr μ'=>∃sv',r=.c (.lit sv')/\μ'=rN μ p (.vec sv' et size (rows.take k)):=by
 subst hik
 intro a w I hH hops K Q kk
 obtain ⟨hu,inf,z,hinf,hz,hs,hby,hzs,hpos⟩:=wQ ht
 have hxv:=hops x qr
 have hhv:=hops hi qr
 rw [hx] at hxv
 rw [h2] at hhv
 have e1:=hxv.lit_inv
 rcases hH.rep _ (Cc hp) with ⟨a0,rfl,rfl⟩|⟨hb,xs,hown,hc,hr⟩
 ·have hk0:k=0:=by simpa using hk
  subst hk0
  have e2:=hhv.lit_inv
  have hb:∀m code,(Instr.sliceBound (.int .i64 0) m code).run X.P w=.ok 0 w:=λm code=>by simp [Instr.sliceBound,asIntOf]
  obtain ⟨hH',hx'⟩:=Heap.write (w':=w) hH (en':=.vec (.slice a0 0 0) et size []) hp rfl rfl rfl (aC _) (λ_ _ _=>rfl) xV2 (λb hb=>.inl hb) trivial (.inl ⟨a0,rfl,rfl⟩)
  refine LV (v:=.slice a0 0 0) (w':=w) ?_ (kk _ _ _ I w ⟨_,rfl,rfl⟩ (CRep.lit _ rfl) hH' hx')
  simp [execOp,ho,e1,e2,Instr.sliceAt,Instr.slice,aK hu,Instr.sliceBounds,hb,sizeOf,typeInfo,hinf]
 ·rcases hown.2 with ⟨rfl,h0⟩|⟨g,cap,cur,rfl,hbg,hg,hnc,hcm,hcs,htake⟩
  ·exact absurd rfl hb
  ·obtain ⟨c',rfl⟩:∃c',cap=c'+1:=by
    cases cap with
    |zero=>exact absurd rfl hb
    |succ c'=>exact ⟨c',rfl⟩
   have hrun:∀code,(Instr.sliceBound (a.eval hi) (c'+1) code).run X.P w=.ok k w:=λcode=>Cs hhv rfl zB
   obtain ⟨f1,_⟩:=A5 (rows:=rows) k hr
   have hl1:(xs.take (k*size)).length=k*size:=by rw [ap,hown.1];exact bg (dd _ zB)
   have hl2:(rows.take k).length=k:=by rw [ap];omega
   obtain ⟨hH',hx'⟩:=Heap.write (w':=w) hH (en':=.vec (.slice (some ⟨g,0,none⟩) k (c'+1)) et size (rows.take k)) hp rfl rfl rfl (aC _) (λ_ _ _=>rfl) (by simp only [E.blocks];unfold BV;simp) (λb hb=>.inl hb) trivial
    (.inr ⟨by unfold BV;simp,xs.take (k*size),by
     rw [hl2]
     refine ⟨hl1,.inr ⟨g,c'+1,cur,rfl,hbg,hg,zB,hcm,hcs,?_⟩⟩
     rw [<-htake,cz,bg (dd _ zB)],by rw [f1];exact hc.take _,λr hr'=>hr r (e9 hr')⟩)
   refine LV (v:=.slice (some ⟨g,0,none⟩) k (c'+1)) (w':=w) ?_ (kk _ _ _ I w ⟨_,rfl,rfl⟩ (CRep.lit _ rfl) hH' hx')
   have hB:(Instr.sliceBounds true rows.length (c'+1) none (some (a.eval hi)) none).run X.P w=.ok (0,k,c'+1) w:=by simp [Instr.sliceBounds,hrun]
   simp [execOp,ho,e1,Instr.sliceAt,Instr.slice,aK hu,hB,sizeOf,typeInfo,hinf,hs,Addr.add_lit]
def yW {f:FuncId} {arg_:List ns} {ts:Array nr} {args:List V} {μf φ:List E} {r:V} (ps:List Nat) (ho:o.op=.call { callee:=.value (.func f),args:=arg_.toArray,argTypes:=ts }) (hf:bA X.P f=true)
  (hc:Con X f args μf λr' μ'=>r'=r/\μ'=μf) (ha:pO (arg_.map e) args) (hp:sG ps μ=some (μf,φ)):Det X o e μ r μ:=by
 have h:=kL (o:=o) (e:=e) ps ho hf hc ha hp
 exact OpE.det_perm (a:=tH ps μf φ) h ((zKe ps μf φ).trans (zJp hp).symm)
def zMm {f:FuncId} {arg_:List ns} {ts:Array nr} {args:List V} {μf φ:List E} {Q:V->List E->Prop} (ps:List Nat) (ho:o.op=.call { callee:=.value (.func f),args:=arg_.toArray,argTypes:=ts }) (hf:bA X.P f=true)
  (hc:Con X f args μf Q) (ha:pO (arg_.map e) args) (hp:sG ps μ=some (μf,φ)):OpE X o e μ λr μ'=>∃μf',Q r μf'/\μ'=tH ps μf' φ:=by
 have h1:=Sz (o:=o) (e:=e) ho hf ((hc.frame φ).perm (zJp hp)) ha
 intro a w I hH hops K Q' k
 refine h1 a w I hH hops K Q' ?_
 rintro v r μ' I' w' ⟨μ1,hq,rfl⟩ hv hH' hx
 have p:=(zKe ps μ1 φ).symm
 exact k v r _ I' w' ⟨μ1,hq,rfl⟩ hv (hH'.perm p) (hx.perm (bb _) p)
end
def Gt {α:Type}:∀{l:List α} {p:Nat} {x:α},nth l p=some x->rN l p x=l
 |[],_,_,h=>by simp [nth] at h
 |y::l,0,x,h=>by simp only [nth,ay] at h;subst h;rfl
 |y::l,p+1,x,h=>by
  have:=Gt (l:=l) (p:=p) h
  show y::rN l p x=y::l
  rw [this]
def Weak.vecEq {regs:List (Nat×V)} {μ:List E} {size:Nat} (p:Nat) (hp:nth μ p=some (.vec sv t size rows)) (h:rows=rows'):Weak ⟨regs,μ⟩ ⟨regs,rN μ p (.vec sv t size rows')⟩:=by
 subst h
 rw [Gt hp]
 intro X n z a w hs
 exact hs
def Con.keep {f:FuncId} {args:List V} {μ:List E} (h:Con X f args μ λr' μ'=>r'=r/\∃ν,μ'=ν++μ):Con X f args μ λr' μ'=>r'=r/\μ'=μ:=Con.drop h
section
variable {X:Cfg} {o:Oper} {e:ns->V} {μ:List E} {x:ns}
end
/-! ## A slice of numbers that may be nil -/
section
variable {X:Cfg} {o:Oper} {e:ns->V} {μ:List E} {t ty et:nr} {size bytes:Nat} {x y:ns}
end
/-! ## Arrays -/
def iH (P:Program) (t:nr):Option (Nat×nr×Nat):=match P.underlying t with
 |some (.array n e)=>(match P.info? e with|some i=>some (n,e,i.size)|none=>none)
 |_=>none
def Hs {P:Program} {e:nr} {size:Nat} (h:iH P t=some (n,e,size)):P.underlying t=some (.array n e)/\∃i,P.info? e=some i/\i.size=size:=by
 unfold iH at h
 split at h
 ·rename_i n' e' hu
  split at h
  ·rename_i i hi
   simp only [ay,aO] at h
   obtain ⟨rfl,rfl,rfl⟩:=h
   exact ⟨hu,i,hi,rfl⟩
  ·cases h
 ·cases h
def kM {μ:List E} {et:nr} {x y:ns} {size off:Nat} {i:Int} (ho:o.op=.indexAddr t x y) (ht:iH X.P t=some (n,et,size)) (hx:e x=.c (.lit (.pointer (some ⟨b,off,none⟩)))) (hy:e y=.c (.lit (.int .i64 i))) (h0:0<=i) (hi:i<n):
  Det X o e μ (.c (.lit (.pointer (some ⟨b,off+i.toNat*size,none⟩)))) μ:=
 kW λa w I hH hops=>by
  have hxv:=hops x qr
  have hyv:=hops y qr
  rw [hx] at hxv
  rw [hy] at hyv
  obtain ⟨hu,inf,hinf,hs⟩:=Hs ht
  refine ⟨.pointer (some ⟨b,off+i.toNat*size,none⟩),?_,CRep.lit _ rfl⟩
  simp [execOp,ho,hxv.lit_inv,hyv.lit_inv,Instr.indexAt,asIntOf,aK hu,Instr.sureAddr,h0,hi,sizeOf,typeInfo,hinf,hs,S5]
section
variable {X:Cfg} {o:Oper} {e:ns->V} {μ:List E}
end
section
variable {X:Cfg} {o:Oper} {e:ns->V}
end
section
variable {X:Cfg} {o:Oper} {e:ns->V} {μ:List E}
end
section
variable {P:Program} {b:Frame} {a:Act} {k:List Item} {cs:List Frame} {w:World}
end
section
variable {X:Cfg} {o:Oper} {e:ns->V} {μ:List E}
end
open Go.Lib
section
variable {X:Cfg} {o:Oper} {e:ns->V} {μ:List E}
def we {t:nr} {x:ns} {n:Int} (ho:o.op=.unOp .neg t x) (hx:e x=.c (.lit (.int .i64 n))) (h:cQ (-n)):Det X o e μ (.c (.lit (.int .i64 (-n)))) μ:=by
 have:=S6 (X:=X) (μ:=μ) ho hx
 rwa [VO h] at this
def zKa {src dst:nr} {x:ns} {k k':IntKind} {n m:Int} (ho:o.op=.convert src dst x) (hs:(X.P.underlying src).isSome=true) (hd:vJ X.P dst=some k) (hx:e x=.c (.lit (.int k' n))) (h:k.wrap n=m):Det X o e μ (.c (.lit (.int k m))) μ:=by
 have:=wA (X:=X) (μ:=μ) ho hs hd hx
 rwa [h] at this
def EE {t ty:nr} {x y:ns} {k k':IntKind} {a b m:Int} (ho:o.op=.binOp .shl t x y ty) (hx:e x=.c (.lit (.int k a))) (hy:e y=.c (.lit (.int k' b))) (h0:0<=b) (h:k.wrap (a*2^(min b.toNat k.bits))=m):Det X o e μ (.c (.lit (.int k m))) μ:=by
 have:=qAg (X:=X) (μ:=μ) ho hx hy h0
 rwa [h] at this
def Pf {t ty:nr} {x y:ns} {k k':IntKind} {a b m:Int} (ho:o.op=.binOp .shr t x y ty) (hx:e x=.c (.lit (.int k a))) (hy:e y=.c (.lit (.int k' b))) (h0:0<=b) (h:a.fdiv (2^(min b.toNat k.bits))=m):Det X o e μ (.c (.lit (.int k m))) μ:=by
 have:=J9 (X:=X) (μ:=μ) ho hx hy h0
 rwa [h] at this
def SC {b off:Nat} {t:nr} {cs cs' new:List C} (p:Nat) (h:nth μ p=some (.row b t cs)) (hl:off+new.length<=cs.length) (he:GA cs off new=cs'):
  tF μ (.lit (.pointer (some ⟨b,off,none⟩))) new (rN μ p (.row b t cs')):=by
 subst he
 exact tc p h (ji hl)
def Oz {t:nr} {x:ns} {c:C} {cells l rest:List C} {m:Nat} (ho:o.op=.load t x) (ht:nN X.P t=some m) (hx:e x=.c c) (hp:rJ μ c cells) (hc:cells=l++rest) (hl:l.length=m):
  Det X o e μ (.agg l) μ:=by
 have h:=qA (X:=X) (e:=e) ho ht hx hp (by rw [hc];exact ji (by rw [qp];omega))
 rw [hc,<-hl,iu] at h
 exact h
end
/-! ## Own memory lent to a function that makes memory -/
section
variable {X:Cfg} {o:Oper} {e:ns->V} {μ:List E}
end
end Go.Eng
end
section
namespace Go.Eng
open Go Go.RowKit
def W2 {sv:Value} {c:C} {t u:nr} {n b:Nat} {rows rows':List (List C)} {bμ:List E} (h:rows=rows'):E.vec sv t n rows::E.row b u [c,.lit sv]::bμ=[E.vec sv t n rows',E.row b u [c,.lit sv]]++bμ:=by rw [h];rfl
section
variable {X:Cfg} {o:Oper} {e:ns->V} {μ:List E} {t ty:nr} {x y:ns} {a b:Nat}
abbrev qu (n:Nat):V:=.c (.lit (.int .u64 (n:Int)))
def JD (ho:o.op=.binOp .and t x y ty) (hx:e x=qu a) (hy:e y=.c (.lit (.int .u64 4294967295))) (ha:a<18446744073709551616):Det X o e μ (qu (a%4294967296)) μ:=
 Ez ho (.inl rfl) hx hy (λP w=>by rw [intBits_and,and_low32 _ zB zB];rfl) rfl
def wC (ho:o.op=.binOp .shr t x y ty) (hx:e x=qu a) (hy:e y=.c (.lit (.int .u64 32))):Det X o e μ (qu (a/4294967296)) μ:=by
 have h:=J9 (X:=X) (μ:=μ) ho hx hy uA
 have e1:(a:Int).fdiv (2^(min (32:Int).toNat IntKind.u64.bits))=((a/4294967296:Nat):Int):=by
  rw [show (2:Int)^(min (32:Int).toNat IntKind.u64.bits)=4294967296 by decide,kw _ uA]
  omega
 rw [e1] at h
 exact h
def zVl {n:Nat} (h:n<18446744073709551616):IntKind.u64.wrap (n:Int)=n:=IntWalk.u64_in _ ⟨zB,zB⟩
def wZ (ho:o.op=.binOp .mul t x y ty) (hx:e x=qu a) (hy:e y=qu b) (h:a*b<18446744073709551616):Det X o e μ (qu (a*b)) μ:=by
 have h1:=Cy (X:=X) (μ:=μ) ho hx hy
 rw [<-nn,zVl h] at h1
 exact h1
def wD (ho:o.op=.binOp .add t x y ty) (hx:e x=qu a) (hy:e y=qu b) (h:a+b<18446744073709551616):Det X o e μ (qu (a+b)) μ:=by
 have h1:=qAj (X:=X) (μ:=μ) ho hx hy
 rw [<-np,zVl h] at h1
 exact h1
def qT (ho:o.op=.binOp .add t x y ty) (hx:e x=qu a) (hy:e y=qu b):Det X o e μ (qu ((a+b)%18446744073709551616)) μ:=by
 have h1:=qAj (X:=X) (μ:=μ) ho hx hy
 rw [<-np,show IntKind.u64.wrap ((a+b:Nat):Int)=(((a+b)%18446744073709551616:Nat):Int) by rw [ic];omega] at h1
 exact h1
def Pi (ho:o.op=.binOp .mul t x y ty) (hx:e x=qu a) (hy:e y=qu b):Det X o e μ (qu (a*b%18446744073709551616)) μ:=by
 have h1:=Cy (X:=X) (μ:=μ) ho hx hy
 rw [<-nn,show IntKind.u64.wrap ((a*b:Nat):Int)=((a*b%18446744073709551616:Nat):Int) by rw [ic];omega] at h1
 exact h1
def zWf (ho:o.op=.binOp .shl t x y ty) (hx:e x=qu a) (hy:e y=.c (.lit (.int .u64 32))):Det X o e μ (qu (a*4294967296%18446744073709551616)) μ:=by
 have h:=qAg (X:=X) (μ:=μ) ho hx hy uA
 have e1:IntKind.u64.wrap ((a:Int)*2^(min (32:Int).toNat IntKind.u64.bits))=((a*4294967296%18446744073709551616:Nat):Int):=by
  rw [show (2:Int)^(min (32:Int).toNat IntKind.u64.bits)=4294967296 by decide,ic]
  omega
 rw [e1] at h
 exact h
def Ka (ho:o.op=.binOp .or t x y ty) (hx:e x=qu (a%4294967296)) (hy:e y=qu (b*4294967296%18446744073709551616)):Det X o e μ (qu (b%4294967296*4294967296+a%4294967296)) μ:=
 Ez ho (.inr (.inl rfl)) hx hy (λP w=>by
  have e1:(a%4294967296)|||(b*4294967296%18446744073709551616)=b%4294967296*4294967296+a%4294967296:=by
   rw [show b*4294967296%18446744073709551616=2^32*(b%4294967296) by omega,Nat.or_comm,<-Nat.two_pow_add_eq_or_of_lt (show a%4294967296<2^32 by omega)]
   omega
  rw [intBits_or,bits_or_u64_nat _ _ zB zB,e1];rfl) rfl
def zWi (ho:o.op=.unOp .neg t x) (hx:e x=qu a) (ha:a<18446744073709551616):Det X o e μ (qu ((18446744073709551616-a)%18446744073709551616)) μ:=by
 have h:=S6 (X:=X) (μ:=μ) ho hx
 have e1:IntKind.u64.wrap (-(a:Int))=(((18446744073709551616-a)%18446744073709551616:Nat):Int):=by rw [ic];omega
 rw [e1] at h
 exact h
def zWh (ho:o.op=.binOp .quo t x y ty) (hx:e x=qu a) (hy:e y=qu b) (hb:b≠0/\a<18446744073709551616):Det X o e μ (qu (a/b)) μ:=by
 have h:=J8 (X:=X) (μ:=μ) ho hx hy zB
 have hle:=Nat.div_le_self a b
 rw [show ((a:Int).tdiv (b:Int))=((a/b:Nat):Int) from rfl,zVl zB] at h
 exact h
def zWg (ho:o.op=.binOp .rem t x y ty) (hx:e x=qu a) (hy:e y=qu b) (hb:b≠0):Det X o e μ (qu (a%b)) μ:=CA ho hx hy zB
def Vz {n:Nat} (h:n<18446744073709551616):18446744073709551615^^^n=18446744073709551615-n:=by
 have h1:=ai BitVec.toNat (BitVec.allOnes_xor (x:=BitVec.ofNat 64 n))
 rw [BitVec.toNat_xor,BitVec.toNat_not,BitVec.toNat_allOnes,BitVec.toNat_ofNat,i7 zB] at h1
 omega
def zKy (ho:o.op=.unOp .xor t x) (hx:e x=qu a) (ha:a<18446744073709551616):Det X o e μ (qu (18446744073709551615-a)) μ:=
 kW λw W I _ hops=>by
  have hxv:=hops x qr
  rw [hx] at hxv
  have e1:bits .xor .u64 (IntKind.u64.max) (a:Int)=((18446744073709551615-a:Nat):Int):=by
   rw [show IntKind.u64.max=((18446744073709551615:Nat):Int) by decide,bits_xor_u64_nat _ _ zB ha,Vz ha]
  exact ⟨.int .u64 ((18446744073709551615-a:Nat):Int),by simp [execOp,ho,hxv.lit_inv,unary_xor,intBits_xor,IntKind.signed,e1],CRep.lit _ rfl⟩
end
end Go.Eng
end
