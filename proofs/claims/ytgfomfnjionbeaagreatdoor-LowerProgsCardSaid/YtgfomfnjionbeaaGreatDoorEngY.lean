/-
  The engine,part L: what an argument that FZ is,as abstract cells; and how a contract answers a row.
  And what the laws need besides.
  Conditions: none.
-/
import Derived.Test.YtgfomfnjionbeaaGreatDoorEngX
import Derived.OpenShut
import Derived.Carry
import Derived.ChangeSame
import Derived.RangeFuncNested
import Derived.Laws.StructEq
import Derived.Laws.Cover3
set_option linter.unusedSimpArgs false
set_option linter.unusedVariables false
set_option linter.defProp false
section
namespace Go.Eng
open Go Go.RowKit Go.ChangeShapes
/-! ### how much a reading holds,from below -/
mutual
def dB {H:Type}:DataW H->Nat
 |.lit (.string b)=>b.length+1
 |.ptr d=>dB d+1
 |.slice es _=>TA es+1
 |.agg ps=>TA ps
 |_=>1
def TA {H:Type}:List (DataW H)->Nat
 |[]=>0
 |d::r=>dB d+TA r
end
mutual
def C.bulk:C->Nat
 |.lit (.string s)=>s.size+1
 |.sl _ rows=>vO rows+1
 |.iptr cells=>jT cells+1
 |_=>1
def jT:List C->Nat
 |[]=>0
 |c::r=>c.bulk+jT r
def vO:List (List C)->Nat
 |[]=>0
 |l::r=>jT l+vO r
end
def zUs (a b:List C):jT (a++b)=jT a+jT b:=by
 induction a with
 |nil=>simp [jT]
 |cons x r ih=>simp only [xn,jT,ih];omega
/-! ### the shape of cells of a type -/
def Sh (P:Program):Nat->nr->List C->Prop
 |0,_,_=>False
 |fuel+1,t,l=>match P.underlying t with
  |some .bool=>∃b,l=[.lit (.bool b)]
  |some (.int k)=>∃n,l=[.lit (.int k n)]/\(Lit.int k n).wf=true
  |some .string=>∃s:nq,l=[.lit (.string s)]/\s.size<=reachBytes
  |some (.slice e)=>∃rows,l=[.sl (P.cellsOf e) rows]/\(rows.length<=maxLen/\rows.length*P.bytesOf e<=reachBytes)/\∀r,r∈rows->Sh P fuel e r
  |some (.pointer e)=>l=[.lit (.pointer none)]∨∃r,l=[.iptr r]/\Sh P fuel e r
  |some (.struct fs)=>l.length=P.cellsOf t/\∀f,f∈fs.toList->Sh P fuel f.type ((l.drop f.offset).take (P.cellsOf f.type))
  |some (.array n e)=>l.length=P.cellsOf t/\∀i,i<n->Sh P fuel e ((l.drop (i*P.cellsOf e)).take (P.cellsOf e))
  |_=>True
section
variable {P:Program} {f:Nat} {t e:nr} {l:List C}
def Sh.int {k:IntKind} (hu:P.underlying t=some (.int k)) (h:Sh P (f+1) t l):∃n,l=[.lit (.int k n)]/\(Lit.int k n).wf=true:=by unfold Sh at h;rw [hu] at h;exact h
def Sh.str (hu:P.underlying t=some .string) (h:Sh P (f+1) t l):∃s:nq,l=[.lit (.string s)]/\s.size<=reachBytes:=by unfold Sh at h;rw [hu] at h;exact h
def Sh.slice (hu:P.underlying t=some (.slice e)) (h:Sh P (f+1) t l):∃rows,l=[.sl (P.cellsOf e) rows]/\(rows.length<=maxLen/\rows.length*P.bytesOf e<=reachBytes)/\∀r,r∈rows->Sh P f e r:=by unfold Sh at h;rw [hu] at h;exact h
def Sh.struct {fs:Array Field} (hu:P.underlying t=some (.struct fs)) (h:Sh P (f+1) t l):l.length=P.cellsOf t/\∀g,g∈fs.toList->Sh P f g.type ((l.drop g.offset).take (P.cellsOf g.type)):=by unfold Sh at h;rw [hu] at h;exact h
end
def xO (P:Program) (n:Nat):List Field->Nat->Bool
 |[],o=>o==n
 |f::r,o=>f.offset==o&&xO P n r (o+P.cellsOf f.type)
def YV (P:Program) (ts:List nr) (t:nr):Bool:=match P.underlying t with
 |some (.slice e)=>decide (0<P.cellsOf e)&&ts.contains e
 |some (.pointer e)=>decide (0<P.cellsOf e)&&ts.contains e
 |some (.struct fs)=>xO P (P.cellsOf t) fs.toList 0&&fs.toList.all λf=>ts.contains f.type
 |some (.array n e)=>P.cellsOf t==n*P.cellsOf e&&ts.contains e
 |some .bool=>true
 |some (.int _)=>true
 |some .string=>true
 |_=>false
section
variable {P:Program} {w:World} {H:Type} {enc:nr×Value->H} {sp:Nat->Bool}
def zj {I:Nat->Prop} {n:Nat} {Q:nr->List C->Prop}:∀(fs:List Field) (xs:List (DataW H)) (o:Nat) (cs:List Value),cs.length=n->o<=n->xO P n fs o=true->xs.length=fs.length->
  (∀(i:Nat) f x,fs[i]? =some f->xs[i]? =some x->∃l:List C,CReps w I l ((cs.drop f.offset).take (P.cellsOf f.type))/\jT l<=dB x/\Q f.type l)->
  ∃l:List C,CReps w I l (cs.drop o)/\jT l<=TA xs/\∀f,f∈fs->o<=f.offset/\Q f.type ((l.drop (f.offset-o)).take (P.cellsOf f.type))
 |[],xs,o,cs,hl,_,ht,hx,_=>by
  have ho:o=n:=by simpa [xO] using ht
  have:cs.drop o=[]:=by rw [List.drop_eq_nil_iff];omega
  rw [this]
  refine ⟨[],.nil,by simp [jT],λf hf=>by cases hf⟩
 |f::r,x::xs,o,cs,hl,hon,ht,hx,h=>by
  simp only [xO,ae,fu] at ht
  obtain ⟨hfo,ht⟩:=ht
  have hle:o+P.cellsOf f.type<=n:=by
   clear h
   have aux:∀(fs:List Field) (o:Nat),xO P n fs o=true->o<=n:=by
    intro fs
    induction fs with
    |nil=>intro o h;exact ll (by simpa [xO] using h)
    |cons f r ih=>intro o h;simp only [xO,ae,fu] at h;have:=ih _ h.2;omega
   exact aux r _ ht
  obtain ⟨l0,h0,b0,q0⟩:=h 0 f x rfl rfl
  rw [hfo] at h0
  obtain ⟨l1,h1,b1,q1⟩:=zj r xs (o+P.cellsOf f.type) cs hl hle ht xJ9 (λi f x hf hx=>h (i+1) f x (by simpa using hf) xJ9)
  have hl0:l0.length=P.cellsOf f.type:=by
   rw [h0.length,ap,cu];omega
  refine ⟨l0++l1,?_,by rw [zUs,TA];omega,?_⟩
  ·have e:cs.drop o=(cs.drop o).take (P.cellsOf f.type)++cs.drop (o+P.cellsOf f.type):=by
    rw [<-List.drop_drop];exact (aZ _ _).symm
   rw [e];exact h0.append h1
  ·intro g hg
   rcases ag.1 hg with rfl|hg
   ·refine ⟨zB,?_⟩
    have e:g.offset-o=0:=by omega
    rw [e,aQ,cq zB,aE zB]
    exact q0
   ·obtain ⟨h2,h3⟩:=q1 g hg
    refine ⟨zB,?_⟩
    have e:g.offset-o=l0.length+(g.offset-(o+P.cellsOf f.type)):=by omega
    rw [e,fy,cl zB,d6,D6]
    exact h3
 |_::_,[],_,_,_,_,_,hx,_=>by simp at hx
def qAu {I:Nat->Prop} {c:Nat} {Q:List C->Prop}:∀(n:Nat) (xs:List (DataW H)) (cs:List Value),cs.length=n*c->xs.length=n->
  (∀i x,xs[i]? =some x->∃l:List C,CReps w I l ((cs.drop (i*c)).take c)/\jT l<=dB x/\Q l)->
  ∃l:List C,CReps w I l cs/\jT l<=TA xs/\∀i,i<n->Q ((l.drop (i*c)).take c)
 |0,[],cs,hl,_,_=>by
  have:cs=[]:=by simpa using hl
  subst this
  exact ⟨[],.nil,by simp [jT],λi hi=>by omega⟩
 |n+1,x::xs,cs,hl,hx,h=>by
  have hl':cs.length=n*c+c:=by rw [hl,dx]
  obtain ⟨l0,h0,b0,q0⟩:=h 0 x rfl
  simp only [lk,aQ] at h0
  obtain ⟨l1,h1,b1,q1⟩:=qAu (c:=c) n xs (cs.drop c) (by rw [cu];omega) xJ9 (λi x hx=>by
   obtain ⟨l,h1,h2⟩:=h (i+1) x xJ9
   refine ⟨l,?_,h2⟩
   rw [List.drop_drop]
   have e:c+i*c=(i+1)*c:=by rw [dx];omega
   rw [e];exact h1)
  have hl0:l0.length=c:=by rw [h0.length,ap];omega
  refine ⟨l0++l1,?_,by rw [zUs,TA];omega,?_⟩
  ·have e:cs=cs.take c++cs.drop c:=(aZ _ _).symm
   rw [e];exact h0.append h1
  ·intro i hi
   cases i with
   |zero=>rw [lk,aQ,cq zB,aE zB];exact q0
   |succ i=>
    have e:(i+1)*c=l0.length+i*c:=by rw [dx];omega
    rw [e,fy,cl zB,d6,D6]
    exact q1 i zB
 |0,_::_,_,_,hx,_=>by simp at hx
 |_+1,[],_,_,hx,_=>by simp at hx
def y3 {I:Nat->Prop} {c:Nat} {Q:List C->Prop} {a:Addr}:∀(xs:List (DataW H)) (o:Nat),
  (∀i x,xs[i]? =some x->∃(cs:List Value) (l:List C),cs.length=c/\(∀j,j<c->w.cell? (a.add ((o+i)*c+j))=cs[j]?)/\CReps w I l cs/\jT l<=dB x/\Q l)->
  ∃(rows:List (List C)) (us:Nat->Nat->Value),rows.length=xs.length/\(∀r,r∈rows->r.length=c/\Q r)/\vO rows<=TA xs/\
   (∀i j,i<rows.length->j<c->w.cell? (a.add ((o+i)*c+j))=some (us i j))/\(∀(i:Nat) r,rows[i]? =some r->∀(j:Nat) x,r[j]? =some x->CRep w I x (us i j))
 |[],o,_=>⟨[],λ_ _=>.nilFunc,rfl,λr hr=>by simp at hr,by simp [vO],λi j hi=>by simp at hi,λi r hr=>by simp at hr⟩
 |x::xs,o,h=>by
  obtain ⟨cs,l,hl,hc,hr,hb,hq⟩:=h 0 x rfl
  obtain ⟨rows,us,h1,h2,h3,h4,h5⟩:=y3 xs (o+1) (λi x hx=>by
   obtain ⟨cs,l,k1,k2,k3⟩:=h (i+1) x xJ9
   exact ⟨cs,l,k1,λj hj=>by rw [<-k2 j hj,show o+1+i=o+(i+1) by omega],k3⟩)
  refine ⟨l::rows,λi j=>match i with|0=>cs.getD j .nilFunc|i+1=>us i j,by simp [h1],?_,by rw [vO,TA];omega,?_,?_⟩
  ·intro r hr'
   rcases ag.1 hr' with rfl|hr'
   ·exact ⟨by rw [hr.length,hl],hq⟩
   ·exact h2 r hr'
  ·intro i j hi hj
   cases i with
   |zero=>
    show _=some (cs.getD j .nilFunc)
    rw [hc j hj,dc,ak zB];rfl
   |succ i=>rw [<-h4 i j xK0 hj,show o+1+i=o+(i+1) by omega]
  ·intro i r hr' j y hy
   cases i with
   |zero=>
    simp at hr';subst hr'
    obtain ⟨v,hv,k⟩:=hr.at_ hy
    show CRep w I y (cs.getD j .nilFunc)
    rw [dc,hv];exact k
   |succ i=>exact h5 i r WN j y hy
def zJi {e:nr} {n:Nat}:∀{l:List (DataW H)} {i:Nat} {d:DataW H},l[i]? =some d->n∈d.weights P e->n∈DataW.weightsAll P e l
 |[],_,_,h,_=>by simp at h
 |x::r,i,d,h,hn=>by
  rw [DataW.weightsAll,aq]
  cases i with
  |zero=>simp at h;subst h;exact .inl hn
  |succ i=>exact .inr (zJi (i:=i) tk hn)
def zIi {n:Nat}:∀{us:List nr} {l:List (DataW H)} (i:Nat) {t:nr} {d:DataW H},us[i]? =some t->l[i]? =some d->n∈d.weights P t->n∈DataW.weightsEach P us l
 |[],_,_,_,_,h,_,_=>by simp at h
 |_::_,[],_,_,_,_,h,_=>by simp at h
 |u::us,x::r,i,t,d,hu,h,hn=>by
  rw [DataW.weightsEach,aq]
  cases i with
  |zero=>simp at h hu;subst h hu;exact .inl hn
  |succ i=>exact .inr (zIi i (by simpa using hu) tk hn)
def zUd {us:List nr} {l:List (DataW H)} (h:(DataW.weightsEach P us l).all (· <=reachBytes)=true) (i:Nat) {t:nr} {d:DataW H} (hu:us[i]? =some t) (hd:l[i]? =some d):∀n,n∈d.weights P t->n<=reachBytes:=
 λn hn=>ca (aT.1 h n (zIi i hu hd hn))
def BG {ts:List nr} (hT:ts.all (YV P ts)=true):∀(fuel:Nat) (t:nr) (cs:List Value) (x:DataW H×List MemPlace),t∈ts->(∀n,n∈x.1.weights P t->n<=reachBytes)->
  DataW.trod enc P w 0 sp true fuel t cs=some x->∃l:List C,CReps w (λb=>b<w.heap.size) l cs/\jT l<=dB x.1/\Sh P fuel t l
 |0,_,_,_,_,_,h=>by simp [DataW.trod] at h
 |fuel+1,t,cs,x,ht,hz,h=>by
  have hk:YV P ts t=true:=aT.1 hT t ht
  have ih:=λt cs x ht hz h=>BG hT fuel t cs x ht hz h
  unfold YV at hk
  unfold Sh
  split at hk
  ·rename_i e hu
   rw [hu]
   simp only [ae,aj,gx] at hk
   rcases DataW.trod_slice hu h with ⟨rfl,rfl⟩|⟨a,len,cap,elems,rest,n,hn,rfl,rfl,_,hlc,hcm,hel,hat,_,_⟩
   ·exact ⟨[.sl _ []],.cons (.nil _ none 0) .nil,by simp [jT,C.bulk,vO,dB],[],rfl,⟨uF,uF⟩,λr hr=>by simp at hr⟩
   ·obtain rfl:fuel=n:=by omega
    have hparts:=y3 (w:=w) (I:=λb=>b<w.heap.size) (c:=P.cellsOf e) (Q:=Sh P fuel e) (a:=a) (elems.map (·.1)) 0 (λi x hx=>by
     obtain ⟨y,hy,rfl⟩:∃y,elems[i]? =some y/\y.1=x:=by simpa using hx
     have hi:i<len:=by rw [<-hel];exact (af.1 hy).1
     have hh:=hat i hi
     rw [hy] at hh
     obtain ⟨cs',hc1,hc2⟩:=lg.1 hh
     obtain ⟨_,hc4,hc5⟩:=mr hc1
     obtain ⟨l,k1,k2,k3⟩:=ih e cs' y hk.2 (λm hm=>hz m (by simp only [DataW.weights,hu,rp,aq];exact .inr (.inl (zJi (i:=i) Ac hm)))) hc2
     exact ⟨cs',l,hc4,λj hj=>by rw [<-hc5 j hj,Addr.add_add,cd],k1,k2,k3⟩)
    obtain ⟨rows,us,h1,h2,h3,h4,h5⟩:=hparts
    have hz0:((elems.map (·.1)).length+(rest.map (·.1)).length)*P.bytesOf e<=reachBytes:=hz _ (by simp only [DataW.weights,hu];exact bp)
    have h1':rows.length=len:=by rw [h1,pc,hel]
    refine ⟨[.sl (P.cellsOf e) rows],?_,by simp only [jT,C.bulk,dB];omega,rows,rfl,⟨zB,aL (dd _ (by rw [h1];exact i8 _ _)) hz0⟩,λr hr=>(h2 r hr).2⟩
    by_cases h0:len=0
    ·subst h0
     have:rows=[]:=ja.1 h1'
     subst this
     exact .cons (.nil _ (some a) cap) .nil
    ·have hI:a.block<w.heap.size:=by
      have hh:=hat 0 zB
      rw [ak zB] at hh
      obtain ⟨cs',hc1,_⟩:=lg.1 hh
      have:=mf hc1 hk.1
      rwa [lk,show (a.add 0).block=a.block by unfold Addr.add;split<;>rfl] at this
     rw [<-h1']
     exact .cons (.sl _ rows a cap us hI (λr hr=>(h2 r hr).1) zB (λi j hi hj=>by have:=h4 i j hi hj;rwa [cd] at this) h5) .nil
  ·rename_i e hu
   rw [hu]
   simp only [ae,aj,gx] at hk
   rcases DataW.trod_pointer hu h with ⟨rfl,rfl⟩|⟨a,cs',y,n,hn,rfl,rfl,hc,hy⟩
   ·exact ⟨[.lit (.pointer none)],.cons (.lit _ rfl) .nil,by simp [jT,C.bulk,dB],Or.inl rfl⟩
   ·obtain rfl:fuel=n:=by omega
    obtain ⟨l,k1,k2,k3⟩:=ih e cs' y hk.2 (λm hm=>hz m (by simp only [DataW.weights,hu];exact hm)) hy
    have hI:=mf hc hk.1
    obtain ⟨_,hl,hc5⟩:=mr hc
    refine ⟨[.iptr l],.cons (.iptr l a (λj=>cs'.getD j .nilFunc) hI (λj hj=>?_) (λj c hj=>?_)) .nil,by simp only [jT,C.bulk,dB];omega,Or.inr ⟨l,rfl,k3⟩⟩
    ·have hj':j<cs'.length:=by rw [<-k1.length];exact hj
     rw [hc5 j zB,dc,ak hj'];rfl
    ·obtain ⟨v,hv,k⟩:=k1.at_ hj
     show CRep w _ c (cs'.getD j .nilFunc)
     rw [dc,hv];exact k
  ·rename_i fs hu
   rw [hu]
   simp only [ae] at hk
   obtain ⟨xs,n,hn,rfl,hl,hxl,hat⟩:=DataW.trod_struct hu h
   obtain rfl:fuel=n:=by omega
   obtain ⟨l,k1,k2,k3⟩:=zj (P:=P) (w:=w) (I:=λb=>b<w.heap.size) (n:=P.cellsOf t) (Q:=Sh P fuel) fs.toList (xs.map (·.1)) 0 cs hl (cb _) hk.1 (by simpa using hxl) (λi f x hf hx=>by
    obtain ⟨y,hy,rfl⟩:∃y,xs[i]? =some y/\y.1=x:=by simpa using hx
    have hh:=hat i f (by simpa using hf)
    rw [hy] at hh
    have hm:ts.contains f.type=true:=aT.1 hk.2 f (bw hf)
    exact ih _ _ y (gx.1 hm) (λm hm=>hz m (by simp only [DataW.weights,hu];exact zIi i (by simp [hf]) Ac hm)) hh)
   rw [aQ] at k1
   refine ⟨l,k1,by simpa [dB] using k2,by rw [k1.length,hl],λf hf=>?_⟩
   have:=(k3 f hf).2
   rwa [Nat.sub_zero] at this
  ·rename_i n' e hu
   rw [hu]
   simp only [ae,fu,gx] at hk
   obtain ⟨xs,n,hn,rfl,hl,hxl,hat⟩:=DataW.trod_array hu h
   obtain rfl:fuel=n:=by omega
   obtain ⟨l,k1,k2,k3⟩:=qAu (w:=w) (I:=λb=>b<w.heap.size) (c:=P.cellsOf e) (Q:=Sh P fuel e) n' (xs.map (·.1)) cs (by rw [hl,hk.1]) (by simpa using hxl) (λi x hx=>by
    obtain ⟨y,hy,rfl⟩:∃y,xs[i]? =some y/\y.1=x:=by simpa using hx
    have hi:i<n':=by rw [<-hxl];exact (af.1 hy).1
    have hh:=hat i hi
    rw [hy] at hh
    exact ih _ _ y hk.2 (λm hm=>hz m (by simp only [DataW.weights,hu];exact zJi (i:=i) Ac hm)) hh)
   exact ⟨l,k1,by simpa [dB] using k2,by rw [k1.length,hl],k3⟩
  ·rename_i hu;rw [hu];obtain ⟨b,rfl,rfl⟩:=DataW.trod_bool hu h;exact ⟨_,.cons (.lit _ rfl) .nil,by simp [jT,C.bulk,dB],b,rfl⟩
  ·rename_i hu;rw [hu];obtain ⟨m,rfl,rfl,hw⟩:=DataW.trod_int hu h;exact ⟨_,.cons (.lit _ rfl) .nil,by simp [jT,C.bulk,dB],m,rfl,hw⟩
  ·rename_i hu;rw [hu];obtain ⟨s,rfl,rfl,hs⟩:=DataW.trod_string hu h;exact ⟨_,.cons (.lit _ rfl) .nil,by simp only [jT,C.bulk,dB,Array.length_toList,ByteArray.size_data];omega,s,rfl,by have h9:=hz _ (by simp only [DataW.weights];exact aR.2 rfl);simpa using h9⟩
  ·simp at hk
def xF (P:Program) (t:nr):Bool:=match P.underlying t with|some (.struct _)=>true|some (.array _ _)=>true|_=>false
def FN {ts:List nr} (hT:ts.all (YV P ts)=true) {r:Reach} {base:Nat} {t:nr} {v:Value} {d:DataW H} {ps:List MemPlace} (ht:t∈ts)
  (hval:Value.okWide P w r base t v) (hz:∀n,n∈d.weights P t->n<=reachBytes) (hd:DataW.Trod enc P w 0 sp true t v d ps):
  ∃fuel l,Sh P fuel t l/\jT l<=dB d/\V1Rep w (λb=>b<w.heap.size) (if xF P t then .agg l else .c (l.headD (.lit .nilFunc))) v:=by
 obtain ⟨fuel,hf⟩:=hd
 obtain ⟨l,h1,h2,h3⟩:=BG hT fuel t _ _ ht hz hf
 refine ⟨fuel,l,h3,h2,?_⟩
 have hk:YV P ts t=true:=aT.1 hT t ht
 unfold Value.okWide at hval
 unfold xF
 unfold YV at hk
 have agg:(∃cs,v=.agg cs/\cs.size=P.cellsOf t/\Row.okWide P w r base t cs)->V1Rep w (λb=>b<w.heap.size) (.agg l) v:=by
  rintro ⟨cs,rfl,_,_⟩
  exact ⟨cs.toList,uF,h1⟩
 have one:v.cells= #[v]->V1Rep w (λb=>b<w.heap.size) (.c (l.headD (.lit .nilFunc))) v:=by
  intro hv
  rw [hv] at h1
  cases h1 with
  |cons h t=>cases t;exact h
 have notagg:Cell.okWide P w r base t v->v.cells= #[v]:=by
  intro hc
  unfold Cell.okWide at hc
  split at hc<;>first|rfl|skip
  unfold Cell.ok at hc
  split at hc<;>first|rfl|exact hc.elim
 split at hk
 all_goals first|(rename_i hu;rw [hu] at hval⊢;first|exact agg hval|exact one (notagg hval))|simp at hk
def zQc {ts:List nr} (hl:laidOutB P=true) {W W':World} {sp':Nat->Bool} (hB:Below W.heap.size W W'):∀(us:List nr) (vs:List Value) (ds:List (DataW H)) (ps:List MemPlace),
  (∀t∈us,P.readableRec t=true/\t<P.types.size)->DataW.TrodAll enc P W 0 (λ_=>true) true us vs ds ps->(∀p∈ps,p.block<W.heap.size)->(∀p∈ps,sp' p.block=true)->
  DataW.TrodAll enc P W' 0 sp' true us vs ds ps
 |[],[],[],ps,_,h,_,_=>h
 |t::us,v::vs,d::ds,ps,hr,h,hlt,hsp=>by
  obtain ⟨p,q,h1,h2,rfl⟩:=h
  exact ⟨p,q,WideElems.Trod_stays hl (hr t uF).1 (hr t uF).2 h1 (λx hx=>hB.same (hlt x G7)) (λx hx=>hsp x G7),
   zQc (ts:=ts) hl hB us vs ds q (λt ht=>hr t Oy) h2 (λx hx=>hlt x G7) (λx hx=>hsp x G7),rfl⟩
 |[],_::_,_,_,_,h,_,_=>h.elim
 |[],[],_::_,_,_,h,_,_=>h.elim
 |_::_,[],_,_,_,h,_,_=>h.elim
 |_::_,_::_,[],_,_,h,_,_=>h.elim
def Ext.below {w w':World} {I I':Nat->Prop} {μ':List E} (h:Ext w I [] w' I' μ'):Below w.heap.size w w':=
 ⟨h.os,h.tape,h.output,h.size,λb hb=>h.block b hb (by simp [bC])⟩
def law_row {X:Cfg} {f:FuncId} {fn:Func} {s:ChangeSpec} {W:World} {args:Array Value} {vs:List V} {ds gs:List (DataW H)} {before:List MemPlace} {tb:nr}
  (hcon:oK X f vs (.c (.lit (.bool true)))) (hH:Heap X W (λb=>b<W.heap.size) []) (hvs:V1Reps W (λb=>b<W.heap.size) vs args.toList)
  (hvars:s.vars=[]) (hres:fn.resultTypes= #[tb]) (htb:X.P.underlying tb=some .bool) (hl:laidOutB X.P=true)
  (hr:∀t∈fn.params.toList,X.P.readableRec t=true/\t<X.P.types.size)
  (hspec:∀gs,gs=[]->(s.fn H (ds++gs)).results=[.lit (.bool true)]/\(s.fn H (ds++gs)).args=ds/\(s.fn H (ds++gs)).vars=[])
  (hW:DataW.Whole enc X.P fn.params.toList s.vars false W args.toList ds gs before):
  Calls X.P f args W λe W'=>∃v,e=.returned v/\s.post enc X.P fn false true false false W args v W':=by
 have hW':=hW
 obtain ⟨p,q,hA,hV,rfl,_,_⟩:=hW
 rw [hvars] at hV
 have hgq:gs=[]/\q=[]:=by
  cases gs with
  |nil=>exact ⟨rfl,hV⟩
  |cons _ _=>exact hV.elim
 obtain ⟨rfl,rfl⟩:=hgq
 obtain ⟨e1,e2,e3⟩:=hspec [] rfl
 have hc:=hcon W _ args.toList hH hvs
 rw [jo] at hc
 refine hc.mono ?_
 rintro en W' ⟨v,r,μ',I',rfl,rfl,hv,hH',hE⟩
 have hB:=hE.below
 have hv':v=.bool true:=by
  cases hv;rfl
 subst hv'
 have hlt:∀x∈p,x.block<W.heap.size:=λx hx=>by simpa using hW'.lt x G7
 refine ⟨_,rfl,ds,[],p++[],[],p,[],hW',?_,?_,?_,hB.frame _,λh=>by cases h⟩
 ·rw [e1,hres]
  exact trodAll_cons_mk (shut_bool htb _) trodAll_mk0
 ·rw [e2]
  exact zQc (ts:=[]) hl hB _ _ _ _ hr hA hlt (λx hx=>by simpa using hlt x hx)
 ·rw [hvars,e3];rfl
end
end Go.Eng
end
section
namespace Go.Eng
open Go Go.RowKit
section vals
variable {X:Cfg} {o:Oper} {e:ns->V} {μ:List E}
def OpE.frame {R:V->List E->Prop} (h:OpE X o e μ R) (φ:List E):OpE X o e (μ++φ) λr μ''=>∃μ',R r μ'/\μ''=μ'++φ:=by
 intro a w I hH hops K Q k
 refine h a w I hH.left hops K Q ?_
 intro v r μ' I' w' hr hv hH' x
 obtain ⟨h1,h2⟩:=hH.frame hH' x
 exact k v r _ I' w' ⟨μ',hr,rfl⟩ hv h1 h2
def OpE.mono {R R':V->List E->Prop} (h:OpE X o e μ R) (hr:∀r μ',R r μ'->R' r μ'):OpE X o e μ R':=
 λa w I hH hops K Q k=>h a w I hH hops K Q λv r μ' I' w' h1=>k v r μ' I' w' (hr r μ' h1)
def OpE.perm {R:V->List E->Prop} {φ:List E} (h:OpE X o e μ R) (p:φ.Perm μ):OpE X o e φ R:=
 λa w I hH hops K Q k=>h a w I (hH.perm p) hops K Q λv r μ' I' w' h1 h2 h3 x=>k v r μ' I' w' h1 h2 h3 (x.perm p.symm (bb _))
def FnCon (X:Cfg) (c:C) (args:List V) (μ:List E) (Q:V->List E->Prop):Prop:=
 ∀(o:Oper) (e:ns->V) (x:ns) (arg_:List ns) (ts:Array nr),o.op=.call { callee:=.value x,args:=arg_.toArray,argTypes:=ts }->e x=.c c->pO (arg_.map e) args->OpE X o e μ Q
abbrev FnPur (X:Cfg) (c:C) (args:List V) (r:V):Prop:=FnCon X c args [] λr' _=>r'=r
def FnCon.mono {c:C} {args:List V} {Q Q':V->List E->Prop} (h:FnCon X c args μ Q) (hq:∀r μ',Q r μ'->Q' r μ'):FnCon X c args μ Q':=
 λo e x arg_ ts h1 h2 h3=>(h o e x arg_ ts h1 h2 h3).mono hq
def FnCon.frame {c:C} {args:List V} {Q:V->List E->Prop} (h:FnCon X c args μ Q) (φ:List E):FnCon X c args (μ++φ) λr μ''=>∃μ',Q r μ'/\μ''=μ'++φ:=
 λo e x arg_ ts h1 h2 h3=>(h o e x arg_ ts h1 h2 h3).frame φ
def FnCon.perm {c:C} {args:List V} {φ:List E} {Q:V->List E->Prop} (h:FnCon X c args μ Q) (p:φ.Perm μ):FnCon X c args φ Q:=
 λo e x arg_ ts h1 h2 h3=>(h o e x arg_ ts h1 h2 h3).perm p
def FnCon.of_con {f:FuncId} {first cap:List C} {args:List V} {Q:V->List E->Prop} (hf:bA X.P f=true) (hc:Con X f (first.map .c++args++cap.map .c) μ Q):FnCon X (.fn (.func f) first cap) args μ Q:=
 λ_ _ _ _ _ ho hx ha=>zYg ho hx hf hc ha
def VC {c:C} {x:ns} {arg_:List ns} {ts:Array nr} {args:List V} {Q:V->List E->Prop} (ho:o.op=.call { callee:=.value x,args:=arg_.toArray,argTypes:=ts }) (hx:e x=.c c) (hc:FnCon X c args μ Q) (ha:pO (arg_.map e) args):OpE X o e μ Q:=
 hc o e x arg_ ts ho hx ha
def FnPur.of_pur {f:FuncId} {first cap:List C} {args:List V} {r:V} (hf:bA X.P f=true) (hc:oK X f (first.map .c++args++cap.map .c) r):FnPur X (.fn (.func f) first cap) args r:=
 FnCon.of_con hf hc
def OpE.forget {R:V->List E->Prop} (h:OpE X o e [] R):OpE X o e μ λr μ'=>(∃φ,R r φ)/\μ'=μ:=by
 intro a w I hH hops K Q k
 have h':=h.frame μ
 refine h' a w I hH hops K Q ?_
 rintro v r μ' I' w' ⟨φ,hr,rfl⟩ hv hH' x
 exact k v r μ I' w' ⟨⟨φ,hr⟩,rfl⟩ hv ((hH'.perm gw).left) (x.less λb hb=>by rw [kU];exact aq.2 (.inr hb))
def wS {c:C} {x:ns} {arg_:List ns} {ts:Array nr} {args:List V} {r:V} (ho:o.op=.call { callee:=.value x,args:=arg_.toArray,argTypes:=ts }) (hx:e x=.c c) (hc:FnPur X c args r) (ha:pO (arg_.map e) args):Det X o e μ r μ:=
 (OpE.forget (hc o e x arg_ ts ho hx ha)).mono λ_ _ ⟨⟨_,h⟩,h'⟩=>⟨h,h'⟩
end vals
/-! ## Ranges over functions -/
def LoopR (n:Nat) (fn D:Nat) (ps:Array Tmp) (assign body:Code) (regs:List (Nat×V)) (st:LoopState) (pe:Option Code):World->(Nat->Prop)->Obj->Prop:=
 λw I o=>∃tmps:Array Value,o=.loop { state:=st,pending:=pe,fn:=fn,tmps:=tmps,params:=ps,assign:=assign,body:=body,defers:=D }/\tmps.size=n/\∀t,VRep w I (bJ regs t) (tmps.getD t undef)
def LoopR.mono {n fn D:Nat} {ps:Array Tmp} {assign body:Code} {regs:List (Nat×V)} {st:LoopState} {pe:Option Code} (l:Nat):(E.blk l (LoopR n fn D ps assign body regs st pe)).Mono:=
 λ_ _ _ _ hw hI _ ⟨tmps,e,hs,h⟩=>⟨tmps,e,hs,λt=>(h t).mono hw hI⟩
variable {I:Nat->Prop} {w:World}
def Ext.putL {w1:World} {I1:Nat->Prop} {μ μ1:List E} (x:Ext w I μ w1 I1 μ1) {l:Nat} (o:Obj) (R R':World->(Nat->Prop)->Obj->Prop):Ext w I (.blk l R::μ) (w1.putObj l o) I1 (.blk l R'::μ1):=by
 have hb:∀(R:World->(Nat->Prop)->Obj->Prop) (μ:List E),bC (.blk l R::μ)=l::bC μ:=λR μ=>by simp [bC,E.blocks]
 refine ⟨x.os,x.tape,x.output,?_,λb h1 h2=>?_,x.imm,λb h=>?_,λb h=>?_⟩
 ·have:=x.size;simp [World.putObj];omega
 ·rw [hb] at h2
  rw [bx (λe=>h2 (by simp [e]))]
  exact x.block b h1 λh=>h2 Vy
 ·rw [hb]
  rcases x.imm' b h with h|h|h
  ·exact .inl h
  ·exact .inr (.inl Vy)
  ·exact .inr (.inr h)
 ·rw [hb] at h⊢
  rcases ag.1 h with h|h
  ·exact .inl Vy
  ·rcases x.own' b h with h|h
   ·exact .inl Vy
   ·exact .inr h
variable {X:Cfg}
def Heap.tail {en:E} {μ:List E} (h:Heap X w I (en::μ)):Heap X w I μ:=
 (h.perm (φ:=μ++[en]) (gw (l₁:=[en]))).left
def Heap.putL {μ:List E} {l:Nat} {o:Obj} {R:World->(Nat->Prop)->Obj->Prop} (h:Heap X w I μ) (h1:l<w.heap.size) (h2:¬I l) (h3:l ∉ bC μ) (hN:X.N<=l) (hm:(E.blk l R).Mono) (hr:R (w.putObj l o) I o):Heap X (w.putObj l o) I (.blk l R::μ):=by
 have hsz:(w.putObj l o).heap.size=w.heap.size:=by simp [World.putObj]
 have hb:bC (.blk l R::μ)=l::bC μ:=by simp [bC,E.blocks]
 have hI:∀b,I b->(w.putObj l o).heap[b]? =w.heap[b]? :=λb hb=>bx (λe=>h2 (e ▸ hb))
 have h':Heap X (w.putObj l o) I μ:=h.except hsz λb hc=>bx (λe=>by
  rw [e] at hc
  rcases hc with hc|hc|hc
  ·omega
  ·exact h2 hc
  ·exact h3 hc)
 refine ⟨h'.lo,h'.glob,by rw [hb];exact co.2 ⟨h3,h.nodup⟩,λb hb'=>?_,h'.imm,λen he=>?_,λen he=>?_⟩
 ·rw [hb] at hb'
  rcases ag.1 hb' with e|h
  ·subst e;exact ⟨hN,h2⟩
  ·exact h'.own b h
 ·rcases ag.1 he with e|h
  ·subst e;exact ⟨o,li h1,hr⟩
  ·exact h'.rep en h
 ·rcases ag.1 he with e|h
  ·subst e;exact hm
  ·exact h'.mono en h
def xU:List Tmp->List V->List (Nat×V)->List (Nat×V)
 |t::ts,v::vs,r=>xU ts vs ((t,v)::r)
 |_,_,r=>r
def BJ {w:World} {I:Nat->Prop} {n:Nat}:∀{ts:List Tmp} {vs:List V} {us:List Value} {regs:List (Nat×V)} {tmps:Array Value},(∀t,t∈ts->t<n)->V1Reps w I vs us->ts.length=vs.length->tmps.size=n->
  (∀t,VRep w I (bJ regs t) (tmps.getD t undef))->(∀t,VRep w I (bJ (xU ts vs regs) t) (((ts.zip us).foldl (λt (p:Tmp×Value)=>t.setIfInBounds p.1 p.2) tmps).getD t undef))/\((ts.zip us).foldl (λt (p:Tmp×Value)=>t.setIfInBounds p.1 p.2) tmps).size=n
 |[],[],[],_,_,_,_,_,hs,h=>⟨h,hs⟩
 |p::ts,v::vs,u::us,regs,tmps,hn,hv,hl,hs,h=>by
  refine BJ (ts:=ts) (vs:=vs) (us:=us) (regs:=(p,v)::regs) (λt ht=>hn t Oy) hv.2 ZK (by simpa using hs) λt=>?_
  rw [Oj]
  have hp:=hn p uF
  have e:(tmps.setIfInBounds p u).getD t undef=if p=t then u else tmps.getD t undef:=by
   simp only [au,dy]
   by_cases h:p=t
   ·subst h;simp [hs,hp]
   ·simp [h]
  show VRep w I (if p=t then v else bJ regs t) ((tmps.setIfInBounds p u).getD t undef)
  rw [e]
  split
  ·cases v with
   |tup l=>exact hv.1.elim
   |_=>exact hv.1
  ·exact h t
 |[],_::_,_,_,_,_,_,hl,_,_=>by simp at hl
 |_::_,[],_,_,_,_,_,hl,_,_=>by simp at hl
 |[],[],_::_,_,_,_,hv,_,_,_=>hv.elim
 |_::_,_::_,[],_,_,_,hv,_,_,_=>hv.elim
def zQa {w:World} {I:Nat->Prop}:∀{l:List V} {vs:List Value},V1Reps w I l vs->l.length=vs.length
 |[],[],_=>rfl
 |_::_,_::_,h=>by simp [zQa h.2]
 |[],_::_,h=>h.elim
 |_::_,[],h=>h.elim
def iP (J:List E->Prop) (Jx:Code->List E->Prop):Exit->S->Prop
 |.normal,σ=>J σ.μ
 |.ret,σ=>Jx .ret σ.μ
 |.exit i,σ=>Jx (.exit i) σ.μ
 |_,_=>False
def eA (X:Cfg) (n:Nat) (l:Nat) (assign body:Code) (J:List E->Prop) (Jx:Code->List E->Prop) (σ:S):Prop:=
 ∀z,RdOk z->z.rd=some l->z.μ=σ.μ->oU X n z assign (sA (λτ=>∀z,RdOk z->z.rd=some l->z.μ=τ.μ->oU X n z body (iP J Jx) τ) λ_ _=>False) σ
variable {n:Nat} {ps:List Tmp} {assign body:Code}
def Of {l fn D:Nat} {regs:List (Nat×V)} {encs:List V} {μ0:List E} {J:List E->Prop} {Jx:Code->List E->Prop} (hps:ps.length=encs.length) (hpn:∀t,t∈ps->t<n) (hbody:eA X n l assign body J Jx ⟨xU ps encs regs,μ0⟩):
  FnCon X (.fn (.yield l) [] []) encs (.blk l (LoopR n fn D ps.toArray assign body regs .ready none)::μ0) λr μ'=>
   (r=.c (.lit (.bool true))/\∃μ1,μ'=.blk l (LoopR n fn D ps.toArray assign body regs .ready none)::μ1/\J μ1)∨
   (r=.c (.lit (.bool false))/\∃c μ1,μ'=.blk l (LoopR n fn D ps.toArray assign body regs .done (some c))::μ1/\Jx c μ1/\(c=.ret∨∃i,c=.exit i)):=by
 intro o e x arg_ ts ho hx ha a w I hH hops K Q k hn rd
 have hxv:=hops x AC
 rw [hx] at hxv
 have hxv':CRep w I (.fn (.yield l) [] []) (a.eval x):=hxv
 have hval:a.eval x=.func (.yield l) #[] #[]:=by
  generalize a.eval x=v at hxv'
  cases hxv' with
  |fn _ _ _ us vs h1 h2 _ _=>
   have e1:us=[]:=ja.1 h1
   have e2:vs=[]:=ja.1 h2
   subst e1 e2;rfl
 have hargs:=zVh (w:=w) (I:=I) (a:=a) (λy hy=>hops y xV3) ha
 obtain ⟨ob,hl,tmps,rfl,hts,htr⟩:∃ob,w.heap[l]? =some ob/\LoopR n fn D ps.toArray assign body regs .ready none w I ob:=hH.rep (.blk l _) uF
 have hlen:arg_.length=encs.length:=by
  have h:=zQa hargs
  simpa using h.symm
 have hrun:(execOp a.eval o).run X.P w=.ok (.round l fn (((ps.toArray.zip (arg_.map a.eval).toArray)).foldl (λtmps (t,a)=>tmps.setIfInBounds t a) tmps) assign body) w:=by
  have hy:=run_yield (P:=X.P) (args:=(arg_.map a.eval).toArray) hl uD
  simp [execOp,ho,resolve,hval,Deferred.ofValue,invoke]
  simpa using hy
 have hblk:bC (.blk l (LoopR n fn D ps.toArray assign body regs .ready none)::μ0)=l::bC μ0:=by simp [bC,E.blocks]
 have hlI:X.N<=l/\¬I l:=hH.own l (by rw [hblk];simp)
 have hlμ:l ∉ bC μ0:=by have:=hH.nodup;rw [hblk] at this;exact (co.1 this).1
 have hlt:l<w.heap.size:=(bv.1 hl).1
 refine ⟨λ_ _=>trivial,?_⟩
 rw [zQi hn,hrun,Oper.uponIn_round]
 refine ⟨λh=>by simp [se,Fence.wide] at h,roundIn_of_wpIn trivial ?_⟩
 obtain ⟨hreg,hsz⟩:=BJ (w:=w) (I:=I) (n:=n) (ts:=ps) (vs:=encs) (us:=arg_.map a.eval) (regs:=regs) (tmps:=tmps) hpn hargs hps hts htr
 have efold:((ps.toArray.zip (arg_.map a.eval).toArray)).foldl (λtmps (t,a)=>tmps.setIfInBounds t a) tmps=((ps.zip (arg_.map a.eval)).foldl (λt (p:Tmp×Value)=>t.setIfInBounds p.1 p.2) tmps):=by
  rw [List.zip_toArray];simp
 rw [efold]
 have z0ok:RdOk ⟨w,I,μ0,[],some l,false⟩:=⟨rfl,λl' h=>by
  cases h
  exact ⟨hlt,hlI.2,hlμ,_,hl⟩⟩
 refine iq (hbody ⟨w,I,μ0,[],some l,false⟩ z0ok rfl rfl _ (ZLe.refl _) _ w ⟨I,hH.tail,hreg,Ext.refl _ _ _,rfl,hsz⟩) ?_
 rintro en a1 w1 ⟨z1,σ,hz,q,I1,hH1,hR1,hx1,hd1,hs1⟩
 cases en with
 |normal=>
  have x1:Ext w I μ0 w1 I1 σ.μ:=hz.ext.trans hx1
  obtain ⟨l1,l2,l3,l4⟩:=x1.stays hlt hlI.2 hlμ
  have hl1:=l4.trans hl
  refine ⟨_,run_beginRound hl1 rfl,?_⟩
  generalize hb:Loop.mk LoopState.busy none fn tmps ps.toArray assign body D=busy
  have hl2:(w1.putObj l (.loop busy)).heap[l]? =some (.loop busy):=li l1
  have hH2:Heap X (w1.putObj l (.loop busy)) I1 σ.μ:=hH1.except (by simp [World.putObj]) λb hb=>bx (λe=>by
   subst e
   rcases hb with hb|hb|hb
   ·have:=hlI.1;omega
   ·exact l2 hb
   ·exact l3 hb)
  have hI2:∀b,I1 b->(w1.putObj l (.loop busy)).heap[b]? =w1.heap[b]? :=λb hb=>bx (λe=>l2 (e ▸ hb))
  have z2ok:RdOk ⟨w1.putObj l (.loop busy),I1,σ.μ,z1.ds,some l,false⟩:=⟨rfl,λl' h=>by
   cases h
   exact ⟨by simp [World.putObj];exact l1,l2,l3,_,hl2⟩⟩
  refine iq (q ⟨w1.putObj l (.loop busy),I1,σ.μ,z1.ds,some l,false⟩ z2ok rfl rfl _ (ZLe.refl _) a1 _ ⟨I1,hH2,λt=>(hR1 t).mono hI2 λ_ h=>h,Ext.refl _ _ _,hd1,hs1⟩) ?_
  rintro en a3 w3 ⟨z3,τ,hz3,q3,I3,hH3,hR3,hx3,hd3,hs3⟩
  have x3:Ext (w1.putObj l (.loop busy)) I1 σ.μ w3 I3 τ.μ:=hz3.ext.trans hx3
  obtain ⟨m1,m2,m3,m4⟩:=x3.stays (D:=l) (by simp [World.putObj];exact l1) l2 l3
  have hl3:=m4.trans hl2
  have fin:∀(jump:Option Code) (st:LoopState),st=(if jump.isNone then .ready else .done)->(Instr.endRound l jump).run X.P w3=.ok (.bool jump.isNone) (w3.putObj l (.loop { busy with state:=st,pending:=jump }))/\
    Heap X (w3.putObj l (.loop { busy with state:=st,pending:=jump })) I3 (.blk l (LoopR n fn D ps.toArray assign body regs st jump)::τ.μ)/\
    Ext w I (.blk l (LoopR n fn D ps.toArray assign body regs .ready none)::μ0) (w3.putObj l (.loop { busy with state:=st,pending:=jump })) I3 (.blk l (LoopR n fn D ps.toArray assign body regs st jump)::τ.μ):=by
   rintro jump st rfl
   refine ⟨run_endRound jump hl3,hH3.putL m1 m2 m3 hlI.1 (LoopR.mono l) ⟨tmps,by rw [<-hb],hts,λt=>?_⟩,?_⟩
   ·refine (htr t).mono (I':=I3) (λb hb=>?_) λb hb=>x3.imm b (x1.imm b hb)
    rw [bx (k:=b) (r:=l) (λe:b=l=>m2 (by rw [<-e];exact x3.imm b (x1.imm b hb)))]
    rw [hH2.still x3 b (x1.imm b hb),hI2 b (x1.imm b hb)]
    exact hH.tail.still x1 b hb
   ·have y1:=x1.putL (l:=l) (.loop busy) (LoopR n fn D ps.toArray assign body regs .ready none) (LoopR n fn D ps.toArray assign body regs .ready none)
    exact y1.trans (x3.putL (l:=l) _ _ _)
  cases en with
  |normal=>
   obtain ⟨f1,f2,f3⟩:=fin none .ready rfl
   exact ⟨_,_,f1,k _ _ _ I3 _ (.inl ⟨rfl,_,rfl,q3⟩) (CRep.lit _ rfl) f2 f3⟩
  |ret=>
   obtain ⟨f1,f2,f3⟩:=fin (some .ret) .done rfl
   exact ⟨_,_,f1,k _ _ _ I3 _ (.inr ⟨rfl,_,_,rfl,q3,.inl rfl⟩) (CRep.lit _ rfl) f2 f3⟩
  |exit i=>
   obtain ⟨f1,f2,f3⟩:=fin (some (.exit i)) .done rfl
   exact ⟨_,_,f1,k _ _ _ I3 _ (.inr ⟨rfl,_,_,rfl,q3,.inr ⟨i,rfl⟩⟩) (CRep.lit _ rfl) f2 f3⟩
  |goto t=>exact q3.elim
  |panic ch=>exact q3.elim
  |outgrown=>exact q3.elim
 |ret=>exact q.elim
 |exit i=>exact q.elim
 |goto t=>exact q.elim
 |panic ch=>exact q.elim
 |outgrown=>exact q.elim
variable {α:Type}
def iJ (X:Cfg) (gf:FuncId) (first cap:List C) (xs:List α) (enc:α->List V):Prop:=
 ∀(y:C) (J Jx:List α->List E->Prop) (μ:List E),
  (∀pre x suf μ,xs=pre++x::suf->J pre μ->FnCon X y (enc x) μ λr μ'=>(r=.c (.lit (.bool true))/\J (pre++[x]) μ')∨(r=.c (.lit (.bool false))/\Jx (pre++[x]) μ'))->
  J [] μ->Con X gf (first.map .c++[.c y]++cap.map .c) μ λ_ μ'=>J xs μ'∨∃pre x suf,xs=pre++x::suf/\Jx (pre++[x]) μ'
variable {Q:Exit->S->Prop} {z:Z} {enc:α->List V} {xs:List α}
def Ag (hz:RdOk z) {regs:List (Nat×V)} {μ:List E} {g:ns} {gf:FuncId} {first cap:List C} (hg:ev regs g=.c (.fn (.func gf) first cap)) (hgf:bA X.P gf=true) (hit:iJ X gf first cap xs enc) (hps:∀x,x∈xs->ps.length=(enc x).length) (hpn:ps.all (λt=>Nat.blt t n)=true) (J:List α->List E->Prop) (Jx:Code->List α->List E->Prop) (h0:J [] μ) (hround:∀l pre x suf μ',xs=pre++x::suf->J pre μ'->eA X n l assign body (J (pre++[x])) (λc=>Jx c (pre++[x])) ⟨xU ps (enc x) regs,μ'⟩) (hdone:∀μ',J xs μ'->Q .normal ⟨regs,μ'⟩) (hret:∀pre x suf μ',xs=pre++x::suf->Jx .ret (pre++[x]) μ'->Q .ret ⟨regs,μ'⟩) (hexit:∀i pre x suf μ',xs=pre++x::suf->Jx (.exit i) (pre++[x]) μ'->Q (.exit i) ⟨regs,μ'⟩):
  oU X n z (.rangeFunc g ps.toArray assign body) Q ⟨regs,μ⟩:=by
 intro z1 hz1 a w ⟨I,hH,hR,hx,hd,hs⟩
 refine wpIn_rangeFunc ?_
 intro fn _
 have hgv:=CF hR g
 rw [hg] at hgv
 have hgv':CRep w I (.fn (.func gf) first cap) (a.eval g):=hgv
 obtain ⟨us,vs,hev,hu,hv⟩:∃us vs:List Value,a.eval g=.func (.func gf) us.toArray vs.toArray/\CReps w I first us/\CReps w I cap vs:=by
  generalize a.eval g=v at hgv'
  cases hgv' with
  |fn _ _ _ us vs h1 h2 hr1 hr2=>exact ⟨us,vs,rfl,CReps.of_at h1.symm hr1,CReps.of_at h2.symm hr2⟩
 obtain ⟨D,W0,mk,hent,hH0,hx0,hmk⟩:∃(D:Nat) (W0:World) (mk:List Nat),(Instr.enterLoop fn a.tmps ps.toArray assign body z.rd).run X.P w=.ok (W0.heap.size,mk.map xC) (W0.alloc (.loop { state:=.ready,pending:=none,fn:=fn,tmps:=a.tmps,params:=ps.toArray,assign:=assign,body:=body,defers:=D }))/\
   Heap X W0 I μ/\Ext w I μ W0 I μ/\mk.Nodup/\∀D',D'∈mk->w.heap.size<=D'/\D'<W0.heap.size/\¬I D'/\D' ∉ bC μ/\W0.heap[D']? =some (.deferred (some [])):=by
  cases hrd:z.rd with
  |some l0=>
   obtain ⟨h1,h2,h3,r0,h4⟩:=(hz.le hz1).2 l0 (by rw [hz1.rd];exact hrd)
   obtain ⟨_,_,_,k4⟩:=hx.stays h1 h2 h3
   exact ⟨r0.defers,w,[],run_enterLoop_inner (k4.trans h4) _ _ _ _ _,hH,Ext.refl _ _ _,iv,λD' h=>by simp at h⟩
  |none=>
   have hsz:(w.alloc (.deferred (some []))).heap.size=w.heap.size+1:=by show (w.heap.push _).size=_;simp
   obtain ⟨k1,k2⟩:=Z2 hH (.deferred (some [])) (.blk w.heap.size λ_ _ _=>True) rfl (λ_ _ _ _ _ _ _ _=>trivial) ⟨_,d8 w _,trivial⟩
   refine ⟨w.heap.size,w.alloc (.deferred (some [])),[w.heap.size],?_,k1.tail,k2.less λb hb=>by simp [bC] at hb⊢;exact .inr hb,uF,λD' h=>?_⟩
   ·rw [run_enterLoop_outer,hsz];rfl
   ·obtain rfl:D'=w.heap.size:=by simpa using h
    exact ⟨aC _,zB,λh=>by have:=hH.imm _ h;omega,λh=>by have:=hH.lt h;omega,d8 w _⟩
 generalize hrec:Loop.mk LoopState.ready none fn a.tmps ps.toArray assign body D=rec at hent
 obtain ⟨hH1,hx1⟩:=Z2 hH0 (.loop rec) (.blk W0.heap.size (LoopR n fn D ps.toArray assign body regs .ready none)) rfl (LoopR.mono _) ⟨_,d8 W0 _,a.tmps,by rw [hrec],hs,λt=>by
  have:=hH.vrep hx0 (hR t)
  exact this.mono (λb hb=>Below.heap_alloc W0 _ b (hH0.imm b hb)) λ_ h=>h⟩
 have hw01:=hx0.trans hx1
 refine ⟨W0.heap.size,mk.map xC,W0.alloc (.loop rec),{ target:=.fn (.func gf) vs.toArray,args:=us.toArray++ #[.func (.yield W0.heap.size) #[] #[]] },W0.alloc (.loop rec),gf,
  (us++[Value.func (.yield W0.heap.size) #[] #[]]++vs).toArray,W0.alloc (.loop rec),hent,?_,λ_ _=>trivial,?_,λh=>by simp [se,Fence.wide] at h,?_⟩
 ·simp only [resolve,hev]
  simp [Act.eval,Deferred.ofValue]
 ·simp [invoke,zMe hgf]
 refine zPu _ _ ?_
 have hc:=hit (.fn (.yield W0.heap.size) [] [])
  (λpre μ'=>∃μ1,μ'=.blk W0.heap.size (LoopR n fn D ps.toArray assign body regs .ready none)::μ1/\J pre μ1)
  (λpre μ'=>∃c μ1,μ'=.blk W0.heap.size (LoopR n fn D ps.toArray assign body regs .done (some c))::μ1/\Jx c pre μ1/\(c=.ret∨∃i,c=.exit i))
  (.blk W0.heap.size (LoopR n fn D ps.toArray assign body regs .ready none)::μ)
  (by
   rintro pre x suf μ' hxs ⟨μ1,rfl,hj⟩
   exact Of (hps x (by rw [hxs];simp)) (λt ht=>by have:=aT.1 hpn t ht;simpa [cr] using this) (hround _ pre x suf μ1 hxs hj))
  ⟨μ,rfl,h0⟩
 have hargs:V1Reps (W0.alloc (.loop rec)) I (first.map .c++[.c (.fn (.yield W0.heap.size) [] [])]++cap.map .c) (us++[.func (.yield W0.heap.size) #[] #[]]++vs):=by
  have hst:=hH.still hw01
  have hy:V1Reps (W0.alloc (.loop rec)) I [.c (.fn (.yield W0.heap.size) [] [])] [.func (.yield W0.heap.size) #[] #[]]:=
   ⟨CRep.fn (.yield W0.heap.size) [] [] [] [] rfl rfl (λj c u hc=>by simp at hc) (λj c u hc=>by simp at hc),trivial⟩
  exact ((V1Reps.of_c (hu.mono hst λ_ h=>h)).append hy).append (V1Reps.of_c (hv.mono hst λ_ h=>h))
 refine (hc (W0.alloc (.loop rec)) I _ hH1 hargs).mono ?_
 have hW0lt:w.heap.size<=W0.heap.size:=hx0.size
 rintro en w3 ⟨v,r,μ3,I3,rfl,hq,hv3,hH3,hx3⟩
 have base:∀(st:LoopState) (pe:Option Code) (μ4:List E),st≠ .busy->μ3=.blk W0.heap.size (LoopR n fn D ps.toArray assign body regs st pe)::μ4->
   ∃w4,(Instr.endLoop W0.heap.size).run X.P w3=.ok pe w4/\∃z',ZLe z1 z'/\St X n z' ⟨regs,μ4⟩ { a with defers:=mk.map xC++a.defers } w4:=by
  rintro st pe μ4 hst rfl
  obtain ⟨ob,hl3,tmps,rfl,hts,htr⟩:∃ob,w3.heap[W0.heap.size]? =some ob/\LoopR n fn D ps.toArray assign body regs st pe w3 I3 ob:=hH3.rep (.blk W0.heap.size _) uF
  have hblk:bC (.blk W0.heap.size (LoopR n fn D ps.toArray assign body regs st pe)::μ4)=W0.heap.size::bC μ4:=by simp [bC,E.blocks]
  have hlI:X.N<=W0.heap.size/\¬I3 W0.heap.size:=hH3.own _ (by rw [hblk];simp)
  have hlμ:W0.heap.size ∉ bC μ4:=by have:=hH3.nodup;rw [hblk] at this;exact (co.1 this).1
  refine ⟨_,run_endLoop hl3 hst,?_⟩
  generalize hob:Obj.loop { state:=LoopState.exhausted,pending:=pe,fn:=fn,tmps:=tmps,params:=ps.toArray,assign:=assign,body:=body,defers:=D }=ob4
  have hI4:∀b,I3 b->(w3.putObj W0.heap.size ob4).heap[b]? =w3.heap[b]? :=λb hb=>bx (λe=>hlI.2 (e ▸ hb))
  have hH4:Heap X (w3.putObj W0.heap.size ob4) I3 μ4:=hH3.tail.except (by simp [World.putObj]) λb hb=>bx (λe=>by
   subst e
   rcases hb with hb|hb|hb
   ·omega
   ·exact hlI.2 hb
   ·exact hlμ hb)
  have x13:Ext (W0.alloc (.loop rec)) I (.blk W0.heap.size (LoopR n fn D ps.toArray assign body regs .ready none)::μ) w3 I3 (.blk W0.heap.size (LoopR n fn D ps.toArray assign body regs st pe)::μ4):=hx3
  have hsz1:(W0.alloc (.loop rec)).heap.size=W0.heap.size+1:=by show (W0.heap.push _).size=_;simp
  have x04:Ext w I μ (w3.putObj W0.heap.size ob4) I3 μ4:=by
   have x03:=hw01.trans x13
   refine ⟨x03.os,x03.tape,x03.output,by simp [World.putObj];exact x03.size,λb h1 h2=>?_,x03.imm,x03.imm',λb h=>x03.own' b (by rw [hblk];simp [h])⟩
   rw [bx zB]
   exact x03.block b h1 h2
  have hst:∀b,I b->(w3.putObj W0.heap.size ob4).heap[b]? =w.heap[b]? :=hH.still x04
  refine ⟨⟨w3.putObj W0.heap.size ob4,I3,μ4,mk.map xC++z1.ds,z1.rd,z1.nm⟩,⟨rfl,hx.trans x04,rfl,λh=>(by rw [(hz.le hz1).1] at h;cases h),mk,rfl,hmk.1,λD' hD'=>?_⟩,I3,hH4,λt=>(hR t).mono hst x04.imm,Ext.refl _ _ _,by show mk.map xC++a.defers=mk.map xC++z1.ds;rw [hd],hs⟩
  obtain ⟨d1,d2,d3,d4,d5⟩:=hmk.2 D' hD'
  have e1:(W0.alloc (.loop rec)).heap[D']? =W0.heap[D']? :=Below.heap_alloc W0 _ D' d2
  obtain ⟨s1,s2,s3,s4⟩:=x13.stays (D:=D') zB d3 (by rw [show bC (.blk W0.heap.size (LoopR n fn D ps.toArray assign body regs .ready none)::μ)=W0.heap.size::bC μ by simp [bC,E.blocks]];simp;exact ⟨zB,d4⟩)
  refine ⟨aL hx.size d1,by simp [World.putObj];exact s1,s2,λh=>s3 (by rw [hblk];simp [h]),?_⟩
  show (w3.putObj W0.heap.size ob4).heap[D']? =_
  rw [bx zB,s4,e1,d5]
 rcases hq with ⟨μ4,hμ,hj⟩|⟨pre,x,suf,hxs,c,μ4,hμ,hjx,hc'⟩
 ·obtain ⟨w4,h1,z',h2,h3⟩:=base _ _ μ4 uF hμ
  exact ⟨none,w4,h1,z',⟨regs,μ4⟩,h2,hdone μ4 hj,h3⟩
 ·obtain ⟨w4,h1,z',h2,h3⟩:=base _ _ μ4 uF hμ
  refine ⟨some c,w4,h1,?_⟩
  rcases hc' with rfl|⟨i,rfl⟩
  ·exact wpIn_ret ⟨z',⟨regs,μ4⟩,h2,hret pre x suf μ4 hxs hjx,h3⟩
  ·exact wpIn_exit ⟨z',⟨regs,μ4⟩,h2,hexit i pre x suf μ4 hxs hjx,h3⟩
/-! ## Structs of numbers,strings and truth values -/
inductive FK where
 |int
 |str
 |bool
def SJ:C->C->Bool
 |.lit (.int _ a),.lit (.int _ b)=>decide (a=b)
 |.lit (.string a),.lit (.string b)=>decide (a=b)
 |.lit (.bool a),.lit (.bool b)=>a==b
 |_,_=>false
def dG:List C->List C->Bool
 |x::xs,y::ys=>SJ x y&&dG xs ys
 |_,_=>true
def fkT (P:Program) (t:nr):Option FK:=match P.underlying t with
 |some (.int _)=>some .int
 |some .string=>some .str
 |some .bool=>some .bool
 |_=>none
def xZ (P:Program):List Field->Nat->Option (List FK)
 |[],_=>some []
 |f::r,o=>
  if f.name ≠ "_" ∧ f.offset = o then
   match fkT P f.type,xZ P r (o+1) with
   |some k,some ks=>some (k::ks)
   |_,_=>none
  else none
def flatK (P:Program) (t:nr):Option (List FK):=match P.underlying t with
 |some (.struct fs)=>if P.stoodInHeld t=false/\P.eqGuardType P.depth t=false then xZ P fs.toList 0 else none
 |_=>none
def cO:List FK->List C->List C->Bool
 |.int::ks,.lit (.int .i64 _)::xs,.lit (.int .i64 _)::ys=>cO ks xs ys
 |.str::ks,.lit (.string _)::xs,.lit (.string _)::ys=>cO ks xs ys
 |.bool::ks,.lit (.bool _)::xs,.lit (.bool _)::ys=>cO ks xs ys
 |[],[],[]=>true
 |_,_,_=>false
variable {b:Bool}
def HN {P: Program} {d: Nat} {US VS: Array Value} {f: Field} {r: List Field} {o: Nat} {u v: Value} {c: Bool} (hn : f.name ≠ "_") (ho : f.offset = o) (hagg : (isAgg f.type).run P w = .ok false w) (hu : US[o]? = some u) (hv : VS[o]? = some v) (he:(Op.equalIn (d+1) f.type u v).run P w=.ok b w) (ih:(Op.eqFields (d+1) US VS r).run P w=.ok c w):(Op.eqFields (d+1) US VS (f::r)).run P w=.ok (b&&c) w:=by
 cases b<;>simp [Op.eqFields,hn,part,ho,hagg,hu,hv,he,ih]
def zOe {l:List α} {o:Nat} {u:α} {us:List α} (h:l.drop o=u::us):l[o]? =some u/\l.drop (o+1)=us:=by
 constructor
 ·have:=ai (λl=>l[0]?) h
  simpa using this
 ·have:=ai List.tail h
  simpa using this
def zJb {P:Program} {w:World} {I:Nat->Prop} (d:Nat) {US VS:Array Value}:∀(fs:List Field) (o:Nat) (ks:List FK) (xs ys:List C) (us vs:List Value),xZ P fs o=some ks->cO ks xs ys=true->CReps w I xs us->CReps w I ys vs->
  US.toList.drop o=us->VS.toList.drop o=vs->(Op.eqFields (d+1) US VS fs).run P w=.ok (dG xs ys) w
 |[],o,ks,xs,ys,us,vs,hf,hk,_,_,_,_=>by
  simp only [xZ,ay] at hf
  subst hf
  match xs,ys,hk with
  |[],[],_=>simp [Op.eqFields,dG]
 |f::r,o,ks,xs,ys,us,vs,hf,hk,hx,hy,hu,hv=>by
  unfold xZ at hf
  split at hf
  ·rename_i hn
   split at hf
   ·rename_i k ks' hk1 hk2
    simp only [ay] at hf
    subst hf
    cases k with
    |int=>
     have ht:∃k,P.underlying f.type=some (.int k):=by
      unfold fkT at hk1;split at hk1<;>first|exact ⟨_,uC⟩|cases hk1
     obtain ⟨kk,ht⟩:=ht
     match xs,ys,hk,hx,hy with
     |.lit (.int .i64 a)::xs,.lit (.int .i64 b)::ys,hk,.cons h1 hx,.cons h2 hy=>
      cases h1;cases h2
      obtain ⟨u0,u1⟩:=zOe hu
      obtain ⟨v0,v1⟩:=zOe hv
      have:=HN hn.1 hn.2 (by simp [isAgg,aK ht]) (by simpa using u0) (by simpa using v0) (run_equalIn_int w d f.type .i64 kk a b ht) (zJb d r (o+1) ks' xs ys _ _ hk2 hk hx hy u1 v1)
      simp only [dG,SJ]
      exact this
    |str=>
     have ht:P.underlying f.type=some .string:=by
      unfold fkT at hk1;split at hk1<;>first|assumption|cases hk1
     match xs,ys,hk,hx,hy with
     |.lit (.string a)::xs,.lit (.string b)::ys,hk,.cons h1 hx,.cons h2 hy=>
      cases h1;cases h2
      obtain ⟨u0,u1⟩:=zOe hu
      obtain ⟨v0,v1⟩:=zOe hv
      have:=HN hn.1 hn.2 (by simp [isAgg,aK ht]) (by simpa using u0) (by simpa using v0) (run_equalIn_string w d f.type a b ht) (zJb d r (o+1) ks' xs ys _ _ hk2 hk hx hy u1 v1)
      rw [zSh] at this
      simpa [dG,SJ] using this
    |bool=>
     have ht:P.underlying f.type=some .bool:=by
      unfold fkT at hk1;split at hk1<;>first|assumption|cases hk1
     match xs,ys,hk,hx,hy with
     |.lit (.bool a)::xs,.lit (.bool b)::ys,hk,.cons h1 hx,.cons h2 hy=>
      cases h1;cases h2
      obtain ⟨u0,u1⟩:=zOe hu
      obtain ⟨v0,v1⟩:=zOe hv
      have:=HN hn.1 hn.2 (by simp [isAgg,aK ht]) (by simpa using u0) (by simpa using v0) (run_equalIn_bool' w d f.type a b ht) (zJb d r (o+1) ks' xs ys _ _ hk2 hk hx hy u1 v1)
      simpa [dG,SJ] using this
   ·cases hf
  ·cases hf
section aeq
variable {X:Cfg} {o:Oper} {e:ns->V} {μ:List E} {t ty:nr} {x y:ns} {ks:List FK} {xs ys:List C}
def Gn {w:World} {I:Nat->Prop} {US VS:List Value} (ht:flatK X.P t=some ks) (hk:cO ks xs ys=true) (hx:CReps w I xs US) (hy:CReps w I ys VS):
  X.P.eqGuardType X.P.depth t=false/\(Op.equalIn 10000 t (.agg US.toArray) (.agg VS.toArray)).run X.P w=.ok (dG xs ys) w:=by
 unfold flatK at ht
 split at ht
 ·rename_i fs hu
  split at ht
  ·rename_i hg
   have hfs:X.P.fieldsOf t=fs:=by simp [Program.fieldsOf,hu]
   refine ⟨hg.2,?_⟩
   rw [run_equalIn_struct w 9999 t _ _ (by rw [hfs];exact hu) hg.1,hfs]
   exact zJb 9998 fs.toList 0 ks xs ys _ _ ht hk hx hy uF uF
  ·cases ht
 ·cases ht
def wc (ho:o.op=.binOp .eql t x y ty) (ht:flatK X.P t=some ks) (hx:e x=.agg xs) (hy:e y=.agg ys) (hk:cO ks xs ys=true):Det X o e μ (.c (.lit (.bool (dG xs ys)))) μ:=
 kW λa w I _ hops=>by
  have hxv:=hops x qr
  have hyv:=hops y qr
  rw [hx] at hxv
  rw [hy] at hyv
  obtain ⟨us,h0,hu⟩:=hxv.agg_inv
  obtain ⟨vs,h2,hv⟩:=hyv.agg_inv
  obtain ⟨h3,h4⟩:=Gn ht hk hu hv
  refine ⟨.bool (dG xs ys),?_,CRep.lit _ rfl⟩
  simp only [execOp,ho,h0,h2,aW,ni w _ _ _ _ _ _ h3,run_eql_struct,h4,aI,ba]
def JE (ho:o.op=.binOp .neq t x y ty) (ht:flatK X.P t=some ks) (hx:e x=.agg xs) (hy:e y=.agg ys) (hk:cO ks xs ys=true):Det X o e μ (.c (.lit (.bool (!dG xs ys)))) μ:=
 kW λa w I _ hops=>by
  have hxv:=hops x qr
  have hyv:=hops y qr
  rw [hx] at hxv
  rw [hy] at hyv
  obtain ⟨us,h0,hu⟩:=hxv.agg_inv
  obtain ⟨vs,h2,hv⟩:=hyv.agg_inv
  obtain ⟨h3,h4⟩:=Gn ht hk hu hv
  refine ⟨.bool (!dG xs ys),?_,CRep.lit _ rfl⟩
  simp only [execOp,ho,h0,h2,aW,ni w _ _ _ _ _ _ h3,run_neq_struct,h4,aI,ba]
end aeq
/-! ## Slices of the call's own -/
section own
variable {X:Cfg} {o:Oper} {e:ns->V} {μ:List E} {t:nr}
def LS {et:nr} {size bytes len:Nat} {zs:List Value} {parts:List (Nat×ns)} {rows:List (List C)} (ho:o.op=.buildSlice t len parts.toArray) (ht:dW X.P t=some (et,size,bytes)) (hz:dZ X.P et=some zs) (hlim:Nat.ble (len*size) 16777216=true)
  (hidx:tR 0 parts=true) (hlen:Nat.beq parts.length len=true) (hrows:mR size (parts.map λp=>e p.2)=some rows):OpE X o e μ λr μ'=>∃sv,r=.c (.lit sv)/\μ'=.vec sv et size rows::μ:=by
 intro a w I hH hops K Q k
 obtain ⟨us,hrun,hc,hul⟩:=zSk (X:=X) (I:=I) ho ht hz hlim hidx hlen hrows hops
 have hl:parts.length=len:=bj hlen
 obtain ⟨hrl,hrs⟩:=qz hrows
 simp only [pc] at hrl
 obtain ⟨_,_,_,_,_,_,_,_,hpos⟩:=wQ ht
 have hlr:len=rows.length:=by omega
 have hmax:len<=maxLen:=by
  have h1:=ci hlim
  have h2:len*1<=len*size:=jp _ hpos
  simp only [maxLen];omega
 subst hlr
 have hold:∀b,b<w.heap.size->(w.alloc (.cells us.toArray et)).heap[b]? =w.heap[b]? :=λb hb=>Below.heap_alloc w _ b hb
 have hrep:ERep (w.alloc (.cells us.toArray et)) I (.vec (.slice (some ⟨w.heap.size,0,none⟩) rows.length rows.length) et size rows):=
  zPd (xs:=us) ⟨hul,.inr ⟨w.heap.size,rows.length,us.toArray,rfl,cb _,d8 w _,aC _,hmax,by simpa using hul,by simp [<-hul]⟩⟩ (hc.mono (λb hb=>hold b (hH.imm b hb)) λ_ h=>h) hrs
 cases hn:rows.length with
 |zero=>
  rw [hn] at hrep hrun
  obtain ⟨h1,h2⟩:=Z2 hH (.cells us.toArray et) (.row w.heap.size et (us.map .lit)) rfl trivial ⟨us,d8 w _,CReps.lits us hc.one⟩
  have h1':Heap X (w.alloc (.cells us.toArray et)) I μ:=h1.tail
  have e0:bC (.vec (.slice (some ⟨w.heap.size,0,none⟩) 0 0) et size rows::μ)=bC μ:=by simp [bC,E.blocks,BV]
  refine LV hrun (k _ _ _ I _ ⟨_,rfl,rfl⟩ (CRep.lit _ rfl) ⟨h1'.lo,h1'.glob,by rw [e0];exact h1'.nodup,λb hb=>h1'.own b (by rw [<-e0];exact hb),h1'.imm,λen hen=>?_,λen hen=>?_⟩ (h2.less λb hb=>by rw [e0] at hb;rw [VB];exact aq.2 (.inr hb)))
  ·rcases ag.1 hen with rfl|h
   ·exact hrep
   ·exact h1'.rep en h
  ·rcases ag.1 hen with rfl|h
   ·trivial
   ·exact h1'.mono en h
 |succ n=>
  rw [hn] at hrep hrun
  obtain ⟨h1,h2⟩:=Z2 hH (.cells us.toArray et) (.vec (.slice (some ⟨w.heap.size,0,none⟩) (n+1) (n+1)) et size rows) rfl trivial hrep
  exact LV hrun (k _ _ _ I _ ⟨_,rfl,rfl⟩ (CRep.lit _ rfl) h1 h2)
abbrev OwnR (X:Cfg) (f:FuncId) (args:List V) (et:nr) (size:Nat) (rows:List (List C)):Prop:=Con X f args [] λr μ'=>∃sv,r=.c (.lit sv)/\μ'=[.vec sv et size rows]
def WV {f:FuncId} {arg_:List ns} {ts:Array nr} {args:List V} {et:nr} {size:Nat} {rows:List (List C)} (ho:o.op=.call { callee:=.value (.func f),args:=arg_.toArray,argTypes:=ts }) (hf:bA X.P f=true) (hc:OwnR X f args et size rows) (ha:pO (arg_.map e) args):
  OpE X o e μ λr μ'=>∃sv,r=.c (.lit sv)/\μ'=.vec sv et size rows::μ:=
 (Sz ho hf (hc.frame μ) ha).mono λr μ' ⟨_,⟨sv,h1,h2⟩,h3⟩=>⟨sv,h1,by rw [h3,h2];rfl⟩
def OwnR.pur {f:FuncId} {args:List V} {et:nr} {size:Nat} {rows:List (List C)} (h:OwnR X f args et size rows):oK X f args (.c (.sl size rows)):=by
 intro w I vs hH ha
 refine (h w I vs hH ha).mono ?_
 rintro en w' ⟨v,r,μ',I',rfl,⟨sv,rfl,rfl⟩,hv,hH',x⟩
 have hrep:=hH'.rep _ (aR.2 rfl)
 have e1:v=sv:=hv.lit_inv
 subst e1
 refine ⟨v,_,[],λb=>I' b∨b∈(E.vec v et size rows).blocks,rfl,rfl,?_,?_,?_⟩
 ·exact Jz (hrep.mono (w':=w') trivial (λ_ _=>rfl) (λb h=>.inl h) λ_ _=>rfl) λb hb=>.inr hb
 ·refine ⟨hH'.lo,hH'.glob,by simp [bC],λb hb=>by simp [bC] at hb,?_,λen hen=>by simp at hen,λen hen=>by simp at hen⟩
  rintro b (h|h)
  ·exact hH'.imm b h
  ·exact hrep.lt h
 ·refine ⟨x.os,x.tape,x.output,x.size,x.block,λb h=>.inl (x.imm b h),?_,λb h=>by simp [bC] at h⟩
  rintro b (h|h)
  ·exact x.imm' b h
  ·rcases x.own' b (VD (aR.2 rfl) h) with h|h
   ·simp [bC] at h
   ·exact .inr (.inr h)
end own
/-! ## Leaving a slice alone to which other memory points -/
structure EFle (sv:Value) (size:Nat) (rows:List (List C)) (e e':E):Prop where
 blocks:e'.blocks=e.blocks
 mono:e.Mono->e'.Mono
 rep:∀w I,CRep w I (.sl size rows) sv->ERep w I e->ERep w I e'
section efle
variable {sv:Value} {size:Nat} {rows:List (List C)}
def EFle.refl (e:E):EFle sv size rows e e:=⟨rfl,λh=>h,λ_ _ _ h=>h⟩
def EFle.row {b:Nat} {t:nr} {cs ds:List C} (h:sZ sv size rows cs ds):EFle sv size rows (.row b t cs) (.row b t ds):=
 ⟨rfl,λ_=>trivial,λ_ _ hs ⟨vs,h1,h2⟩=>⟨vs,h1,zRt hs h h2⟩⟩
def Em {xs ys:List C} (h:sZ sv size rows xs ys):ys.length=xs.length:=by
 induction xs generalizing ys with
 |nil=>cases ys with
  |nil=>rfl
  |cons y ys=>exact h.elim
 |cons x xs ih=>cases ys with
  |nil=>exact h.elim
  |cons y ys=>simp [ih h.2]
def AR (xs:List C):sZ sv size rows xs xs:=by
 induction xs with
 |nil=>trivial
 |cons x xs ih=>exact ⟨.inl rfl,ih⟩
def qAo {xs ys xs' ys':List C} (h:sZ sv size rows xs ys) (k:sZ sv size rows xs' ys'):sZ sv size rows (xs++xs') (ys++ys'):=by
 induction xs generalizing ys with
 |nil=>cases ys with
  |nil=>exact k
  |cons y ys=>exact h.elim
 |cons x xs ih=>cases ys with
  |nil=>exact h.elim
  |cons y ys=>exact ⟨h.1,ih h.2⟩
def Mm {R:List (List C)} {i:Nat} {r r':List C} (hi:R[i]? =some r) (h:sZ sv size rows r r'):sZ sv size rows R.flatten (R.set i r').flatten:=by
 induction R generalizing i with
 |nil=>simp at hi
 |cons q R ih=>
  cases i with
  |zero=>
   simp at hi;subst hi
   simpa using qAo h (AR R.flatten)
  |succ i=>simpa using qAo (AR q) (ih xK0)
def EFle.vec {s:Value} {t:nr} {n i:Nat} {R:List (List C)} {r r':List C} (hi:R[i]? =some r) (h:sZ sv size rows r r'):EFle sv size rows (.vec s t n R) (.vec s t n (R.set i r')):=by
 refine ⟨rfl,λ_=>trivial,λw I hs k=>?_⟩
 rcases k with ⟨_,_,rfl⟩|⟨h1,xs,h2,h3,h4⟩
 ·simp at hi
 ·refine .inr ⟨h1,xs,by rw [ep];exact h2,zRt hs (Mm hi h) h3,λq hq=>?_⟩
  rcases ga hq with h|h
  ·exact h4 q h
  ·subst h;rw [Em ‹_›];exact h4 r (bw hi)
def cX (sv:Value) (size:Nat) (rows:List (List C)):List E->List E->Prop
 |[],[]=>True
 |e::es,e'::es'=>EFle sv size rows e e'/\cX sv size rows es es'
 |_,_=>False
def zUq:∀{μ μ':List E},cX sv size rows μ μ'->bC μ'=bC μ
 |[],[],_=>rfl
 |_::_,_::_,h=>by rw [VB,VB,h.1.blocks,zUq h.2]
 |[],_::_,h=>h.elim
 |_::_,[],h=>h.elim
def qAa:∀{μ μ':List E},cX sv size rows μ μ'->∀e',e'∈μ'->∃e,e∈μ/\EFle sv size rows e e'
 |[],[],_,_,h=>by simp at h
 |e::_,_::_,h,e',hm=>by
  rcases ag.1 hm with rfl|hm
  ·exact ⟨e,uF,h.1⟩
  ·obtain ⟨e0,h1,h2⟩:=qAa h.2 e' hm
   exact ⟨e0,by simp [h1],h2⟩
 |[],_::_,h,_,_=>h.elim
 |_::_,[],h,_,_=>h.elim
def oB (sv:Value) (size:Nat) (rows:List (List C)) (regs:List (Nat×V)):List (Nat×V)->Prop
 |[]=>True
 |(t,y)::r=>FLe sv size rows (bJ regs t) y/\oB sv size rows regs r
def EY {regs:List (Nat×V)} {w:World} {I:Nat->Prop} {a:Act} (hs:CRep w I (.sl size rows) sv) (hR:∀t,VRep w I (bJ regs t) (a.tmps.getD t undef)):∀{r:List (Nat×V)},oB sv size rows regs r->∀t,VRep w I (bJ (r++regs) t) (a.tmps.getD t undef)
 |[],_,t=>hR t
 |(s,y)::r,h,t=>by
  rw [xn,Oj]
  split
  ·rename_i e;subst e;exact h.1 w I _ hs (hR s)
  ·exact EY hs hR h.2 t
def yJ {regs regs':List (Nat×V)} {μ μ':List E} {et:nr} (p:Nat) (hp:nth μ p=some (.vec sv et size rows)) (hr:oB sv size rows regs regs') (hμ:cX sv size rows (rH μ p) μ'):Weak ⟨regs,μ⟩ ⟨regs'++regs,μ'⟩:=by
 intro X n z a w ⟨I,hH,hR,hx,hd,hs⟩
 have pm:=Xb hp
 have h1:Heap X w I ([E.vec sv et size rows]++rH μ p):=hH.perm pm
 have hrep:=hH.rep _ (Cc hp)
 let I':Nat->Prop:=λb=>I b∨b∈(E.vec sv et size rows).blocks
 have hII:∀b,I b->I' b:=λb h=>.inl h
 have hsl:CRep w I' (.sl size rows) sv:=Jz (hrep.mono (w':=w) (I':=I') trivial (λ_ _=>rfl) hII λ_ _=>rfl) λb hb=>.inr hb
 have hn:=h1.nodup
 rw [kU] at hn
 obtain ⟨_,hn2,hn3⟩:=d9.1 hn
 have hb1:bC [E.vec sv et size rows]=(E.vec sv et size rows).blocks:=by simp [bC]
 have hmem:∀b,b∈bC (rH μ p)->b∈bC μ:=λb hb=>(SS pm).mem_iff.2 (by rw [VB];exact aq.2 (.inr hb))
 have hbs:=zUq hμ
 refine ⟨I',⟨hH.lo,hH.glob,by rw [hbs];exact hn2,λb hb=>?_,?_,λen hen=>?_,λen hen=>?_⟩,?_,?_,hd,hs⟩
 ·rw [hbs] at hb
  refine ⟨(hH.own b (hmem b hb)).1,?_⟩
  rintro (h|h)
  ·exact (hH.own b (hmem b hb)).2 h
  ·exact hn3 b (by rw [hb1];exact h) b hb rfl
 ·rintro b (h|h)
  ·exact hH.imm b h
  ·exact hrep.lt h
 ·obtain ⟨e0,h0,hf⟩:=qAa hμ en hen
  have hm:e0∈μ:=pm.mem_iff.2 (aH _ h0)
  exact hf.rep w I' hsl ((hH.rep e0 hm).mono (hH.mono e0 hm) (λ_ _=>rfl) hII λ_ _=>rfl)
 ·obtain ⟨e0,h0,hf⟩:=qAa hμ en hen
  exact hf.mono (hH.mono e0 (pm.mem_iff.2 (aH _ h0)))
 ·exact EY hsl (λt=>(hR t).mono (λ_ _=>rfl) hII) hr
 ·refine ⟨hx.os,hx.tape,hx.output,hx.size,hx.block,λb h=>.inl (hx.imm b h),λb hb=>?_,λb hb=>hx.own' b (hmem b (by rw [<-hbs];exact hb))⟩
  rcases hb with h|h
  ·exact hx.imm' b h
  ·rcases hx.own' b (VD (Cc hp) h) with h'|h'
   ·exact .inr (.inl h')
   ·exact .inr (.inr h')
end efle
/-! ## Leaving a variable alone -/
def Rg {b:Nat} {t:nr} {cells:List C} (h:ERep w I (.row b t cells)) (hI:I b):CRep w I (.iptr cells) (.pointer (some ⟨b,0,none⟩)):=by
 obtain ⟨vs,hh,hc⟩:=h
 refine .iptr cells ⟨b,0,none⟩ (λj=>(vs[j]?).getD undef) hI (λj hj=>?_) (λj c hj=>?_)
 ·rw [S5,cd,kj w b j vs.toArray t (0,0) hh]
  have:j<vs.length:=by rw [<-hc.length];exact hj
  simp [this]
 ·obtain ⟨v,hv,hr⟩:=hc.at_ hj
  simp only [hv,dl]
  exact hr
def PLe (b:Nat) (cells:List C) (x y:V):Prop:=∀w I v,CRep w I (.iptr cells) (.pointer (some ⟨b,0,none⟩))->VRep w I x v->VRep w I y v
def PLe.ptr {b:Nat} {cells:List C}:PLe b cells (.c (.lit (.pointer (some ⟨b,0,none⟩)))) (.c (.iptr cells)):=by
 intro w I v h hv
 rw [hv.lit_inv]
 exact h
def eO (b:Nat) (cells:List C):List C->List C->Prop
 |[],[]=>True
 |x::xs,y::ys=>(x=y∨(x=.lit (.pointer (some ⟨b,0,none⟩))/\y=.iptr cells))/\eO b cells xs ys
 |_,_=>False
def yq {b:Nat} {cells:List C} {w:World} {I:Nat->Prop} (h:CRep w I (.iptr cells) (.pointer (some ⟨b,0,none⟩))):∀{xs ys:List C} {vs:List Value},eO b cells xs ys->CReps w I xs vs->CReps w I ys vs
 |[],[],_,_,k=>k
 |x::xs,y::ys,_,hc,.cons hd tl=>by
  refine .cons ?_ (yq h hc.2 tl)
  rcases hc.1 with rfl|⟨rfl,rfl⟩
  ·exact hd
  ·cases hd;exact h
 |[],_::_,_,h,_=>h.elim
 |_::_,[],_,h,_=>h.elim
def PLe.fn {b:Nat} {cells:List C} {f:Fn} {fs xs ys:List C} (h:eO b cells xs ys):PLe b cells (.c (.fn f fs xs)) (.c (.fn f fs ys)):=by
 intro w I v hp hv
 have hv':CRep w I (.fn f fs xs) v:=hv
 cases hv' with
 |fn _ _ _ us vs h1 h2 hr1 hr2=>
  have k:=yq hp h (CReps.of_at h2.symm hr2)
  exact CRep.fn f fs ys us vs h1 k.length.symm hr1 (λj c u hc hu=>by
   obtain ⟨u',hu',hr⟩:=k.at_ hc
   rw [hu] at hu';cases hu';exact hr)
def kR {regs:List (Nat×V)} {μ:List E} {b:Nat} {ty:nr} {cells:List C} (p:Nat) (hp:nth μ p=some (.row b ty cells)) (t:Nat) (y:V) (hy:PLe b cells (bJ regs t) y):Weak ⟨regs,μ⟩ ⟨(t,y)::regs,rH μ p⟩:=by
 intro X n z a w ⟨I,hH,hR,hx,hd,hs⟩
 have pm:=Xb hp
 have h1:Heap X w I ([E.row b ty cells]++rH μ p):=hH.perm pm
 have hrep:=hH.rep _ (Cc hp)
 let I':Nat->Prop:=λk=>I k∨k∈(E.row b ty cells).blocks
 have hII:∀b,I b->I' b:=λb h=>.inl h
 have hsl:CRep w I' (.iptr cells) (.pointer (some ⟨b,0,none⟩)):=Rg (hrep.mono (w':=w) (I':=I') trivial (λ_ _=>rfl) hII λ_ _=>rfl) (.inr xJ7)
 have hn:=h1.nodup
 rw [kU] at hn
 obtain ⟨_,hn2,hn3⟩:=d9.1 hn
 have hb1:bC [E.row b ty cells]=(E.row b ty cells).blocks:=by simp [bC]
 have hmem:∀b,b∈bC (rH μ p)->b∈bC μ:=λb hb=>(SS pm).mem_iff.2 (by rw [VB];exact aq.2 (.inr hb))
 refine ⟨I',⟨hH.lo,hH.glob,hn2,λb hb=>⟨(hH.own b (hmem b hb)).1,?_⟩,?_,λen hen=>?_,λen hen=>?_⟩,λt'=>?_,?_,hd,hs⟩
 ·rintro (h|h)
  ·exact (hH.own b (hmem b hb)).2 h
  ·exact hn3 b (by rw [hb1];exact h) b hb rfl
 ·rintro b (h|h)
  ·exact hH.imm b h
  ·exact hrep.lt h
 ·have hm:en∈μ:=pm.mem_iff.2 (aH _ hen)
  exact (hH.rep en hm).mono (hH.mono en hm) (λ_ _=>rfl) hII λ_ _=>rfl
 ·exact hH.mono en (pm.mem_iff.2 (aH _ hen))
 ·have hold:VRep w I' (bJ regs t') (a.tmps.getD t' undef):=(hR t').mono (λ_ _=>rfl) hII
  show VRep w I' (bJ ((t,y)::regs) t') _
  rw [Oj]
  split
  ·rename_i e;subst e;exact hy w I' _ hsl hold
  ·exact hold
 ·refine ⟨hx.os,hx.tape,hx.output,hx.size,hx.block,λb h=>.inl (hx.imm b h),λb hb=>?_,λb hb=>hx.own' b (hmem b hb)⟩
  rcases hb with h|h
  ·exact hx.imm' b h
  ·rcases hx.own' b (VD (Cc hp) h) with h'|h'
   ·exact .inr (.inl h')
   ·exact .inr (.inr h')
/-! ## vN operators -/
section ops2
variable {X:Cfg} {o:Oper} {e:ns->V} {μ:List E} {t ty:nr} {x y:ns}
def ED {a b:nq} (ho:o.op=.binOp .geq t x y ty) (hx:e x=.c (.lit (.string a))) (hy:e y=.c (.lit (.string b))):Det X o e μ (.c (.lit (.bool (!bF a b)))) μ:=z7 ho hx hy (λw=>by simp only [eqGuard,binOp,Op.stringOp];rfl) rfl
def Ph {a b:nq} (ho:o.op=.binOp .leq t x y ty) (hx:e x=.c (.lit (.string a))) (hy:e y=.c (.lit (.string b))):Det X o e μ (.c (.lit (.bool (bF a b||decide (a=b))))) μ:=z7 ho hx hy (λw=>by simp only [eqGuard,binOp,Op.stringOp,zSh];rfl) rfl
def qAg {k k':IntKind} {a b:Int} (ho:o.op=.binOp .shl t x y ty) (hx:e x=.c (.lit (.int k a))) (hy:e y=.c (.lit (.int k' b))) (h0:0<=b):Det X o e μ (.c (.lit (.int k (k.wrap (a*2^(min b.toNat k.bits)))))) μ:=
 z7 ho hx hy (λw=>by
  have:¬b<0:=by omega
  simp [eqGuard,binOp,Op.shift,this]) rfl
def J9 {k k':IntKind} {a b:Int} (ho:o.op=.binOp .shr t x y ty) (hx:e x=.c (.lit (.int k a))) (hy:e y=.c (.lit (.int k' b))) (h0:0<=b):Det X o e μ (.c (.lit (.int k (a.fdiv (2^(min b.toNat k.bits)))))) μ:=
 z7 ho hx hy (λw=>by
  have:¬b<0:=by omega
  simp [eqGuard,binOp,Op.shift,this]) rfl
def Ez {op:BinOp} {k:IntKind} {a b:Int} {r:Value} (ho:o.op=.binOp op t x y ty) (hop:op=.and∨op=.or∨op=.xor) (hx:e x=.c (.lit (.int k a))) (hy:e y=.c (.lit (.int k b))) (hr:∀(P:Program) w,(Op.intBits op k a b).run P w=.ok r w) (h1:r.oneCell'=true):Det X o e μ (.c (.lit r)) μ:=
 z7 ho hx hy (λw=>by rcases hop with rfl|rfl|rfl<;>simp [eqGuard,binOp,hr]) h1
end ops2
variable {σ:S}
/-! ## Weaker ends; ranges over functions with named memory -/
def Xt {c:Code} (h:oU X n z c (λe σ=>∃τ,Weak σ τ/\Q e τ) σ):oU X n z c Q σ:=by
 intro z1 hz1 a w s
 refine iq (h z1 hz1 a w s) ?_
 rintro e a' w' ⟨z2,σ',hz2,⟨τ,hw,q⟩,s'⟩
 exact ⟨z2,τ,hz2,q,hw _ _ _ _ _ s'⟩
variable {l:List Oper}
def yQ {ops:Array Oper} (τ:S) (h:Weak σ τ) (k:oX X n z ops l Q τ):oX X n z ops l Q σ:=
 λhall z1 hz1 a w s=>k hall z1 hz1 a w (h X n z1 a w s)
def eM (inv:List α->Prop) (hμ:List α->List E) (invx:Code->List α->Prop) (hμx:Code->List α->List E) (bμ:List E) (pre:List α):Exit->S->Prop
 |.normal,τ=>inv pre/\τ.μ=hμ pre++bμ
 |.ret,τ=>invx .ret pre/\τ.μ=hμx .ret pre++bμ
 |.exit i,τ=>invx (.exit i) pre/\τ.μ=hμx (.exit i) pre++bμ
 |_,_=>False
def W7 {P:Exit->S->Prop} {e:Exit} {τ:S} (h:Weak σ τ) (k:P e τ):∃τ',Weak σ τ'/\P e τ':=⟨τ,h,k⟩
def zLf (hz:RdOk z) {regs:List (Nat×V)} {μ bμ:List E} {g:ns} {gf:FuncId} {first cap:List C} (kμ:Nat) (_hm:cA kμ μ=some bμ) (hg:ev regs g=.c (.fn (.func gf) first cap)) (hgf:bA X.P gf=true) (hit:iJ X gf first cap xs enc) (hps:∀x,x∈xs->ps.length=(enc x).length) (hpn:ps.all (λt=>Nat.blt t n)=true) (inv:List α->Prop) (hμ:List α->List E) (invx:Code->List α->Prop) (hμx:Code->List α->List E) (h0:inv []/\μ=hμ []++bμ) (hround:∀pre x suf,xs=pre++x::suf->inv pre->∀z,RdOk z->oU X n z assign (sA (λτ=>∀z,RdOk z->oU X n z body (λe σ=>∃τ',Weak σ τ'/\eM inv hμ invx hμx bμ (pre++[x]) e τ') τ) λ_ _=>False) ⟨xU ps (enc x) regs,hμ pre++bμ⟩) (hdone:inv xs->Q .normal ⟨regs,hμ xs++bμ⟩) (hret:∀pre x suf,xs=pre++x::suf->invx .ret (pre++[x])->Q .ret ⟨regs,hμx .ret (pre++[x])++bμ⟩) (hexit:∀i pre x suf,xs=pre++x::suf->invx (.exit i) (pre++[x])->Q (.exit i) ⟨regs,hμx (.exit i) (pre++[x])++bμ⟩):
  oU X n z (.rangeFunc g ps.toArray assign body) Q ⟨regs,μ⟩:=by
 refine Ag hz hg hgf hit hps hpn (λpre μ'=>inv pre/\μ'=hμ pre++bμ) (λc pre μ'=>invx c pre/\μ'=hμx c pre++bμ) h0 ?_ ?_ ?_ ?_
 ·rintro l pre x suf μ' hxs ⟨hi,rfl⟩ z1 hz1 _ _
  refine vk (hround pre x suf hxs hi z1 hz1) ?_
  intro e σ q
  cases e with
  |normal=>
   intro z2 hz2 _ _
   refine vk (Xt (Q:=eM inv hμ invx hμx bμ (pre++[x])) (q z2 hz2)) ?_
   intro e τ k
   cases e<;>exact k
  |_=>exact q
 ·rintro μ' ⟨hi,rfl⟩;exact hdone hi
 ·rintro pre x suf μ' hxs ⟨hi,rfl⟩;exact hret pre x suf hxs hi
 ·rintro i pre x suf μ' hxs ⟨hi,rfl⟩;exact hexit i pre x suf hxs hi
/-! ## Nil slices -/
def VLe.nil {n:Nat}:VLe (.c (.lit (.slice none 0 0))) (.c (.sl n [])):=by
 intro w I v h
 rw [h.lit_inv]
 exact CRep.nil n none 0
def Vo:List (Option Nat)->List C->List C
 |some n::m,_::r=>.sl n []::Vo m r
 |none::m,c::r=>c::Vo m r
 |_,r=>r
def eS:C->Bool
 |.lit (.slice none 0 0)=>true
 |_=>false
def UC:List (Option Nat)->List C->Bool
 |some _::m,c::r=>eS c&&UC m r
 |none::m,_::r=>UC m r
 |_,_=>true
variable {c:C}
def PW (h:eS c=true):c=.lit (.slice none 0 0):=by
 unfold eS at h
 split at h
 ·rfl
 ·cases h
def zVk {w:World} {I:Nat->Prop}:∀{m:List (Option Nat)} {cs:List C} {vs:List Value},UC m cs=true->CReps w I cs vs->CReps w I (Vo m cs) vs
 |some n::m,c::r,_,h,.cons hd tl=>by
  simp only [UC,ae] at h
  rw [PW h.1] at hd
  cases hd
  exact .cons (.nil n none 0) (zVk h.2 tl)
 |none::m,c::r,_,h,.cons hd tl=>.cons hd (zVk (m:=m) h tl)
 |[],[],_,_,k=>k
 |[],_::_,_,_,k=>k
 |some _::_,[],_,_,k=>k
 |none::_,[],_,_,k=>k
def VLe.nils {m:List (Option Nat)} {cs:List C} (h:UC m cs=true):VLe (.agg cs) (.agg (Vo m cs)):=by
 intro w I v hv
 obtain ⟨vs,rfl,hc⟩:=hv.agg_inv
 exact ⟨vs,rfl,zVk h hc⟩
variable {o:Oper} {e:ns->V}
def Det.weaken {μ μ':List E} {r r':V} (h:Det X o e μ r μ') (hle:VLe r r'):Det X o e μ r' μ':=by
 intro a w I hH hops K Q k
 refine h a w I hH hops K Q ?_
 rintro v _ _ I' w' ⟨rfl,rfl⟩ hv hH' x
 exact k v _ _ I' w' ⟨rfl,rfl⟩ (hle _ _ _ hv) hH' x
section
variable {X:Cfg} {o:Oper} {e:ns->V} {μ:List E} {t:nr}
def LT (m:List (Option Nat)) {zs:List Value} {ps:List (Nat×Nat)} {parts:List (Nat×ns)} {cells:List C} (ho:o.op=.build t parts.toArray) (hz:dZ X.P t=some zs) (hp:fD X.P t=some ps) (hf:rI (nth ps) (zs.map .lit) (parts.map λp=>(p.1,e p.2))=some cells) (hok:UC m cells=true):
  Det X o e μ (.agg (Vo m cells)) μ:=(LU ho hz hp hf).weaken (VLe.nils hok)
def yO {n_:Nat} {z_:Z} {Q_:Exit->S->Prop} {rs:List (Nat×V)} {os:Array Oper} {re:List Oper} {d_:Tmp} {zs:List Value} {ps:List (Nat×Nat)} {parts:List (Nat×ns)} {cells:List C} (m:List (Option Nat)) (hd:(so o,o.op,rI (nth ps) (zs.map .lit) (parts.map λp=>(p.1,(ev rs) p.2)),UC m cells)=(some d_,.build t parts.toArray,some cells,true)) (hz:dZ X.P t=some zs) (hp:fD X.P t=some ps) (k_:oX X n_ z_ os re Q_ ⟨(d_,(.agg (Vo m cells)))::rs,μ⟩):oX X n_ z_ os (o::re) Q_ ⟨rs,μ⟩:=by
 simp only [aO] at hd
 obtain ⟨h_,q1,q4,q5⟩:=hd
 exact ua (qm h_).1 (qm h_).2 (LT (e:=ev rs) m q1 hz hp q4 q5) k_
def zLa (n:Nat) {x:ns} (ho:o.op=.assign x) (hx:e x=.c (.lit (.slice none 0 0))):Det X o e μ (.c (.sl n [])) μ:=(yK ho hx).weaken VLe.nil
def qY {n_:Nat} {z_:Z} {Q_:Exit->S->Prop} {rs:List (Nat×V)} {os:Array Oper} {re:List Oper} {d_:Tmp} {x:ns} (n:Nat) (hd:(so o,o.op,(ev rs) x)=(some d_,.assign x,.c (.lit (.slice none 0 0))))  (k_:oX X n_ z_ os re Q_ ⟨(d_,(.c (.sl n [])))::rs,μ⟩):oX X n_ z_ os (o::re) Q_ ⟨rs,μ⟩:=by
 simp only [aO] at hd
 obtain ⟨h_,q1,q2⟩:=hd
 exact ua (qm h_).1 (qm h_).2 (zLa (e:=ev rs) n q1 q2) k_
def UZ {w:World} {I:Nat->Prop} {b:Nat} {m:List (Option Nat)} {cs:List C} (h:UC m cs=true) (k:ERep w I (.row b t cs)):ERep w I (.row b t (Vo m cs)):=by
 obtain ⟨vs,h1,h2⟩:=k
 exact ⟨vs,h1,zVk h h2⟩
def qJ (m:List (Option Nat)) {zs:List Value} (ho:o.op=.alloc t) (hz:dZ X.P t=some zs) (hok:UC m (zs.map .lit)=true):OpE X o e μ λr μ'=>∃b,r=.c (.lit (.pointer (some ⟨b,0,none⟩)))/\μ'=.row b t (Vo m (zs.map .lit))::μ:=by
 intro a w I hH hops K Q k
 refine yA (μ:=μ) ho hz a w I hH hops K Q ?_
 rintro v r μ' I' w' ⟨b,rfl,rfl⟩ hv hH' x
 refine k v _ _ I' w' ⟨b,rfl,rfl⟩ hv ?_ (x.less λb hb=>by simpa [bC,E.blocks] using hb)
 have e:bC (.row b t (Vo m (zs.map .lit))::μ)=bC (.row b t (zs.map .lit)::μ):=by simp [bC,E.blocks]
 refine ⟨hH'.lo,hH'.glob,by rw [e];exact hH'.nodup,λc hc=>hH'.own c (by rw [<-e];exact hc),hH'.imm,λen hen=>?_,λen hen=>?_⟩
 ·rcases ag.1 hen with rfl|h
  ·exact UZ hok (hH'.rep _ uF)
  ·exact hH'.rep en Vy
 ·rcases ag.1 hen with rfl|h
  ·trivial
  ·exact hH'.mono en Vy
end
def Weak.mem {regs:List (Nat×V)} {μ μ':List E} (m:List Bool) (hμ:keep m μ=μ'):Weak ⟨regs,μ⟩ ⟨regs,μ'⟩:=by
 intro X n z a w ⟨I,hH,hR,hx,hd,hs⟩
 obtain ⟨φ,p⟩:=zRc m μ
 rw [hμ] at p
 have hH':Heap X w I (μ'++φ):=hH.perm p.symm
 exact ⟨I,hH'.left,hR,hx.less λb hb=>(SS p).mem_iff.1 (by rw [kU];exact aq.2 (.inl hb)),hd,hs⟩
variable {bytes:Nat} {et:nr} {x:ns}
def yH {μ:List E} {t:nr} {size:Nat} {f:α->List C} {l:List α} (ho:o.op=.call { callee:=.builtin .len,args:= #[x],argTypes:= #[t] }) (ht:dW X.P t=some (et,size,bytes)) (hx:e x=.c (.sl size (l.map f))):Det X o e μ (.c (.lit (.int .i64 l.length))) μ:=by
 have h:=zHv (X:=X) (μ:=μ) ho ht hx
 rwa [pc] at h
def qC {n_:Nat} {z_:Z} {Q_:Exit->S->Prop} {rs:List (Nat×V)} {os:Array Oper} {re:List Oper} {d_:Tmp} {μ:List E} {t:nr} {size:Nat} {f:α->List C} {l:List α} (hd:(so o,o.op,(ev rs) x)=(some d_,.call { callee:=.builtin .len,args:= #[x],argTypes:= #[t] },.c (.sl size (l.map f)))) (ht:dW X.P t=some (et,size,bytes)) (k_:oX X n_ z_ os re Q_ ⟨(d_,(.c (.lit (.int .i64 l.length))))::rs,μ⟩):oX X n_ z_ os (o::re) Q_ ⟨rs,μ⟩:=by
 simp only [aO] at hd
 obtain ⟨h_,q0,q2⟩:=hd
 exact ua (qm h_).1 (qm h_).2 (yH (e:=ev rs) q0 ht q2) k_
variable {r:List (Nat×V)}
def Weak.regs {r':List (Nat×V)} {μ:List E} (h:eX r' r):Weak ⟨r,μ⟩ ⟨r',μ⟩:=by
 intro X n z a w ⟨I,hH,hR,hx,hd,hs⟩
 refine ⟨I,hH,λt=>?_,hx,hd,hs⟩
 rcases Fp r' t with e|hm
 ·show VRep w I (bJ r' t) _
  rw [e];trivial
 ·exact ze h t _ hm w I _ (hR t)
def zHw {c:Code} {regs base:List (Nat×V)} {μ:List E} (k:Nat) (_hb:cA k regs=some base) (G:Type) (hd:G->List (Nat×V)) (hμ:G->List E) (inv:G->Prop) (m:G->Nat) (h0:∃g,inv g/\Weak ⟨regs,μ⟩ ⟨hd g++base,hμ g⟩) (round:∀g,inv g->oU X n z c (sA (λτ=>∃g',inv g'/\m g'<m g/\Weak τ ⟨hd g'++base,hμ g'⟩) Q) ⟨hd g++base,hμ g⟩):oU X n z (.loop c) Q ⟨regs,μ⟩:=
 Ef G (λg=>⟨hd g++base,hμ g⟩) inv m h0 round
def Ks {args:List V} {μ:List E} {A B:List E->Prop} (h:FnCon X c args μ λr μ'=>(r=.c (.lit (.bool true))/\A μ')∨(r=.c (.lit (.bool false))/\B μ')):
  FnCon X c args μ λr μ'=>∃b,r=.c (.lit (.bool b))/\(b=true->A μ')/\(b=false->B μ'):=
 h.mono λr μ' k=>by
  rcases k with ⟨rfl,k⟩|⟨rfl,k⟩
  ·exact ⟨true,rfl,λ_=>k,λh=>(by cases h)⟩
  ·exact ⟨false,rfl,λh=>(by cases h),λ_=>k⟩
variable {i:Nat}
def kJ {K:S->Prop} {R:Exit->S->Prop} (h:R (.exit i) σ):sA K R (.exit i) σ:=h
def kB {R:Exit->S->Prop} (h:R .normal σ):tX i R (.exit i) σ:=by
 simp only [tX,ik];exact h
def TD2 (X:Cfg) (n:Nat) (ops:Array Oper) (M:List E->Prop) (μ:List E):List Oper->List Bool->List (Nat×V)->(List (Nat×V)->Prop)->Prop
 |[],_,regs,K=>K regs
 |o::rest,u,regs,K=>∃r,mW X n ops o regs μ r/\(u.headD false=true->∀μ',M μ'->mW X n ops o regs μ' r)/\TD2 X n ops M μ rest u.tail (lF o.dst r regs) K
section rules
variable {X:Cfg} {n:Nat} {ops:Array Oper} {M:List E->Prop} {μ:List E} {o:Oper} {rest:List Oper} {u:List Bool} {regs:List (Nat×V)} {K:List (Nat×V)->Prop}
def DV (h:K regs):TD2 X n ops M μ [] u regs K:=h
def wW {r:V} {d:Tmp} (hd:o.dst=some d) (hg:o.guard=none) (h:Det X o (ev regs) μ r μ) (k:TD2 X n ops M μ rest u ((d,r)::regs) K):TD2 X n ops M μ (o::rest) (false::u) regs K:=
 ⟨r,WZ hg h,λh=>by simp at h,by rw [hd];exact k⟩
def RR (hM:M μ) {r:V} {d:Tmp} (hd:o.dst=some d) (hg:o.guard=none) (h:∀μ',M μ'->Det X o (ev regs) μ' r μ') (k:TD2 X n ops M μ rest u ((d,r)::regs) K):TD2 X n ops M μ (o::rest) (true::u) regs K:=
 ⟨r,WZ hg (h μ hM),λ_ μ' hm=>WZ hg (h μ' hm),by rw [hd];exact k⟩
end rules
def TD2.parts {X:Cfg} {n:Nat} {ops:Array Oper} {M:List E->Prop} {μ:List E} {K:List (Nat×V)->Prop}:∀{l:List Oper} {u:List Bool} {regs:List (Nat×V)},TD2 X n ops M μ l u regs K->
  ∃rs:List V,rs.length=l.length/\(∀(i:Nat) o r,l[i]? =some o->rs[i]? =some r->mW X n ops o (dA (l.take i) (rs.take i) regs) μ r/\(u.getD i false=true->∀μ',M μ'->mW X n ops o (dA (l.take i) (rs.take i) regs) μ' r))/\K (dA l rs regs)
 |[],u,regs,h=>⟨[],rfl,λi o r h=>by simp at h,h⟩
 |o::l,u,regs,⟨r,hr,hu,h⟩=>by
  obtain ⟨rs,h1,h2,h3⟩:=TD2.parts h
  refine ⟨r::rs,by simp [h1],λi o' r' ho hr'=>?_,h3⟩
  cases i with
  |zero=>
   simp at ho hr';subst ho hr'
   refine ⟨hr,λh=>hu ?_⟩
   cases u with
   |nil=>simp at h
   |cons b u=>simpa using h
  |succ i=>
   obtain ⟨k1,k2⟩:=h2 i o' r' Ox WN
   refine ⟨k1,λh=>k2 ?_⟩
   cases u with
   |nil=>simp at h
   |cons b u=>simpa using h
def cC (l:List Oper) (s:Nat) (u:List Bool):Bool:=
 pS l (s+1)&&(List.range s).all (λi=>u.getD i false||mN l 40 s i)
def zXd {t:Nat}:∀{l:List Oper} {rs:List V} {r r':V} {f:Nat->Bool} {d:V},f rs.length=false->bL l (rs++[r]) f d t=bL l (rs++[r']) f d t
 |[],_,_,_,_,_,_=>by simp [bL]
 |o::l,[],r,r',f,d,h=>by
  simp only [D6,bL]
  have h0:¬(f 0=true/\o.dst=some t):=λhh=>by simp at h;rw [h] at hh;cases hh.1
  rw [aa h0,aa h0]
 |o::l,r0::rs,r,r',f,d,h=>by
  simp only [xn,bL]
  exact zXd tk
def zPl {o:Oper} {r:V}:∀{l:List Oper} {rs:List V} {regs:List (Nat×V)},rs.length=l.length->dA (l++[o]) (rs++[r]) regs=lF o.dst r (dA l rs regs)
 |[],[],_,_=>rfl
 |_::l,_::rs,regs,h=>by
  simp only [xn,dA]
  exact zPl tk
 |[],_::_,_,h=>by simp at h
 |_::_,[],_,h=>by simp at h
section draw
variable {X:Cfg} {n:Nat} {z:Z} {Q:Exit->S->Prop} {regs:List (Nat×V)} {μ:List E} {l:List Oper} {s:Nat} {M:List E->Prop}
def LL {listed:Array Bool} {m L:Nat} (hsz:listed.size=L) (hm:m<=L) (hq:∀i,i<m->listed.getD i true=true) (ht:∀i,m<=i->i<L->listed.getD i true=false):B2 listed=L-m:=by
 unfold B2
 have:listed.toList=(List.range L).map λi=>decide (i<m):=by
  apply ej
  intro i
  by_cases hi:i<L
  ·have h1:listed.toList[i]? =some (listed.getD i true):=by
    rw [au,gz,aN zB];rfl
   rw [h1,cg,eq hi]
   simp only [fh,ay]
   by_cases him:i<m
   ·rw [hq i him];simp [him]
   ·rw [ht i zB hi];simp [him]
  ·rw [cy uD,cy uD]
 rw [this]
 clear this hsz hq ht
 induction L with
 |zero=>simp
 |succ N ihN=>
  exact o6
def XL {z1:Z} (hz:ZLe z z1) (ok:DrawOk l (s+1)) (hsl:s<l.length) (hdst:l.all (dstOk n)=true) {os:Oper} (hos:l[s]? =some os) {u:List Bool} (hedS:∀i,i<s->u.getD i false=false->mN l 40 s i=true) (hgS:os.guard=none)
  {rs:List V} (hrs:rs.length=s) {R:V->List E->Prop} (hRM:∀r μ1,R r μ1->M μ1)
  (hg:∀(i:Nat) o r,(l.take s)[i]? =some o->rs[i]? =some r->mW X n l.toArray o (dA ((l.take s).take i) (rs.take i) regs) μ r/\(u.getD i false=true->∀μ',M μ'->mW X n l.toArray o (dA ((l.take s).take i) (rs.take i) regs) μ' r))
  (hS:OpE X os (ev (dA (l.take s) rs regs)) μ R)
  (hk:∀r μ1,R r μ1->oX X n z l.toArray (l.drop (s+1)) Q ⟨lF os.dst r (dA (l.take s) rs regs),μ1⟩):∀(fuel:Nat) (listed:Array Bool) (a:Act) (w:World) (I:Nat->Prop) (rS:V) (μc:List E),listed.size=l.length->B2 listed=fuel->(∀i,s+1<=i->i<l.length->listed.getD i true=false)->
   (∀(j:Nat) o,l[j]? =some o->listed.getD j true=true->∀e,e∈o.after->Region.binds .any e=true->listed.getD e.on false=true)->
   (listed.getD s true=true->R rS μc)->(listed.getD s true=false->μc=μ)->
   Heap X w I μc->(∀t,VRep w I (bL (l.take (s+1)) (rs++[rS]) (λi=>listed.getD i true) (bJ regs t) t) (a.tmps.getD t undef))->Ext z1.w z1.I z1.μ w I μc->a.defers=z1.ds->a.tmps.size=n->
   wpAnyIn (se z.rd) 0 X.P .any l.toArray (dY X n z1 Q) fuel listed a w:=by
 intro fuel
 have hts:l.take (s+1)=l.take s++[os]:=yB hos
 induction fuel with
 |zero=>
  intro listed a w I rS μc hsz hun htail hclo hl1 hl0 hH hR hx hd hs
  have hall:∀i,i<l.length->listed.getD i true=true:=by
   intro i hi
   cases hb:listed.getD i true with
   |true=>rfl
   |false=>have:=OD hb;omega
  have hml':s+1=l.length:=by
   rcases bz (s+1) l.length with h|h
   ·have h1:=htail (s+1) (aC _) h;rw [hall _ h] at h1;cases h1
   ·omega
  refine SZ ok 0 l.length listed a w hsz zB (aC _) (λi hi=>by rw [hall i hi];simp [hi]) zB ?_
  have hreg:∀t,VRep w I (bJ (lF os.dst rS (dA (l.take s) rs regs)) t) (a.tmps.getD t undef):=by
   intro t
   have e:=VF (l:=l.take (s+1)) (rs:=rs++[rS]) (regs:=regs) (t:=t) (s+1)
   rw [cz,io,aE (l:=rs++[rS]) uD,hts,zPl uD] at e
   rw [e,<-hts]
   have:=hR t
   rwa [wP (g:=λj=>decide (j<s+1)) (λi o ho _=>by
    have hlt:i<s+1:=by have:=(af.1 ho).1;simp at this;omega
    rw [hall i zB];simp [hlt])] at this
  have:=hk rS μc (hl1 (hall s hsl)) (by rw [hml'];simp) z1 hz a w ⟨I,hH,hreg,hx,hd,hs⟩
  rwa [hml'] at this
 |succ fuel ih=>
  intro listed a w I rS μc hsz hun htail hclo hl1 hl0 hH hR hx hd hs
  by_cases hq:∀i,i<s+1->listed.getD i true=true
  ·refine SZ ok (fuel+1) (s+1) listed a w hsz (aC _) zB (λi hi=>?_) ?_ ?_
   ·by_cases him:i<s+1
    ·rw [hq i him];simp [him]
    ·rw [htail i zB hi];simp [him]
   ·have:=LL hsz zB hq htail
    omega
   ·have hreg:∀t,VRep w I (bJ (lF os.dst rS (dA (l.take s) rs regs)) t) (a.tmps.getD t undef):=by
     intro t
     have e:=VF (l:=l.take (s+1)) (rs:=rs++[rS]) (regs:=regs) (t:=t) (s+1)
     rw [cz,io,aE (l:=rs++[rS]) uD,hts,zPl uD] at e
     rw [e,<-hts]
     have:=hR t
     rwa [wP (g:=λj=>decide (j<s+1)) (λi o ho _=>by
      have hlt:i<s+1:=by have:=(af.1 ho).1;simp at this;omega
      rw [hq i hlt];simp [hlt])] at this
    exact hk rS μc (hl1 (hq s zB)) (by
     rw [rl] at hdst⊢
     exact λo ho=>hdst o (Yt ho)) z1 hz a w ⟨I,hH,hreg,hx,hd,hs⟩
  ·have hex:∃i,i<s+1/\listed.getD i true=false/\∀j,j<i->listed.getD j true=true:=by
    have:∃i,i<s+1/\listed.getD i true=false:=by
     rcases fv.1 hq with ⟨i,hi⟩
     exact v26
    exact k7
   obtain ⟨i0,hi0,hb0,hmin⟩:=hex
   refine ⟨λhnil=>?_,λi hi=>?_⟩
   ·exact s7
   ·rw [fw] at hi
    obtain ⟨hbi,o,ho,hedge⟩:=hi
    have ho':l[i]? =some o:=by simpa using ho
    have hil:i<l.length:=(af.1 ho').1
    have him:i<s+1:=by
     rcases bz i (s+1) with h|h
     ·exact h
     ·exfalso
      have hun:∀j,j<l.length->listed.getD j true=false->¬listed.getD j false=true:=λj hj h1 h2=>by
       exact j9
      rcases bz (s+1) i with hgt|hge
      ·obtain ⟨e,he1,he2,he3⟩:=ok.tail1 i o ho' hgt
       have h1:=hedge e he1 he3
       rw [he2] at h1
       exact hun (i-1) zB (htail (i-1) zB zB) h1
      ·have him:i=s+1:=by omega
       subst him
       exact hun i0 zB hb0 (ST hclo ho' hedge (ok.tail0 o ho' i0 hi0))
    have hot:(l.take (s+1))[i]? =some o:=by rw [az,ab him];exact ho'
    have hlook:∀t,t∈o.looksAt l.toArray->VRep w I (bJ (dA ((l.take (s+1)).take i) ((rs++[rS]).take i) regs) t) (a.tmps.getD t undef):=by
     intro t ht
     rw [VF (l:=l.take (s+1)) (rs:=rs++[rS]) (regs:=regs) (t:=t) i]
     have:=hR t
     rwa [wP (g:=λj=>decide (j<i)) (λj oj hoj hdj=>by
      have hjm:j<s+1:=by have:=(af.1 hoj).1;simp at this;omega
      have hoj':l[j]? =some oj:=by rw [az,ab hjm] at hoj;exact hoj
      rcases ok.looks i o ho' him t ht j oj hoj' hjm hdj with ⟨hji,e,he1,he2,he3⟩|⟨hij,e,he1,he2,he3⟩
      ·exact v63
      ·have hnot:¬j<i:=by omega
       cases hb:listed.getD j true with
       |false=>simp [hnot]
       |true=>
        exfalso
        have h1:=hclo j oj hoj' hb e he1 he3
        rw [he2,au,aN zB] at h1
        rw [au,aN zB] at hbi
        simp only [dl] at h1 hbi
        rw [h1] at hbi
        cases hbi)] at this
    have hdo:dstOk n o=true:=by
     exact v75
    simp only [wpOpIn,ho]
    have step:∀(rS':V) (μ':List E) (r:V),(rs++[rS'])[i]? =some r->(i≠s->rS'=rS/\μ'=μc)->(i=s->R rS' μ')->∀v I' w',VRep w' I' r v->Heap X w' I' μ'->Ext w I μc w' I' μ'->
      wpAnyIn (se z.rd) 0 X.P .any l.toArray (dY X n z1 Q) fuel (listed.setIfInBounds i true) (a.put o.dst v) w':=by
     intro rS' μ' r hr hne hsR v I' w' hv hH' hx'
     have hu:=OD hbi
     have hget:∀j,(listed.setIfInBounds i true).getD j true=if j=i then true else listed.getD j true:=by
      intro j
      exact m5
     refine ih (listed.setIfInBounds i true) _ w' I' rS' μ' Sj zB (λj hj hjl=>?_) (λj oj hoj hb e he1 he3=>?_) (λh=>?_) (λh=>?_) hH' (λt=>?_) (hx.trans hx') ?_ ?_
     ·rw [fg true zB];exact htail j hj hjl
     ·exact v6
     ·by_cases his:i=s
      ·exact hsR his
      ·obtain ⟨e1,e2⟩:=hne his
       subst e1 e2
       rw [hget s,aa (λh=>his h.symm)] at h
       exact hl1 h
     ·by_cases his:i=s
      ·subst his;rw [hget i,ab rfl] at h;cases h
      ·obtain ⟨e1,e2⟩:=hne his
       subst e1 e2
       rw [hget s,aa (λh=>his h.symm)] at h
       exact hl0 h
     ·have hvs:=Z3 (t:=t) (l:=l.take (s+1)) (rs:=rs++[rS']) (f:=λj=>listed.getD j true) (d:=bJ regs t) hot hr (λj o' hj hne hnn=>by
       have hjm:j<s+1:=by have:=(af.1 hj).1;simp at this;omega
       exact ok.own i o ho' him j o' xV4 hjm hne hnn)
      have e1:(λj=>(listed.setIfInBounds i true).getD j true)=(λj=>if j=i then true else listed.getD j true):=funext hget
      have e2:(λj=>if j=i then false else listed.getD j true)=(λj=>listed.getD j true):=by
       funext j
       exact v61
      have e3:bL (l.take (s+1)) (rs++[rS']) (λj=>listed.getD j true) (bJ regs t) t=bL (l.take (s+1)) (rs++[rS]) (λj=>listed.getD j true) (bJ regs t) t:=by
       by_cases his:i=s
       ·exact zXd (by rw [hrs,<-his];exact hbi)
       ·rw [(hne his).1]
      rw [e1,hvs,e2,e3]
      cases hod:o.dst with
      |none=>
       rw [aa uF]
       exact hH.vrep hx' (hR t)
      |some d=>
       exact o4
     ·cases hod:o.dst<;>simp [Act.put,hd]
     ·cases hod:o.dst<;>simp [Act.put,hs]
    by_cases his:i=s
    ·-- the operation that changes memory
     subst his
     have eo:o=os:=by rw [ho'] at hos;exact Option.some.inj hos
     subst eo
     have hμ:=hl0 hbi
     subst hμ
     have e1:(l.take (i+1)).take i=l.take i:=by rw [cz,bg zB]
     have e2:(rs++[rS]).take i=rs:=by rw [cq zB,aE zB]
     rw [e1,e2] at hlook
     rw [ab (by simp [Region.wanted,hgS])]
     refine hS a w I hH (zKw hlook) _ _ ?_ (dstOk.nd hdo) _
     intro v r μ' I' w' hr hv hH' hx'
     exact step r μ' r (by rw [da zB];simp [hrs]) (λh=>absurd rfl h) (λ_=>hr) v I' w' hv hH' hx'
    ·have his':i<s:=by omega
     have e1:(l.take (s+1)).take i=(l.take s).take i:=by rw [cz,cz,bg zB,bg zB]
     have e2:(rs++[rS]).take i=rs.take i:=cq zB
     rw [e1,e2] at hlook
     obtain ⟨r,hr⟩:∃r,rs[i]? =some r:=⟨rs[i]'zB,ak _⟩
     obtain ⟨g1,g2⟩:=hg i o r (by rw [az,ab his'];exact ho') hr
     have hG:mW X n l.toArray o (dA ((l.take s).take i) (rs.take i) regs) μc r:=by
      cases hb:listed.getD s true with
      |false=>rw [hl0 hb];exact g1
      |true=>
       cases hu:u.getD i false with
       |true=>exact g2 hu _ (hRM _ _ (hl1 hb))
       |false=>
        exfalso
        have h1:=zGt hclo 40 s i (hedS i his' hu) hb
        rw [au,aN zB] at h1
        rw [au,aN zB] at hbi
        simp only [dl] at h1 hbi
        rw [h1] at hbi
        cases hbi
     have hG':=hG a w I hH hlook hs (wpAnyIn (se z.rd) 0 X.P .any l.toArray (dY X n z1 Q) fuel (listed.setIfInBounds i true)) (dY X n z1 Q)
      (λv I' w' hv hH' hx'=>step rS μc r (by rw [aV zB];exact hr) (λ_=>⟨rfl,rfl⟩) (λh=>absurd h his) v I' w' hv hH' hx')
     exact v48
def zUb {id:Nat} (s:Nat) (u:List Bool) (M:List E->Prop) {os:Oper} (hm:X.P.follows .mixedOrders=true) (hchk:cC l s u=true) (hos:nth l s=some os) (hgS:os.guard=none) (hd:l.all (dstOk n)=true)
  (h:TD2 X n l.toArray M μ (l.take s) u regs λregs'=>∃R,OpE X os (ev regs') μ R/\(∀r μ1,R r μ1->M μ1)/\∀r μ1,R r μ1->oX X n z l.toArray (l.drop (s+1)) Q ⟨lF os.dst r regs',μ1⟩):oU X n z (.region id l.toArray true) Q ⟨regs,μ⟩:=by
 intro z1 hz a w st
 obtain ⟨I,hH,hR,hx,hdf,hs⟩:=st.drew
 obtain ⟨rs,h1,h2,R,h3,h4,h5⟩:=h.parts
 rw [Hb] at hos
 have hsl:s<l.length:=(af.1 hos).1
 simp only [cC,ae] at hchk
 refine ie hm ?_
 refine XL hz (rs:=rs) (regs:=regs) (u:=u) (M:=M) (wk hchk.1) hsl hd hos (λi hi hu=>?_) hgS (by rw [h1];simp;omega) h4 h2 h3 h5 _ _ a _ I .un μ uF ?_ (λi _ hi=>by simp [hi]) (λj o ho hb=>by
  have hlt:j<l.length:=(af.1 ho).1
  simp [hlt] at hb) (λhb=>by simp [hsl] at hb) (λ_=>rfl) hH (λt=>?_) hx hdf hs
 ·have:=aT.1 hchk.2 i (cw.2 hi)
  rwa [hu,dq] at this
 ·unfold B2
  simp
 ·exact v14
end draw
def eI:List E->Prop:=λ_=>True
variable {rest:List Oper} {d:Tmp}
def zi {ops:Array Oper} {μ:List E} {u:List Bool} {regs:List (Nat×V)} {K:List (Nat×V)->Prop} {r:V} (hd:o.dst=some d) (hg:o.guard=none) (h:∀μ',Det X o (ev regs) μ' r μ') (k:TD2 X n ops eI μ rest u ((d,r)::regs) K):TD2 X n ops eI μ (o::rest) (true::u) regs K:=
 RR trivial hd hg (λμ' _=>h μ') k
def zJr {μ:List E} {t ty:nr} {size:Nat} {rows:List (List C)} {y:ns} (ho:o.op=.binOp .eql t x y ty) (ht:dW X.P t=some (et,size,bytes)) (hx:e x=.c (.sl n rows)) (hy:e y=.c (.lit (.slice none 0 0))):
  OpE X o e μ λr μ'=>∃b:Bool,r=.c (.lit (.bool b))/\(b=true->rows=[])/\μ'=μ:=by
 intro a w I hH hops K Q k
 obtain ⟨hu,_⟩:=wQ ht
 have hxv:=hops x qr
 have hyv:=hops y qr
 rw [hx] at hxv
 rw [hy] at hyv
 have h2:=hyv.lit_inv
 have hxv':CRep w I (.sl n rows) (a.eval x):=hxv
 obtain ⟨ad,len,cap,hv,hn⟩:∃ad len cap,a.eval x=.slice ad len cap/\(ad.isNone=true->rows=[]):=by
  generalize a.eval x=v at hxv'
  cases hxv' with
  |nil _ ad cap=>exact ⟨ad,0,cap,rfl,λ_=>rfl⟩
  |sl _ _ ad cap us hI hl' hcap hc hr=>exact ⟨some ad,rows.length,cap,rfl,λh=>by simp at h⟩
 refine LV (v:=.bool ad.isNone) (w':=w) ?_ (k _ _ μ I w ⟨ad.isNone,rfl,hn,rfl⟩ (CRep.lit _ rfl) hH (Ext.refl _ _ _))
 have h3:=run_equal_slice_nil w (P:=X.P) t et ad len cap hu
 have h4:(binOp .eql t (.slice ad len cap) (.slice none 0 0)).run X.P w=.ok (.bool ad.isNone) w:=by
  simp only [binOp];simp [h3]
 have h5:(eqGuard .eql t x y (.slice ad len cap) (.slice none 0 0)).run X.P w=.ok () w:=by simp [eqGuard]
 simp only [execOp,ho,hv,h2,aW,h5,h4,aI,ba]
inductive Kd where
 |q
 |u
 |f
def Kd.fr:Kd->Bool
 |.f=>true
 |_=>false
def Kd.fl:Kd->Bool
 |.u=>true
 |_=>false
def kd (ks:List Kd) (i:Nat):Kd:=ks.getD i .q
def rK (X:Cfg) (o:Oper) (e:ns->V) (Rf:V->E->Prop):Prop:=OpE X o e [] λr μ'=>∃en,Rf r en/\μ'=[en]
def TDq (X:Cfg) (n:Nat) (ops:Array Oper) (M:List E->Prop) (μ:List E):List Oper->List Kd->List (Nat×V)->(List (Nat×V)->Prop)->Prop
 |[],_,regs,K=>K regs
 |_::rest,.f::ks,regs,K=>TDq X n ops M μ rest ks regs K
 |o::rest,.q::ks,regs,K=>∃r,mW X n ops o regs μ r/\TDq X n ops M μ rest ks (lF o.dst r regs) K
 |o::rest,.u::ks,regs,K=>∃r,(mW X n ops o regs μ r/\∀μ',M μ'->mW X n ops o regs μ' r)/\TDq X n ops M μ rest ks (lF o.dst r regs) K
 |_::_,[],_,_=>False
def TDf (X:Cfg) (regs:List (Nat×V)):List Oper->List Kd->List (Option Tmp×(V->E->Prop))->(List (Option Tmp×(V->E->Prop))->Prop)->Prop
 |[],_,acc,K=>K acc
 |o::rest,.f::ks,acc,K=>∃Rf,rK X o (ev regs) Rf/\TDf X regs rest ks (acc++[(o.dst,Rf)]) K
 |_::rest,_::ks,acc,K=>TDf X regs rest ks acc K
 |_::_,[],_,_=>False
def AllCh:List (Option Tmp×(V->E->Prop))->List (Nat×V)->List E->(List (Nat×V)->List E->Prop)->Prop
 |[],regs,ν,K=>K regs ν
 |(d,Rf)::acc,regs,ν,K=>∀v en,Rf v en->AllCh acc (lF d v regs) (en::ν) K
/-! ### what they leave in the registers -/
def fZ:List Oper->List Kd->List V->List (Nat×V)->List (Nat×V)
 |o::l,k::ks,r::rs,regs=>fZ l ks rs (bif k.fr then regs else lF o.dst r regs)
 |_,_,_,regs=>regs
def mA:List Oper->List Kd->List V->List (Nat×V)->List (Nat×V)
 |o::l,k::ks,r::rs,regs=>mA l ks rs (bif k.fr then lF o.dst r regs else regs)
 |_,_,_,regs=>regs
def nS:List Kd->List E->List E->List E
 |k::ks,en::es,ν=>nS ks es (bif k.fr then en::ν else ν)
 |_,_,ν=>ν
variable {t:Nat}
def Z9 {r:V} {regs:List (Nat×V)}:bJ (lF o.dst r regs) t=if o.dst=some t then r else bJ regs t:=by
 cases hd:o.dst with
 |none=>simp [lF]
 |some d=>
  simp only [lF]
  rw [Oj]
  by_cases h:d=t<;>simp [h]
def zFb {t:Nat}:∀{l:List Oper} {ks:List Kd} {rs:List V} {regs:List (Nat×V)} (i:Nat),ks.length=l.length->bJ (fZ (l.take i) (ks.take i) (rs.take i) regs) t=bL l rs (λj=>decide (j<i)&& !(kd ks j).fr) (bJ regs t) t
 |[],_,_,_,i,_=>by simp [fZ,bL]
 |_::_,[],_,_,i,h=>by simp at h
 |_::_,_::_,[],_,i,_=>by cases i<;>simp [fZ,bL]
 |o::l,k::ks,r::rs,regs,0,_=>by
  simp only [aS,fZ,bL]
  rw [aa uF]
  exact (WU λi o' _ hf=>by simp at hf).symm
 |o::l,k::ks,r::rs,regs,i+1,h=>by
  simp only [av,fZ,bL]
  rw [zFb i tk]
  have e:bJ (bif k.fr then regs else lF o.dst r regs) t=if ((decide (0<i+1)&& !(kd (k::ks) 0).fr)=true/\o.dst=some t) then r else bJ regs t:=by
   simp only [kd,ly]
   cases k.fr
   ·simp only [aw];rw [Z9];simp
   ·simp
  rw [e]
  congr 1
  funext j
  simp [kd]
def zTk {t:Nat}:∀{l:List Oper} {ks:List Kd} {rs:List V} {regs:List (Nat×V)},ks.length=l.length->bJ (mA l ks rs regs) t=bL l rs (λj=>(kd ks j).fr) (bJ regs t) t
 |[],_,_,_,_=>by simp [mA,bL]
 |_::_,[],_,_,h=>by simp at h
 |_::_,_::_,[],_,_=>by simp [mA,bL]
 |o::l,k::ks,r::rs,regs,h=>by
  simp only [mA,bL]
  rw [zTk tk]
  have e:bJ (bif k.fr then lF o.dst r regs else regs) t=if ((kd (k::ks) 0).fr=true/\o.dst=some t) then r else bJ regs t:=by
   simp only [kd,ly]
   cases k.fr
   ·simp
   ·simp only [aB];rw [Z9];simp
  rw [e]
  congr 1
def eH (l:List Oper):Prop:=∀(i:Nat) o,l[i]? =some o->∀(j:Nat) o',l[j]? =some o'->j≠i->o.dst≠none->o'.dst≠o.dst
variable {f:Nat->Bool}
def zVj {rs:List V} {d:V} {r:V} (h1:eH l) (ho:l[i]? =some o) (hr:rs[i]? =some r) (hf:f i=true) (hd:o.dst=some t):bL l rs f d t=r:=by
 have:=Z3 (t:=t) (l:=l) (rs:=rs) (f:=f) (d:=d) ho hr (λj o' hj hne hnn=>h1 i o ho j o' hj hne hnn)
 rw [ab hd] at this
 rw [<-this]
 exact wP λj oj _ _=>by by_cases h:j=i<;>simp [h,hf]
def Jy {rs:List V} {g:Nat->Bool} {d:V} (h1:eH l) (hl:rs.length=l.length):bL l rs f (bL l rs g d t) t=bL l rs (λj=>g j||f j) d t:=by
 by_cases hw:∃(i:Nat) (o:Oper),l[i]? =some o/\o.dst=some t
 ·obtain ⟨i,o,ho,hd⟩:=hw
  have hil:i<l.length:=(af.1 ho).1
  obtain ⟨r,hr⟩:∃r,rs[i]? =some r:=⟨rs[i]'zB,ak _⟩
  have none_of:∀(h:Nat->Bool) (d:V),h i=false->bL l rs h d t=d:=λh d hh=>WU λj oj hoj hj hdj=>by
   by_cases hji:j=i
   ·subst hji;rw [hh] at hj;cases hj
   ·exact h1 i o ho j oj hoj hji (by rw [hd];simp) (by rw [hdj,hd])
  cases hfi:f i
  ·rw [none_of f _ hfi]
   cases hgi:g i
   ·rw [none_of g _ hgi,none_of (λj=>g j||f j) _ (by simp [hfi,hgi])]
   ·rw [zVj h1 ho hr hgi hd,zVj h1 ho hr (f:=λj=>g j||f j) (by simp [hgi]) hd]
  ·rw [zVj h1 ho hr hfi hd,zVj h1 ho hr (f:=λj=>g j||f j) (by simp [hfi]) hd]
 ·have hn:∀(h:Nat->Bool) (d:V),bL l rs h d t=d:=λh d=>WU λj oj hoj _ hdj=>hw ⟨j,oj,hoj,hdj⟩
  rw [hn,hn,hn]
def zXc {t:Nat} {v:V}:∀{l:List Oper} {rs:List V} {f:Nat->Bool} {d:V} {i:Nat},f i=false->bL l (rs.set i v) f d t=bL l rs f d t
 |[],_,_,_,_,_=>by simp [bL]
 |_::_,[],_,_,_,_=>by simp [bL]
 |o::l,r::rs,f,d,0,h=>by
  simp only [jv,bL]
  rw [aa Vy,aa Vy]
 |o::l,r::rs,f,d,i+1,h=>by
  simp only [gj,bL]
  exact zXc (t:=t) (v:=v) tk
/-! ### taking the walks apart -/
def TDq.parts {X:Cfg} {n:Nat} {ops:Array Oper} {M:List E->Prop} {μ:List E} {K:List (Nat×V)->Prop}:∀{l:List Oper} {ks:List Kd} {regs:List (Nat×V)},ks.length=l.length->TDq X n ops M μ l ks regs K->
  ∃rs:List V,rs.length=l.length/\(∀(i:Nat) o r,l[i]? =some o->rs[i]? =some r->(kd ks i).fr=false->mW X n ops o (fZ (l.take i) (ks.take i) (rs.take i) regs) μ r/\((kd ks i).fl=true->∀μ',M μ'->mW X n ops o (fZ (l.take i) (ks.take i) (rs.take i) regs) μ' r))/\K (fZ l ks rs regs)
 |[],ks,regs,_,h=>⟨[],rfl,λi o r h=>by simp at h,by cases ks<;>exact h⟩
 |o::l,.f::ks,regs,hl,h=>by
  obtain ⟨rs,h1,h2,h3⟩:=TDq.parts ZK (show TDq X n ops M μ l ks regs K from h)
  refine ⟨.un::rs,by simp [h1],λi o' r' ho hr' hk=>?_,h3⟩
  cases i with
  |zero=>simp [kd,Kd.fr] at hk
  |succ i=>exact h2 i o' r' Ox WN xJ6
 |o::l,.q::ks,regs,hl,h=>by
  obtain ⟨r,hr,h⟩:=h
  obtain ⟨rs,h1,h2,h3⟩:=TDq.parts ZK h
  refine ⟨r::rs,by simp [h1],λi o' r' ho hr' hk=>?_,h3⟩
  cases i with
  |zero=>simp at ho hr';subst ho hr';exact ⟨hr,λh=>by simp [kd,Kd.fl] at h⟩
  |succ i=>exact h2 i o' r' Ox WN xJ6
 |o::l,.u::ks,regs,hl,h=>by
  obtain ⟨r,hr,h⟩:=h
  obtain ⟨rs,h1,h2,h3⟩:=TDq.parts ZK h
  refine ⟨r::rs,by simp [h1],λi o' r' ho hr' hk=>?_,h3⟩
  cases i with
  |zero=>simp at ho hr';subst ho hr';exact ⟨hr.1,λ_=>hr.2⟩
  |succ i=>exact h2 i o' r' Ox WN xJ6
 |_::_,[],_,hl,_=>by simp at hl
def AllCh.cons {d:Option Tmp} {Rf:V->E->Prop} {acc:List (Option Tmp×(V->E->Prop))}:∀{pre:List (Option Tmp×(V->E->Prop))} {regs:List (Nat×V)} {ν:List E} {K:List (Nat×V)->List E->Prop},AllCh (pre++(d,Rf)::acc) regs ν K->AllCh pre regs ν λregs' ν'=>∀v en,Rf v en->AllCh acc (lF d v regs') (en::ν') K
 |[],_,_,_,h=>h
 |(_,_)::_,_,_,_,h=>λv en hv=>AllCh.cons (h v en hv)
def TDf.parts {X:Cfg} {regs0:List (Nat×V)} {K:List (Option Tmp×(V->E->Prop))->Prop}:∀{l:List Oper} {ks:List Kd} {acc:List (Option Tmp×(V->E->Prop))},ks.length=l.length->TDf X regs0 l ks acc K->
  ∃Rfs:List (V->E->Prop),Rfs.length=l.length/\(∀(i:Nat) o Rf,l[i]? =some o->Rfs[i]? =some Rf->(kd ks i).fr=true->rK X o (ev regs0) Rf)/\
   ∃more,K (acc++more)/\∀{regs:List (Nat×V)} {ν:List E} {K':List (Nat×V)->List E->Prop} {rs:List V} {es:List E},rs.length=l.length->es.length=l.length->(∀(i:Nat) r en Rf,rs[i]? =some r->es[i]? =some en->Rfs[i]? =some Rf->(kd ks i).fr=true->Rf r en)->AllCh more regs ν K'->K' (mA l ks rs regs) (nS ks es ν)
 |[],ks,acc,hl,h=>by
  obtain rfl:ks=[]:=by simpa using hl
  refine ⟨[],rfl,λi o r h=>by simp at h,[],by rw [rk];exact h,?_⟩
  intro regs ν K' rs es hr he _ hc
  exact hc
 |o::l,.f::ks,acc,hl,h=>by
  obtain ⟨Rf,hf,h⟩:=h
  obtain ⟨Rfs,h1,h2,more,h3,h4⟩:=TDf.parts ZK h
  refine ⟨Rf::Rfs,by simp [h1],λi o' Rf' ho hr' hk=>?_,(o.dst,Rf)::more,by simpa using h3,?_⟩
  ·cases i with
   |zero=>simp at ho hr';subst ho hr';exact hf
   |succ i=>exact h2 i o' Rf' Ox WN xJ6
  ·intro regs ν K' rs es hr he hall hc
   cases rs with
   |nil=>simp at hr
   |cons r rs=>
    cases es with
    |nil=>simp at he
    |cons en es=>
     have h0:=hall 0 r en Rf rfl rfl rfl (by simp [kd,Kd.fr])
     simp only [mA,nS,Kd.fr,aB]
     exact h4 (by simpa using hr) (by simpa using he) (λi r' en' Rf' a b c d=>hall (i+1) r' en' Rf' (by simpa using a) (by simpa using b) xJ0 (by simpa [kd] using d)) (hc r en h0)
 |o::l,.q::ks,acc,hl,h=>by
  exact m6
 |o::l,.u::ks,acc,hl,h=>by
  exact m6
 |_::_,[],_,hl,_=>by simp at hl
/-! ### memory -/
def xd {ops:Array Oper} {regs:List (Nat×V)} {μ μc ν:List E} {r:V} (h:mW X n ops o regs μ r) (p:μc.Perm (ν++μ)):mW X n ops o regs μc r:=by
 intro a w I hH hR hs K Q k
 have p2:μc.Perm (μ++ν):=p.trans gw
 have hH2:=hH.perm p2
 refine h a w I hH2.left hR hs K Q ?_
 intro v I' w' hv hH' x
 obtain ⟨h1,h2⟩:=hH2.frame hH' x
 exact k v I' w' hv (h1.perm p2.symm) (h2.perm p2.symm p2.symm)
def nY (ks:List Kd) (es:List E) (f:Nat->Bool):List E:=((es.zipIdx).filter λp=>(kd ks p.2).fr&&f p.2).map (·.1)
variable {ks:List Kd}
def wm {es:List E} (h:∀i,i<es.length->f i=false):nY ks es f=[]:=by
 unfold nY
 rw [List.map_eq_nil_iff,List.filter_eq_nil_iff]
 rintro ⟨en,i⟩ hm
 have hi:=(jg hm).2.1
 simp only [cd] at hi
 simp [h i hi]
def zKx {es:List E} {g:Nat->Bool} (h:∀i,i<es.length->(kd ks i).fr=true->f i=g i):nY ks es f=nY ks es g:=by
 unfold nY
 congr 1
 apply jz
 rintro ⟨en,i⟩ hm
 have hi:=(jg hm).2.1
 simp only [cd] at hi
 cases hk:(kd ks i).fr
 ·simp [hk]
 ·simp [hk,h i hi hk]
def AZ {es:List E} {en:E} (hi:i<es.length) (hk:(kd ks i).fr=true) (hf:f i=false):(nY ks (es.set i en) λj=>if j=i then true else f j).Perm (en::nY ks es f):=by
 have split:∀(L:List E) (g:Nat->Bool),i<L.length->(nY ks L g)=(((L.take i).zipIdx).filter λp=>(kd ks p.2).fr&&g p.2).map (·.1)++((if ((kd ks i).fr&&g i)=true then [L[i]?.getD en] else [])++(((L.drop (i+1)).zipIdx (i+1)).filter λp=>(kd ks p.2).fr&&g p.2).map (·.1)):=by
  intro L g hL
  have e:L=L.take i++L[i]::L.drop (i+1):=by rw [<-ed hL,aZ]
  have e2:L.zipIdx=(L.take i).zipIdx++(L[i],i)::(L.drop (i+1)).zipIdx (i+1):=by
   have h1:=ai (λx=>List.zipIdx x) e
   simp only [List.zipIdx_append,kf,ap,bg (Nat.le_of_lt hL),cd] at h1
   exact h1
  unfold nY
  rw [e2,ml,ah,kh]
  congr 1
  simp only [ak hL,dl]
  split<;>simp
 rw [split (es.set i en) _ xK0,split es f hi]
 simp only [hk,hf,ik,dj,bq,gk,gn,D6]
 rw [jq (aC i),js (by omega:i<i+1)]
 have e3:(((es.take i).zipIdx).filter λp=>(kd ks p.2).fr&&(if p.2=i then true else f p.2))=(((es.take i).zipIdx).filter λp=>(kd ks p.2).fr&&f p.2):=by
  apply jz
  rintro ⟨x,j⟩ hm
  have hj:=(jg hm).2.1
  simp only [ap,cd] at hj
  have:j≠i:=by omega
  simp [this]
 have e4:(((es.drop (i+1)).zipIdx (i+1)).filter λp=>(kd ks p.2).fr&&(if p.2=i then true else f p.2))=(((es.drop (i+1)).zipIdx (i+1)).filter λp=>(kd ks p.2).fr&&f p.2):=by
  apply jz
  rintro ⟨x,j⟩ hm
  have hj:=(jg hm).1
  have:j≠i:=by omega
  simp [this]
 rw [e3,e4]
 simp only [bc (by simpa using hi:i<es.length),dl]
 exact g9
def AY:∀{es:List E} {ν:List E},ks.length=es.length->((nY ks es λ_=>true)++ν).Perm (nS ks es ν):=by
 have aux:∀(ks':List Kd) (es:List E) (b:Nat) (ν:List E),ks'.length=es.length->(∀i,i<ks'.length->kd ks (b+i)=kd ks' i)->(((es.zipIdx b).filter λp=>(kd ks p.2).fr&&true).map (·.1)++ν).Perm (nS ks' es ν):=by
  intro ks' es
  induction es generalizing ks' with
  |nil=>intro b ν h _;cases ks' with
   |nil=>simp [nS]
   |cons k ks=>simp at h
  |cons en es ih=>
   intro b ν h hk
   cases ks' with
   |nil=>simp at h
   |cons k ks'=>
    have h0:kd ks b=k:=by have:=hk 0 uF;simpa [kd] using this
    have ih':=λν=>ih ks' (b+1) ν tk (λi hi=>by
     have:=hk (i+1) xK0
     rw [show b+1+i=b+(i+1) by omega,this];simp [kd])
    simp only [kf,nS,kh,h0,bq]
    cases hfr:k.fr
    ·simpa [hfr] using ih' ν
    ·simp only [ik,aG,xn,aB]
     refine List.Perm.trans ?_ (ih' (en::ν))
     simp only [bq]
     exact g9.symm
 intro es ν h
 exact aux ks es 0 ν h (λi _=>by simp)
def zCm {t:Nat}:∀{l:List Oper} {rs rs':List V} {f g:Nat->Bool} {d:V},rs.length=l.length->rs'.length=l.length->(∀(i:Nat) o,l[i]? =some o->o.dst=some t->f i=g i/\(f i=true->rs[i]? =rs'[i]?))->bL l rs f d t=bL l rs' g d t
 |[],_,_,_,_,_,_,_,_=>by simp [bL]
 |o::l,r::rs,r'::rs',f,g,d,h1,h2,h=>by
  simp only [bL]
  have e:(if f 0=true/\o.dst=some t then r else d)=(if g 0=true/\o.dst=some t then r' else d):=by
   by_cases hd:o.dst=some t
   ·obtain ⟨k1,k2⟩:=h 0 o rfl hd
    rw [<-k1]
    by_cases hf:f 0=true
    ·have:=k2 hf;simp at this;simp [hf,hd,this]
    ·simp [hf]
   ·simp [hd]
  rw [e]
  exact zCm xZ9 (by simpa using h2) λi o' ho hd=>by
   have:=h (i+1) o' Ox hd
   simpa using this
 |_::_,[],_,_,_,_,h,_,_=>by simp at h
 |_::_,_::_,[],_,_,_,_,h,_=>by simp at h
def zSr {o:Oper} {r:V}:∀{l:List Oper} {ks:List Kd} {rs:List V} {regs:List (Nat×V)},ks.length=l.length->rs.length=l.length->fZ (l++[o]) (ks++[.f]) (rs++[r]) regs=fZ l ks rs regs
 |[],[],[],_,_,_=>by simp [fZ,Kd.fr]
 |_::l,_::ks,_::rs,regs,h1,h2=>by
  simp only [xn,fZ]
  exact zSr xZ9 (by simpa using h2)
 |[],_::_,_,_,h,_=>by simp at h
 |_::_,[],_,_,h,_=>by simp at h
 |[],[],_::_,_,_,h=>by simp at h
 |_::_,_::_,[],_,_,h=>by simp at h
def tD (l:List Oper) (s:Nat) (ks:List Kd):Bool:=
 l.zipIdx.all λp=> !Nat.blt p.2 s||((p.1.guard.isNone|| !(kd ks p.2).fr)&&(p.1.looksAt l.toArray).all λt=>l.zipIdx.all λq=> !Nat.blt q.2 s|| !(q.1.dst==some t)||(!(kd ks q.2).fr&&(!(kd ks p.2).fr||Nat.blt q.2 p.2)))
def tU (l:List Oper) (s:Nat) (ks:List Kd):Bool:=
 pS l (s+1)&&(List.range s).all (λi=>(kd ks i).fl||mN l 40 s i)&&tD l s ks&&Nat.beq ks.length s
def zMz {s:Nat} (h:tD l s ks=true) (ho:l[i]? =some o) (hi:i<s):((kd ks i).fr=true->o.guard=none)/\∀t,t∈o.looksAt l.toArray->∀(j:Nat) o',l[j]? =some o'->j<s->o'.dst=some t->(kd ks j).fr=false/\((kd ks i).fr=true->j<i):=by
 unfold tD at h
 rw [rl] at h
 have h1:=h _ (VP ho)
 have hb:Nat.blt i s=true:=by simpa [cr] using hi
 simp only [hb,aU,dq,ae] at h1
 refine ⟨λhf=>?_,λt ht j o' ho' hj hd=>?_⟩
 ·have:=h1.1
  rw [hf] at this
  simpa using this
 ·have h2:=h1.2
  rw [rl] at h2
  have h3:=h2 t ht
  rw [rl] at h3
  have h4:=h3 _ (VP ho')
  have hbj:Nat.blt j s=true:=by simpa [cr] using hj
  simp only [hbj,hd,ng,aU,dq,ae,aA,aD] at h4
  refine ⟨h4.1,λhf=>?_⟩
  rcases h4.2 with h5|h5
  ·rw [hf] at h5;cases h5
  ·simpa [cr] using h5
section draw
variable {X:Cfg} {n:Nat} {z:Z} {Q:Exit->S->Prop} {regs:List (Nat×V)} {μ:List E} {l:List Oper} {s:Nat} {M:List E->Prop} {ks:List Kd}
set_option maxHeartbeats 2000000 in
def XJ {z1:Z} (hz:ZLe z z1) (ok:DrawOk l (s+1)) (hsl:s<l.length) (hdst:l.all (dstOk n)=true) {os:Oper} (hos:l[s]? =some os) (hgS:os.guard=none) (hkl:ks.length=s) (hedS:∀i,i<s->(kd ks i).fl=false->mN l 40 s i=true)
  (hlk:∀(i:Nat) o,l[i]? =some o->i<s->((kd ks i).fr=true->o.guard=none)/\∀t,t∈o.looksAt l.toArray->∀(j:Nat) o',l[j]? =some o'->j<s->o'.dst=some t->(kd ks j).fr=false/\((kd ks i).fr=true->j<i))
  {qs:List V} (hqs:qs.length=s) (hq:∀(i:Nat) o r,(l.take s)[i]? =some o->qs[i]? =some r->(kd ks i).fr=false->mW X n l.toArray o (fZ ((l.take s).take i) (ks.take i) (qs.take i) regs) μ r/\((kd ks i).fl=true->∀μ',M μ'->mW X n l.toArray o (fZ ((l.take s).take i) (ks.take i) (qs.take i) regs) μ' r))
  {Rfs:List (V->E->Prop)} (hRl:Rfs.length=s) (hF:∀(i:Nat) o Rf,(l.take s)[i]? =some o->Rfs[i]? =some Rf->(kd ks i).fr=true->rK X o (ev (fZ (l.take s) ks qs regs)) Rf)
  (hC:∀(rs:List V) (es:List E),rs.length=s->es.length=s->(∀(i:Nat) r en Rf,rs[i]? =some r->es[i]? =some en->Rfs[i]? =some Rf->(kd ks i).fr=true->Rf r en)->
   ∃R,OpE X os (ev (mA (l.take s) ks rs (fZ (l.take s) ks qs regs))) (nS ks es μ) R/\(∀r μ1,R r μ1->M μ1)/\∀r μ1,R r μ1->oX X n z l.toArray (l.drop (s+1)) Q ⟨lF os.dst r (mA (l.take s) ks rs (fZ (l.take s) ks qs regs)),μ1⟩):
  ∀(fuel:Nat) (listed:Array Bool) (a:Act) (w:World) (I:Nat->Prop) (rs:List V) (es:List E) (μc:List E),listed.size=l.length->B2 listed=fuel->(∀i,s+1<=i->i<l.length->listed.getD i true=false)->rL l listed->rs.length=s+1->es.length=s->
   (∀i,i<s->(kd ks i).fr=false->rs[i]? =qs[i]?)->
   (∀(i:Nat) Rf,i<s->(kd ks i).fr=true->listed.getD i true=true->Rfs[i]? =some Rf->∃r en,rs[i]? =some r/\es[i]? =some en/\Rf r en)->
   (listed.getD s true=false->μc.Perm (nY ks es (λi=>listed.getD i true)++μ))->
   (listed.getD s true=true->M μc/\∃regsF,(∀t,bJ regsF t=bL (l.take (s+1)) rs (λ_=>true) (bJ regs t) t)/\oX X n z l.toArray (l.drop (s+1)) Q ⟨regsF,μc⟩)->
   Heap X w I μc->(∀t,VRep w I (bL (l.take (s+1)) rs (λi=>listed.getD i true) (bJ regs t) t) (a.tmps.getD t undef))->Ext z1.w z1.I z1.μ w I μc->a.defers=z1.ds->a.tmps.size=n->
   wpAnyIn (se z.rd) 0 X.P .any l.toArray (dY X n z1 Q) fuel listed a w:=by
 have hts:l.take (s+1)=l.take s++[os]:=yB hos
 have htl:(l.take (s+1)).length=s+1:=by simp;omega
 have hone:eH (l.take (s+1)):=by
  intro i o ho j o' ho' hne hnn
  have hi:i<s+1:=by have:=(af.1 ho).1;simp at this;omega
  have hj:j<s+1:=by have:=(af.1 ho').1;simp at this;omega
  rw [az,ab hi] at ho
  rw [az,ab hj] at ho'
  exact ok.own i o ho hi j o' ho' hj hne hnn
 have hall_of:∀{listed:Array Bool} {w:World} {I:Nat->Prop} {a:Act} {rs:List V} {regsF:List (Nat×V)},(∀i,i<s+1->listed.getD i true=true)->(∀t,bJ regsF t=bL (l.take (s+1)) rs (λ_=>true) (bJ regs t) t)->(∀t,VRep w I (bL (l.take (s+1)) rs (λi=>listed.getD i true) (bJ regs t) t) (a.tmps.getD t undef))->∀t,VRep w I (bJ regsF t) (a.tmps.getD t undef):=by
  intro listed w I a rs regsF hall hF hR t
  rw [hF t]
  have:=hR t
  rwa [wP (g:=λ_=>true) (λi o ho _=>hall i (by have:=(af.1 ho).1;simp at this;omega))] at this
 intro fuel
 induction fuel with
 |zero=>
  intro listed a w I rs es μc hsz hun htail hclo hrs hes hqr hfr hl0 hl1 hH hR hx hd hs
  have hall:∀i,i<l.length->listed.getD i true=true:=by
   intro i hi
   cases hb:listed.getD i true with
   |true=>rfl
   |false=>have:=OD hb;omega
  have hml':s+1=l.length:=by
   rcases bz (s+1) l.length with h|h
   ·have h1:=htail (s+1) (aC _) h;rw [hall _ h] at h1;cases h1
   ·omega
  refine SZ ok 0 l.length listed a w hsz zB (aC _) (λi hi=>by rw [hall i hi];simp [hi]) zB ?_
  obtain ⟨_,regsF,hF',hk⟩:=hl1 (hall s hsl)
  have:=hk (by rw [hml'];simp) z1 hz a w ⟨I,hH,hall_of (λi hi=>hall i zB) hF' hR,hx,hd,hs⟩
  rwa [hml'] at this
 |succ fuel ih=>
  intro listed a w I rs es μc hsz hun htail hclo hrs hes hqr hfr hl0 hl1 hH hR hx hd hs
  by_cases hqa:∀i,i<s+1->listed.getD i true=true
  ·refine SZ ok (fuel+1) (s+1) listed a w hsz (aC _) zB (λi hi=>?_) ?_ ?_
   ·by_cases him:i<s+1
    ·rw [hqa i him];simp [him]
    ·rw [htail i zB hi];simp [him]
   ·have:=LL hsz zB hqa htail
    omega
   ·obtain ⟨_,regsF,hF',hk⟩:=hl1 (hqa s zB)
    exact hk (by
     rw [rl] at hdst⊢
     exact λo ho=>hdst o (Yt ho)) z1 hz a w ⟨I,hH,hall_of hqa hF' hR,hx,hd,hs⟩
  ·have hex:∃i,i<s+1/\listed.getD i true=false/\∀j,j<i->listed.getD j true=true:=by
    have:∃i,i<s+1/\listed.getD i true=false:=by
     rcases fv.1 hqa with ⟨i,hi⟩
     exact v26
    exact k7
   obtain ⟨i0,hi0,hb0,hmin⟩:=hex
   refine ⟨λhnil=>?_,λi hi=>?_⟩
   ·exact s7
   ·rw [fw] at hi
    obtain ⟨hbi,o,ho,hedge⟩:=hi
    have ho':l[i]? =some o:=by simpa using ho
    have hil:i<l.length:=(af.1 ho').1
    have hunl:∀j,j<l.length->listed.getD j true=false->¬listed.getD j false=true:=λj hj h1 h2=>by
     exact j9
    have him:i<s+1:=by
     rcases bz i (s+1) with h|h
     ·exact h
     ·exfalso
      rcases bz (s+1) i with hgt|hge
      ·obtain ⟨e,he1,he2,he3⟩:=ok.tail1 i o ho' hgt
       have h1:=hedge e he1 he3
       rw [he2] at h1
       exact hunl (i-1) zB (htail (i-1) zB zB) h1
      ·have him:i=s+1:=by omega
       subst him
       exact hunl i0 zB hb0 (ST hclo ho' hedge (ok.tail0 o ho' i0 hi0))
    have hot:(l.take (s+1))[i]? =some o:=by rw [az,ab him];exact ho'
    have hwr:∀t,t∈o.looksAt l.toArray->∀(j:Nat) oj,(l.take (s+1))[j]? =some oj->oj.dst=some t->(j<i/\listed.getD j true=true)∨(i<j/\listed.getD j true=false):=by
     intro t ht j oj hoj hdj
     have hjm:j<s+1:=by have:=(af.1 hoj).1;simp at this;omega
     have hoj':l[j]? =some oj:=by rw [az,ab hjm] at hoj;exact hoj
     rcases ok.looks i o ho' him t ht j oj hoj' hjm hdj with ⟨hji,e,he1,he2,he3⟩|⟨hij,e,he1,he2,he3⟩
     ·have h1:=hedge e he1 he3
      rw [he2] at h1
      exact .inl ⟨hji,zPq h1⟩
     ·refine .inr ⟨hij,?_⟩
      cases hb:listed.getD j true with
      |false=>rfl
      |true=>
       exfalso
       have h1:=hclo j oj hoj' hb e he1 he3
       rw [he2] at h1
       exact hunl i hil hbi h1
    have hdo:dstOk n o=true:=by
     exact v75
    simp only [wpOpIn,ho]
    have hget:∀j,(listed.setIfInBounds i true).getD j true=if j=i then true else listed.getD j true:=by
     intro j
     exact m5
    have hclo':rL l (listed.setIfInBounds i true):=by
     intro j oj hoj hb e he1 he3
     exact v6
    have hu:=OD hbi
    have htail':∀j,s+1<=j->j<l.length->(listed.setIfInBounds i true).getD j true=false:=λj hj hjl=>by rw [fg true zB];exact htail j hj hjl
    have hregs:∀(r v:_) (I':Nat->Prop) (w':World) (μ':List E),VRep w' I' r v->Ext w I μc w' I' μ'->∀t,VRep w' I' (bL (l.take (s+1)) (rs.set i r) (λj=>(listed.setIfInBounds i true).getD j true) (bJ regs t) t) ((a.put o.dst v).tmps.getD t undef):=by
     intro r v I' w' μ' hv hx' t
     have hr:(rs.set i r)[i]? =some r:=by rw [bc zB]
     have hvs:=Z3 (t:=t) (l:=l.take (s+1)) (rs:=rs.set i r) (f:=λj=>listed.getD j true) (d:=bJ regs t) hot hr (λj o' hj hne hnn=>hone i o hot j o' hj hne hnn)
     have e1:(λj=>(listed.setIfInBounds i true).getD j true)=(λj=>if j=i then true else listed.getD j true):=funext hget
     have e2:(λj=>if j=i then false else listed.getD j true)=(λj=>listed.getD j true):=by
      funext j
      exact v61
     rw [e1,hvs,e2,zXc (by exact hbi)]
     cases hod:o.dst with
     |none=>
      rw [aa uF]
      exact hH.vrep hx' (hR t)
     |some d=>
      exact o4
    have hdf':∀v,(a.put o.dst v).defers=z1.ds:=λv=>by cases hod:o.dst<;>simp [Act.put,hd]
    have hsz':∀v,(a.put o.dst v).tmps.size=n:=λv=>by cases hod:o.dst<;>simp [Act.put,hs]
    have hqset:∀(r:V),((kd ks i).fr=false->i<s->rs[i]? =some r)->∀j,j<s->(kd ks j).fr=false->(rs.set i r)[j]? =qs[j]?:=by
     intro r hr j hj hkj
     by_cases hji:j=i
     ·subst hji;rw [bc zB,<-hqr j hj hkj,hr hkj hj]
     ·rw [cx (eg hji)];exact hqr j hj hkj
    rcases bz i s with his|his
    ·-- one of the free ones
     have hns:i≠s:=by omega
     have hkeep1:(listed.setIfInBounds i true).getD s true=listed.getD s true:=by rw [hget s,aa (eg hns)]
     have hotS:(l.take s)[i]? =some o:=by rw [az,ab his];exact ho'
     obtain ⟨hlk1,hlk2⟩:=hlk i o ho' his
     have hrsi:∃r,rs[i]? =some r:=⟨rs[i]'zB,ak _⟩
     cases hk:(kd ks i).fr with
     |false=>
      obtain ⟨r,hr⟩:∃r,qs[i]? =some r:=⟨qs[i]'zB,ak _⟩
      have hri:rs[i]? =some r:=(hqr i his hk).trans hr
      obtain ⟨g1,g2⟩:=hq i o r hotS hr hk
      have hG:mW X n l.toArray o (fZ ((l.take s).take i) (ks.take i) (qs.take i) regs) μc r:=by
       cases hb:listed.getD s true with
       |false=>exact xd g1 (hl0 hb)
       |true=>
        cases hfl:(kd ks i).fl with
        |true=>exact g2 hfl _ (hl1 hb).1
        |false=>exact absurd (zGt hclo 40 s i (hedS i his hfl) hb) (hunl i hil hbi)
      have hlook:∀t,t∈o.looksAt l.toArray->VRep w I (bJ (fZ ((l.take s).take i) (ks.take i) (qs.take i) regs) t) (a.tmps.getD t undef):=by
       exact r7
      have step:∀v I' w',VRep w' I' r v->Heap X w' I' μc->Ext w I μc w' I' μc->wpAnyIn (se z.rd) 0 X.P .any l.toArray (dY X n z1 Q) fuel (listed.setIfInBounds i true) (a.put o.dst v) w':=by
       intro v I' w' hv hH' hx'
       have eset:rs.set i r=rs:=by
        apply ej
        intro j
        by_cases hji:i=j
        ·subst hji;rw [bc zB,hri]
        ·rw [cx hji]
       have hrg:=hregs r v I' w' μc hv hx'
       rw [eset] at hrg
       refine ih (listed.setIfInBounds i true) _ w' I' rs es μc Sj zB htail' hclo' hrs hes hqr ?_ ?_ ?_ hH' hrg (hx.trans hx') (hdf' v) (hsz' v)
       ·intro j Rf hj hkj hlj hRj
        rw [hget j] at hlj
        by_cases hji:j=i
        ·subst hji;rw [hk] at hkj;cases hkj
        ·rw [aa hji] at hlj;exact hfr j Rf hj hkj hlj hRj
       ·intro hb
        rw [hkeep1] at hb
        rw [zKx (g:=λj=>listed.getD j true) (λj hj hkj=>by
         rw [hget j]
         by_cases hji:j=i
         ·subst hji;rw [hk] at hkj;cases hkj
         ·rw [aa hji])]
        exact hl0 hb
       ·intro hb;rw [hkeep1] at hb;exact hl1 hb
      exact o8
     |true=>
      obtain ⟨Rf,hRf⟩:∃Rf,Rfs[i]? =some Rf:=⟨Rfs[i]'zB,ak _⟩
      have hfresh:=hF i o Rf hotS hRf hk
      have hbs:listed.getD s true=false:=by
       cases hb:listed.getD s true with
       |false=>rfl
       |true=>exact absurd (zGt hclo 40 s i (hedS i his (by unfold Kd.fr at hk;unfold Kd.fl;cases h:kd ks i<;>rw [h] at hk<;>simp_all)) hb) (hunl i hil hbi)
      have hlook:∀t,t∈o.looksAt l.toArray->VRep w I (bJ (fZ (l.take s) ks qs regs) t) (a.tmps.getD t undef):=by
       exact r5
      rw [ab (by simp [Region.wanted,hlk1 hk])]
      refine (OpE.frame hfresh μc) a w I hH (zKw hlook) _ _ ?_ (dstOk.nd hdo) _
      rintro v r μ' I' w' ⟨μ'',⟨en,hRv,rfl⟩,rfl⟩ hv hH' hx'
      refine ih (listed.setIfInBounds i true) _ w' I' (rs.set i r) (es.set i en) _ Sj zB htail' hclo' (by simp [hrs]) (by simp [hes]) (hqset r (λh=>by rw [hk] at h;cases h)) ?_ ?_ ?_ hH' (hregs r v I' w' _ hv hx') (hx.trans hx') (hdf' v) (hsz' v)
      ·exact v13
      ·intro _
       rw [show (λj=>(listed.setIfInBounds i true).getD j true)=(λj=>if j=i then true else listed.getD j true) from funext hget]
       refine List.Perm.trans ?_ (lu μ (AZ (en:=en) zB hk hbi)).symm
       exact List.Perm.cons en (hl0 hbs)
      ·intro hb;rw [hkeep1,hbs] at hb;cases hb
    ·-- the one that changes memory
     have hie:i=s:=by omega
     subst hie
     have eo:o=os:=by rw [ho'] at hos;exact Option.some.inj hos
     subst eo
     have hP:=hl0 hbi
     have hfall:∀j,j<i->(kd ks j).fr=true->listed.getD j true=true:=λj hj hkj=>by
      have hfl:(kd ks j).fl=false:=by unfold Kd.fr at hkj;unfold Kd.fl;cases h:kd ks j<;>rw [h] at hkj<;>simp_all
      exact zPq (ST hclo ho' hedge (hedS j hj hfl))
     have hE:(nY ks es (λj=>listed.getD j true)++μ).Perm (nS ks es μ):=by
      rw [zKx (g:=λ_=>true) (λj hj hkj=>hfall j zB hkj)]
      exact AY zB
     have hμ:μc.Perm (nS ks es μ):=hP.trans hE
     obtain ⟨R,hOp,hRM,hK⟩:=hC (rs.take i) es uD hes (λj r en Rf h1 h2 h3 h4=>by
      have hj:j<i:=by have:=(af.1 h2).1;omega
      obtain ⟨r',en',k1,k2,k3⟩:=hfr j Rf hj h4 (hfall j hj h4) h3
      rw [az,ab hj,k1] at h1;cases h1
      rw [k2] at h2;cases h2
      exact k3)
     have hlF:∀t,bJ (mA (l.take i) ks (rs.take i) (fZ (l.take i) ks qs regs)) t=bL (l.take i) (rs.take i) (λ_=>true) (bJ regs t) t:=by
      exact p5
     have hlook:∀t,t∈o.looksAt l.toArray->VRep w I (bJ (mA (l.take i) ks (rs.take i) (fZ (l.take i) ks qs regs)) t) (a.tmps.getD t undef):=by
      exact s8
     rw [ab (by simp [Region.wanted,hgS])]
     refine hOp a w I (hH.perm hμ) (zKw hlook) _ _ ?_ (dstOk.nd hdo) _
     intro v r μ' I' w' hr hv hH' hx'
     have hx'':Ext w I μc w' I' μ':=hx'.perm hμ.symm (bb _)
     refine ih (listed.setIfInBounds i true) _ w' I' (rs.set i r) es μ' Sj zB htail' hclo' (by simp [hrs]) hes (hqset r (λ_ h=>by omega)) ?_ ?_ ?_ hH' (hregs r v I' w' _ hv hx'') (hx.trans hx'') (hdf' v) (hsz' v)
     ·intro j Rf' hj hkj hlj hRj
      rw [hget j,aa zB] at hlj
      obtain ⟨r',en',k1,k2,k3⟩:=hfr j Rf' hj hkj hlj hRj
      exact ⟨r',en',by rw [cx zB];exact k1,k2,k3⟩
     ·intro hb;rw [hget i,ab rfl] at hb;cases hb
     ·intro _
      refine ⟨hRM r μ' hr,_,λt=>?_,hK r μ' hr⟩
      rw [Z9,hlF t]
      have app:∀(l:List Oper) (rs:List V) (d:V) (o:Oper) (r:V),rs.length=l.length->bL (l++[o]) (rs++[r]) (λ_=>true) d t=if o.dst=some t then r else bL l rs (λ_=>true) d t:=by
       intro l
       induction l with
       |nil=>intro rs d o r h1;cases rs with
        |nil=>simp [bL]
        |cons _ _=>simp at h1
       |cons x l ihl=>intro rs d o r h1;cases rs with
        |nil=>simp at h1
        |cons y rs=>simp only [xn,bL];exact ihl rs _ o r xZ9
      have e1:rs.set i r=rs.take i++[r]:=by
       rw [ez,ab zB,cl zB]
      rw [hts,e1,app _ _ _ _ _ uD]
def vj {id:Nat} (s:Nat) (ks:List Kd) (M:List E->Prop) {os:Oper} (hm:X.P.follows .mixedOrders=true) (hchk:tU l s ks=true) (hos:nth l s=some os) (hgS:os.guard=none) (hd:l.all (dstOk n)=true)
  (h:TDq X n l.toArray M μ (l.take s) ks regs λregs'=>TDf X regs' (l.take s) ks [] λacc=>AllCh acc regs' μ λregs'' μ''=>∃R,OpE X os (ev regs'') μ'' R/\(∀r μ1,R r μ1->M μ1)/\∀r μ1,R r μ1->oX X n z l.toArray (l.drop (s+1)) Q ⟨lF os.dst r regs'',μ1⟩):oU X n z (.region id l.toArray true) Q ⟨regs,μ⟩:=by
 intro z1 hz a w st
 obtain ⟨I,hH,hR,hx,hdf,hs⟩:=st.drew
 rw [Hb] at hos
 have hsl:s<l.length:=(af.1 hos).1
 simp only [tU,ae] at hchk
 obtain ⟨⟨⟨hc1,hc2⟩,hc3⟩,hc4⟩:=hchk
 have hkl:ks.length=s:=bj hc4
 obtain ⟨qs,h1,h2,h3⟩:=h.parts uD
 obtain ⟨Rfs,h4,h5,more,h6,h7⟩:=h3.parts uD
 have hts:(l.take s).length=s:=by simp;omega
 refine ie hm ?_
 refine XJ hz (regs:=regs) (μ:=μ) (ks:=ks) (M:=M) (wk hc1) hsl hd hos hgS hkl (λi hi hu=>?_) (λi o ho hi=>zMz hc3 ho hi) (qs:=qs) zB h2 (Rfs:=Rfs) zB h5
  (λrs es hr he hall=>h7 (rs:=rs) (es:=es) zB zB hall h6) _ _ a _ I (qs++[.un]) (List.replicate s (.blk 0 λ_ _ _=>True)) μ uF ?_ (λi _ hi=>by simp [hi]) (λj o ho hb=>by
   have hlt:j<l.length:=(af.1 ho).1
   simp [hlt] at hb) uD uF (λi hi _=>aV zB) (λi Rf hi _ hb=>by
   simp [show i<l.length by omega] at hb) (λ_=>?_) (λhb=>by simp [hsl] at hb) hH (λt=>?_) hx hdf hs
 ·have:=aT.1 hc2 i (cw.2 hi)
  rwa [hu,dq] at this
 ·unfold B2
  simp
 ·rw [wm (λi hi=>by simp at hi;simp [show i<l.length by omega])]
  exact bb _
 ·exact v14
end draw
def cE (μ:List E):List E->Prop:=λμ'=>∃ν,μ'=ν++μ
section rules
variable {X:Cfg} {n:Nat} {ops:Array Oper} {M:List E->Prop} {μ:List E} {o:Oper} {rest:List Oper} {ks:List Kd} {regs:List (Nat×V)} {K:List (Nat×V)->Prop}
def u9 (h:K regs):TDq X n ops M μ [] ks regs K:=h
def zVm (h:TDq X n ops M μ rest ks regs K):TDq X n ops M μ (o::rest) (.f::ks) regs K:=h
def wV {r:V} {d:Tmp} (hd:o.dst=some d) (hg:o.guard=none) (h:Det X o (ev regs) μ r μ) (k:TDq X n ops M μ rest ks ((d,r)::regs) K):TDq X n ops M μ (o::rest) (.q::ks) regs K:=
 ⟨r,WZ hg h,by rw [hd];exact k⟩
def zQd {r:V} {d:Tmp} (hd:o.dst=some d) (hg:o.guard=none) (h:Det X o (ev regs) μ r μ) (k:TDq X n ops (cE μ) μ rest ks ((d,r)::regs) K):TDq X n ops (cE μ) μ (o::rest) (.u::ks) regs K:=
 ⟨r,⟨WZ hg h,λμ' hm=>by obtain ⟨ν,rfl⟩:=hm;exact xd (WZ hg h) (bb _)⟩,by rw [hd];exact k⟩
end rules
def u7 {regs:List (Nat×V)} {acc:List (Option Tmp×(V->E->Prop))} {K:List (Option Tmp×(V->E->Prop))->Prop} (h:K acc):TDf X regs [] ks acc K:=by cases ks<;>exact h
def wY {t:nr} {cells:List C} (h:OpE X o e [] λr μ'=>∃b,r=.c (.lit (.pointer (some ⟨b,0,none⟩)))/\μ'=[.row b t cells]):rK X o e λr en=>∃b,r=.c (.lit (.pointer (some ⟨b,0,none⟩)))/\en=.row b t cells:=
 h.mono λ_ _ ⟨b,h2,h3⟩=>⟨.row b t cells,⟨b,h2,rfl⟩,h3⟩
def Mq {t:nr} {size:Nat} {rows:List (List C)} (h:OpE X o e [] λr μ'=>∃sv,r=.c (.lit sv)/\μ'=[.vec sv t size rows]):rK X o e λr en=>∃sv,r=.c (.lit sv)/\en=.vec sv t size rows:=
 h.mono λ_ _ ⟨sv,h2,h3⟩=>⟨.vec sv t size rows,⟨sv,h2,rfl⟩,h3⟩
def zQe {regs:List (Nat×V)} {acc:List (Option Tmp×(V->E->Prop))} {K:List (Option Tmp×(V->E->Prop))->Prop} {Rf:V->E->Prop} (h:rK X o (ev regs) Rf) (k:TDf X regs rest ks (acc++[(o.dst,Rf)]) K):TDf X regs (o::rest) (.f::ks) acc K:=⟨Rf,h,k⟩
def si {regs:List (Nat×V)} {acc:List (Option Tmp×(V->E->Prop))} {K:List (Option Tmp×(V->E->Prop))->Prop} (k:TDf X regs rest ks acc K):TDf X regs (o::rest) (.q::ks) acc K:=k
def GN {regs:List (Nat×V)} {acc:List (Option Tmp×(V->E->Prop))} {K:List (Option Tmp×(V->E->Prop))->Prop} (k:TDf X regs rest ks acc K):TDf X regs (o::rest) (.u::ks) acc K:=k
def zRw {regs:List (Nat×V)} {ν:List E} {K:List (Nat×V)->List E->Prop} (h:K regs ν):AllCh [] regs ν K:=h
def zOi {Rf:V->E->Prop} {acc:List (Option Tmp×(V->E->Prop))} {regs:List (Nat×V)} {ν:List E} {K:List (Nat×V)->List E->Prop} (h:∀v en,Rf v en->AllCh acc ((d,v)::regs) (en::ν) K):AllCh ((some d,Rf)::acc) regs ν K:=h
variable {id:Nat}
def Hu {regs:List (Nat×V)} {μ:List E} (s:Nat) (ks:List Kd) {os:Oper} (hm:X.P.follows .mixedOrders=true) (hchk:tU l s ks=true) (hos:nth l s=some os) (hgS:os.guard=none) (hd:l.all (dstOk n)=true) (h:TDq X n l.toArray (cE μ) μ (l.take s) ks regs λregs'=>TDf X regs' (l.take s) ks [] λacc=>AllCh acc regs' μ λregs'' μ''=>∃R,OpE X os (ev regs'') μ'' R/\(∀r μ1,R r μ1->cE μ μ1)/\∀r μ1,R r μ1->oX X n z l.toArray (l.drop (s+1)) Q ⟨lF os.dst r regs'',μ1⟩):oU X n z (.region id l.toArray true) Q ⟨regs,μ⟩:=
 vj s ks (cE μ) hm hchk hos hgS hd h
section rules2
variable {X:Cfg} {n:Nat} {ops:Array Oper} {μ:List E} {p:Nat} {o:Oper} {rest:List Oper} {ks:List Kd} {regs:List (Nat×V)} {K:List (Nat×V)->Prop}
end rules2
def iX (regs:List (Nat×V)) (o:Oper):Option (Tmp×C):=
 match o.op,o.dst,o.guard with
 |.move x,some d,none=>(match ev regs x with|.c c=>some (d,c)|_=>none)
 |.assign x,some d,none=>(match ev regs x with|.c c=>some (d,c)|_=>none)
 |_,_,_=>none
def Iv {regs:List (Nat×V)} (h:iX regs o=some (d,c)):o.dst=some d/\o.guard=none/\∃x,(o.op=.move x∨o.op=.assign x)/\ev regs x=.c c:=by
 unfold iX at h
 split at h
 ·rename_i x d' h1 h2 h3
  split at h
  ·rename_i c' h4
   simp only [ay,aO] at h
   exact ⟨by rw [h2,h.1],h3,x,.inl h1,by rw [h4,h.2]⟩
  ·cases h
 ·rename_i x d' h1 h2 h3
  split at h
  ·rename_i c' h4
   simp only [ay,aO] at h
   exact ⟨by rw [h2,h.1],h3,x,.inr h1,by rw [h4,h.2]⟩
  ·cases h
 ·cases h
def zD {a:V}:VLe a a:=VLe.refl a
def zX {regs:List (Nat×V)} {μ μ':List E} {ops:Array Oper} {r:V} (hd:so o=some d) (h:Det X o (ev regs) μ r μ') (k:oX X n z ops rest Q ⟨(d,r)::regs,μ'⟩):oX X n z ops (o::rest) Q ⟨regs,μ⟩:=by
 exact ua (qm hd).1 (qm hd).2 h k
def zV {P:Program} {regs:List (Nat×V)} {μ:List E} {y:C} {Q:V->List E->Prop} (h:bJ regs t=.c y) (hq:Q (.c y) μ):gF P [.tmp t] Q .ret ⟨regs,μ⟩:=pu (ox h) hq
def G {regs:List (Nat×V)} {μ:List E} {ops:Array Oper} (h:iX regs o=some (d,c)) (k:oX X n z ops rest Q ⟨(d,.c c)::regs,μ⟩):oX X n z ops (o::rest) Q ⟨regs,μ⟩:=by
 obtain ⟨h1,h2,x,h3,h4⟩:=Iv h
 rcases h3 with h3|h3
 ·exact ua h1 h2 (zQ h3 h4) k
 ·exact ua h1 h2 (yK h3 h4) k
variable {y:Code}
def Y (hd:l.all (dstOk n)=true) (h:oX X n z l.toArray l (sA (oU X n z y Q) Q) σ):oU X n z (.seq (.region id l.toArray false) y) Q σ:=zF (zP hd h)
def ol {u:List E} (hd:[o].all (dstOk n)=true) (h:iX r o=some (d,c)) (k:sA (oU X n z y Q) Q .normal ⟨(d,.c c)::r,u⟩):oU X n z (.seq (.region id [o].toArray false) y) Q ⟨r,u⟩:=Y hd (G h (zA k))
def om {u:List E} {os:Array Oper} (h:iX r o=some (d,c)) (k:Q .normal ⟨(d,.c c)::r,u⟩):oX X n z os [o] Q ⟨r,u⟩:=G h (zA k)
def oo {u:List E} (hd:(o::l).all (dstOk n)=true) (h:iX r o=some (d,c)) (k:oX X n z (o::l).toArray l (sA (oU X n z y Q) Q) ⟨(d,.c c)::r,u⟩):oU X n z (.seq (.region id (o::l).toArray false) y) Q ⟨r,u⟩:=Y hd (G h k)
def eQ (n:Nat) (ops:Array Oper) (o:Oper):Option (Nat×Nat×Bool×Nat):=
 match o.dst,o.guard with
 |some t,some (j,want)=>(match (ops[j]?).bind (·.dst) with|some d=>bif Nat.blt d n then some (t,j,want,d) else none|none=>none)
 |_,_=>none
variable {want:Bool} {j:Nat}
def Ii {ops:Array Oper} {d:Nat} (h:eQ n ops o=some (t,j,want,d)):o.dst=some t/\o.guard=some (j,want)/\(ops[j]?).bind (·.dst)=some d/\Nat.blt d n=true:=by
 unfold eQ at h
 split at h
 ·rename_i t' j' w' h1 h2
  split at h
  ·rename_i d' h3
   cases c:Nat.blt d' n with
   |false=>rw [c] at h;cases h
   |true=>
    rw [c] at h
    simp only [aB,ay,aO] at h
    obtain ⟨e1,e2,e3,e4⟩:=h
    subst e1 e2 e3 e4
    exact ⟨h1,h2,h3,c⟩
  ·cases h
 ·cases h
def oV {regs:List (Nat×V)} {μ:List E} {ops:Array Oper} {r:V} {d:Nat} {g:Bool} (ov:List (Nat×V)) (hl:eQ n ops o=some (t,j,want,d)) (hb:rY (bJ regs d) want g) (hov:cL g regs ov) (h:g=true->Det X o (ev (ov++regs)) μ r μ) (hpl:r.plain=true) (k:oX X n z ops rest Q ⟨(t,.ifv g r)::regs,μ⟩):oX X n z ops (o::rest) Q ⟨regs,μ⟩:=by
 obtain ⟨h1,h2,h3,h4⟩:=Ii hl
 exact Ri ov h1 h2 h3 h4 hb hov h hpl k
def oL {regs:List (Nat×V)} {μ:List E} {ops:Array Oper} {r:V} {d:Nat} (hl:(eQ n ops o,bJ regs d)=(some (t,j,want,d),.c (.lit (.bool b)))) (h:Lz b want=true->Det X o (ev regs) μ r μ) (hpl:r.plain=true) (k:oX X n z ops rest Q ⟨(t,.ifv (Lz b want) r)::regs,μ⟩):oX X n z ops (o::rest) Q ⟨regs,μ⟩:=by
 simp only [aO] at hl
 exact oV [] hl.1 (by rw [hl.2];exact oP) trivial h hpl k
def oG {regs:List (Nat×V)} {μ:List E} {ops:Array Oper} {r y:V} {d:Nat} (a:Nat) (hl:(eQ n ops o,bJ regs d,bJ regs a,y.plain)=(some (t,j,want,d),.c (.lit (.bool b)),.ifv (Lz b want) y,true)) (h:Lz b want=true->Det X o (ev ([(a,y)]++regs)) μ r μ) (hpl:r.plain=true) (k:oX X n z ops rest Q ⟨(t,.ifv (Lz b want) r)::regs,μ⟩):oX X n z ops (o::rest) Q ⟨regs,μ⟩:=by
 simp only [aO] at hl
 exact oV [(a,y)] hl.1 (by rw [hl.2.1];exact oP) ⟨hl.2.2.1,hl.2.2.2,trivial⟩ h hpl k
def sG:List Nat->List E->Option (List E×List E)
 |[],μ=>some ([],μ)
 |p::ps,μ=>match nth μ p with
  |some e=>match sG ps (rH μ p) with
   |some (a,b)=>some (e::a,b)
   |none=>none
  |none=>none
def iZ:List E->Nat->E->List E
 |l,0,y=>y::l
 |[],_+1,y=>[y]
 |x::l,i+1,y=>x::iZ l i y
def tH:List Nat->List E->List E->List E
 |p::ps,e::a,b=>iZ (tH ps a b) p e
 |[],a,b=>a++b
 |_::_,[],b=>b
def zJp:∀{ps:List Nat} {μ a b:List E},sG ps μ=some (a,b)->μ.Perm (a++b)
 |[],μ,a,b,h=>by simp only [sG,ay,aO] at h;obtain ⟨rfl,rfl⟩:=h;exact bb _
 |p::ps,μ,a,b,h=>by
  unfold sG at h
  split at h
  ·rename_i e he
   split at h
   ·rename_i a' b' hq
    simp only [ay,aO] at h
    obtain ⟨rfl,rfl⟩:=h
    exact (Xb he).trans ((zJp hq).cons e)
   ·cases h
  ·cases h
def Bi (y:E):∀(l:List E) (i:Nat),(iZ l i y).Perm (y::l)
 |l,0=>by cases l<;>exact bb _
 |[],_+1=>bb _
 |x::l,i+1=>((Bi y l i).cons x).trans (List.Perm.swap y x l)
def zKe:∀(ps:List Nat) (a b:List E),(tH ps a b).Perm (a++b)
 |p::ps,e::a,b=>(Bi e _ p).trans ((zKe ps a b).cons e)
 |[],a,b=>bb _
 |_::_,[],b=>bb _
section
variable {X:Cfg} {o:Oper} {e:ns->V} {μ:List E}
def OpE.det_perm {r:V} {a b:List E} (h:OpE X o e μ λr' μ'=>r'=r/\μ'=a) (p:a.Perm b):Det X o e μ r b:=by
 intro a' w I hH hops K Q k
 refine h a' w I hH hops K Q ?_
 rintro v r' μ' I' w' ⟨rfl,rfl⟩ hv hH' x
 exact k v r' b I' w' ⟨rfl,rfl⟩ hv (hH'.perm p) (x.perm (bb _) p)
def kL {f:FuncId} {arg_:List ns} {ts:Array nr} {args:List V} {μf μf' φ:List E} {r:V} (ps:List Nat) (ho:o.op=.call { callee:=.value (.func f),args:=arg_.toArray,argTypes:=ts }) (hf:bA X.P f=true)
  (hc:Con X f args μf λr' μ'=>r'=r/\μ'=μf') (ha:pO (arg_.map e) args) (hp:sG ps μ=some (μf,φ)):Det X o e μ r (tH ps μf' φ):=by
 refine OpE.det_perm (a:=μf'++φ) ?_ (zKe ps μf' φ).symm
 exact (Sz ho hf ((hc.frame φ).perm (zJp hp)) ha).mono λr' μ' ⟨_,⟨h1,h2⟩,h3⟩=>⟨h1,by rw [h3,h2]⟩
end
end Go.Eng
end
