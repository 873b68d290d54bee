/-
  The engine,part L: what an argument that reads is,as abstract cells; and how a contract answers a row.
  And what the laws need besides.
  Conditions: none.
-/
import Derived.Test.YthgichbbgocmoaaGreatDoorEngX
import Derived.OpenShut
import Derived.Carry
import Derived.ChangeSame
import Derived.RangeFuncNested
import Derived.Laws.StructEq
import Derived.Laws.Cover3
set_option linter.unusedSimpArgs false
set_option linter.unusedVariables false
set_option linter.defProp false
section
namespace Go.Eng
open Go Go.RowKit Go.ChangeShapes
/-! ### how much a reading holds,from below -/
mutual
def dB {H:Type}:DataW H->Nat
 |.lit (.string b)=>b.length+1
 |.ptr d=>dB d+1
 |.slice es _=>dBs es+1
 |.agg ps=>dBs ps
 |_=>1
def dBs {H:Type}:List (DataW H)->Nat
 |[]=>0
 |d::r=>dB d+dBs r
end
mutual
def C.bulk:C->Nat
 |.lit (.string s)=>s.size+1
 |.sl _ rows=>vD rows+1
 |.iptr cells=>jS cells+1
 |_=>1
def jS:List C->Nat
 |[]=>0
 |c::r=>c.bulk+jS r
def vD:List (List C)->Nat
 |[]=>0
 |l::r=>jS l+vD r
end
def zTv (a b:List C):jS (a++b)=jS a+jS b:=by
 induction a with
 |nil=>simp [jS]
 |cons x r ih=>simp only [lCa,jS,ih];omega
/-! ### the shape of cells of a type -/
def Sh (P:Program):Nat->lu->List C->Prop
 |0,_,_=>False
 |fuel+1,t,l=>match P.underlying t with
  |some .bool=>∃b,l=[.lit (.bool b)]
  |some (.int k)=>∃n,l=[.lit (.int k n)]/\(Lit.int k n).wf=true
  |some .string=>∃s:lr,l=[.lit (.string s)]/\s.size<=reachBytes
  |some (.slice e)=>∃rows,l=[.sl (P.cellsOf e) rows]/\(rows.length<=maxLen/\rows.length*P.bytesOf e<=reachBytes)/\∀r,r∈rows->Sh P fuel e r
  |some (.pointer e)=>l=[.lit (.pointer none)]∨∃r,l=[.iptr r]/\Sh P fuel e r
  |some (.struct fs)=>l.length=P.cellsOf t/\∀f,f∈fs.toList->Sh P fuel f.type ((l.drop f.offset).take (P.cellsOf f.type))
  |some (.array n e)=>l.length=P.cellsOf t/\∀i,i<n->Sh P fuel e ((l.drop (i*P.cellsOf e)).take (P.cellsOf e))
  |_=>True
section
variable {P:Program} {f:Nat} {t e:lu} {l:List C}
def Sh.int {k:IntKind} (hu:P.underlying t=some (.int k)) (h:Sh P (f+1) t l):∃n,l=[.lit (.int k n)]/\(Lit.int k n).wf=true:=by unfold Sh at h;rw [hu] at h;exact h
def Sh.str (hu:P.underlying t=some .string) (h:Sh P (f+1) t l):∃s:lr,l=[.lit (.string s)]/\s.size<=reachBytes:=by unfold Sh at h;rw [hu] at h;exact h
def Sh.slice (hu:P.underlying t=some (.slice e)) (h:Sh P (f+1) t l):∃rows,l=[.sl (P.cellsOf e) rows]/\(rows.length<=maxLen/\rows.length*P.bytesOf e<=reachBytes)/\∀r,r∈rows->Sh P f e r:=by unfold Sh at h;rw [hu] at h;exact h
def Sh.struct {fs:Array Field} (hu:P.underlying t=some (.struct fs)) (h:Sh P (f+1) t l):l.length=P.cellsOf t/\∀g,g∈fs.toList->Sh P f g.type ((l.drop g.offset).take (P.cellsOf g.type)):=by unfold Sh at h;rw [hu] at h;exact h
end
def xB (P:Program) (n:Nat):List Field->Nat->Bool
 |[],o=>o==n
 |f::r,o=>f.offset==o&&xB P n r (o+P.cellsOf f.type)
def okT (P:Program) (ts:List lu) (t:lu):Bool:=match P.underlying t with
 |some (.slice e)=>decide (0<P.cellsOf e)&&ts.contains e
 |some (.pointer e)=>decide (0<P.cellsOf e)&&ts.contains e
 |some (.struct fs)=>xB P (P.cellsOf t) fs.toList 0&&fs.toList.all fun f=>ts.contains f.type
 |some (.array n e)=>P.cellsOf t==n*P.cellsOf e&&ts.contains e
 |some .bool=>true
 |some (.int _)=>true
 |some .string=>true
 |_=>false
section
variable {P:Program} {w:World} {H:Type} {enc:lu×Value->H} {sp:Nat->Bool}
def tile_parts {I:Nat->Prop} {n:Nat} {Q:lu->List C->Prop}:∀(fs:List Field) (xs:List (DataW H)) (o:Nat) (cs:List Value),cs.length=n->o<=n->xB P n fs o=true->xs.length=fs.length->
  (∀(i:Nat) f x,fs[i]? =some f->xs[i]? =some x->∃l:List C,CReps w I l ((cs.drop f.offset).take (P.cellsOf f.type))/\jS l<=dB x/\Q f.type l)->
  ∃l:List C,CReps w I l (cs.drop o)/\jS l<=dBs xs/\∀f,f∈fs->o<=f.offset/\Q f.type ((l.drop (f.offset-o)).take (P.cellsOf f.type))
 |[],xs,o,cs,hl,_,ht,hx,_=>by
  have ho:o=n:=by simpa [xB] using ht
  have:cs.drop o=[]:=by rw [List.drop_eq_nil_iff];omega
  rw [this]
  refine ⟨[],.nil,by simp [jS],fun f hf=>by cases hf⟩
 |f::r,x::xs,o,cs,hl,hon,ht,hx,h=>by
  simp only [xB,ae,ff] at ht
  obtain ⟨hfo,ht⟩:=ht
  have hle:o+P.cellsOf f.type<=n:=by
   clear h
   have aux:∀(fs:List Field) (o:Nat),xB P n fs o=true->o<=n:=by
    intro fs
    induction fs with
    |nil=>intro o h;exact jx (by simpa [xB] using h)
    |cons f r ih=>intro o h;simp only [xB,ae,ff] at h;have:=ih _ h.2;omega
   exact aux r _ ht
  obtain ⟨l0,h0,b0,q0⟩:=h 0 f x rfl rfl
  rw [hfo] at h0
  obtain ⟨l1,h1,b1,q1⟩:=tile_parts r xs (o+P.cellsOf f.type) cs hl hle ht (by simpa using hx) (fun i f x hf hx=>h (i+1) f x (by simpa using hf) (by simpa using hx))
  have hl0:l0.length=P.cellsOf f.type:=by
   rw [h0.length,aG,ct];omega
  refine ⟨l0++l1,?_,by rw [zTv,dBs];omega,?_⟩
  ·have e:cs.drop o=(cs.drop o).take (P.cellsOf f.type)++cs.drop (o+P.cellsOf f.type):=by
    rw [←List.drop_drop];exact (aM _ _).symm
   rw [e];exact h0.append h1
  ·intro g hg
   rcases af.1 hg with rfl|hg
   ·refine ⟨zA,?_⟩
    have e:g.offset-o=0:=by omega
    rw [e,aY,dz zA,aS zA]
    exact q0
   ·obtain ⟨h2,h3⟩:=q1 g hg
    refine ⟨zA,?_⟩
    have e:g.offset-o=l0.length+(g.offset-(o+P.cellsOf f.type)):=by omega
    rw [e,gd,dp zA,dg,lNa]
    exact h3
 |_::_,[],_,_,_,_,_,hx,_=>by simp at hx
def zZz {I:Nat->Prop} {c:Nat} {Q:List C->Prop}:∀(n:Nat) (xs:List (DataW H)) (cs:List Value),cs.length=n*c->xs.length=n->
  (∀i x,xs[i]? =some x->∃l:List C,CReps w I l ((cs.drop (i*c)).take c)/\jS l<=dB x/\Q l)->
  ∃l:List C,CReps w I l cs/\jS l<=dBs xs/\∀i,i<n->Q ((l.drop (i*c)).take c)
 |0,[],cs,hl,_,_=>by
  have:cs=[]:=by simpa using hl
  subst this
  exact ⟨[],.nil,by simp [jS],fun i hi=>by omega⟩
 |n+1,x::xs,cs,hl,hx,h=>by
  have hl':cs.length=n*c+c:=by rw [hl,dx]
  obtain ⟨l0,h0,b0,q0⟩:=h 0 x rfl
  simp only [iW,aY] at h0
  obtain ⟨l1,h1,b1,q1⟩:=zZz (c:=c) n xs (cs.drop c) (by rw [ct];omega) (by simpa using hx) (fun i x hx=>by
   obtain ⟨l,h1,h2⟩:=h (i+1) x (by simpa using hx)
   refine ⟨l,?_,h2⟩
   rw [List.drop_drop]
   have e:c+i*c=(i+1)*c:=by rw [dx];omega
   rw [e];exact h1)
  have hl0:l0.length=c:=by rw [h0.length,aG];omega
  refine ⟨l0++l1,?_,by rw [zTv,dBs];omega,?_⟩
  ·have e:cs=cs.take c++cs.drop c:=(aM _ _).symm
   rw [e];exact h0.append h1
  ·intro i hi
   cases i with
   |zero=>rw [iW,aY,dz zA,aS zA];exact q0
   |succ i=>
    have e:(i+1)*c=l0.length+i*c:=by rw [dx];omega
    rw [e,gd,dp zA,dg,lNa]
    exact q1 i zA
 |0,_::_,_,_,hx,_=>by simp at hx
 |_+1,[],_,_,hx,_=>by simp at hx
def rows_parts {I:Nat->Prop} {c:Nat} {Q:List C->Prop} {a:Addr}:∀(xs:List (DataW H)) (o:Nat),
  (∀i x,xs[i]? =some x->∃(cs:List Value) (l:List C),cs.length=c/\(∀j,j<c->w.cell? (a.add ((o+i)*c+j))=cs[j]?)/\CReps w I l cs/\jS l<=dB x/\Q l)->
  ∃(rows:List (List C)) (us:Nat->Nat->Value),rows.length=xs.length/\(∀r,r∈rows->r.length=c/\Q r)/\vD rows<=dBs xs/\
   (∀i j,i<rows.length->j<c->w.cell? (a.add ((o+i)*c+j))=some (us i j))/\(∀(i:Nat) r,rows[i]? =some r->∀(j:Nat) x,r[j]? =some x->CRep w I x (us i j))
 |[],o,_=>⟨[],fun _ _=>.nilFunc,rfl,fun r hr=>by simp at hr,by simp [vD],fun i j hi=>by simp at hi,fun i r hr=>by simp at hr⟩
 |x::xs,o,h=>by
  obtain ⟨cs,l,hl,hc,hr,hb,hq⟩:=h 0 x rfl
  obtain ⟨rows,us,h1,h2,h3,h4,h5⟩:=rows_parts xs (o+1) (fun i x hx=>by
   obtain ⟨cs,l,k1,k2,k3⟩:=h (i+1) x (by simpa using hx)
   exact ⟨cs,l,k1,fun j hj=>by rw [←k2 j hj,show o+1+i=o+(i+1) by omega],k3⟩)
  refine ⟨l::rows,fun i j=>match i with|0=>cs.getD j .nilFunc|i+1=>us i j,by simp [h1],?_,by rw [vD,dBs];omega,?_,?_⟩
  ·intro r hr'
   rcases af.1 hr' with rfl|hr'
   ·exact ⟨by rw [hr.length,hl],hq⟩
   ·exact h2 r hr'
  ·intro i j hi hj
   cases i with
   |zero=>
    show _=some (cs.getD j .nilFunc)
    rw [hc j hj,aT,ak zA];rfl
   |succ i=>rw [←h4 i j (by simpa using hi) hj,show o+1+i=o+(i+1) by omega]
  ·intro i r hr' j y hy
   cases i with
   |zero=>
    simp at hr';subst hr'
    obtain ⟨v,hv,k⟩:=hr.at_ hy
    show CRep w I y (cs.getD j .nilFunc)
    rw [aT,hv];exact k
   |succ i=>exact h5 i r (by simpa using hr') j y hy
def zHv {e:lu} {n:Nat}:∀{l:List (DataW H)} {i:Nat} {d:DataW H},l[i]? =some d->n∈d.weights P e->n∈DataW.weightsAll P e l
 |[],_,_,h,_=>by simp at h
 |x::r,i,d,h,hn=>by
  rw [DataW.weightsAll,aq]
  cases i with
  |zero=>simp at h;subst h;exact .inl hn
  |succ i=>exact .inr (zHv (i:=i) (by simpa using h) hn)
def zGu {n:Nat}:∀{us:List lu} {l:List (DataW H)} (i:Nat) {t:lu} {d:DataW H},us[i]? =some t->l[i]? =some d->n∈d.weights P t->n∈DataW.weightsEach P us l
 |[],_,_,_,_,h,_,_=>by simp at h
 |_::_,[],_,_,_,_,h,_=>by simp at h
 |u::us,x::r,i,t,d,hu,h,hn=>by
  rw [DataW.weightsEach,aq]
  cases i with
  |zero=>simp at h hu;subst h hu;exact .inl hn
  |succ i=>exact .inr (zGu i (by simpa using hu) (by simpa using h) hn)
def zDm {us:List lu} {l:List (DataW H)} (h:(DataW.weightsEach P us l).all (· <=reachBytes)=true) (i:Nat) {t:lu} {d:DataW H} (hu:us[i]? =some t) (hd:l[i]? =some d):∀n,n∈d.weights P t->n<=reachBytes:=
 fun n hn=>fv (ax.1 h n (zGu i hu hd hn))
def open_trod {ts:List lu} (hT:ts.all (okT P ts)=true):∀(fuel:Nat) (t:lu) (cs:List Value) (x:DataW H×List MemPlace),t∈ts->(∀n,n∈x.1.weights P t->n<=reachBytes)->
  DataW.trod enc P w 0 sp true fuel t cs=some x->∃l:List C,CReps w (fun b=>b<w.heap.size) l cs/\jS l<=dB x.1/\Sh P fuel t l
 |0,_,_,_,_,_,h=>by simp [DataW.trod] at h
 |fuel+1,t,cs,x,ht,hz,h=>by
  have hk:okT P ts t=true:=ax.1 hT t ht
  have ih:=fun t cs x ht hz h=>open_trod hT fuel t cs x ht hz h
  unfold okT at hk
  unfold Sh
  split at hk
  ·rename_i e hu
   rw [hu]
   simp only [ae,ah,gp] at hk
   rcases DataW.trod_slice hu h with ⟨rfl,rfl⟩|⟨a,len,cap,elems,rest,n,hn,rfl,rfl,_,hlc,hcm,hel,hat,_,_⟩
   ·exact ⟨[.sl _ []],.cons (.nil _ none 0) .nil,by simp [jS,C.bulk,vD,dB],[],rfl,⟨uD,uD⟩,fun r hr=>by simp at hr⟩
   ·obtain rfl:fuel=n:=by omega
    have hparts:=rows_parts (w:=w) (I:=fun b=>b<w.heap.size) (c:=P.cellsOf e) (Q:=Sh P fuel e) (a:=a) (elems.map (·.1)) 0 (fun i x hx=>by
     obtain ⟨y,hy,rfl⟩:∃y,elems[i]? =some y/\y.1=x:=by simpa using hx
     have hi:i<len:=by rw [←hel];exact (ai.1 hy).1
     have hh:=hat i hi
     rw [hy] at hh
     obtain ⟨cs',hc1,hc2⟩:=ju.1 hh
     obtain ⟨_,hc4,hc5⟩:=la hc1
     obtain ⟨l,k1,k2,k3⟩:=ih e cs' y hk.2 (fun m hm=>hz m (by simp only [DataW.weights,hu,lMc,aq];exact .inr (.inl (zHv (i:=i) (by simp [hy]) hm)))) hc2
     exact ⟨cs',l,hc4,fun j hj=>by rw [←hc5 j hj,Addr.add_add,bt],k1,k2,k3⟩)
    obtain ⟨rows,us,h1,h2,h3,h4,h5⟩:=hparts
    have hz0:((elems.map (·.1)).length+(rest.map (·.1)).length)*P.bytesOf e<=reachBytes:=hz _ (by simp only [DataW.weights,hu];exact dv)
    have h1':rows.length=len:=by rw [h1,lLm,hel]
    refine ⟨[.sl (P.cellsOf e) rows],?_,by simp only [jS,C.bulk,dB];omega,rows,rfl,⟨zA,cc (dc _ (by rw [h1];exact jc _ _)) hz0⟩,fun r hr=>(h2 r hr).2⟩
    by_cases h0:len=0
    ·subst h0
     have:rows=[]:=fc.1 h1'
     subst this
     exact .cons (.nil _ (some a) cap) .nil
    ·have hI:a.block<w.heap.size:=by
      have hh:=hat 0 zA
      rw [ak zA] at hh
      obtain ⟨cs',hc1,_⟩:=ju.1 hh
      have:=kq hc1 hk.1
      rwa [iW,show (a.add 0).block=a.block by unfold Addr.add;split<;>rfl] at this
     rw [←h1']
     exact .cons (.sl _ rows a cap us hI (fun r hr=>(h2 r hr).1) zA (fun i j hi hj=>by have:=h4 i j hi hj;rwa [bt] at this) h5) .nil
  ·rename_i e hu
   rw [hu]
   simp only [ae,ah,gp] at hk
   rcases DataW.trod_pointer hu h with ⟨rfl,rfl⟩|⟨a,cs',y,n,hn,rfl,rfl,hc,hy⟩
   ·exact ⟨[.lit (.pointer none)],.cons (.lit _ rfl) .nil,by simp [jS,C.bulk,dB],Or.inl rfl⟩
   ·obtain rfl:fuel=n:=by omega
    obtain ⟨l,k1,k2,k3⟩:=ih e cs' y hk.2 (fun m hm=>hz m (by simp only [DataW.weights,hu];exact hm)) hy
    have hI:=kq hc hk.1
    obtain ⟨_,hl,hc5⟩:=la hc
    refine ⟨[.iptr l],.cons (.iptr l a (fun j=>cs'.getD j .nilFunc) hI (fun j hj=>?_) (fun j c hj=>?_)) .nil,by simp only [jS,C.bulk,dB];omega,Or.inr ⟨l,rfl,k3⟩⟩
    ·have hj':j<cs'.length:=by rw [←k1.length];exact hj
     rw [hc5 j zA,aT,ak hj'];rfl
    ·obtain ⟨v,hv,k⟩:=k1.at_ hj
     show CRep w _ c (cs'.getD j .nilFunc)
     rw [aT,hv];exact k
  ·rename_i fs hu
   rw [hu]
   simp only [ae] at hk
   obtain ⟨xs,n,hn,rfl,hl,hxl,hat⟩:=DataW.trod_struct hu h
   obtain rfl:fuel=n:=by omega
   obtain ⟨l,k1,k2,k3⟩:=tile_parts (P:=P) (w:=w) (I:=fun b=>b<w.heap.size) (n:=P.cellsOf t) (Q:=Sh P fuel) fs.toList (xs.map (·.1)) 0 cs hl (bn _) hk.1 (by simpa using hxl) (fun i f x hf hx=>by
    obtain ⟨y,hy,rfl⟩:∃y,xs[i]? =some y/\y.1=x:=by simpa using hx
    have hh:=hat i f (by simpa using hf)
    rw [hy] at hh
    have hm:ts.contains f.type=true:=ax.1 hk.2 f (bg hf)
    exact ih _ _ y (gp.1 hm) (fun m hm=>hz m (by simp only [DataW.weights,hu];exact zGu i (by simp [hf]) (by simp [hy]) hm)) hh)
   rw [aY] at k1
   refine ⟨l,k1,by simpa [dB] using k2,by rw [k1.length,hl],fun f hf=>?_⟩
   have:=(k3 f hf).2
   rwa [Nat.sub_zero] at this
  ·rename_i n' e hu
   rw [hu]
   simp only [ae,ff,gp] at hk
   obtain ⟨xs,n,hn,rfl,hl,hxl,hat⟩:=DataW.trod_array hu h
   obtain rfl:fuel=n:=by omega
   obtain ⟨l,k1,k2,k3⟩:=zZz (w:=w) (I:=fun b=>b<w.heap.size) (c:=P.cellsOf e) (Q:=Sh P fuel e) n' (xs.map (·.1)) cs (by rw [hl,hk.1]) (by simpa using hxl) (fun i x hx=>by
    obtain ⟨y,hy,rfl⟩:∃y,xs[i]? =some y/\y.1=x:=by simpa using hx
    have hi:i<n':=by rw [←hxl];exact (ai.1 hy).1
    have hh:=hat i hi
    rw [hy] at hh
    exact ih _ _ y hk.2 (fun m hm=>hz m (by simp only [DataW.weights,hu];exact zHv (i:=i) (by simp [hy]) hm)) hh)
   exact ⟨l,k1,by simpa [dB] using k2,by rw [k1.length,hl],k3⟩
  ·rename_i hu;rw [hu];obtain ⟨b,rfl,rfl⟩:=DataW.trod_bool hu h;exact ⟨_,.cons (.lit _ rfl) .nil,by simp [jS,C.bulk,dB],b,rfl⟩
  ·rename_i hu;rw [hu];obtain ⟨m,rfl,rfl,hw⟩:=DataW.trod_int hu h;exact ⟨_,.cons (.lit _ rfl) .nil,by simp [jS,C.bulk,dB],m,rfl,hw⟩
  ·rename_i hu;rw [hu];obtain ⟨s,rfl,rfl,hs⟩:=DataW.trod_string hu h;exact ⟨_,.cons (.lit _ rfl) .nil,by simp only [jS,C.bulk,dB,Array.length_toList,ByteArray.size_data];omega,s,rfl,by have h9:=hz _ (by simp only [DataW.weights];exact aO.2 rfl);simpa using h9⟩
  ·simp at hk
def pS (P:Program) (t:lu):Bool:=match P.underlying t with|some (.struct _)=>true|some (.array _ _)=>true|_=>false
def zMu {ts:List lu} (hT:ts.all (okT P ts)=true) {r:Reach} {base:Nat} {t:lu} {v:Value} {d:DataW H} {ps:List MemPlace} (ht:t∈ts)
  (hval:Value.okWide P w r base t v) (hz:∀n,n∈d.weights P t->n<=reachBytes) (hd:DataW.Trod enc P w 0 sp true t v d ps):
  ∃fuel l,Sh P fuel t l/\jS l<=dB d/\V1Rep w (fun b=>b<w.heap.size) (if pS P t then .agg l else .c (l.headD (.lit .nilFunc))) v:=by
 obtain ⟨fuel,hf⟩:=hd
 obtain ⟨l,h1,h2,h3⟩:=open_trod hT fuel t _ _ ht hz hf
 refine ⟨fuel,l,h3,h2,?_⟩
 have hk:okT P ts t=true:=ax.1 hT t ht
 unfold Value.okWide at hval
 unfold pS
 unfold okT at hk
 have agg:(∃cs,v=.agg cs/\cs.size=P.cellsOf t/\Row.okWide P w r base t cs)->V1Rep w (fun b=>b<w.heap.size) (.agg l) v:=by
  rintro ⟨cs,rfl,_,_⟩
  exact ⟨cs.toList,uD,h1⟩
 have one:v.cells= #[v]->V1Rep w (fun b=>b<w.heap.size) (.c (l.headD (.lit .nilFunc))) v:=by
  intro hv
  rw [hv] at h1
  cases h1 with
  |cons h t=>cases t;exact h
 have notagg:Cell.okWide P w r base t v->v.cells= #[v]:=by
  intro hc
  unfold Cell.okWide at hc
  split at hc<;>first|rfl|skip
  unfold Cell.ok at hc
  split at hc<;>first|rfl|exact hc.elim
 split at hk
 all_goals first|(rename_i hu;rw [hu] at hval⊢;first|exact agg hval|exact one (notagg hval))|simp at hk
def zPd {ts:List lu} (hl:laidOutB P=true) {W W':World} {sp':Nat->Bool} (hB:Below W.heap.size W W'):∀(us:List lu) (vs:List Value) (ds:List (DataW H)) (ps:List MemPlace),
  (∀t∈us,P.readableRec t=true/\t<P.types.size)->DataW.TrodAll enc P W 0 (fun _=>true) true us vs ds ps->(∀p∈ps,p.block<W.heap.size)->(∀p∈ps,sp' p.block=true)->
  DataW.TrodAll enc P W' 0 sp' true us vs ds ps
 |[],[],[],ps,_,h,_,_=>h
 |t::us,v::vs,d::ds,ps,hr,h,hlt,hsp=>by
  obtain ⟨p,q,h1,h2,rfl⟩:=h
  exact ⟨p,q,WideElems.Trod_stays hl (hr t uD).1 (hr t uD).2 h1 (fun x hx=>hB.same (hlt x (by simp [hx]))) (fun x hx=>hsp x (by simp [hx])),
   zPd (ts:=ts) hl hB us vs ds q (fun t ht=>hr t (by simp [ht])) h2 (fun x hx=>hlt x (by simp [hx])) (fun x hx=>hsp x (by simp [hx])),rfl⟩
 |[],_::_,_,_,_,h,_,_=>h.elim
 |[],[],_::_,_,_,h,_,_=>h.elim
 |_::_,[],_,_,_,h,_,_=>h.elim
 |_::_,_::_,[],_,_,h,_,_=>h.elim
def Ext.below {w w':World} {I I':Nat->Prop} {μ':List E} (h:Ext w I [] w' I' μ'):Below w.heap.size w w':=
 ⟨h.os,h.tape,h.output,h.size,fun b hb=>h.block b hb (by simp [bC])⟩
def law_row {X:Cfg} {f:FuncId} {fn:Func} {s:ChangeSpec} {W:World} {args:Array Value} {vs:List V} {ds gs:List (DataW H)} {before:List MemPlace} {tb:lu}
  (hcon:Pur X f vs (.c (.lit (.bool true)))) (hH:Heap X W (fun b=>b<W.heap.size) []) (hvs:V1Reps W (fun b=>b<W.heap.size) vs args.toList)
  (hvars:s.vars=[]) (hres:fn.resultTypes= #[tb]) (htb:X.P.underlying tb=some .bool) (hl:laidOutB X.P=true)
  (hr:∀t∈fn.params.toList,X.P.readableRec t=true/\t<X.P.types.size)
  (hspec:∀gs,gs=[]->(s.fn H (ds++gs)).results=[.lit (.bool true)]/\(s.fn H (ds++gs)).args=ds/\(s.fn H (ds++gs)).vars=[])
  (hW:DataW.Whole enc X.P fn.params.toList s.vars false W args.toList ds gs before):
  Calls X.P f args W fun e W'=>∃v,e=.returned v/\s.post enc X.P fn false true false false W args v W':=by
 have hW':=hW
 obtain ⟨p,q,hA,hV,rfl,_,_⟩:=hW
 rw [hvars] at hV
 have hgq:gs=[]/\q=[]:=by
  cases gs with
  |nil=>exact ⟨rfl,hV⟩
  |cons _ _=>exact hV.elim
 obtain ⟨rfl,rfl⟩:=hgq
 obtain ⟨e1,e2,e3⟩:=hspec [] rfl
 have hc:=hcon W _ args.toList hH hvs
 rw [iM] at hc
 refine hc.mono ?_
 rintro en W' ⟨v,r,μ',I',rfl,rfl,hv,hH',hE⟩
 have hB:=hE.below
 have hv':v=.bool true:=by
  cases hv;rfl
 subst hv'
 have hlt:∀x∈p,x.block<W.heap.size:=fun x hx=>by simpa using hW'.lt x (by simp [hx])
 refine ⟨_,rfl,ds,[],p++[],[],p,[],hW',?_,?_,?_,hB.frame _,fun h=>by cases h⟩
 ·rw [e1,hres]
  exact trodAll_cons_mk (shut_bool htb _) trodAll_mk0
 ·rw [e2]
  exact zPd (ts:=[]) hl hB _ _ _ _ hr hA hlt (fun x hx=>by simpa using hlt x hx)
 ·rw [hvars,e3];rfl
end
end Go.Eng
end
section
namespace Go.Eng
open Go Go.RowKit
section vals
variable {X:Cfg} {o:Oper} {e:lv->V} {μ:List E}
def OpE.frame {R:V->List E->Prop} (h:OpE X o e μ R) (φ:List E):OpE X o e (μ++φ) fun r μ''=>∃μ',R r μ'/\μ''=μ'++φ:=by
 intro a w I hH hops K Q k
 refine h a w I hH.left hops K Q ?_
 intro v r μ' I' w' hr hv hH' x
 obtain ⟨h1,h2⟩:=hH.frame hH' x
 exact k v r _ I' w' ⟨μ',hr,rfl⟩ hv h1 h2
def OpE.mono {R R':V->List E->Prop} (h:OpE X o e μ R) (hr:∀r μ',R r μ'->R' r μ'):OpE X o e μ R':=
 fun a w I hH hops K Q k=>h a w I hH hops K Q fun v r μ' I' w' h1=>k v r μ' I' w' (hr r μ' h1)
def OpE.perm {R:V->List E->Prop} {φ:List E} (h:OpE X o e μ R) (p:φ.Perm μ):OpE X o e φ R:=
 fun a w I hH hops K Q k=>h a w I (hH.perm p) hops K Q fun v r μ' I' w' h1 h2 h3 x=>k v r μ' I' w' h1 h2 h3 (x.perm p.symm (bh _))
def FnCon (X:Cfg) (c:C) (args:List V) (μ:List E) (Q:V->List E->Prop):Prop:=
 ∀(o:Oper) (e:lv->V) (x:lv) (arg_:List lv) (ts:Array lu),o.op=.call { callee:=.value x,args:=arg_.toArray,argTypes:=ts }->e x=.c c->nB (arg_.map e) args->OpE X o e μ Q
abbrev FnPur (X:Cfg) (c:C) (args:List V) (r:V):Prop:=FnCon X c args [] fun r' _=>r'=r
def FnCon.mono {c:C} {args:List V} {Q Q':V->List E->Prop} (h:FnCon X c args μ Q) (hq:∀r μ',Q r μ'->Q' r μ'):FnCon X c args μ Q':=
 fun o e x arg_ ts h1 h2 h3=>(h o e x arg_ ts h1 h2 h3).mono hq
def FnCon.frame {c:C} {args:List V} {Q:V->List E->Prop} (h:FnCon X c args μ Q) (φ:List E):FnCon X c args (μ++φ) fun r μ''=>∃μ',Q r μ'/\μ''=μ'++φ:=
 fun o e x arg_ ts h1 h2 h3=>(h o e x arg_ ts h1 h2 h3).frame φ
def FnCon.perm {c:C} {args:List V} {φ:List E} {Q:V->List E->Prop} (h:FnCon X c args μ Q) (p:φ.Perm μ):FnCon X c args φ Q:=
 fun o e x arg_ ts h1 h2 h3=>(h o e x arg_ ts h1 h2 h3).perm p
def FnCon.of_con {f:FuncId} {first cap:List C} {args:List V} {Q:V->List E->Prop} (hf:bA X.P f=true) (hc:Con X f (first.map .c++args++cap.map .c) μ Q):FnCon X (.fn (.func f) first cap) args μ Q:=
 fun _ _ _ _ _ ho hx ha=>zXi ho hx hf hc ha
def zAe {c:C} {x:lv} {arg_:List lv} {ts:Array lu} {args:List V} {Q:V->List E->Prop} (ho:o.op=.call { callee:=.value x,args:=arg_.toArray,argTypes:=ts }) (hx:e x=.c c) (hc:FnCon X c args μ Q) (ha:nB (arg_.map e) args):OpE X o e μ Q:=
 hc o e x arg_ ts ho hx ha
def FnPur.of_pur {f:FuncId} {first cap:List C} {args:List V} {r:V} (hf:bA X.P f=true) (hc:Pur X f (first.map .c++args++cap.map .c) r):FnPur X (.fn (.func f) first cap) args r:=
 FnCon.of_con hf hc
def OpE.forget {R:V->List E->Prop} (h:OpE X o e [] R):OpE X o e μ fun r μ'=>(∃φ,R r φ)/\μ'=μ:=by
 intro a w I hH hops K Q k
 have h':=h.frame μ
 refine h' a w I hH hops K Q ?_
 rintro v r μ' I' w' ⟨φ,hr,rfl⟩ hv hH' x
 exact k v r μ I' w' ⟨⟨φ,hr⟩,rfl⟩ hv ((hH'.perm fq).left) (x.less fun b hb=>by rw [kA];exact aq.2 (.inr hb))
def kU {c:C} {x:lv} {arg_:List lv} {ts:Array lu} {args:List V} {r:V} (ho:o.op=.call { callee:=.value x,args:=arg_.toArray,argTypes:=ts }) (hx:e x=.c c) (hc:FnPur X c args r) (ha:nB (arg_.map e) args):Det X o e μ r μ:=
 (OpE.forget (hc o e x arg_ ts ho hx ha)).mono fun _ _ ⟨⟨_,h⟩,h'⟩=>⟨h,h'⟩
end vals
/-! ## Ranges over functions -/
def LoopR (n:Nat) (fn D:Nat) (ps:Array Tmp) (assign body:Code) (regs:List (Nat×V)) (st:LoopState) (pe:Option Code):World->(Nat->Prop)->Obj->Prop:=
 fun w I o=>∃tmps:Array Value,o=.loop { state:=st,pending:=pe,fn:=fn,tmps:=tmps,params:=ps,assign:=assign,body:=body,defers:=D }/\tmps.size=n/\∀t,VRep w I (dF regs t) (tmps.getD t undef)
def LoopR.mono {n fn D:Nat} {ps:Array Tmp} {assign body:Code} {regs:List (Nat×V)} {st:LoopState} {pe:Option Code} (l:Nat):(E.blk l (LoopR n fn D ps assign body regs st pe)).Mono:=
 fun _ _ _ _ hw hI _ ⟨tmps,e,hs,h⟩=>⟨tmps,e,hs,fun t=>(h t).mono hw hI⟩
variable {I:Nat->Prop} {w:World}
def Ext.putL {w1:World} {I1:Nat->Prop} {μ μ1:List E} (x:Ext w I μ w1 I1 μ1) {l:Nat} (o:Obj) (R R':World->(Nat->Prop)->Obj->Prop):Ext w I (.blk l R::μ) (w1.putObj l o) I1 (.blk l R'::μ1):=by
 have hb:∀(R:World->(Nat->Prop)->Obj->Prop) (μ:List E),bC (.blk l R::μ)=l::bC μ:=fun R μ=>by simp [bC,E.blocks]
 refine ⟨x.os,x.tape,x.output,?_,fun b h1 h2=>?_,x.imm,fun b h=>?_,fun b h=>?_⟩
 ·have:=x.size;simp [World.putObj];omega
 ·rw [hb] at h2
  rw [bj (fun e=>h2 (by simp [e]))]
  exact x.block b h1 fun h=>h2 (by simp [h])
 ·rw [hb]
  rcases x.imm' b h with h|h|h
  ·exact .inl h
  ·exact .inr (.inl (by simp [h]))
  ·exact .inr (.inr h)
 ·rw [hb] at h⊢
  rcases af.1 h with h|h
  ·exact .inl (by simp [h])
  ·rcases x.own' b h with h|h
   ·exact .inl (by simp [h])
   ·exact .inr h
variable {X:Cfg}
def Heap.tail {en:E} {μ:List E} (h:Heap X w I (en::μ)):Heap X w I μ:=
 (h.perm (φ:=μ++[en]) (fq (l₁:=[en]))).left
def Heap.putL {μ:List E} {l:Nat} {o:Obj} {R:World->(Nat->Prop)->Obj->Prop} (h:Heap X w I μ) (h1:l<w.heap.size) (h2:¬I l) (h3:l ∉ bC μ) (hN:X.N<=l) (hm:(E.blk l R).Mono) (hr:R (w.putObj l o) I o):Heap X (w.putObj l o) I (.blk l R::μ):=by
 have hsz:(w.putObj l o).heap.size=w.heap.size:=by simp [World.putObj]
 have hb:bC (.blk l R::μ)=l::bC μ:=by simp [bC,E.blocks]
 have hI:∀b,I b->(w.putObj l o).heap[b]? =w.heap[b]? :=fun b hb=>bj (fun e=>h2 (e ▸ hb))
 have h':Heap X (w.putObj l o) I μ:=h.except hsz fun b hc=>bj (fun e=>by
  rw [e] at hc
  rcases hc with hc|hc|hc
  ·omega
  ·exact h2 hc
  ·exact h3 hc)
 refine ⟨h'.lo,h'.glob,by rw [hb];exact cm.2 ⟨h3,h.nodup⟩,fun b hb'=>?_,h'.imm,fun en he=>?_,fun en he=>?_⟩
 ·rw [hb] at hb'
  rcases af.1 hb' with e|h
  ·subst e;exact ⟨hN,h2⟩
  ·exact h'.own b h
 ·rcases af.1 he with e|h
  ·subst e;exact ⟨o,jv h1,hr⟩
  ·exact h'.rep en h
 ·rcases af.1 he with e|h
  ·subst e;exact hm
  ·exact h'.mono en h
def xE:List Tmp->List V->List (Nat×V)->List (Nat×V)
 |t::ts,v::vs,r=>xE ts vs ((t,v)::r)
 |_,_,r=>r
def psetR_rep {w:World} {I:Nat->Prop} {n:Nat}:∀{ts:List Tmp} {vs:List V} {us:List Value} {regs:List (Nat×V)} {tmps:Array Value},(∀t,t∈ts->t<n)->V1Reps w I vs us->ts.length=vs.length->tmps.size=n->
  (∀t,VRep w I (dF regs t) (tmps.getD t undef))->(∀t,VRep w I (dF (xE ts vs regs) t) (((ts.zip us).foldl (fun t (p:Tmp×Value)=>t.setIfInBounds p.1 p.2) tmps).getD t undef))/\((ts.zip us).foldl (fun t (p:Tmp×Value)=>t.setIfInBounds p.1 p.2) tmps).size=n
 |[],[],[],_,_,_,_,_,hs,h=>⟨h,hs⟩
 |p::ts,v::vs,u::us,regs,tmps,hn,hv,hl,hs,h=>by
  refine psetR_rep (ts:=ts) (vs:=vs) (us:=us) (regs:=(p,v)::regs) (fun t ht=>hn t (by simp [ht])) hv.2 (by simpa using hl) (by simpa using hs) fun t=>?_
  rw [zBt]
  have hp:=hn p uD
  have e:(tmps.setIfInBounds p u).getD t undef=if p=t then u else tmps.getD t undef:=by
   simp only [am,cx]
   by_cases h:p=t
   ·subst h;simp [hs,hp]
   ·simp [h]
  show VRep w I (if p=t then v else dF regs t) ((tmps.setIfInBounds p u).getD t undef)
  rw [e]
  split
  ·cases v with
   |tup l=>exact hv.1.elim
   |_=>exact hv.1
  ·exact h t
 |[],_::_,_,_,_,_,_,hl,_,_=>by simp at hl
 |_::_,[],_,_,_,_,_,hl,_,_=>by simp at hl
 |[],[],_::_,_,_,_,hv,_,_,_=>hv.elim
 |_::_,_::_,[],_,_,_,hv,_,_,_=>hv.elim
def zPc {w:World} {I:Nat->Prop}:∀{l:List V} {vs:List Value},V1Reps w I l vs->l.length=vs.length
 |[],[],_=>rfl
 |_::_,_::_,h=>by simp [zPc h.2]
 |[],_::_,h=>h.elim
 |_::_,[],h=>h.elim
def eV (J:List E->Prop) (Jx:Code->List E->Prop):Exit->S->Prop
 |.normal,σ=>J σ.μ
 |.ret,σ=>Jx .ret σ.μ
 |.exit i,σ=>Jx (.exit i) σ.μ
 |_,_=>False
def cJ (X:Cfg) (n:Nat) (l:Nat) (assign body:Code) (J:List E->Prop) (Jx:Code->List E->Prop) (σ:S):Prop:=
 ∀z,RdOk z->z.rd=some l->z.μ=σ.μ->AWP X n z assign (rM (fun τ=>∀z,RdOk z->z.rd=some l->z.μ=τ.μ->AWP X n z body (eV J Jx) τ) fun _ _=>False) σ
variable {n:Nat} {ps:List Tmp} {assign body:Code}
def yield_con {l fn D:Nat} {regs:List (Nat×V)} {encs:List V} {μ0:List E} {J:List E->Prop} {Jx:Code->List E->Prop} (hps:ps.length=encs.length) (hpn:∀t,t∈ps->t<n) (hbody:cJ X n l assign body J Jx ⟨xE ps encs regs,μ0⟩):
  FnCon X (.fn (.yield l) [] []) encs (.blk l (LoopR n fn D ps.toArray assign body regs .ready none)::μ0) fun r μ'=>
   (r=.c (.lit (.bool true))/\∃μ1,μ'=.blk l (LoopR n fn D ps.toArray assign body regs .ready none)::μ1/\J μ1)∨
   (r=.c (.lit (.bool false))/\∃c μ1,μ'=.blk l (LoopR n fn D ps.toArray assign body regs .done (some c))::μ1/\Jx c μ1/\(c=.ret∨∃i,c=.exit i)):=by
 intro o e x arg_ ts ho hx ha a w I hH hops K Q k hn rd
 have hxv:=hops x (by rw [ho];simp [Op.operands,Call.operands])
 rw [hx] at hxv
 have hxv':CRep w I (.fn (.yield l) [] []) (a.eval x):=hxv
 have hval:a.eval x=.func (.yield l) #[] #[]:=by
  generalize a.eval x=v at hxv'
  cases hxv' with
  |fn _ _ _ us vs h1 h2 _ _=>
   have e1:us=[]:=fc.1 h1
   have e2:vs=[]:=fc.1 h2
   subst e1 e2;rfl
 have hargs:=zUo (w:=w) (I:=I) (a:=a) (fun y hy=>hops y (by rw [ho];simp [Op.operands,Call.operands,hy])) ha
 obtain ⟨ob,hl,tmps,rfl,hts,htr⟩:∃ob,w.heap[l]? =some ob/\LoopR n fn D ps.toArray assign body regs .ready none w I ob:=hH.rep (.blk l _) uD
 have hlen:arg_.length=encs.length:=by
  have h:=zPc hargs
  simpa using h.symm
 have hrun:(execOp a.eval o).run X.P w=.ok (.round l fn (((ps.toArray.zip (arg_.map a.eval).toArray)).foldl (fun tmps (t,a)=>tmps.setIfInBounds t a) tmps) assign body) w:=by
  have hy:=run_yield (P:=X.P) (args:=(arg_.map a.eval).toArray) hl uE
  simp [execOp,ho,resolve,hval,Deferred.ofValue,invoke]
  simpa using hy
 have hblk:bC (.blk l (LoopR n fn D ps.toArray assign body regs .ready none)::μ0)=l::bC μ0:=by simp [bC,E.blocks]
 have hlI:X.N<=l/\¬I l:=hH.own l (by rw [hblk];simp)
 have hlμ:l ∉ bC μ0:=by have:=hH.nodup;rw [hblk] at this;exact (cm.1 this).1
 have hlt:l<w.heap.size:=(cb.1 hl).1
 refine ⟨fun _ _=>trivial,?_⟩
 rw [zPn hn,hrun,Oper.uponIn_round]
 refine ⟨fun h=>by simp [fen,Fence.wide] at h,roundIn_of_wpIn trivial ?_⟩
 obtain ⟨hreg,hsz⟩:=psetR_rep (w:=w) (I:=I) (n:=n) (ts:=ps) (vs:=encs) (us:=arg_.map a.eval) (regs:=regs) (tmps:=tmps) hpn hargs hps hts htr
 have efold:((ps.toArray.zip (arg_.map a.eval).toArray)).foldl (fun tmps (t,a)=>tmps.setIfInBounds t a) tmps=((ps.zip (arg_.map a.eval)).foldl (fun t (p:Tmp×Value)=>t.setIfInBounds p.1 p.2) tmps):=by
  rw [List.zip_toArray];simp
 rw [efold]
 have z0ok:RdOk ⟨w,I,μ0,[],some l,false⟩:=⟨rfl,fun l' h=>by
  cases h
  exact ⟨hlt,hlI.2,hlμ,_,hl⟩⟩
 refine ib (hbody ⟨w,I,μ0,[],some l,false⟩ z0ok rfl rfl _ (ZLe.refl _) _ w ⟨I,hH.tail,hreg,Ext.refl _ _ _,rfl,hsz⟩) ?_
 rintro en a1 w1 ⟨z1,σ,hz,q,I1,hH1,hR1,hx1,hd1,hs1⟩
 cases en with
 |normal=>
  have x1:Ext w I μ0 w1 I1 σ.μ:=hz.ext.trans hx1
  obtain ⟨l1,l2,l3,l4⟩:=x1.stays hlt hlI.2 hlμ
  have hl1:=l4.trans hl
  refine ⟨_,run_beginRound hl1 rfl,?_⟩
  generalize hb:Loop.mk LoopState.busy none fn tmps ps.toArray assign body D=busy
  have hl2:(w1.putObj l (.loop busy)).heap[l]? =some (.loop busy):=jv l1
  have hH2:Heap X (w1.putObj l (.loop busy)) I1 σ.μ:=hH1.except (by simp [World.putObj]) fun b hb=>bj (fun e=>by
   subst e
   rcases hb with hb|hb|hb
   ·have:=hlI.1;omega
   ·exact l2 hb
   ·exact l3 hb)
  have hI2:∀b,I1 b->(w1.putObj l (.loop busy)).heap[b]? =w1.heap[b]? :=fun b hb=>bj (fun e=>l2 (e ▸ hb))
  have z2ok:RdOk ⟨w1.putObj l (.loop busy),I1,σ.μ,z1.ds,some l,false⟩:=⟨rfl,fun l' h=>by
   cases h
   exact ⟨by simp [World.putObj];exact l1,l2,l3,_,hl2⟩⟩
  refine ib (q ⟨w1.putObj l (.loop busy),I1,σ.μ,z1.ds,some l,false⟩ z2ok rfl rfl _ (ZLe.refl _) a1 _ ⟨I1,hH2,fun t=>(hR1 t).mono hI2 fun _ h=>h,Ext.refl _ _ _,hd1,hs1⟩) ?_
  rintro en a3 w3 ⟨z3,τ,hz3,q3,I3,hH3,hR3,hx3,hd3,hs3⟩
  have x3:Ext (w1.putObj l (.loop busy)) I1 σ.μ w3 I3 τ.μ:=hz3.ext.trans hx3
  obtain ⟨m1,m2,m3,m4⟩:=x3.stays (D:=l) (by simp [World.putObj];exact l1) l2 l3
  have hl3:=m4.trans hl2
  have fin:∀(jump:Option Code) (st:LoopState),st=(if jump.isNone then .ready else .done)->(Instr.endRound l jump).run X.P w3=.ok (.bool jump.isNone) (w3.putObj l (.loop { busy with state:=st,pending:=jump }))/\
    Heap X (w3.putObj l (.loop { busy with state:=st,pending:=jump })) I3 (.blk l (LoopR n fn D ps.toArray assign body regs st jump)::τ.μ)/\
    Ext w I (.blk l (LoopR n fn D ps.toArray assign body regs .ready none)::μ0) (w3.putObj l (.loop { busy with state:=st,pending:=jump })) I3 (.blk l (LoopR n fn D ps.toArray assign body regs st jump)::τ.μ):=by
   rintro jump st rfl
   refine ⟨run_endRound jump hl3,hH3.putL m1 m2 m3 hlI.1 (LoopR.mono l) ⟨tmps,by rw [←hb],hts,fun t=>?_⟩,?_⟩
   ·refine (htr t).mono (I':=I3) (fun b hb=>?_) fun b hb=>x3.imm b (x1.imm b hb)
    rw [bj (k:=b) (r:=l) (fun e:b=l=>m2 (by rw [←e];exact x3.imm b (x1.imm b hb)))]
    rw [hH2.still x3 b (x1.imm b hb),hI2 b (x1.imm b hb)]
    exact hH.tail.still x1 b hb
   ·have y1:=x1.putL (l:=l) (.loop busy) (LoopR n fn D ps.toArray assign body regs .ready none) (LoopR n fn D ps.toArray assign body regs .ready none)
    exact y1.trans (x3.putL (l:=l) _ _ _)
  cases en with
  |normal=>
   obtain ⟨f1,f2,f3⟩:=fin none .ready rfl
   exact ⟨_,_,f1,k _ _ _ I3 _ (.inl ⟨rfl,_,rfl,q3⟩) (CRep.lit _ rfl) f2 f3⟩
  |ret=>
   obtain ⟨f1,f2,f3⟩:=fin (some .ret) .done rfl
   exact ⟨_,_,f1,k _ _ _ I3 _ (.inr ⟨rfl,_,_,rfl,q3,.inl rfl⟩) (CRep.lit _ rfl) f2 f3⟩
  |exit i=>
   obtain ⟨f1,f2,f3⟩:=fin (some (.exit i)) .done rfl
   exact ⟨_,_,f1,k _ _ _ I3 _ (.inr ⟨rfl,_,_,rfl,q3,.inr ⟨i,rfl⟩⟩) (CRep.lit _ rfl) f2 f3⟩
  |goto t=>exact q3.elim
  |panic ch=>exact q3.elim
  |outgrown=>exact q3.elim
 |ret=>exact q.elim
 |exit i=>exact q.elim
 |goto t=>exact q.elim
 |panic ch=>exact q.elim
 |outgrown=>exact q.elim
variable {α:Type}
def eK (X:Cfg) (gf:FuncId) (first cap:List C) (xs:List α) (enc:α->List V):Prop:=
 ∀(y:C) (J Jx:List α->List E->Prop) (μ:List E),
  (∀pre x suf μ,xs=pre++x::suf->J pre μ->FnCon X y (enc x) μ fun r μ'=>(r=.c (.lit (.bool true))/\J (pre++[x]) μ')∨(r=.c (.lit (.bool false))/\Jx (pre++[x]) μ'))->
  J [] μ->Con X gf (first.map .c++[.c y]++cap.map .c) μ fun _ μ'=>J xs μ'∨∃pre x suf,xs=pre++x::suf/\Jx (pre++[x]) μ'
variable {Q:Exit->S->Prop} {z:Z} {enc:α->List V} {xs:List α}
def awp_rangeFunc (hz:RdOk z) {regs:List (Nat×V)} {μ:List E} {g:lv} {gf:FuncId} {first cap:List C} (hg:ev regs g=.c (.fn (.func gf) first cap)) (hgf:bA X.P gf=true) (hit:eK X gf first cap xs enc) (hps:∀x,x∈xs->ps.length=(enc x).length) (hpn:ps.all (fun t=>Nat.blt t n)=true) (J:List α->List E->Prop) (Jx:Code->List α->List E->Prop) (h0:J [] μ) (hround:∀l pre x suf μ',xs=pre++x::suf->J pre μ'->cJ X n l assign body (J (pre++[x])) (fun c=>Jx c (pre++[x])) ⟨xE ps (enc x) regs,μ'⟩) (hdone:∀μ',J xs μ'->Q .normal ⟨regs,μ'⟩) (hret:∀pre x suf μ',xs=pre++x::suf->Jx .ret (pre++[x]) μ'->Q .ret ⟨regs,μ'⟩) (hexit:∀i pre x suf μ',xs=pre++x::suf->Jx (.exit i) (pre++[x]) μ'->Q (.exit i) ⟨regs,μ'⟩):
  AWP X n z (.rangeFunc g ps.toArray assign body) Q ⟨regs,μ⟩:=by
 intro z1 hz1 a w ⟨I,hH,hR,hx,hd,hs⟩
 refine wpIn_rangeFunc ?_
 intro fn _
 have hgv:=ev_rep hR g
 rw [hg] at hgv
 have hgv':CRep w I (.fn (.func gf) first cap) (a.eval g):=hgv
 obtain ⟨us,vs,hev,hu,hv⟩:∃us vs:List Value,a.eval g=.func (.func gf) us.toArray vs.toArray/\CReps w I first us/\CReps w I cap vs:=by
  generalize a.eval g=v at hgv'
  cases hgv' with
  |fn _ _ _ us vs h1 h2 hr1 hr2=>exact ⟨us,vs,rfl,CReps.of_at h1.symm hr1,CReps.of_at h2.symm hr2⟩
 obtain ⟨D,W0,mk,hent,hH0,hx0,hmk⟩:∃(D:Nat) (W0:World) (mk:List Nat),(Instr.enterLoop fn a.tmps ps.toArray assign body z.rd).run X.P w=.ok (W0.heap.size,mk.map pC) (W0.alloc (.loop { state:=.ready,pending:=none,fn:=fn,tmps:=a.tmps,params:=ps.toArray,assign:=assign,body:=body,defers:=D }))/\
   Heap X W0 I μ/\Ext w I μ W0 I μ/\mk.Nodup/\∀D',D'∈mk->w.heap.size<=D'/\D'<W0.heap.size/\¬I D'/\D' ∉ bC μ/\W0.heap[D']? =some (.deferred (some [])):=by
  cases hrd:z.rd with
  |some l0=>
   obtain ⟨h1,h2,h3,r0,h4⟩:=(hz.le hz1).2 l0 (by rw [hz1.rd];exact hrd)
   obtain ⟨_,_,_,k4⟩:=hx.stays h1 h2 h3
   exact ⟨r0.defers,w,[],run_enterLoop_inner (k4.trans h4) _ _ _ _ _,hH,Ext.refl _ _ _,jp,fun D' h=>by simp at h⟩
  |none=>
   have hsz:(w.alloc (.deferred (some []))).heap.size=w.heap.size+1:=by show (w.heap.push _).size=_;simp
   obtain ⟨k1,k2⟩:=zDl hH (.deferred (some [])) (.blk w.heap.size fun _ _ _=>True) rfl (fun _ _ _ _ _ _ _ _=>trivial) ⟨_,dh w _,trivial⟩
   refine ⟨w.heap.size,w.alloc (.deferred (some [])),[w.heap.size],?_,k1.tail,k2.less fun b hb=>by simp [bC] at hb⊢;exact .inr hb,uD,fun D' h=>?_⟩
   ·rw [run_enterLoop_outer,hsz];rfl
   ·obtain rfl:D'=w.heap.size:=by simpa using h
    exact ⟨aH _,zA,fun h=>by have:=hH.imm _ h;omega,fun h=>by have:=hH.lt h;omega,dh w _⟩
 generalize hrec:Loop.mk LoopState.ready none fn a.tmps ps.toArray assign body D=rec at hent
 obtain ⟨hH1,hx1⟩:=zDl hH0 (.loop rec) (.blk W0.heap.size (LoopR n fn D ps.toArray assign body regs .ready none)) rfl (LoopR.mono _) ⟨_,dh W0 _,a.tmps,by rw [hrec],hs,fun t=>by
  have:=hH.vrep hx0 (hR t)
  exact this.mono (fun b hb=>Below.heap_alloc W0 _ b (hH0.imm b hb)) fun _ h=>h⟩
 have hw01:=hx0.trans hx1
 refine ⟨W0.heap.size,mk.map pC,W0.alloc (.loop rec),{ target:=.fn (.func gf) vs.toArray,args:=us.toArray++ #[.func (.yield W0.heap.size) #[] #[]] },W0.alloc (.loop rec),gf,
  (us++[Value.func (.yield W0.heap.size) #[] #[]]++vs).toArray,W0.alloc (.loop rec),hent,?_,fun _ _=>trivial,?_,fun h=>by simp [fen,Fence.wide] at h,?_⟩
 ·simp only [resolve,hev]
  simp [Act.eval,Deferred.ofValue]
 ·simp [invoke,zLh hgf]
 refine zOx _ _ ?_
 have hc:=hit (.fn (.yield W0.heap.size) [] [])
  (fun pre μ'=>∃μ1,μ'=.blk W0.heap.size (LoopR n fn D ps.toArray assign body regs .ready none)::μ1/\J pre μ1)
  (fun pre μ'=>∃c μ1,μ'=.blk W0.heap.size (LoopR n fn D ps.toArray assign body regs .done (some c))::μ1/\Jx c pre μ1/\(c=.ret∨∃i,c=.exit i))
  (.blk W0.heap.size (LoopR n fn D ps.toArray assign body regs .ready none)::μ)
  (by
   rintro pre x suf μ' hxs ⟨μ1,rfl,hj⟩
   exact yield_con (hps x (by rw [hxs];simp)) (fun t ht=>by have:=ax.1 hpn t ht;simpa [cl] using this) (hround _ pre x suf μ1 hxs hj))
  ⟨μ,rfl,h0⟩
 have hargs:V1Reps (W0.alloc (.loop rec)) I (first.map .c++[.c (.fn (.yield W0.heap.size) [] [])]++cap.map .c) (us++[.func (.yield W0.heap.size) #[] #[]]++vs):=by
  have hst:=hH.still hw01
  have hy:V1Reps (W0.alloc (.loop rec)) I [.c (.fn (.yield W0.heap.size) [] [])] [.func (.yield W0.heap.size) #[] #[]]:=
   ⟨CRep.fn (.yield W0.heap.size) [] [] [] [] rfl rfl (fun j c u hc=>by simp at hc) (fun j c u hc=>by simp at hc),trivial⟩
  exact ((V1Reps.of_c (hu.mono hst fun _ h=>h)).append hy).append (V1Reps.of_c (hv.mono hst fun _ h=>h))
 refine (hc (W0.alloc (.loop rec)) I _ hH1 hargs).mono ?_
 have hW0lt:w.heap.size<=W0.heap.size:=hx0.size
 rintro en w3 ⟨v,r,μ3,I3,rfl,hq,hv3,hH3,hx3⟩
 have base:∀(st:LoopState) (pe:Option Code) (μ4:List E),st≠ .busy->μ3=.blk W0.heap.size (LoopR n fn D ps.toArray assign body regs st pe)::μ4->
   ∃w4,(Instr.endLoop W0.heap.size).run X.P w3=.ok pe w4/\∃z',ZLe z1 z'/\St X n z' ⟨regs,μ4⟩ { a with defers:=mk.map pC++a.defers } w4:=by
  rintro st pe μ4 hst rfl
  obtain ⟨ob,hl3,tmps,rfl,hts,htr⟩:∃ob,w3.heap[W0.heap.size]? =some ob/\LoopR n fn D ps.toArray assign body regs st pe w3 I3 ob:=hH3.rep (.blk W0.heap.size _) uD
  have hblk:bC (.blk W0.heap.size (LoopR n fn D ps.toArray assign body regs st pe)::μ4)=W0.heap.size::bC μ4:=by simp [bC,E.blocks]
  have hlI:X.N<=W0.heap.size/\¬I3 W0.heap.size:=hH3.own _ (by rw [hblk];simp)
  have hlμ:W0.heap.size ∉ bC μ4:=by have:=hH3.nodup;rw [hblk] at this;exact (cm.1 this).1
  refine ⟨_,run_endLoop hl3 hst,?_⟩
  generalize hob:Obj.loop { state:=LoopState.exhausted,pending:=pe,fn:=fn,tmps:=tmps,params:=ps.toArray,assign:=assign,body:=body,defers:=D }=ob4
  have hI4:∀b,I3 b->(w3.putObj W0.heap.size ob4).heap[b]? =w3.heap[b]? :=fun b hb=>bj (fun e=>hlI.2 (e ▸ hb))
  have hH4:Heap X (w3.putObj W0.heap.size ob4) I3 μ4:=hH3.tail.except (by simp [World.putObj]) fun b hb=>bj (fun e=>by
   subst e
   rcases hb with hb|hb|hb
   ·omega
   ·exact hlI.2 hb
   ·exact hlμ hb)
  have x13:Ext (W0.alloc (.loop rec)) I (.blk W0.heap.size (LoopR n fn D ps.toArray assign body regs .ready none)::μ) w3 I3 (.blk W0.heap.size (LoopR n fn D ps.toArray assign body regs st pe)::μ4):=hx3
  have hsz1:(W0.alloc (.loop rec)).heap.size=W0.heap.size+1:=by show (W0.heap.push _).size=_;simp
  have x04:Ext w I μ (w3.putObj W0.heap.size ob4) I3 μ4:=by
   have x03:=hw01.trans x13
   refine ⟨x03.os,x03.tape,x03.output,by simp [World.putObj];exact x03.size,fun b h1 h2=>?_,x03.imm,x03.imm',fun b h=>x03.own' b (by rw [hblk];simp [h])⟩
   rw [bj zA]
   exact x03.block b h1 h2
  have hst:∀b,I b->(w3.putObj W0.heap.size ob4).heap[b]? =w.heap[b]? :=hH.still x04
  refine ⟨⟨w3.putObj W0.heap.size ob4,I3,μ4,mk.map pC++z1.ds,z1.rd,z1.nm⟩,⟨rfl,hx.trans x04,rfl,fun h=>(by rw [(hz.le hz1).1] at h;cases h),mk,rfl,hmk.1,fun D' hD'=>?_⟩,I3,hH4,fun t=>(hR t).mono hst x04.imm,Ext.refl _ _ _,by show mk.map pC++a.defers=mk.map pC++z1.ds;rw [hd],hs⟩
  obtain ⟨d1,d2,d3,d4,d5⟩:=hmk.2 D' hD'
  have e1:(W0.alloc (.loop rec)).heap[D']? =W0.heap[D']? :=Below.heap_alloc W0 _ D' d2
  obtain ⟨s1,s2,s3,s4⟩:=x13.stays (D:=D') zA d3 (by rw [show bC (.blk W0.heap.size (LoopR n fn D ps.toArray assign body regs .ready none)::μ)=W0.heap.size::bC μ by simp [bC,E.blocks]];simp;exact ⟨zA,d4⟩)
  refine ⟨cc hx.size d1,by simp [World.putObj];exact s1,s2,fun h=>s3 (by rw [hblk];simp [h]),?_⟩
  show (w3.putObj W0.heap.size ob4).heap[D']? =_
  rw [bj zA,s4,e1,d5]
 rcases hq with ⟨μ4,hμ,hj⟩|⟨pre,x,suf,hxs,c,μ4,hμ,hjx,hc'⟩
 ·obtain ⟨w4,h1,z',h2,h3⟩:=base _ _ μ4 uD hμ
  exact ⟨none,w4,h1,z',⟨regs,μ4⟩,h2,hdone μ4 hj,h3⟩
 ·obtain ⟨w4,h1,z',h2,h3⟩:=base _ _ μ4 uD hμ
  refine ⟨some c,w4,h1,?_⟩
  rcases hc' with rfl|⟨i,rfl⟩
  ·exact wpIn_ret ⟨z',⟨regs,μ4⟩,h2,hret pre x suf μ4 hxs hjx,h3⟩
  ·exact wpIn_exit ⟨z',⟨regs,μ4⟩,h2,hexit i pre x suf μ4 hxs hjx,h3⟩
/-! ## Structs of numbers,strings and truth values -/
inductive FK where
 |int
 |str
 |bool
def cEq:C->C->Bool
 |.lit (.int _ a),.lit (.int _ b)=>decide (a=b)
 |.lit (.string a),.lit (.string b)=>decide (a=b)
 |.lit (.bool a),.lit (.bool b)=>a==b
 |_,_=>false
def bZ:List C->List C->Bool
 |x::xs,y::ys=>cEq x y&&bZ xs ys
 |_,_=>true
def fkT (P:Program) (t:lu):Option FK:=match P.underlying t with
 |some (.int _)=>some .int
 |some .string=>some .str
 |some .bool=>some .bool
 |_=>none
def xI (P:Program):List Field->Nat->Option (List FK)
 |[],_=>some []
 |f::r,o=>
  if f.name ≠ "_" ∧ f.offset = o then
   match fkT P f.type,xI P r (o+1) with
   |some k,some ks=>some (k::ks)
   |_,_=>none
  else none
def flatK (P:Program) (t:lu):Option (List FK):=match P.underlying t with
 |some (.struct fs)=>if P.stoodInHeld t=false/\P.eqGuardType P.depth t=false then xI P fs.toList 0 else none
 |_=>none
def xW:List FK->List C->List C->Bool
 |.int::ks,.lit (.int .i64 _)::xs,.lit (.int .i64 _)::ys=>xW ks xs ys
 |.str::ks,.lit (.string _)::xs,.lit (.string _)::ys=>xW ks xs ys
 |.bool::ks,.lit (.bool _)::xs,.lit (.bool _)::ys=>xW ks xs ys
 |[],[],[]=>true
 |_,_,_=>false
variable {b:Bool}
def eqStep {P: Program} {d: Nat} {US VS: Array Value} {f: Field} {r: List Field} {o: Nat} {u v: Value} {c: Bool} (hn : f.name ≠ "_") (ho : f.offset = o) (hagg : (isAgg f.type).run P w = .ok false w) (hu : US[o]? = some u) (hv : VS[o]? = some v) (he:(Op.equalIn (d+1) f.type u v).run P w=.ok b w) (ih:(Op.eqFields (d+1) US VS r).run P w=.ok c w):(Op.eqFields (d+1) US VS (f::r)).run P w=.ok (b&&c) w:=by
 cases b<;>simp [Op.eqFields,hn,part,ho,hagg,hu,hv,he,ih]
def zNg {l:List α} {o:Nat} {u:α} {us:List α} (h:l.drop o=u::us):l[o]? =some u/\l.drop (o+1)=us:=by
 constructor
 ·have:=ag (fun l=>l[0]?) h
  simpa using this
 ·have:=ag List.tail h
  simpa using this
def zHp {P:Program} {w:World} {I:Nat->Prop} (d:Nat) {US VS:Array Value}:∀(fs:List Field) (o:Nat) (ks:List FK) (xs ys:List C) (us vs:List Value),xI P fs o=some ks->xW ks xs ys=true->CReps w I xs us->CReps w I ys vs->
  US.toList.drop o=us->VS.toList.drop o=vs->(Op.eqFields (d+1) US VS fs).run P w=.ok (bZ xs ys) w
 |[],o,ks,xs,ys,us,vs,hf,hk,_,_,_,_=>by
  simp only [xI,ap] at hf
  subst hf
  match xs,ys,hk with
  |[],[],_=>simp [Op.eqFields,bZ]
 |f::r,o,ks,xs,ys,us,vs,hf,hk,hx,hy,hu,hv=>by
  unfold xI at hf
  split at hf
  ·rename_i hn
   split at hf
   ·rename_i k ks' hk1 hk2
    simp only [ap] at hf
    subst hf
    cases k with
    |int=>
     have ht:∃k,P.underlying f.type=some (.int k):=by
      unfold fkT at hk1;split at hk1<;>first|exact ⟨_,uA⟩|cases hk1
     obtain ⟨kk,ht⟩:=ht
     match xs,ys,hk,hx,hy with
     |.lit (.int .i64 a)::xs,.lit (.int .i64 b)::ys,hk,.cons h1 hx,.cons h2 hy=>
      cases h1;cases h2
      obtain ⟨u0,u1⟩:=zNg hu
      obtain ⟨v0,v1⟩:=zNg hv
      have:=eqStep hn.1 hn.2 (by simp [isAgg,aE ht]) (by simpa using u0) (by simpa using v0) (run_equalIn_int w d f.type .i64 kk a b ht) (zHp d r (o+1) ks' xs ys _ _ hk2 hk hx hy u1 v1)
      simp only [bZ,cEq]
      exact this
    |str=>
     have ht:P.underlying f.type=some .string:=by
      unfold fkT at hk1;split at hk1<;>first|assumption|cases hk1
     match xs,ys,hk,hx,hy with
     |.lit (.string a)::xs,.lit (.string b)::ys,hk,.cons h1 hx,.cons h2 hy=>
      cases h1;cases h2
      obtain ⟨u0,u1⟩:=zNg hu
      obtain ⟨v0,v1⟩:=zNg hv
      have:=eqStep hn.1 hn.2 (by simp [isAgg,aE ht]) (by simpa using u0) (by simpa using v0) (run_equalIn_string w d f.type a b ht) (zHp d r (o+1) ks' xs ys _ _ hk2 hk hx hy u1 v1)
      rw [str_beq] at this
      simpa [bZ,cEq] using this
    |bool=>
     have ht:P.underlying f.type=some .bool:=by
      unfold fkT at hk1;split at hk1<;>first|assumption|cases hk1
     match xs,ys,hk,hx,hy with
     |.lit (.bool a)::xs,.lit (.bool b)::ys,hk,.cons h1 hx,.cons h2 hy=>
      cases h1;cases h2
      obtain ⟨u0,u1⟩:=zNg hu
      obtain ⟨v0,v1⟩:=zNg hv
      have:=eqStep hn.1 hn.2 (by simp [isAgg,aE ht]) (by simpa using u0) (by simpa using v0) (run_equalIn_bool' w d f.type a b ht) (zHp d r (o+1) ks' xs ys _ _ hk2 hk hx hy u1 v1)
      simpa [bZ,cEq] using this
   ·cases hf
  ·cases hf
section aeq
variable {X:Cfg} {o:Oper} {e:lv->V} {μ:List E} {t ty:lu} {x y:lv} {ks:List FK} {xs ys:List C}
def run_flat {w:World} {I:Nat->Prop} {US VS:List Value} (ht:flatK X.P t=some ks) (hk:xW ks xs ys=true) (hx:CReps w I xs US) (hy:CReps w I ys VS):
  X.P.eqGuardType X.P.depth t=false/\(Op.equalIn 10000 t (.agg US.toArray) (.agg VS.toArray)).run X.P w=.ok (bZ xs ys) w:=by
 unfold flatK at ht
 split at ht
 ·rename_i fs hu
  split at ht
  ·rename_i hg
   have hfs:X.P.fieldsOf t=fs:=by simp [Program.fieldsOf,hu]
   refine ⟨hg.2,?_⟩
   rw [run_equalIn_struct w 9999 t _ _ (by rw [hfs];exact hu) hg.1,hfs]
   exact zHp 9998 fs.toList 0 ks xs ys _ _ ht hk hx hy uD uD
  ·cases ht
 ·cases ht
def zVk (ho:o.op=.binOp .eql t x y ty) (ht:flatK X.P t=some ks) (hx:e x=.agg xs) (hy:e y=.agg ys) (hk:xW ks xs ys=true):Det X o e μ (.c (.lit (.bool (bZ xs ys)))) μ:=
 kN fun a w I _ hops=>by
  have hxv:=hops x (by rw [ho];simp [Op.operands])
  have hyv:=hops y (by rw [ho];simp [Op.operands])
  rw [hx] at hxv
  rw [hy] at hyv
  obtain ⟨us,h0,hu⟩:=hxv.agg_inv
  obtain ⟨vs,h2,hv⟩:=hyv.agg_inv
  obtain ⟨h3,h4⟩:=run_flat ht hk hu hv
  refine ⟨.bool (bZ xs ys),?_,CRep.lit _ rfl⟩
  simp only [execOp,ho,h0,h2,aP,ln w _ _ _ _ _ _ h3,run_eql_struct,h4,aA,aU]
def zAb (ho:o.op=.binOp .neq t x y ty) (ht:flatK X.P t=some ks) (hx:e x=.agg xs) (hy:e y=.agg ys) (hk:xW ks xs ys=true):Det X o e μ (.c (.lit (.bool (!bZ xs ys)))) μ:=
 kN fun a w I _ hops=>by
  have hxv:=hops x (by rw [ho];simp [Op.operands])
  have hyv:=hops y (by rw [ho];simp [Op.operands])
  rw [hx] at hxv
  rw [hy] at hyv
  obtain ⟨us,h0,hu⟩:=hxv.agg_inv
  obtain ⟨vs,h2,hv⟩:=hyv.agg_inv
  obtain ⟨h3,h4⟩:=run_flat ht hk hu hv
  refine ⟨.bool (!bZ xs ys),?_,CRep.lit _ rfl⟩
  simp only [execOp,ho,h0,h2,aP,ln w _ _ _ _ _ _ h3,run_neq_struct,h4,aA,aU]
end aeq
/-! ## Slices of the call's own -/
section own
variable {X:Cfg} {o:Oper} {e:lv->V} {μ:List E} {t:lu}
def zDr {et:lu} {size bytes len:Nat} {zs:List Value} {parts:List (Nat×lv)} {rows:List (List C)} (ho:o.op=.buildSlice t len parts.toArray) (ht:fB X.P t=some (et,size,bytes)) (hz:fL X.P et=some zs) (hlim:Nat.ble (len*size) 16777216=true)
  (hidx:vC 0 parts=true) (hlen:Nat.beq parts.length len=true) (hrows:mL size (parts.map fun p=>e p.2)=some rows):OpE X o e μ fun r μ'=>∃sv,r=.c (.lit sv)/\μ'=.vec sv et size rows::μ:=by
 intro a w I hH hops K Q k
 obtain ⟨us,hrun,hc,hul⟩:=zSc (X:=X) (I:=I) ho ht hz hlim hidx hlen hrows hops
 have hl:parts.length=len:=bk hlen
 obtain ⟨hrl,hrs⟩:=rowsOf_len hrows
 simp only [lLm] at hrl
 obtain ⟨_,_,_,_,_,_,_,_,hpos⟩:=kT ht
 have hlr:len=rows.length:=by omega
 have hmax:len<=maxLen:=by
  have h1:=cj hlim
  have h2:len*1<=len*size:=iN _ hpos
  simp only [maxLen];omega
 subst hlr
 have hold:∀b,b<w.heap.size->(w.alloc (.cells us.toArray et)).heap[b]? =w.heap[b]? :=fun b hb=>Below.heap_alloc w _ b hb
 have hrep:ERep (w.alloc (.cells us.toArray et)) I (.vec (.slice (some ⟨w.heap.size,0,none⟩) rows.length rows.length) et size rows):=
  zOf (xs:=us) ⟨hul,.inr ⟨w.heap.size,rows.length,us.toArray,rfl,bn _,dh w _,aH _,hmax,by simpa using hul,by simp [←hul]⟩⟩ (hc.mono (fun b hb=>hold b (hH.imm b hb)) fun _ h=>h) hrs
 cases hn:rows.length with
 |zero=>
  rw [hn] at hrep hrun
  obtain ⟨h1,h2⟩:=zDl hH (.cells us.toArray et) (.row w.heap.size et (us.map .lit)) rfl trivial ⟨us,dh w _,CReps.lits us hc.one⟩
  have h1':Heap X (w.alloc (.cells us.toArray et)) I μ:=h1.tail
  have e0:bC (.vec (.slice (some ⟨w.heap.size,0,none⟩) 0 0) et size rows::μ)=bC μ:=by simp [bC,E.blocks,svB]
  refine zCa hrun (k _ _ _ I _ ⟨_,rfl,rfl⟩ (CRep.lit _ rfl) ⟨h1'.lo,h1'.glob,by rw [e0];exact h1'.nodup,fun b hb=>h1'.own b (by rw [←e0];exact hb),h1'.imm,fun en hen=>?_,fun en hen=>?_⟩ (h2.less fun b hb=>by rw [e0] at hb;rw [wW];exact aq.2 (.inr hb)))
  ·rcases af.1 hen with rfl|h
   ·exact hrep
   ·exact h1'.rep en h
  ·rcases af.1 hen with rfl|h
   ·trivial
   ·exact h1'.mono en h
 |succ n=>
  rw [hn] at hrep hrun
  obtain ⟨h1,h2⟩:=zDl hH (.cells us.toArray et) (.vec (.slice (some ⟨w.heap.size,0,none⟩) (n+1) (n+1)) et size rows) rfl trivial hrep
  exact zCa hrun (k _ _ _ I _ ⟨_,rfl,rfl⟩ (CRep.lit _ rfl) h1 h2)
abbrev OwnR (X:Cfg) (f:FuncId) (args:List V) (et:lu) (size:Nat) (rows:List (List C)):Prop:=Con X f args [] fun r μ'=>∃sv,r=.c (.lit sv)/\μ'=[.vec sv et size rows]
def zBg {f:FuncId} {arg_:List lv} {ts:Array lu} {args:List V} {et:lu} {size:Nat} {rows:List (List C)} (ho:o.op=.call { callee:=.value (.func f),args:=arg_.toArray,argTypes:=ts }) (hf:bA X.P f=true) (hc:OwnR X f args et size rows) (ha:nB (arg_.map e) args):
  OpE X o e μ fun r μ'=>∃sv,r=.c (.lit sv)/\μ'=.vec sv et size rows::μ:=
 (zBm ho hf (hc.frame μ) ha).mono fun r μ' ⟨_,⟨sv,h1,h2⟩,h3⟩=>⟨sv,h1,by rw [h3,h2];rfl⟩
def OwnR.pur {f:FuncId} {args:List V} {et:lu} {size:Nat} {rows:List (List C)} (h:OwnR X f args et size rows):Pur X f args (.c (.sl size rows)):=by
 intro w I vs hH ha
 refine (h w I vs hH ha).mono ?_
 rintro en w' ⟨v,r,μ',I',rfl,⟨sv,rfl,rfl⟩,hv,hH',x⟩
 have hrep:=hH'.rep _ (aO.2 rfl)
 have e1:v=sv:=hv.lit_inv
 subst e1
 refine ⟨v,_,[],fun b=>I' b∨b∈(E.vec v et size rows).blocks,rfl,rfl,?_,?_,?_⟩
 ·exact vec_sl (hrep.mono (w':=w') trivial (fun _ _=>rfl) (fun b h=>.inl h) fun _ _=>rfl) fun b hb=>.inr hb
 ·refine ⟨hH'.lo,hH'.glob,by simp [bC],fun b hb=>by simp [bC] at hb,?_,fun en hen=>by simp at hen,fun en hen=>by simp at hen⟩
  rintro b (h|h)
  ·exact hH'.imm b h
  ·exact hrep.lt h
 ·refine ⟨x.os,x.tape,x.output,x.size,x.block,fun b h=>.inl (x.imm b h),?_,fun b h=>by simp [bC] at h⟩
  rintro b (h|h)
  ·exact x.imm' b h
  ·rcases x.own' b (zAf (aO.2 rfl) h) with h|h
   ·simp [bC] at h
   ·exact .inr (.inr h)
end own
/-! ## Leaving a slice alone to which other memory points -/
structure EFle (sv:Value) (size:Nat) (rows:List (List C)) (e e':E):Prop where
 blocks:e'.blocks=e.blocks
 mono:e.Mono->e'.Mono
 rep:∀w I,CRep w I (.sl size rows) sv->ERep w I e->ERep w I e'
section efle
variable {sv:Value} {size:Nat} {rows:List (List C)}
def EFle.refl (e:E):EFle sv size rows e e:=⟨rfl,fun h=>h,fun _ _ _ h=>h⟩
def EFle.row {b:Nat} {t:lu} {cs ds:List C} (h:sW sv size rows cs ds):EFle sv size rows (.row b t cs) (.row b t ds):=
 ⟨rfl,fun _=>trivial,fun _ _ hs ⟨vs,h1,h2⟩=>⟨vs,h1,zRi hs h h2⟩⟩
def cfle_length {xs ys:List C} (h:sW sv size rows xs ys):ys.length=xs.length:=by
 induction xs generalizing ys with
 |nil=>cases ys with
  |nil=>rfl
  |cons y ys=>exact h.elim
 |cons x xs ih=>cases ys with
  |nil=>exact h.elim
  |cons y ys=>simp [ih h.2]
def cfle_refl (xs:List C):sW sv size rows xs xs:=by
 induction xs with
 |nil=>trivial
 |cons x xs ih=>exact ⟨.inl rfl,ih⟩
def zZs {xs ys xs' ys':List C} (h:sW sv size rows xs ys) (k:sW sv size rows xs' ys'):sW sv size rows (xs++xs') (ys++ys'):=by
 induction xs generalizing ys with
 |nil=>cases ys with
  |nil=>exact k
  |cons y ys=>exact h.elim
 |cons x xs ih=>cases ys with
  |nil=>exact h.elim
  |cons y ys=>exact ⟨h.1,ih h.2⟩
def flat_cfle {R:List (List C)} {i:Nat} {r r':List C} (hi:R[i]? =some r) (h:sW sv size rows r r'):sW sv size rows R.flatten (R.set i r').flatten:=by
 induction R generalizing i with
 |nil=>simp at hi
 |cons q R ih=>
  cases i with
  |zero=>
   simp at hi;subst hi
   simpa using zZs h (cfle_refl R.flatten)
  |succ i=>simpa using zZs (cfle_refl q) (ih (by simpa using hi))
def EFle.vec {s:Value} {t:lu} {n i:Nat} {R:List (List C)} {r r':List C} (hi:R[i]? =some r) (h:sW sv size rows r r'):EFle sv size rows (.vec s t n R) (.vec s t n (R.set i r')):=by
 refine ⟨rfl,fun _=>trivial,fun w I hs k=>?_⟩
 rcases k with ⟨_,_,rfl⟩|⟨h1,xs,h2,h3,h4⟩
 ·simp at hi
 ·refine .inr ⟨h1,xs,by rw [ed];exact h2,zRi hs (flat_cfle hi h) h3,fun q hq=>?_⟩
  rcases ge hq with h|h
  ·exact h4 q h
  ·subst h;rw [cfle_length ‹_›];exact h4 r (bg hi)
def xK (sv:Value) (size:Nat) (rows:List (List C)):List E->List E->Prop
 |[],[]=>True
 |e::es,e'::es'=>EFle sv size rows e e'/\xK sv size rows es es'
 |_,_=>False
def zTt:∀{μ μ':List E},xK sv size rows μ μ'->bC μ'=bC μ
 |[],[],_=>rfl
 |_::_,_::_,h=>by rw [wW,wW,h.1.blocks,zTt h.2]
 |[],_::_,h=>h.elim
 |_::_,[],h=>h.elim
def zYx:∀{μ μ':List E},xK sv size rows μ μ'->∀e',e'∈μ'->∃e,e∈μ/\EFle sv size rows e e'
 |[],[],_,_,h=>by simp at h
 |e::_,_::_,h,e',hm=>by
  rcases af.1 hm with rfl|hm
  ·exact ⟨e,uD,h.1⟩
  ·obtain ⟨e0,h1,h2⟩:=zYx h.2 e' hm
   exact ⟨e0,by simp [h1],h2⟩
 |[],_::_,h,_,_=>h.elim
 |_::_,[],h,_,_=>h.elim
def iC (sv:Value) (size:Nat) (rows:List (List C)) (regs:List (Nat×V)):List (Nat×V)->Prop
 |[]=>True
 |(t,y)::r=>FLe sv size rows (dF regs t) y/\iC sv size rows regs r
def fles_rep {regs:List (Nat×V)} {w:World} {I:Nat->Prop} {a:Act} (hs:CRep w I (.sl size rows) sv) (hR:∀t,VRep w I (dF regs t) (a.tmps.getD t undef)):∀{r:List (Nat×V)},iC sv size rows regs r->∀t,VRep w I (dF (r++regs) t) (a.tmps.getD t undef)
 |[],_,t=>hR t
 |(s,y)::r,h,t=>by
  rw [lCa,zBt]
  split
  ·rename_i e;subst e;exact h.1 w I _ hs (hR s)
  ·exact fles_rep hs hR h.2 t
def yV {regs regs':List (Nat×V)} {μ μ':List E} {et:lu} (p:Nat) (hp:nth μ p=some (.vec sv et size rows)) (hr:iC sv size rows regs regs') (hμ:xK sv size rows (pV μ p) μ'):Weak ⟨regs,μ⟩ ⟨regs'++regs,μ'⟩:=by
 intro X n z a w ⟨I,hH,hR,hx,hd,hs⟩
 have pm:=zHm hp
 have h1:Heap X w I ([E.vec sv et size rows]++pV μ p):=hH.perm pm
 have hrep:=hH.rep _ (zAy hp)
 let I':Nat->Prop:=fun b=>I b∨b∈(E.vec sv et size rows).blocks
 have hII:∀b,I b->I' b:=fun b h=>.inl h
 have hsl:CRep w I' (.sl size rows) sv:=vec_sl (hrep.mono (w':=w) (I':=I') trivial (fun _ _=>rfl) hII fun _ _=>rfl) fun b hb=>.inr hb
 have hn:=h1.nodup
 rw [kA] at hn
 obtain ⟨_,hn2,hn3⟩:=fw.1 hn
 have hb1:bC [E.vec sv et size rows]=(E.vec sv et size rows).blocks:=by simp [bC]
 have hmem:∀b,b∈bC (pV μ p)->b∈bC μ:=fun b hb=>(wV pm).mem_iff.2 (by rw [wW];exact aq.2 (.inr hb))
 have hbs:=zTt hμ
 refine ⟨I',⟨hH.lo,hH.glob,by rw [hbs];exact hn2,fun b hb=>?_,?_,fun en hen=>?_,fun en hen=>?_⟩,?_,?_,hd,hs⟩
 ·rw [hbs] at hb
  refine ⟨(hH.own b (hmem b hb)).1,?_⟩
  rintro (h|h)
  ·exact (hH.own b (hmem b hb)).2 h
  ·exact hn3 b (by rw [hb1];exact h) b hb rfl
 ·rintro b (h|h)
  ·exact hH.imm b h
  ·exact hrep.lt h
 ·obtain ⟨e0,h0,hf⟩:=zYx hμ en hen
  have hm:e0∈μ:=pm.mem_iff.2 (au _ h0)
  exact hf.rep w I' hsl ((hH.rep e0 hm).mono (hH.mono e0 hm) (fun _ _=>rfl) hII fun _ _=>rfl)
 ·obtain ⟨e0,h0,hf⟩:=zYx hμ en hen
  exact hf.mono (hH.mono e0 (pm.mem_iff.2 (au _ h0)))
 ·exact fles_rep hsl (fun t=>(hR t).mono (fun _ _=>rfl) hII) hr
 ·refine ⟨hx.os,hx.tape,hx.output,hx.size,hx.block,fun b h=>.inl (hx.imm b h),fun b hb=>?_,fun b hb=>hx.own' b (hmem b (by rw [←hbs];exact hb))⟩
  rcases hb with h|h
  ·exact hx.imm' b h
  ·rcases hx.own' b (zAf (zAy hp) h) with h'|h'
   ·exact .inr (.inl h')
   ·exact .inr (.inr h')
end efle
/-! ## Leaving a variable alone -/
def row_iptr {b:Nat} {t:lu} {cells:List C} (h:ERep w I (.row b t cells)) (hI:I b):CRep w I (.iptr cells) (.pointer (some ⟨b,0,none⟩)):=by
 obtain ⟨vs,hh,hc⟩:=h
 refine .iptr cells ⟨b,0,none⟩ (fun j=>(vs[j]?).getD undef) hI (fun j hj=>?_) (fun j c hj=>?_)
 ·rw [zFb,bt,jg w b j vs.toArray t (0,0) hh]
  have:j<vs.length:=by rw [←hc.length];exact hj
  simp [this]
 ·obtain ⟨v,hv,hr⟩:=hc.at_ hj
  simp only [hv,cd]
  exact hr
def PLe (b:Nat) (cells:List C) (x y:V):Prop:=∀w I v,CRep w I (.iptr cells) (.pointer (some ⟨b,0,none⟩))->VRep w I x v->VRep w I y v
def PLe.ptr {b:Nat} {cells:List C}:PLe b cells (.c (.lit (.pointer (some ⟨b,0,none⟩)))) (.c (.iptr cells)):=by
 intro w I v h hv
 rw [hv.lit_inv]
 exact h
def cW (b:Nat) (cells:List C):List C->List C->Prop
 |[],[]=>True
 |x::xs,y::ys=>(x=y∨(x=.lit (.pointer (some ⟨b,0,none⟩))/\y=.iptr cells))/\cW b cells xs ys
 |_,_=>False
def pcfle_reps {b:Nat} {cells:List C} {w:World} {I:Nat->Prop} (h:CRep w I (.iptr cells) (.pointer (some ⟨b,0,none⟩))):∀{xs ys:List C} {vs:List Value},cW b cells xs ys->CReps w I xs vs->CReps w I ys vs
 |[],[],_,_,k=>k
 |x::xs,y::ys,_,hc,.cons hd tl=>by
  refine .cons ?_ (pcfle_reps h hc.2 tl)
  rcases hc.1 with rfl|⟨rfl,rfl⟩
  ·exact hd
  ·cases hd;exact h
 |[],_::_,_,h,_=>h.elim
 |_::_,[],_,h,_=>h.elim
def PLe.fn {b:Nat} {cells:List C} {f:Fn} {fs xs ys:List C} (h:cW b cells xs ys):PLe b cells (.c (.fn f fs xs)) (.c (.fn f fs ys)):=by
 intro w I v hp hv
 have hv':CRep w I (.fn f fs xs) v:=hv
 cases hv' with
 |fn _ _ _ us vs h1 h2 hr1 hr2=>
  have k:=pcfle_reps hp h (CReps.of_at h2.symm hr2)
  exact CRep.fn f fs ys us vs h1 k.length.symm hr1 (fun j c u hc hu=>by
   obtain ⟨u',hu',hr⟩:=k.at_ hc
   rw [hu] at hu';cases hu';exact hr)
def yX {regs:List (Nat×V)} {μ:List E} {b:Nat} {ty:lu} {cells:List C} (p:Nat) (hp:nth μ p=some (.row b ty cells)) (t:Nat) (y:V) (hy:PLe b cells (dF regs t) y):Weak ⟨regs,μ⟩ ⟨(t,y)::regs,pV μ p⟩:=by
 intro X n z a w ⟨I,hH,hR,hx,hd,hs⟩
 have pm:=zHm hp
 have h1:Heap X w I ([E.row b ty cells]++pV μ p):=hH.perm pm
 have hrep:=hH.rep _ (zAy hp)
 let I':Nat->Prop:=fun k=>I k∨k∈(E.row b ty cells).blocks
 have hII:∀b,I b->I' b:=fun b h=>.inl h
 have hsl:CRep w I' (.iptr cells) (.pointer (some ⟨b,0,none⟩)):=row_iptr (hrep.mono (w':=w) (I':=I') trivial (fun _ _=>rfl) hII fun _ _=>rfl) (.inr (by simp [E.blocks]))
 have hn:=h1.nodup
 rw [kA] at hn
 obtain ⟨_,hn2,hn3⟩:=fw.1 hn
 have hb1:bC [E.row b ty cells]=(E.row b ty cells).blocks:=by simp [bC]
 have hmem:∀b,b∈bC (pV μ p)->b∈bC μ:=fun b hb=>(wV pm).mem_iff.2 (by rw [wW];exact aq.2 (.inr hb))
 refine ⟨I',⟨hH.lo,hH.glob,hn2,fun b hb=>⟨(hH.own b (hmem b hb)).1,?_⟩,?_,fun en hen=>?_,fun en hen=>?_⟩,fun t'=>?_,?_,hd,hs⟩
 ·rintro (h|h)
  ·exact (hH.own b (hmem b hb)).2 h
  ·exact hn3 b (by rw [hb1];exact h) b hb rfl
 ·rintro b (h|h)
  ·exact hH.imm b h
  ·exact hrep.lt h
 ·have hm:en∈μ:=pm.mem_iff.2 (au _ hen)
  exact (hH.rep en hm).mono (hH.mono en hm) (fun _ _=>rfl) hII fun _ _=>rfl
 ·exact hH.mono en (pm.mem_iff.2 (au _ hen))
 ·have hold:VRep w I' (dF regs t') (a.tmps.getD t' undef):=(hR t').mono (fun _ _=>rfl) hII
  show VRep w I' (dF ((t,y)::regs) t') _
  rw [zBt]
  split
  ·rename_i e;subst e;exact hy w I' _ hsl hold
  ·exact hold
 ·refine ⟨hx.os,hx.tape,hx.output,hx.size,hx.block,fun b h=>.inl (hx.imm b h),fun b hb=>?_,fun b hb=>hx.own' b (hmem b hb)⟩
  rcases hb with h|h
  ·exact hx.imm' b h
  ·rcases hx.own' b (zAf (zAy hp) h) with h'|h'
   ·exact .inr (.inl h')
   ·exact .inr (.inr h')
/-! ## More operators -/
section ops2
variable {X:Cfg} {o:Oper} {e:lv->V} {μ:List E} {t ty:lu} {x y:lv}
def det_sgeq {a b:lr} (ho:o.op=.binOp .geq t x y ty) (hx:e x=.c (.lit (.string a))) (hy:e y=.c (.lit (.string b))):Det X o e μ (.c (.lit (.bool (!dQ a b)))) μ:=zBc ho hx hy (fun w=>by simp only [eqGuard,binOp,Op.stringOp];rfl) rfl
def det_shl {k k':IntKind} {a b:Int} (ho:o.op=.binOp .shl t x y ty) (hx:e x=.c (.lit (.int k a))) (hy:e y=.c (.lit (.int k' b))) (h0:0<=b):Det X o e μ (.c (.lit (.int k (k.wrap (a*2^(min b.toNat k.bits)))))) μ:=
 zBc ho hx hy (fun w=>by
  have:¬b<0:=by omega
  simp [eqGuard,binOp,Op.shift,this]) rfl
def det_shr {k k':IntKind} {a b:Int} (ho:o.op=.binOp .shr t x y ty) (hx:e x=.c (.lit (.int k a))) (hy:e y=.c (.lit (.int k' b))) (h0:0<=b):Det X o e μ (.c (.lit (.int k (a.fdiv (2^(min b.toNat k.bits)))))) μ:=
 zBc ho hx hy (fun w=>by
  have:¬b<0:=by omega
  simp [eqGuard,binOp,Op.shift,this]) rfl
def det_bits {op:BinOp} {k:IntKind} {a b:Int} {r:Value} (ho:o.op=.binOp op t x y ty) (hop:op=.and∨op=.or∨op=.xor) (hx:e x=.c (.lit (.int k a))) (hy:e y=.c (.lit (.int k b))) (hr:∀(P:Program) w,(Op.intBits op k a b).run P w=.ok r w) (h1:r.oneCell'=true):Det X o e μ (.c (.lit r)) μ:=
 zBc ho hx hy (fun w=>by rcases hop with rfl|rfl|rfl<;>simp [eqGuard,binOp,hr]) h1
end ops2
variable {σ:S}
/-! ## Weaker ends; ranges over functions with named memory -/
def awp_wk {c:Code} (h:AWP X n z c (fun e σ=>∃τ,Weak σ τ/\Q e τ) σ):AWP X n z c Q σ:=by
 intro z1 hz1 a w s
 refine ib (h z1 hz1 a w s) ?_
 rintro e a' w' ⟨z2,σ',hz2,⟨τ,hw,q⟩,s'⟩
 exact ⟨z2,τ,hz2,q,hw _ _ _ _ _ s'⟩
variable {ops:Array Oper} {l:List Oper}
def yU (τ:S) (h:Weak σ τ) (k:RWP X n z ops l Q τ):RWP X n z ops l Q σ:=
 fun hall z1 hz1 a w s=>k hall z1 hz1 a w (h X n z1 a w s)
def cT (inv:List α->Prop) (hμ:List α->List E) (invx:Code->List α->Prop) (hμx:Code->List α->List E) (bμ:List E) (pre:List α):Exit->S->Prop
 |.normal,τ=>inv pre/\τ.μ=hμ pre++bμ
 |.ret,τ=>invx .ret pre/\τ.μ=hμx .ret pre++bμ
 |.exit i,τ=>invx (.exit i) pre/\τ.μ=hμx (.exit i) pre++bμ
 |_,_=>False
def zDa {P:Exit->S->Prop} {e:Exit} {τ:S} (h:Weak σ τ) (k:P e τ):∃τ',Weak σ τ'/\P e τ':=⟨τ,h,k⟩
def zHc (hz:RdOk z) {regs:List (Nat×V)} {μ bμ:List E} {g:lv} {gf:FuncId} {first cap:List C} (kμ:Nat) (_hm:xL kμ μ=some bμ) (hg:ev regs g=.c (.fn (.func gf) first cap)) (hgf:bA X.P gf=true) (hit:eK X gf first cap xs enc) (hps:∀x,x∈xs->ps.length=(enc x).length) (hpn:ps.all (fun t=>Nat.blt t n)=true) (inv:List α->Prop) (hμ:List α->List E) (invx:Code->List α->Prop) (hμx:Code->List α->List E) (h0:inv []/\μ=hμ []++bμ) (hround:∀pre x suf,xs=pre++x::suf->inv pre->∀z,RdOk z->AWP X n z assign (rM (fun τ=>∀z,RdOk z->AWP X n z body (fun e σ=>∃τ',Weak σ τ'/\cT inv hμ invx hμx bμ (pre++[x]) e τ') τ) fun _ _=>False) ⟨xE ps (enc x) regs,hμ pre++bμ⟩) (hdone:inv xs->Q .normal ⟨regs,hμ xs++bμ⟩) (hret:∀pre x suf,xs=pre++x::suf->invx .ret (pre++[x])->Q .ret ⟨regs,hμx .ret (pre++[x])++bμ⟩) (hexit:∀i pre x suf,xs=pre++x::suf->invx (.exit i) (pre++[x])->Q (.exit i) ⟨regs,hμx (.exit i) (pre++[x])++bμ⟩):
  AWP X n z (.rangeFunc g ps.toArray assign body) Q ⟨regs,μ⟩:=by
 refine awp_rangeFunc hz hg hgf hit hps hpn (fun pre μ'=>inv pre/\μ'=hμ pre++bμ) (fun c pre μ'=>invx c pre/\μ'=hμx c pre++bμ) h0 ?_ ?_ ?_ ?_
 ·rintro l pre x suf μ' hxs ⟨hi,rfl⟩ z1 hz1 _ _
  refine awp_mono (hround pre x suf hxs hi z1 hz1) ?_
  intro e σ q
  cases e with
  |normal=>
   intro z2 hz2 _ _
   refine awp_mono (awp_wk (Q:=cT inv hμ invx hμx bμ (pre++[x])) (q z2 hz2)) ?_
   intro e τ k
   cases e<;>exact k
  |_=>exact q
 ·rintro μ' ⟨hi,rfl⟩;exact hdone hi
 ·rintro pre x suf μ' hxs ⟨hi,rfl⟩;exact hret pre x suf hxs hi
 ·rintro i pre x suf μ' hxs ⟨hi,rfl⟩;exact hexit i pre x suf hxs hi
/-! ## Nil slices -/
def VLe.nil {n:Nat}:VLe (.c (.lit (.slice none 0 0))) (.c (.sl n [])):=by
 intro w I v h
 rw [h.lit_inv]
 exact CRep.nil n none 0
def unN:List (Option Nat)->List C->List C
 |some n::m,_::r=>.sl n []::unN m r
 |none::m,c::r=>c::unN m r
 |_,r=>r
def cY:C->Bool
 |.lit (.slice none 0 0)=>true
 |_=>false
def okN:List (Option Nat)->List C->Bool
 |some _::m,c::r=>cY c&&okN m r
 |none::m,_::r=>okN m r
 |_,_=>true
variable {c:C}
def isNil_eq (h:cY c=true):c=.lit (.slice none 0 0):=by
 unfold cY at h
 split at h
 ·rfl
 ·cases h
def zUq {w:World} {I:Nat->Prop}:∀{m:List (Option Nat)} {cs:List C} {vs:List Value},okN m cs=true->CReps w I cs vs->CReps w I (unN m cs) vs
 |some n::m,c::r,_,h,.cons hd tl=>by
  simp only [okN,ae] at h
  rw [isNil_eq h.1] at hd
  cases hd
  exact .cons (.nil n none 0) (zUq h.2 tl)
 |none::m,c::r,_,h,.cons hd tl=>.cons hd (zUq (m:=m) h tl)
 |[],[],_,_,k=>k
 |[],_::_,_,_,k=>k
 |some _::_,[],_,_,k=>k
 |none::_,[],_,_,k=>k
def VLe.nils {m:List (Option Nat)} {cs:List C} (h:okN m cs=true):VLe (.agg cs) (.agg (unN m cs)):=by
 intro w I v hv
 obtain ⟨vs,rfl,hc⟩:=hv.agg_inv
 exact ⟨vs,rfl,zUq h hc⟩
variable {o:Oper} {e:lv->V}
def Det.weaken {μ μ':List E} {r r':V} (h:Det X o e μ r μ') (hle:VLe r r'):Det X o e μ r' μ':=by
 intro a w I hH hops K Q k
 refine h a w I hH hops K Q ?_
 rintro v _ _ I' w' ⟨rfl,rfl⟩ hv hH' x
 exact k v _ _ I' w' ⟨rfl,rfl⟩ (hle _ _ _ hv) hH' x
section
variable {X:Cfg} {o:Oper} {e:lv->V} {μ:List E} {t:lu}
def zGf (m:List (Option Nat)) {zs:List Value} {ps:List (Nat×Nat)} {parts:List (Nat×lv)} {cells:List C} (ho:o.op=.build t parts.toArray) (hz:fL X.P t=some zs) (hp:fW X.P t=some ps) (hf:pX (nth ps) (zs.map .lit) (parts.map fun p=>(p.1,e p.2))=some cells) (hok:okN m cells=true):
  Det X o e μ (.agg (unN m cells)) μ:=(zDc ho hz hp hf).weaken (VLe.nils hok)
def yH {n_:Nat} {z_:Z} {Q_:Exit->S->Prop} {rs:List (Nat×V)} {os:Array Oper} {re:List Oper} {d_:Tmp} {zs:List Value} {ps:List (Nat×Nat)} {parts:List (Nat×lv)} {cells:List C} (m:List (Option Nat)) (hd:(dgO o,o.op,pX (nth ps) (zs.map .lit) (parts.map fun p=>(p.1,(ev rs) p.2)),okN m cells)=(some d_,.build t parts.toArray,some cells,true)) (hz:fL X.P t=some zs) (hp:fW X.P t=some ps) (k_:RWP X n_ z_ os re Q_ ⟨(d_,(.agg (unN m cells)))::rs,μ⟩):RWP X n_ z_ os (o::re) Q_ ⟨rs,μ⟩:=by
 simp only [aJ] at hd
 obtain ⟨h_,q1,q4,q5⟩:=hd
 exact zAc (dgs h_).1 (dgs h_).2 (zGf (e:=ev rs) m q1 hz hp q4 q5) k_
def zZg (n:Nat) {x:lv} (ho:o.op=.assign x) (hx:e x=.c (.lit (.slice none 0 0))):Det X o e μ (.c (.sl n [])) μ:=(qY ho hx).weaken VLe.nil
def yJ {n_:Nat} {z_:Z} {Q_:Exit->S->Prop} {rs:List (Nat×V)} {os:Array Oper} {re:List Oper} {d_:Tmp} {x:lv} (n:Nat) (hd:(dgO o,o.op,(ev rs) x)=(some d_,.assign x,.c (.lit (.slice none 0 0))))  (k_:RWP X n_ z_ os re Q_ ⟨(d_,(.c (.sl n [])))::rs,μ⟩):RWP X n_ z_ os (o::re) Q_ ⟨rs,μ⟩:=by
 simp only [aJ] at hd
 obtain ⟨h_,q1,q2⟩:=hd
 exact zAc (dgs h_).1 (dgs h_).2 (zZg (e:=ev rs) n q1 q2) k_
def row_unN {w:World} {I:Nat->Prop} {b:Nat} {m:List (Option Nat)} {cs:List C} (h:okN m cs=true) (k:ERep w I (.row b t cs)):ERep w I (.row b t (unN m cs)):=by
 obtain ⟨vs,h1,h2⟩:=k
 exact ⟨vs,h1,zUq h h2⟩
def qH (m:List (Option Nat)) {zs:List Value} (ho:o.op=.alloc t) (hz:fL X.P t=some zs) (hok:okN m (zs.map .lit)=true):OpE X o e μ fun r μ'=>∃b,r=.c (.lit (.pointer (some ⟨b,0,none⟩)))/\μ'=.row b t (unN m (zs.map .lit))::μ:=by
 intro a w I hH hops K Q k
 refine qW (μ:=μ) ho hz a w I hH hops K Q ?_
 rintro v r μ' I' w' ⟨b,rfl,rfl⟩ hv hH' x
 refine k v _ _ I' w' ⟨b,rfl,rfl⟩ hv ?_ (x.less fun b hb=>by simpa [bC,E.blocks] using hb)
 have e:bC (.row b t (unN m (zs.map .lit))::μ)=bC (.row b t (zs.map .lit)::μ):=by simp [bC,E.blocks]
 refine ⟨hH'.lo,hH'.glob,by rw [e];exact hH'.nodup,fun c hc=>hH'.own c (by rw [←e];exact hc),hH'.imm,fun en hen=>?_,fun en hen=>?_⟩
 ·rcases af.1 hen with rfl|h
  ·exact row_unN hok (hH'.rep _ uD)
  ·exact hH'.rep en (by simp [h])
 ·rcases af.1 hen with rfl|h
  ·trivial
  ·exact hH'.mono en (by simp [h])
end
def Weak.mem {regs:List (Nat×V)} {μ μ':List E} (m:List Bool) (hμ:keep m μ=μ'):Weak ⟨regs,μ⟩ ⟨regs,μ'⟩:=by
 intro X n z a w ⟨I,hH,hR,hx,hd,hs⟩
 obtain ⟨φ,p⟩:=zQm m μ
 rw [hμ] at p
 have hH':Heap X w I (μ'++φ):=hH.perm p.symm
 exact ⟨I,hH'.left,hR,hx.less fun b hb=>(wV p).mem_iff.1 (by rw [kA];exact aq.2 (.inl hb)),hd,hs⟩
variable {bytes:Nat} {f:α->List C} {et:lu} {x:lv}
def yK {μ:List E} {t:lu} {size:Nat} {l:List α} (ho:o.op=.call { callee:=.builtin .len,args:= #[x],argTypes:= #[t] }) (ht:fB X.P t=some (et,size,bytes)) (hx:e x=.c (.sl size (l.map f))):Det X o e μ (.c (.lit (.int .i64 l.length))) μ:=by
 have h:=det_len_sl (X:=X) (μ:=μ) ho ht hx
 rwa [lLm] at h
def qB {n_:Nat} {z_:Z} {Q_:Exit->S->Prop} {rs:List (Nat×V)} {os:Array Oper} {re:List Oper} {d_:Tmp} {μ:List E} {t:lu} {size:Nat} {l:List α} (hd:(dgO o,o.op,(ev rs) x)=(some d_,.call { callee:=.builtin .len,args:= #[x],argTypes:= #[t] },.c (.sl size (l.map f)))) (ht:fB X.P t=some (et,size,bytes)) (k_:RWP X n_ z_ os re Q_ ⟨(d_,(.c (.lit (.int .i64 l.length))))::rs,μ⟩):RWP X n_ z_ os (o::re) Q_ ⟨rs,μ⟩:=by
 simp only [aJ] at hd
 obtain ⟨h_,q0,q2⟩:=hd
 exact zAc (dgs h_).1 (dgs h_).2 (yK (e:=ev rs) q0 ht q2) k_
variable {r:List (Nat×V)}
def Weak.regs {r':List (Nat×V)} {μ:List E} (h:cR r' r):Weak ⟨r,μ⟩ ⟨r',μ⟩:=by
 intro X n z a w ⟨I,hH,hR,hx,hd,hs⟩
 refine ⟨I,hH,fun t=>?_,hx,hd,hs⟩
 rcases look_mem r' t with e|hm
 ·show VRep w I (dF r' t) _
  rw [e];trivial
 ·exact subR_mem h t _ hm w I _ (hR t)
def zDu {c:Code} {regs base:List (Nat×V)} {μ:List E} (k:Nat) (_hb:xL k regs=some base) (G:Type) (hd:G->List (Nat×V)) (hμ:G->List E) (inv:G->Prop) (m:G->Nat) (h0:∃g,inv g/\Weak ⟨regs,μ⟩ ⟨hd g++base,hμ g⟩) (round:∀g,inv g->AWP X n z c (rM (fun τ=>∃g',inv g'/\m g'<m g/\Weak τ ⟨hd g'++base,hμ g'⟩) Q) ⟨hd g++base,hμ g⟩):AWP X n z (.loop c) Q ⟨regs,μ⟩:=
 awp_loop G (fun g=>⟨hd g++base,hμ g⟩) inv m h0 round
def fn_bool {args:List V} {μ:List E} {A B:List E->Prop} (h:FnCon X c args μ fun r μ'=>(r=.c (.lit (.bool true))/\A μ')∨(r=.c (.lit (.bool false))/\B μ')):
  FnCon X c args μ fun r μ'=>∃b,r=.c (.lit (.bool b))/\(b=true->A μ')/\(b=false->B μ'):=
 h.mono fun r μ' k=>by
  rcases k with ⟨rfl,k⟩|⟨rfl,k⟩
  ·exact ⟨true,rfl,fun _=>k,fun h=>(by cases h)⟩
  ·exact ⟨false,rfl,fun h=>(by cases h),fun _=>k⟩
def zKu {K:S->Prop} {R:Exit->S->Prop} {i:Nat} (h:R (.exit i) σ):rM K R (.exit i) σ:=h
def zIv {i:Nat} {R:Exit->S->Prop} (h:R .normal σ):tP i R (.exit i) σ:=by
 simp only [tP,iU];exact h
def TD2 (X:Cfg) (n:Nat) (ops:Array Oper) (M:List E->Prop) (μ:List E):List Oper->List Bool->List (Nat×V)->(List (Nat×V)->Prop)->Prop
 |[],_,regs,K=>K regs
 |o::rest,u,regs,K=>∃r,pZ X n ops o regs μ r/\(u.headD false=true->∀μ',M μ'->pZ X n ops o regs μ' r)/\TD2 X n ops M μ rest u.tail (mU o.dst r regs) K
section rules
variable {X:Cfg} {n:Nat} {ops:Array Oper} {M:List E->Prop} {μ:List E} {o:Oper} {rest:List Oper} {u:List Bool} {regs:List (Nat×V)} {K:List (Nat×V)->Prop}
def td2_nil (h:K regs):TD2 X n ops M μ [] u regs K:=h
def zKv {r:V} {d:Tmp} (hd:o.dst=some d) (hg:o.guard=none) (h:Det X o (ev regs) μ r μ) (k:TD2 X n ops M μ rest u ((d,r)::regs) K):TD2 X n ops M μ (o::rest) (false::u) regs K:=
 ⟨r,zIq hg h,fun h=>by simp at h,by rw [hd];exact k⟩
def td2_detU (hM:M μ) {r:V} {d:Tmp} (hd:o.dst=some d) (hg:o.guard=none) (h:∀μ',M μ'->Det X o (ev regs) μ' r μ') (k:TD2 X n ops M μ rest u ((d,r)::regs) K):TD2 X n ops M μ (o::rest) (true::u) regs K:=
 ⟨r,zIq hg (h μ hM),fun _ μ' hm=>zIq hg (h μ' hm),by rw [hd];exact k⟩
end rules
def TD2.parts {X:Cfg} {n:Nat} {ops:Array Oper} {M:List E->Prop} {μ:List E} {K:List (Nat×V)->Prop}:∀{l:List Oper} {u:List Bool} {regs:List (Nat×V)},TD2 X n ops M μ l u regs K->
  ∃rs:List V,rs.length=l.length/\(∀(i:Nat) o r,l[i]? =some o->rs[i]? =some r->pZ X n ops o (fS (l.take i) (rs.take i) regs) μ r/\(u.getD i false=true->∀μ',M μ'->pZ X n ops o (fS (l.take i) (rs.take i) regs) μ' r))/\K (fS l rs regs)
 |[],u,regs,h=>⟨[],rfl,fun i o r h=>by simp at h,h⟩
 |o::l,u,regs,⟨r,hr,hu,h⟩=>by
  obtain ⟨rs,h1,h2,h3⟩:=TD2.parts h
  refine ⟨r::rs,by simp [h1],fun i o' r' ho hr'=>?_,h3⟩
  cases i with
  |zero=>
   simp at ho hr';subst ho hr'
   refine ⟨hr,fun h=>hu ?_⟩
   cases u with
   |nil=>simp at h
   |cons b u=>simpa using h
  |succ i=>
   obtain ⟨k1,k2⟩:=h2 i o' r' (by simpa using ho) (by simpa using hr')
   refine ⟨k1,fun h=>k2 ?_⟩
   cases u with
   |nil=>simp at h
   |cons b u=>simpa using h
def xM (l:List Oper) (s:Nat) (u:List Bool):Bool:=
 rZ l (s+1)&&(List.range s).all (fun i=>u.getD i false||pO l 40 s i)
def zWc {t:Nat}:∀{l:List Oper} {rs:List V} {r r':V} {f:Nat->Bool} {d:V},f rs.length=false->gY l (rs++[r]) f d t=gY l (rs++[r']) f d t
 |[],_,_,_,_,_,_=>by simp [gY]
 |o::l,[],r,r',f,d,h=>by
  simp only [lNa,gY]
  have h0:¬(f 0=true/\o.dst=some t):=fun hh=>by simp at h;rw [h] at hh;cases hh.1
  rw [aa h0,aa h0]
 |o::l,r0::rs,r,r',f,d,h=>by
  simp only [lCa,gY]
  exact zWc (by simpa using h)
def zOn {o:Oper} {r:V}:∀{l:List Oper} {rs:List V} {regs:List (Nat×V)},rs.length=l.length->fS (l++[o]) (rs++[r]) regs=mU o.dst r (fS l rs regs)
 |[],[],_,_=>rfl
 |_::l,_::rs,regs,h=>by
  simp only [lCa,fS]
  exact zOn (by simpa using h)
 |[],_::_,_,h=>by simp at h
 |_::_,[],_,h=>by simp at h
section draw
variable {X:Cfg} {n:Nat} {z:Z} {Q:Exit->S->Prop} {regs:List (Nat×V)} {μ:List E} {l:List Oper} {s:Nat} {M:List E->Prop}
def unl_all {listed:Array Bool} {m L:Nat} (hsz:listed.size=L) (hm:m<=L) (hq:∀i,i<m->listed.getD i true=true) (ht:∀i,m<=i->i<L->listed.getD i true=false):unl listed=L-m:=by
 unfold unl
 have:listed.toList=(List.range L).map fun i=>decide (i<m):=by
  apply gn
  intro i
  by_cases hi:i<L
  ·have h1:listed.toList[i]? =some (listed.getD i true):=by
    rw [am,kf,aD zA];rfl
   rw [h1,bu,ee hi]
   simp only [cw,ap]
   by_cases him:i<m
   ·rw [hq i him];simp [him]
   ·rw [ht i zA hi];simp [him]
  ·rw [du uE,du uE]
 rw [this]
 clear this hsz hq ht
 induction L with
 |zero=>simp
 |succ N ihN=>
  exact s8
def draw_s {z1:Z} (hz:ZLe z z1) (ok:DrawOk l (s+1)) (hsl:s<l.length) (hdst:l.all (dstOk n)=true) {os:Oper} (hos:l[s]? =some os) {u:List Bool} (hedS:∀i,i<s->u.getD i false=false->pO l 40 s i=true) (hgS:os.guard=none)
  {rs:List V} (hrs:rs.length=s) {R:V->List E->Prop} (hRM:∀r μ1,R r μ1->M μ1)
  (hg:∀(i:Nat) o r,(l.take s)[i]? =some o->rs[i]? =some r->pZ X n l.toArray o (fS ((l.take s).take i) (rs.take i) regs) μ r/\(u.getD i false=true->∀μ',M μ'->pZ X n l.toArray o (fS ((l.take s).take i) (rs.take i) regs) μ' r))
  (hS:OpE X os (ev (fS (l.take s) rs regs)) μ R)
  (hk:∀r μ1,R r μ1->RWP X n z l.toArray (l.drop (s+1)) Q ⟨mU os.dst r (fS (l.take s) rs regs),μ1⟩):∀(fuel:Nat) (listed:Array Bool) (a:Act) (w:World) (I:Nat->Prop) (rS:V) (μc:List E),listed.size=l.length->unl listed=fuel->(∀i,s+1<=i->i<l.length->listed.getD i true=false)->
   (∀(j:Nat) o,l[j]? =some o->listed.getD j true=true->∀e,e∈o.after->Region.binds .any e=true->listed.getD e.on false=true)->
   (listed.getD s true=true->R rS μc)->(listed.getD s true=false->μc=μ)->
   Heap X w I μc->(∀t,VRep w I (gY (l.take (s+1)) (rs++[rS]) (fun i=>listed.getD i true) (dF regs t) t) (a.tmps.getD t undef))->Ext z1.w z1.I z1.μ w I μc->a.defers=z1.ds->a.tmps.size=n->
   wpAnyIn (fen z.rd) 0 X.P .any l.toArray (gU X n z1 Q) fuel listed a w:=by
 intro fuel
 have hts:l.take (s+1)=l.take s++[os]:=yR hos
 induction fuel with
 |zero=>
  intro listed a w I rS μc hsz hun htail hclo hl1 hl0 hH hR hx hd hs
  have hall:∀i,i<l.length->listed.getD i true=true:=by
   intro i hi
   cases hb:listed.getD i true with
   |true=>rfl
   |false=>have:=zRu hb;omega
  have hml':s+1=l.length:=by
   rcases eg (s+1) l.length with h|h
   ·have h1:=htail (s+1) (aH _) h;rw [hall _ h] at h1;cases h1
   ·omega
  refine zIs ok 0 l.length listed a w hsz zA (aH _) (fun i hi=>by rw [hall i hi];simp [hi]) zA ?_
  have hreg:∀t,VRep w I (dF (mU os.dst rS (fS (l.take s) rs regs)) t) (a.tmps.getD t undef):=by
   intro t
   have e:=zDk (l:=l.take (s+1)) (rs:=rs++[rS]) (regs:=regs) (t:=t) (s+1)
   rw [fb,iY,aS (l:=rs++[rS]) uE,hts,zOn uE] at e
   rw [e,←hts]
   have:=hR t
   rwa [zDg (g:=fun j=>decide (j<s+1)) (fun i o ho _=>by
    have hlt:i<s+1:=by have:=(ai.1 ho).1;simp at this;omega
    rw [hall i zA];simp [hlt])] at this
  have:=hk rS μc (hl1 (hall s hsl)) (by rw [hml'];simp) z1 hz a w ⟨I,hH,hreg,hx,hd,hs⟩
  rwa [hml'] at this
 |succ fuel ih=>
  intro listed a w I rS μc hsz hun htail hclo hl1 hl0 hH hR hx hd hs
  by_cases hq:∀i,i<s+1->listed.getD i true=true
  ·refine zIs ok (fuel+1) (s+1) listed a w hsz (aH _) zA (fun i hi=>?_) ?_ ?_
   ·by_cases him:i<s+1
    ·rw [hq i him];simp [him]
    ·rw [htail i zA hi];simp [him]
   ·have:=unl_all hsz zA hq htail
    omega
   ·have hreg:∀t,VRep w I (dF (mU os.dst rS (fS (l.take s) rs regs)) t) (a.tmps.getD t undef):=by
     intro t
     have e:=zDk (l:=l.take (s+1)) (rs:=rs++[rS]) (regs:=regs) (t:=t) (s+1)
     rw [fb,iY,aS (l:=rs++[rS]) uE,hts,zOn uE] at e
     rw [e,←hts]
     have:=hR t
     rwa [zDg (g:=fun j=>decide (j<s+1)) (fun i o ho _=>by
      have hlt:i<s+1:=by have:=(ai.1 ho).1;simp at this;omega
      rw [hq i hlt];simp [hlt])] at this
    exact hk rS μc (hl1 (hq s zA)) (by
     rw [lAe] at hdst⊢
     exact fun o ho=>hdst o (lMd ho)) z1 hz a w ⟨I,hH,hreg,hx,hd,hs⟩
  ·have hex:∃i,i<s+1/\listed.getD i true=false/\∀j,j<i->listed.getD j true=true:=by
    have:∃i,i<s+1/\listed.getD i true=false:=by
     rcases iL.1 hq with ⟨i,hi⟩
     rcases ja.1 hi with ⟨h1,h2⟩
     exact ⟨i,h1,by cases hb:listed.getD i true;rfl;exact absurd hb h2⟩
    obtain ⟨i,hi,hb⟩:=this
    have strong:∀N i,i<N->i<s+1->listed.getD i true=false->∃i,i<s+1/\listed.getD i true=false/\∀j,j<i->listed.getD j true=true:=by
     intro N
     induction N with
     |zero=>intro i h;omega
     |succ N ihN=>
      exact o6
    exact strong (i+1) i zA hi hb
   obtain ⟨i0,hi0,hb0,hmin⟩:=hex
   refine ⟨fun hnil=>?_,fun i hi=>?_⟩
   ·exact m6
   ·rw [ic] at hi
    obtain ⟨hbi,o,ho,hedge⟩:=hi
    have ho':l[i]? =some o:=by simpa using ho
    have hil:i<l.length:=(ai.1 ho').1
    have him:i<s+1:=by
     rcases eg i (s+1) with h|h
     ·exact h
     ·exfalso
      have hun:∀j,j<l.length->listed.getD j true=false->¬listed.getD j false=true:=fun j hj h1 h2=>by
       rw [am] at h1 h2
       rw [aD zA] at h1 h2
       simp only [cd] at h1 h2
       rw [h2] at h1
       cases h1
      rcases eg (s+1) i with hgt|hge
      ·obtain ⟨e,he1,he2,he3⟩:=ok.tail1 i o ho' hgt
       have h1:=hedge e he1 he3
       rw [he2] at h1
       exact hun (i-1) zA (htail (i-1) zA zA) h1
      ·have him:i=s+1:=by omega
       subst him
       exact hun i0 zA hb0 (zJm hclo ho' hedge (ok.tail0 o ho' i0 hi0))
    have hot:(l.take (s+1))[i]? =some o:=by rw [bp,ab him];exact ho'
    have hlook:∀t,t∈o.looksAt l.toArray->VRep w I (dF (fS ((l.take (s+1)).take i) ((rs++[rS]).take i) regs) t) (a.tmps.getD t undef):=by
     intro t ht
     rw [zDk (l:=l.take (s+1)) (rs:=rs++[rS]) (regs:=regs) (t:=t) i]
     have:=hR t
     rwa [zDg (g:=fun j=>decide (j<i)) (fun j oj hoj hdj=>by
      have hjm:j<s+1:=by have:=(ai.1 hoj).1;simp at this;omega
      have hoj':l[j]? =some oj:=by rw [bp,ab hjm] at hoj;exact hoj
      rcases ok.looks i o ho' him t ht j oj hoj' hjm hdj with ⟨hji,e,he1,he2,he3⟩|⟨hij,e,he1,he2,he3⟩
      ·exact v24
      ·have hnot:¬j<i:=by omega
       cases hb:listed.getD j true with
       |false=>simp [hnot]
       |true=>
        exfalso
        have h1:=hclo j oj hoj' hb e he1 he3
        rw [he2,am,aD zA] at h1
        rw [am,aD zA] at hbi
        simp only [cd] at h1 hbi
        rw [h1] at hbi
        cases hbi)] at this
    have hdo:dstOk n o=true:=by
     rw [lAe] at hdst
     exact hdst o (bg ho')
    simp only [wpOpIn,ho]
    have step:∀(rS':V) (μ':List E) (r:V),(rs++[rS'])[i]? =some r->(i≠s->rS'=rS/\μ'=μc)->(i=s->R rS' μ')->∀v I' w',VRep w' I' r v->Heap X w' I' μ'->Ext w I μc w' I' μ'->
      wpAnyIn (fen z.rd) 0 X.P .any l.toArray (gU X n z1 Q) fuel (listed.setIfInBounds i true) (a.put o.dst v) w':=by
     intro rS' μ' r hr hne hsR v I' w' hv hH' hx'
     have hu:=zRu hbi
     have hget:∀j,(listed.setIfInBounds i true).getD j true=if j=i then true else listed.getD j true:=by
      intro j
      exact v33
     refine ih (listed.setIfInBounds i true) _ w' I' rS' μ' (by simp [hsz]) zA (fun j hj hjl=>?_) (fun j oj hoj hb e he1 he3=>?_) (fun h=>?_) (fun h=>?_) hH' (fun t=>?_) (hx.trans hx') ?_ ?_
     ·rw [im true zA];exact htail j hj hjl
     ·exact r7
     ·by_cases his:i=s
      ·exact hsR his
      ·obtain ⟨e1,e2⟩:=hne his
       subst e1 e2
       rw [hget s,aa (fun h=>his h.symm)] at h
       exact hl1 h
     ·by_cases his:i=s
      ·subst his;rw [hget i,ab rfl] at h;cases h
      ·obtain ⟨e1,e2⟩:=hne his
       subst e1 e2
       rw [hget s,aa (fun h=>his h.symm)] at h
       exact hl0 h
     ·have hvs:=zRt (t:=t) (l:=l.take (s+1)) (rs:=rs++[rS']) (f:=fun j=>listed.getD j true) (d:=dF regs t) hot hr (fun j o' hj hne hnn=>by
       have hjm:j<s+1:=by have:=(ai.1 hj).1;simp at this;omega
       exact ok.own i o ho' him j o' (by rw [bp,ab hjm] at hj;exact hj) hjm hne hnn)
      have e1:(fun j=>(listed.setIfInBounds i true).getD j true)=(fun j=>if j=i then true else listed.getD j true):=funext hget
      have e2:(fun j=>if j=i then false else listed.getD j true)=(fun j=>listed.getD j true):=by
       funext j
       by_cases hji:j=i
       ·subst hji;rw [ab rfl,hbi]
       ·rw [aa hji]
      have e3:gY (l.take (s+1)) (rs++[rS']) (fun j=>listed.getD j true) (dF regs t) t=gY (l.take (s+1)) (rs++[rS]) (fun j=>listed.getD j true) (dF regs t) t:=by
       by_cases his:i=s
       ·exact zWc (by rw [hrs,←his];exact hbi)
       ·rw [(hne his).1]
      rw [e1,hvs,e2,e3]
      cases hod:o.dst with
      |none=>
       rw [aa uD]
       exact hH.vrep hx' (hR t)
      |some d=>
       exact v18
     ·cases hod:o.dst<;>simp [Act.put,hd]
     ·cases hod:o.dst<;>simp [Act.put,hs]
    by_cases his:i=s
    ·-- the operation that changes memory
     subst his
     have eo:o=os:=by rw [ho'] at hos;exact Option.some.inj hos
     subst eo
     have hμ:=hl0 hbi
     subst hμ
     have e1:(l.take (i+1)).take i=l.take i:=by rw [fb,bw zA]
     have e2:(rs++[rS]).take i=rs:=by rw [dz zA,aS zA]
     rw [e1,e2] at hlook
     rw [ab (by simp [Region.wanted,hgS])]
     refine hS a w I hH (ev_looks hlook) _ _ ?_ (dstOk.nd hdo) _
     intro v r μ' I' w' hr hv hH' hx'
     exact step r μ' r (by rw [dl zA];simp [hrs]) (fun h=>absurd rfl h) (fun _=>hr) v I' w' hv hH' hx'
    ·have his':i<s:=by omega
     have e1:(l.take (s+1)).take i=(l.take s).take i:=by rw [fb,fb,bw zA,bw zA]
     have e2:(rs++[rS]).take i=rs.take i:=dz zA
     rw [e1,e2] at hlook
     obtain ⟨r,hr⟩:∃r,rs[i]? =some r:=⟨rs[i]'zA,ak _⟩
     obtain ⟨g1,g2⟩:=hg i o r (by rw [bp,ab his'];exact ho') hr
     have hG:pZ X n l.toArray o (fS ((l.take s).take i) (rs.take i) regs) μc r:=by
      cases hb:listed.getD s true with
      |false=>rw [hl0 hb];exact g1
      |true=>
       cases hu:u.getD i false with
       |true=>exact g2 hu _ (hRM _ _ (hl1 hb))
       |false=>
        exfalso
        have h1:=zLn hclo 40 s i (hedS i his' hu) hb
        rw [am,aD zA] at h1
        rw [am,aD zA] at hbi
        simp only [cd] at h1 hbi
        rw [h1] at hbi
        cases hbi
     have hG':=hG a w I hH hlook hs (wpAnyIn (fen z.rd) 0 X.P .any l.toArray (gU X n z1 Q) fuel (listed.setIfInBounds i true)) (gU X n z1 Q)
      (fun v I' w' hv hH' hx'=>step rS μc r (by rw [dt zA];exact hr) (fun _=>⟨rfl,rfl⟩) (fun h=>absurd h his) v I' w' hv hH' hx')
     exact v13
def awp_draw_s {id:Nat} (s:Nat) (u:List Bool) (M:List E->Prop) {os:Oper} (hm:X.P.follows .mixedOrders=true) (hchk:xM l s u=true) (hos:nth l s=some os) (hgS:os.guard=none) (hd:l.all (dstOk n)=true)
  (h:TD2 X n l.toArray M μ (l.take s) u regs fun regs'=>∃R,OpE X os (ev regs') μ R/\(∀r μ1,R r μ1->M μ1)/\∀r μ1,R r μ1->RWP X n z l.toArray (l.drop (s+1)) Q ⟨mU os.dst r regs',μ1⟩):AWP X n z (.region id l.toArray true) Q ⟨regs,μ⟩:=by
 intro z1 hz a w st
 obtain ⟨I,hH,hR,hx,hdf,hs⟩:=st.drew
 obtain ⟨rs,h1,h2,R,h3,h4,h5⟩:=h.parts
 rw [zGp] at hos
 have hsl:s<l.length:=(ai.1 hos).1
 simp only [xM,ae] at hchk
 refine ji hm ?_
 refine draw_s hz (rs:=rs) (regs:=regs) (u:=u) (M:=M) (drawOk hchk.1) hsl hd hos (fun i hi hu=>?_) hgS (by rw [h1];simp;omega) h4 h2 h3 h5 _ _ a _ I .un μ uD ?_ (fun i _ hi=>by simp [hi]) (fun j o ho hb=>by
  have hlt:j<l.length:=(ai.1 ho).1
  simp [hlt] at hb) (fun hb=>by simp [hsl] at hb) (fun _=>rfl) hH (fun t=>?_) hx hdf hs
 ·have:=ax.1 hchk.2 i (cn.2 hi)
  rwa [hu,eu] at this
 ·unfold unl
  simp
 ·rw [zIc fun i o ho hf=>by
   have hlt:i<l.length:=by have:=(ai.1 ho).1;simp at this;omega
   simp [hlt] at hf]
  exact hR t
end draw
def iD:List E->Prop:=fun _=>True
variable {rest:List Oper} {d:Tmp}
def td2_detA {μ:List E} {u:List Bool} {regs:List (Nat×V)} {K:List (Nat×V)->Prop} {r:V} (hd:o.dst=some d) (hg:o.guard=none) (h:∀μ',Det X o (ev regs) μ' r μ') (k:TD2 X n ops iD μ rest u ((d,r)::regs) K):TD2 X n ops iD μ (o::rest) (true::u) regs K:=
 td2_detU trivial hd hg (fun μ' _=>h μ') k
def zIk {μ:List E} {t ty:lu} {size:Nat} {rows:List (List C)} {y:lv} (ho:o.op=.binOp .eql t x y ty) (ht:fB X.P t=some (et,size,bytes)) (hx:e x=.c (.sl n rows)) (hy:e y=.c (.lit (.slice none 0 0))):
  OpE X o e μ fun r μ'=>∃b:Bool,r=.c (.lit (.bool b))/\(b=true->rows=[])/\μ'=μ:=by
 intro a w I hH hops K Q k
 obtain ⟨hu,_⟩:=kT ht
 have hxv:=hops x (by rw [ho];simp [Op.operands])
 have hyv:=hops y (by rw [ho];simp [Op.operands])
 rw [hx] at hxv
 rw [hy] at hyv
 have h2:=hyv.lit_inv
 have hxv':CRep w I (.sl n rows) (a.eval x):=hxv
 obtain ⟨ad,len,cap,hv,hn⟩:∃ad len cap,a.eval x=.slice ad len cap/\(ad.isNone=true->rows=[]):=by
  generalize a.eval x=v at hxv'
  cases hxv' with
  |nil _ ad cap=>exact ⟨ad,0,cap,rfl,fun _=>rfl⟩
  |sl _ _ ad cap us hI hl' hcap hc hr=>exact ⟨some ad,rows.length,cap,rfl,fun h=>by simp at h⟩
 refine zCa (v:=.bool ad.isNone) (w':=w) ?_ (k _ _ μ I w ⟨ad.isNone,rfl,hn,rfl⟩ (CRep.lit _ rfl) hH (Ext.refl _ _ _))
 have h3:=run_equal_slice_nil w (P:=X.P) t et ad len cap hu
 have h4:(binOp .eql t (.slice ad len cap) (.slice none 0 0)).run X.P w=.ok (.bool ad.isNone) w:=by
  simp only [binOp];simp [h3]
 have h5:(eqGuard .eql t x y (.slice ad len cap) (.slice none 0 0)).run X.P w=.ok () w:=by simp [eqGuard]
 simp only [execOp,ho,hv,h2,aP,h5,h4,aA,aU]
inductive Kd where
 |q
 |u
 |f
def Kd.fr:Kd->Bool
 |.f=>true
 |_=>false
def Kd.fl:Kd->Bool
 |.u=>true
 |_=>false
def kd (ks:List Kd) (i:Nat):Kd:=ks.getD i .q
def sO (X:Cfg) (o:Oper) (e:lv->V) (Rf:V->E->Prop):Prop:=OpE X o e [] fun r μ'=>∃en,Rf r en/\μ'=[en]
def TDq (X:Cfg) (n:Nat) (ops:Array Oper) (M:List E->Prop) (μ:List E):List Oper->List Kd->List (Nat×V)->(List (Nat×V)->Prop)->Prop
 |[],_,regs,K=>K regs
 |_::rest,.f::ks,regs,K=>TDq X n ops M μ rest ks regs K
 |o::rest,.q::ks,regs,K=>∃r,pZ X n ops o regs μ r/\TDq X n ops M μ rest ks (mU o.dst r regs) K
 |o::rest,.u::ks,regs,K=>∃r,(pZ X n ops o regs μ r/\∀μ',M μ'->pZ X n ops o regs μ' r)/\TDq X n ops M μ rest ks (mU o.dst r regs) K
 |_::_,[],_,_=>False
def TDf (X:Cfg) (regs:List (Nat×V)):List Oper->List Kd->List (Option Tmp×(V->E->Prop))->(List (Option Tmp×(V->E->Prop))->Prop)->Prop
 |[],_,acc,K=>K acc
 |o::rest,.f::ks,acc,K=>∃Rf,sO X o (ev regs) Rf/\TDf X regs rest ks (acc++[(o.dst,Rf)]) K
 |_::rest,_::ks,acc,K=>TDf X regs rest ks acc K
 |_::_,[],_,_=>False
def AllCh:List (Option Tmp×(V->E->Prop))->List (Nat×V)->List E->(List (Nat×V)->List E->Prop)->Prop
 |[],regs,ν,K=>K regs ν
 |(d,Rf)::acc,regs,ν,K=>∀v en,Rf v en->AllCh acc (mU d v regs) (en::ν) K
/-! ### what they leave in the registers -/
def cC:List Oper->List Kd->List V->List (Nat×V)->List (Nat×V)
 |o::l,k::ks,r::rs,regs=>cC l ks rs (bif k.fr then regs else mU o.dst r regs)
 |_,_,_,regs=>regs
def xD:List Oper->List Kd->List V->List (Nat×V)->List (Nat×V)
 |o::l,k::ks,r::rs,regs=>xD l ks rs (bif k.fr then mU o.dst r regs else regs)
 |_,_,_,regs=>regs
def xJ:List Kd->List E->List E->List E
 |k::ks,en::es,ν=>xJ ks es (bif k.fr then en::ν else ν)
 |_,_,ν=>ν
def TDq.parts {X:Cfg} {n:Nat} {ops:Array Oper} {M:List E->Prop} {μ:List E} {K:List (Nat×V)->Prop}:∀{l:List Oper} {ks:List Kd} {regs:List (Nat×V)},ks.length=l.length->TDq X n ops M μ l ks regs K->
  ∃rs:List V,rs.length=l.length/\(∀(i:Nat) o r,l[i]? =some o->rs[i]? =some r->(kd ks i).fr=false->pZ X n ops o (cC (l.take i) (ks.take i) (rs.take i) regs) μ r/\((kd ks i).fl=true->∀μ',M μ'->pZ X n ops o (cC (l.take i) (ks.take i) (rs.take i) regs) μ' r))/\K (cC l ks rs regs)
 |[],ks,regs,_,h=>⟨[],rfl,fun i o r h=>by simp at h,by cases ks<;>exact h⟩
 |o::l,.f::ks,regs,hl,h=>by
  obtain ⟨rs,h1,h2,h3⟩:=TDq.parts (by simpa using hl) (show TDq X n ops M μ l ks regs K from h)
  refine ⟨.un::rs,by simp [h1],fun i o' r' ho hr' hk=>?_,h3⟩
  cases i with
  |zero=>simp [kd,Kd.fr] at hk
  |succ i=>exact h2 i o' r' (by simpa using ho) (by simpa using hr') (by simpa [kd] using hk)
 |o::l,.q::ks,regs,hl,h=>by
  obtain ⟨r,hr,h⟩:=h
  obtain ⟨rs,h1,h2,h3⟩:=TDq.parts (by simpa using hl) h
  refine ⟨r::rs,by simp [h1],fun i o' r' ho hr' hk=>?_,h3⟩
  cases i with
  |zero=>simp at ho hr';subst ho hr';exact ⟨hr,fun h=>by simp [kd,Kd.fl] at h⟩
  |succ i=>exact h2 i o' r' (by simpa using ho) (by simpa using hr') (by simpa [kd] using hk)
 |o::l,.u::ks,regs,hl,h=>by
  obtain ⟨r,hr,h⟩:=h
  obtain ⟨rs,h1,h2,h3⟩:=TDq.parts (by simpa using hl) h
  refine ⟨r::rs,by simp [h1],fun i o' r' ho hr' hk=>?_,h3⟩
  cases i with
  |zero=>simp at ho hr';subst ho hr';exact ⟨hr.1,fun _=>hr.2⟩
  |succ i=>exact h2 i o' r' (by simpa using ho) (by simpa using hr') (by simpa [kd] using hk)
 |_::_,[],_,hl,_=>by simp at hl
def AllCh.cons {d:Option Tmp} {Rf:V->E->Prop} {acc:List (Option Tmp×(V->E->Prop))}:∀{pre:List (Option Tmp×(V->E->Prop))} {regs:List (Nat×V)} {ν:List E} {K:List (Nat×V)->List E->Prop},AllCh (pre++(d,Rf)::acc) regs ν K->AllCh pre regs ν fun regs' ν'=>∀v en,Rf v en->AllCh acc (mU d v regs') (en::ν') K
 |[],_,_,_,h=>h
 |(_,_)::_,_,_,_,h=>fun v en hv=>AllCh.cons (h v en hv)
def TDf.parts {X:Cfg} {regs0:List (Nat×V)} {K:List (Option Tmp×(V->E->Prop))->Prop}:∀{l:List Oper} {ks:List Kd} {acc:List (Option Tmp×(V->E->Prop))},ks.length=l.length->TDf X regs0 l ks acc K->
  ∃Rfs:List (V->E->Prop),Rfs.length=l.length/\(∀(i:Nat) o Rf,l[i]? =some o->Rfs[i]? =some Rf->(kd ks i).fr=true->sO X o (ev regs0) Rf)/\
   ∃more,K (acc++more)/\∀{regs:List (Nat×V)} {ν:List E} {K':List (Nat×V)->List E->Prop} {rs:List V} {es:List E},rs.length=l.length->es.length=l.length->(∀(i:Nat) r en Rf,rs[i]? =some r->es[i]? =some en->Rfs[i]? =some Rf->(kd ks i).fr=true->Rf r en)->AllCh more regs ν K'->K' (xD l ks rs regs) (xJ ks es ν)
 |[],ks,acc,hl,h=>by
  obtain rfl:ks=[]:=by simpa using hl
  refine ⟨[],rfl,fun i o r h=>by simp at h,[],by rw [lAn];exact h,?_⟩
  intro regs ν K' rs es hr he _ hc
  exact hc
 |o::l,.f::ks,acc,hl,h=>by
  obtain ⟨Rf,hf,h⟩:=h
  obtain ⟨Rfs,h1,h2,more,h3,h4⟩:=TDf.parts (by simpa using hl) h
  refine ⟨Rf::Rfs,by simp [h1],fun i o' Rf' ho hr' hk=>?_,(o.dst,Rf)::more,by simpa using h3,?_⟩
  ·cases i with
   |zero=>simp at ho hr';subst ho hr';exact hf
   |succ i=>exact h2 i o' Rf' (by simpa using ho) (by simpa using hr') (by simpa [kd] using hk)
  ·intro regs ν K' rs es hr he hall hc
   cases rs with
   |nil=>simp at hr
   |cons r rs=>
    cases es with
    |nil=>simp at he
    |cons en es=>
     have h0:=hall 0 r en Rf rfl rfl rfl (by simp [kd,Kd.fr])
     simp only [xD,xJ,Kd.fr,ay]
     exact h4 (by simpa using hr) (by simpa using he) (fun i r' en' Rf' a b c d=>hall (i+1) r' en' Rf' (by simpa using a) (by simpa using b) (by simpa using c) (by simpa [kd] using d)) (hc r en h0)
 |o::l,.q::ks,acc,hl,h=>by
  exact r9
 |o::l,.u::ks,acc,hl,h=>by
  exact r9
 |_::_,[],_,hl,_=>by simp at hl
/-! ### memory -/
section draw
variable {X:Cfg} {n:Nat} {z:Z} {Q:Exit->S->Prop} {regs:List (Nat×V)} {μ:List E} {l:List Oper} {s:Nat} {M:List E->Prop} {ks:List Kd}
end draw
section rules
variable {X:Cfg} {n:Nat} {ops:Array Oper} {M:List E->Prop} {μ:List E} {o:Oper} {rest:List Oper} {ks:List Kd} {regs:List (Nat×V)} {K:List (Nat×V)->Prop}
end rules
def zFg {t:lu} {cells:List C} (h:OpE X o e [] fun r μ'=>∃b,r=.c (.lit (.pointer (some ⟨b,0,none⟩)))/\μ'=[.row b t cells]):sO X o e fun r en=>∃b,r=.c (.lit (.pointer (some ⟨b,0,none⟩)))/\en=.row b t cells:=
 h.mono fun _ _ ⟨b,h2,h3⟩=>⟨.row b t cells,⟨b,h2,rfl⟩,h3⟩
section rules2
variable {X:Cfg} {n:Nat} {ops:Array Oper} {μ:List E} {p:Nat} {o:Oper} {rest:List Oper} {ks:List Kd} {regs:List (Nat×V)} {K:List (Nat×V)->Prop}
end rules2
def eZ (regs:List (Nat×V)) (o:Oper):Option (Tmp×C):=
 match o.op,o.dst,o.guard with
 |.move x,some d,none=>(match ev regs x with|.c c=>some (d,c)|_=>none)
 |.assign x,some d,none=>(match ev regs x with|.c c=>some (d,c)|_=>none)
 |_,_,_=>none
def mvOf_parts {regs:List (Nat×V)} (h:eZ regs o=some (d,c)):o.dst=some d/\o.guard=none/\∃x,(o.op=.move x∨o.op=.assign x)/\ev regs x=.c c:=by
 unfold eZ at h
 split at h
 ·rename_i x d' h1 h2 h3
  split at h
  ·rename_i c' h4
   simp only [ap,aJ] at h
   exact ⟨by rw [h2,h.1],h3,x,.inl h1,by rw [h4,h.2]⟩
  ·cases h
 ·rename_i x d' h1 h2 h3
  split at h
  ·rename_i c' h4
   simp only [ap,aJ] at h
   exact ⟨by rw [h2,h.1],h3,x,.inr h1,by rw [h4,h.2]⟩
  ·cases h
 ·cases h
def zJ {a:V}:VLe a a:=VLe.refl a
def zW {regs:List (Nat×V)} {μ μ':List E} {r:V} (hd:dgO o=some d) (h:Det X o (ev regs) μ r μ') (k:RWP X n z ops rest Q ⟨(d,r)::regs,μ'⟩):RWP X n z ops (o::rest) Q ⟨regs,μ⟩:=by
 exact zAc (dgs hd).1 (dgs hd).2 h k
variable {t:Nat}
def zS {P:Program} {regs:List (Nat×V)} {μ:List E} {y:C} {Q:V->List E->Prop} (h:dF regs t=.c y) (hq:Q (.c y) μ):fK P [.tmp t] Q .ret ⟨regs,μ⟩:=fin1 (rs_c h) hq
def A {regs:List (Nat×V)} {μ:List E} (h:eZ regs o=some (d,c)) (k:RWP X n z ops rest Q ⟨(d,.c c)::regs,μ⟩):RWP X n z ops (o::rest) Q ⟨regs,μ⟩:=by
 obtain ⟨h1,h2,x,h3,h4⟩:=mvOf_parts h
 rcases h3 with h3|h3
 ·exact zAc h1 h2 (zO h3 h4) k
 ·exact zAc h1 h2 (qY h3 h4) k
variable {id:Nat} {y:Code}
def G (hd:l.all (dstOk n)=true) (h:RWP X n z l.toArray l (rM (AWP X n z y Q) Q) σ):AWP X n z (.seq (.region id l.toArray false) y) Q σ:=zG (zT hd h)
def ml {u:List E} (hd:[o].all (dstOk n)=true) (h:eZ r o=some (d,c)) (k:rM (AWP X n z y Q) Q .normal ⟨(d,.c c)::r,u⟩):AWP X n z (.seq (.region id [o].toArray false) y) Q ⟨r,u⟩:=G hd (A h (Y k))
def mm {u:List E} {os:Array Oper} (h:eZ r o=some (d,c)) (k:Q .normal ⟨(d,.c c)::r,u⟩):RWP X n z os [o] Q ⟨r,u⟩:=A h (Y k)
def mo {u:List E} (hd:(o::l).all (dstOk n)=true) (h:eZ r o=some (d,c)) (k:RWP X n z (o::l).toArray l (rM (AWP X n z y Q) Q) ⟨(d,.c c)::r,u⟩):AWP X n z (.seq (.region id (o::l).toArray false) y) Q ⟨r,u⟩:=G hd (A h k)
def cX (n:Nat) (ops:Array Oper) (o:Oper):Option (Nat×Nat×Bool×Nat):=
 match o.dst,o.guard with
 |some t,some (j,want)=>(match (ops[j]?).bind (·.dst) with|some d=>bif Nat.blt d n then some (t,j,want,d) else none|none=>none)
 |_,_=>none
variable {want:Bool} {j:Nat}
def lzOf_parts {d:Nat} (h:cX n ops o=some (t,j,want,d)):o.dst=some t/\o.guard=some (j,want)/\(ops[j]?).bind (·.dst)=some d/\Nat.blt d n=true:=by
 unfold cX at h
 split at h
 ·rename_i t' j' w' h1 h2
  split at h
  ·rename_i d' h3
   cases c:Nat.blt d' n with
   |false=>rw [c] at h;cases h
   |true=>
    rw [c] at h
    simp only [ay,ap,aJ] at h
    obtain ⟨e1,e2,e3,e4⟩:=h
    subst e1 e2 e3 e4
    exact ⟨h1,h2,h3,c⟩
  ·cases h
 ·cases h
def rLz {regs:List (Nat×V)} {μ:List E} {r:V} {d:Nat} {g:Bool} (ov:List (Nat×V)) (hl:cX n ops o=some (t,j,want,d)) (hb:mN (dF regs d) want g) (hov:xR g regs ov) (h:g=true->Det X o (ev (ov++regs)) μ r μ) (hpl:r.plain=true) (k:RWP X n z ops rest Q ⟨(t,.ifv g r)::regs,μ⟩):RWP X n z ops (o::rest) Q ⟨regs,μ⟩:=by
 obtain ⟨h1,h2,h3,h4⟩:=lzOf_parts hl
 exact rwp_lazy ov h1 h2 h3 h4 hb hov h hpl k
def rL0 {regs:List (Nat×V)} {μ:List E} {r:V} {d:Nat} (hl:(cX n ops o,dF regs d)=(some (t,j,want,d),.c (.lit (.bool b)))) (h:Lz b want=true->Det X o (ev regs) μ r μ) (hpl:r.plain=true) (k:RWP X n z ops rest Q ⟨(t,.ifv (Lz b want) r)::regs,μ⟩):RWP X n z ops (o::rest) Q ⟨regs,μ⟩:=by
 simp only [aJ] at hl
 exact rLz [] hl.1 (by rw [hl.2];exact gv1) trivial h hpl k
def rL1 {regs:List (Nat×V)} {μ:List E} {r y:V} {d:Nat} (a:Nat) (hl:(cX n ops o,dF regs d,dF regs a,y.plain)=(some (t,j,want,d),.c (.lit (.bool b)),.ifv (Lz b want) y,true)) (h:Lz b want=true->Det X o (ev ([(a,y)]++regs)) μ r μ) (hpl:r.plain=true) (k:RWP X n z ops rest Q ⟨(t,.ifv (Lz b want) r)::regs,μ⟩):RWP X n z ops (o::rest) Q ⟨regs,μ⟩:=by
 simp only [aJ] at hl
 exact rLz [(a,y)] hl.1 (by rw [hl.2.1];exact gv1) ⟨hl.2.2.1,hl.2.2.2,trivial⟩ h hpl k
def rT:List Nat->List E->Option (List E×List E)
 |[],μ=>some ([],μ)
 |p::ps,μ=>match nth μ p with
  |some e=>match rT ps (pV μ p) with
   |some (a,b)=>some (e::a,b)
   |none=>none
  |none=>none
def iB:List E->Nat->E->List E
 |l,0,y=>y::l
 |[],_+1,y=>[y]
 |x::l,i+1,y=>x::iB l i y
def tC:List Nat->List E->List E->List E
 |p::ps,e::a,b=>iB (tC ps a b) p e
 |[],a,b=>a++b
 |_::_,[],b=>b
def zIi:∀{ps:List Nat} {μ a b:List E},rT ps μ=some (a,b)->μ.Perm (a++b)
 |[],μ,a,b,h=>by simp only [rT,ap,aJ] at h;obtain ⟨rfl,rfl⟩:=h;exact bh _
 |p::ps,μ,a,b,h=>by
  unfold rT at h
  split at h
  ·rename_i e he
   split at h
   ·rename_i a' b' hq
    simp only [ap,aJ] at h
    obtain ⟨rfl,rfl⟩:=h
    exact (zHm he).trans ((zIi hq).cons e)
   ·cases h
  ·cases h
def insN_perm (y:E):∀(l:List E) (i:Nat),(iB l i y).Perm (y::l)
 |l,0=>by cases l<;>exact bh _
 |[],_+1=>bh _
 |x::l,i+1=>((insN_perm y l i).cons x).trans (List.Perm.swap y x l)
def zIz:∀(ps:List Nat) (a b:List E),(tC ps a b).Perm (a++b)
 |p::ps,e::a,b=>(insN_perm e _ p).trans ((zIz ps a b).cons e)
 |[],a,b=>bh _
 |_::_,[],b=>bh _
section
variable {X:Cfg} {o:Oper} {e:lv->V} {μ:List E}
def OpE.det_perm {r:V} {a b:List E} (h:OpE X o e μ fun r' μ'=>r'=r/\μ'=a) (p:a.Perm b):Det X o e μ r b:=by
 intro a' w I hH hops K Q k
 refine h a' w I hH hops K Q ?_
 rintro v r' μ' I' w' ⟨rfl,rfl⟩ hv hH' x
 exact k v r' b I' w' ⟨rfl,rfl⟩ hv (hH'.perm p) (x.perm (bh _) p)
def zMg {f:FuncId} {arg_:List lv} {ts:Array lu} {args:List V} {μf μf' φ:List E} {r:V} (ps:List Nat) (ho:o.op=.call { callee:=.value (.func f),args:=arg_.toArray,argTypes:=ts }) (hf:bA X.P f=true)
  (hc:Con X f args μf fun r' μ'=>r'=r/\μ'=μf') (ha:nB (arg_.map e) args) (hp:rT ps μ=some (μf,φ)):Det X o e μ r (tC ps μf' φ):=by
 refine OpE.det_perm (a:=μf'++φ) ?_ (zIz ps μf' φ).symm
 exact (zBm ho hf ((hc.frame φ).perm (zIi hp)) ha).mono fun r' μ' ⟨_,⟨h1,h2⟩,h3⟩=>⟨h1,by rw [h3,h2]⟩
end
end Go.Eng
end
