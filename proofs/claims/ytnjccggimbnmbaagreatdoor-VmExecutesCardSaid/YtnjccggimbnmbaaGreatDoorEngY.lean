/-
  The engine,part L: what an argument that reads is,as abstract cells; and how a contract answers a row.
  The engine,part M: calls of function values; ranges over functions.
  The engine,part N: structs held against each other; slices of the call's own made by literals,cuts and calls; leaving memory alone that other memory points to.
  The engine,part O: regions whose order is open,with one operation among them that changes memory.
  The engine,part P: regions whose order is open,with operations among them that make new memory,and one that changes memory.
  The engine,part Q: calls of functions that work on memory of the caller's own.
  Conditions: none.
-/
import Derived.Test.YtnjccggimbnmbaaGreatDoorEngX
import Derived.OpenShut
import Derived.Carry
import Derived.ChangeSame
import Derived.RangeFuncNested
import Derived.Laws.StructEq
import Derived.Laws.Cover3
set_option linter.unusedSimpArgs false
set_option linter.unusedVariables false
section
namespace Go.Eng
open Go Go.RowKit Go.ChangeShapes
/-! ### how much a reading holds,from below -/
mutual
def dB {H:Type}:DataW H->Nat
 |.lit (.string b)=>b.length+1
 |.ptr d=>dB d+1
 |.slice es _=>dBs es+1
 |.agg ps=>dBs ps
 |_=>1
def dBs {H:Type}:List (DataW H)->Nat
 |[]=>0
 |d::r=>dB d+dBs r
end
mutual
def C.bulk:C->Nat
 |.lit (.string s)=>s.size+1
 |.sl _ rows=>rZ rows+1
 |.iptr cells=>gE cells+1
 |_=>1
def gE:List C->Nat
 |[]=>0
 |c::r=>c.bulk+gE r
def rZ:List (List C)->Nat
 |[]=>0
 |l::r=>gE l+rZ r
end
theorem zPs (a b:List C):gE (a++b)=gE a+gE b:=by
 induction a with
 |nil=>simp [gE]
 |cons x r ih=>simp only [List.cons_append,gE,ih];omega
/-! ### the shape of cells of a type -/
def Sh (P:Program):Nat->TypeId->List C->Prop
 |0,_,_=>False
 |fuel+1,t,l=>match P.underlying t with
  |some .bool=>∃b,l=[.lit (.bool b)]
  |some (.int k)=>∃n,l=[.lit (.int k n)]/\(Lit.int k n).wf=true
  |some .string=>∃s:ByteArray,l=[.lit (.string s)]/\s.size<=reachBytes
  |some (.slice e)=>∃rows,l=[.sl (P.cellsOf e) rows]/\(rows.length<=maxLen/\rows.length*P.bytesOf e<=reachBytes)/\∀r,r∈rows->Sh P fuel e r
  |some (.pointer e)=>l=[.lit (.pointer none)]∨∃r,l=[.iptr r]/\Sh P fuel e r
  |some (.struct fs)=>l.length=P.cellsOf t/\∀f,f∈fs.toList->Sh P fuel f.type ((l.drop f.offset).take (P.cellsOf f.type))
  |some (.array n e)=>l.length=P.cellsOf t/\∀i,i<n->Sh P fuel e ((l.drop (i*P.cellsOf e)).take (P.cellsOf e))
  |_=>True
section
variable {P:Program} {f:Nat} {t e:TypeId} {l:List C}
theorem Sh.int {k:IntKind} (hu:P.underlying t=some (.int k)) (h:Sh P (f+1) t l):∃n,l=[.lit (.int k n)]/\(Lit.int k n).wf=true:=by unfold Sh at h;rw [hu] at h;exact h
theorem Sh.str (hu:P.underlying t=some .string) (h:Sh P (f+1) t l):∃s:ByteArray,l=[.lit (.string s)]/\s.size<=reachBytes:=by unfold Sh at h;rw [hu] at h;exact h
theorem Sh.slice (hu:P.underlying t=some (.slice e)) (h:Sh P (f+1) t l):∃rows,l=[.sl (P.cellsOf e) rows]/\(rows.length<=maxLen/\rows.length*P.bytesOf e<=reachBytes)/\∀r,r∈rows->Sh P f e r:=by unfold Sh at h;rw [hu] at h;exact h
theorem Sh.struct {fs:Array Field} (hu:P.underlying t=some (.struct fs)) (h:Sh P (f+1) t l):l.length=P.cellsOf t/\∀g,g∈fs.toList->Sh P f g.type ((l.drop g.offset).take (P.cellsOf g.type)):=by unfold Sh at h;rw [hu] at h;exact h
end
def sW (P:Program) (n:Nat):List Field->Nat->Bool
 |[],o=>o==n
 |f::r,o=>f.offset==o&&sW P n r (o+P.cellsOf f.type)
def okT (P:Program) (ts:List TypeId) (t:TypeId):Bool:=match P.underlying t with
 |some (.slice e)=>decide (0<P.cellsOf e)&&ts.contains e
 |some (.pointer e)=>decide (0<P.cellsOf e)&&ts.contains e
 |some (.struct fs)=>sW P (P.cellsOf t) fs.toList 0&&fs.toList.all fun f=>ts.contains f.type
 |some (.array n e)=>P.cellsOf t==n*P.cellsOf e&&ts.contains e
 |some .bool=>true
 |some (.int _)=>true
 |some .string=>true
 |_=>false
section
variable {P:Program} {w:World} {H:Type} {enc:TypeId×Value->H} {sp:Nat->Bool}
theorem tile_parts {I:Nat->Prop} {n:Nat} {Q:TypeId->List C->Prop}:∀(fs:List Field) (xs:List (DataW H)) (o:Nat) (cs:List Value),cs.length=n->o<=n->sW P n fs o=true->xs.length=fs.length->
  (∀(i:Nat) f x,fs[i]? =some f->xs[i]? =some x->∃l:List C,CReps w I l ((cs.drop f.offset).take (P.cellsOf f.type))/\gE l<=dB x/\Q f.type l)->
  ∃l:List C,CReps w I l (cs.drop o)/\gE l<=dBs xs/\∀f,f∈fs->o<=f.offset/\Q f.type ((l.drop (f.offset-o)).take (P.cellsOf f.type))
 |[],xs,o,cs,hl,_,ht,hx,_=>by
  have ho:o=n:=by simpa [sW] using ht
  have:cs.drop o=[]:=by rw [List.drop_eq_nil_iff];omega
  rw [this]
  refine ⟨[],.nil,by simp [gE],fun f hf=>by cases hf⟩
 |f::r,x::xs,o,cs,hl,hon,ht,hx,h=>by
  simp only [sW,Bool.and_eq_true,beq_iff_eq] at ht
  obtain ⟨hfo,ht⟩:=ht
  have hle:o+P.cellsOf f.type<=n:=by
   clear h
   have aux:∀(fs:List Field) (o:Nat),sW P n fs o=true->o<=n:=by
    intro fs
    induction fs with
    |nil=>intro o h;exact Nat.le_of_eq (by simpa [sW] using h)
    |cons f r ih=>intro o h;simp only [sW,Bool.and_eq_true,beq_iff_eq] at h;have:=ih _ h.2;omega
   exact aux r _ ht
  obtain ⟨l0,h0,b0,q0⟩:=h 0 f x rfl rfl
  rw [hfo] at h0
  obtain ⟨l1,h1,b1,q1⟩:=tile_parts r xs (o+P.cellsOf f.type) cs hl hle ht (by simpa using hx) (fun i f x hf hx=>h (i+1) f x (by simpa using hf) (by simpa using hx))
  have hl0:l0.length=P.cellsOf f.type:=by
   rw [h0.length,List.length_take,List.length_drop];omega
  refine ⟨l0++l1,?_,by rw [zPs,dBs];omega,?_⟩
  ·have e:cs.drop o=(cs.drop o).take (P.cellsOf f.type)++cs.drop (o+P.cellsOf f.type):=by
    rw [←List.drop_drop];exact (List.take_append_drop _ _).symm
   rw [e];exact h0.append h1
  ·intro g hg
   rcases List.mem_cons.1 hg with rfl|hg
   ·refine ⟨by omega,?_⟩
    have e:g.offset-o=0:=by omega
    rw [e,List.drop_zero,List.take_append_of_le_length (by omega),List.take_of_length_le (by omega)]
    exact q0
   ·obtain ⟨h2,h3⟩:=q1 g hg
    refine ⟨by omega,?_⟩
    have e:g.offset-o=l0.length+(g.offset-(o+P.cellsOf f.type)):=by omega
    rw [e,List.drop_append,List.drop_of_length_le (by omega),Nat.add_sub_cancel_left,List.nil_append]
    exact h3
 |_::_,[],_,_,_,_,_,hx,_=>by simp at hx
theorem zUt {I:Nat->Prop} {c:Nat} {Q:List C->Prop}:∀(n:Nat) (xs:List (DataW H)) (cs:List Value),cs.length=n*c->xs.length=n->
  (∀i x,xs[i]? =some x->∃l:List C,CReps w I l ((cs.drop (i*c)).take c)/\gE l<=dB x/\Q l)->
  ∃l:List C,CReps w I l cs/\gE l<=dBs xs/\∀i,i<n->Q ((l.drop (i*c)).take c)
 |0,[],cs,hl,_,_=>by
  have:cs=[]:=by simpa using hl
  subst this
  exact ⟨[],.nil,by simp [gE],fun i hi=>by omega⟩
 |n+1,x::xs,cs,hl,hx,h=>by
  have hl':cs.length=n*c+c:=by rw [hl,Nat.succ_mul]
  obtain ⟨l0,h0,b0,q0⟩:=h 0 x rfl
  simp only [Nat.zero_mul,List.drop_zero] at h0
  obtain ⟨l1,h1,b1,q1⟩:=zUt (c:=c) n xs (cs.drop c) (by rw [List.length_drop];omega) (by simpa using hx) (fun i x hx=>by
   obtain ⟨l,h1,h2⟩:=h (i+1) x (by simpa using hx)
   refine ⟨l,?_,h2⟩
   rw [List.drop_drop]
   have e:c+i*c=(i+1)*c:=by rw [Nat.succ_mul];omega
   rw [e];exact h1)
  have hl0:l0.length=c:=by rw [h0.length,List.length_take];omega
  refine ⟨l0++l1,?_,by rw [zPs,dBs];omega,?_⟩
  ·have e:cs=cs.take c++cs.drop c:=(List.take_append_drop _ _).symm
   rw [e];exact h0.append h1
  ·intro i hi
   cases i with
   |zero=>rw [Nat.zero_mul,List.drop_zero,List.take_append_of_le_length (by omega),List.take_of_length_le (by omega)];exact q0
   |succ i=>
    have e:(i+1)*c=l0.length+i*c:=by rw [Nat.succ_mul];omega
    rw [e,List.drop_append,List.drop_of_length_le (by omega),Nat.add_sub_cancel_left,List.nil_append]
    exact q1 i (by omega)
 |0,_::_,_,_,hx,_=>by simp at hx
 |_+1,[],_,_,hx,_=>by simp at hx
theorem rows_parts {I:Nat->Prop} {c:Nat} {Q:List C->Prop} {a:Addr}:∀(xs:List (DataW H)) (o:Nat),
  (∀i x,xs[i]? =some x->∃(cs:List Value) (l:List C),cs.length=c/\(∀j,j<c->w.cell? (a.add ((o+i)*c+j))=cs[j]?)/\CReps w I l cs/\gE l<=dB x/\Q l)->
  ∃(rows:List (List C)) (us:Nat->Nat->Value),rows.length=xs.length/\(∀r,r∈rows->r.length=c/\Q r)/\rZ rows<=dBs xs/\
   (∀i j,i<rows.length->j<c->w.cell? (a.add ((o+i)*c+j))=some (us i j))/\(∀(i:Nat) r,rows[i]? =some r->∀(j:Nat) x,r[j]? =some x->CRep w I x (us i j))
 |[],o,_=>⟨[],fun _ _=>.nilFunc,rfl,fun r hr=>by simp at hr,by simp [rZ],fun i j hi=>by simp at hi,fun i r hr=>by simp at hr⟩
 |x::xs,o,h=>by
  obtain ⟨cs,l,hl,hc,hr,hb,hq⟩:=h 0 x rfl
  obtain ⟨rows,us,h1,h2,h3,h4,h5⟩:=rows_parts xs (o+1) (fun i x hx=>by
   obtain ⟨cs,l,k1,k2,k3⟩:=h (i+1) x (by simpa using hx)
   exact ⟨cs,l,k1,fun j hj=>by rw [←k2 j hj,show o+1+i=o+(i+1) by omega],k3⟩)
  refine ⟨l::rows,fun i j=>match i with|0=>cs.getD j .nilFunc|i+1=>us i j,by simp [h1],?_,by rw [rZ,dBs];omega,?_,?_⟩
  ·intro r hr'
   rcases List.mem_cons.1 hr' with rfl|hr'
   ·exact ⟨by rw [hr.length,hl],hq⟩
   ·exact h2 r hr'
  ·intro i j hi hj
   cases i with
   |zero=>
    show _=some (cs.getD j .nilFunc)
    rw [hc j hj,List.getD_eq_getElem?_getD,List.getElem?_eq_getElem (by omega)];rfl
   |succ i=>rw [←h4 i j (by simpa using hi) hj,show o+1+i=o+(i+1) by omega]
  ·intro i r hr' j y hy
   cases i with
   |zero=>
    simp at hr';subst hr'
    obtain ⟨v,hv,k⟩:=hr.at_ hy
    show CRep w I y (cs.getD j .nilFunc)
    rw [List.getD_eq_getElem?_getD,hv];exact k
   |succ i=>exact h5 i r (by simpa using hr') j y hy
theorem zGj {e:TypeId} {n:Nat}:∀{l:List (DataW H)} {i:Nat} {d:DataW H},l[i]? =some d->n∈d.weights P e->n∈DataW.weightsAll P e l
 |[],_,_,h,_=>by simp at h
 |x::r,i,d,h,hn=>by
  rw [DataW.weightsAll,List.mem_append]
  cases i with
  |zero=>simp at h;subst h;exact .inl hn
  |succ i=>exact .inr (zGj (i:=i) (by simpa using h) hn)
theorem zFn {n:Nat}:∀{us:List TypeId} {l:List (DataW H)} (i:Nat) {t:TypeId} {d:DataW H},us[i]? =some t->l[i]? =some d->n∈d.weights P t->n∈DataW.weightsEach P us l
 |[],_,_,_,_,h,_,_=>by simp at h
 |_::_,[],_,_,_,_,h,_=>by simp at h
 |u::us,x::r,i,t,d,hu,h,hn=>by
  rw [DataW.weightsEach,List.mem_append]
  cases i with
  |zero=>simp at h hu;subst h hu;exact .inl hn
  |succ i=>exact .inr (zFn i (by simpa using hu) (by simpa using h) hn)
theorem zIw {us:List TypeId} {l:List (DataW H)} (h:(DataW.weightsEach P us l).all (· <=reachBytes)=true) (i:Nat) {t:TypeId} {d:DataW H} (hu:us[i]? =some t) (hd:l[i]? =some d):∀n,n∈d.weights P t->n<=reachBytes:=
 fun n hn=>of_decide_eq_true (List.all_eq_true.1 h n (zFn i hu hd hn))
theorem open_trod {ts:List TypeId} (hT:ts.all (okT P ts)=true):∀(fuel:Nat) (t:TypeId) (cs:List Value) (x:DataW H×List MemPlace),t∈ts->(∀n,n∈x.1.weights P t->n<=reachBytes)->
  DataW.trod enc P w 0 sp true fuel t cs=some x->∃l:List C,CReps w (fun b=>b<w.heap.size) l cs/\gE l<=dB x.1/\Sh P fuel t l
 |0,_,_,_,_,_,h=>by simp [DataW.trod] at h
 |fuel+1,t,cs,x,ht,hz,h=>by
  have hk:okT P ts t=true:=List.all_eq_true.1 hT t ht
  have ih:=fun t cs x ht hz h=>open_trod hT fuel t cs x ht hz h
  unfold okT at hk
  unfold Sh
  split at hk
  ·rename_i e hu
   rw [hu]
   simp only [Bool.and_eq_true,decide_eq_true_eq,List.contains_iff_mem] at hk
   rcases DataW.trod_slice hu h with ⟨rfl,rfl⟩|⟨a,len,cap,elems,rest,n,hn,rfl,rfl,_,hlc,hcm,hel,hat,_,_⟩
   ·exact ⟨[.sl _ []],.cons (.nil _ none 0) .nil,by simp [gE,C.bulk,rZ,dB],[],rfl,⟨by simp,by simp⟩,fun r hr=>by simp at hr⟩
   ·obtain rfl:fuel=n:=by omega
    have hparts:=rows_parts (w:=w) (I:=fun b=>b<w.heap.size) (c:=P.cellsOf e) (Q:=Sh P fuel e) (a:=a) (elems.map (·.1)) 0 (fun i x hx=>by
     obtain ⟨y,hy,rfl⟩:∃y,elems[i]? =some y/\y.1=x:=by simpa using hx
     have hi:i<len:=by rw [←hel];exact (List.getElem?_eq_some_iff.1 hy).1
     have hh:=hat i hi
     rw [hy] at hh
     obtain ⟨cs',hc1,hc2⟩:=Option.bind_eq_some_iff.1 hh
     obtain ⟨_,hc4,hc5⟩:=World.cells?_some hc1
     obtain ⟨l,k1,k2,k3⟩:=ih e cs' y hk.2 (fun m hm=>hz m (by simp only [DataW.weights,hu,List.mem_cons,List.mem_append];exact .inr (.inl (zGj (i:=i) (by simp [hy]) hm)))) hc2
     exact ⟨cs',l,hc4,fun j hj=>by rw [←hc5 j hj,Addr.add_add,Nat.zero_add],k1,k2,k3⟩)
    obtain ⟨rows,us,h1,h2,h3,h4,h5⟩:=hparts
    have hz0:((elems.map (·.1)).length+(rest.map (·.1)).length)*P.bytesOf e<=reachBytes:=hz _ (by simp only [DataW.weights,hu];exact List.mem_cons_self)
    have h1':rows.length=len:=by rw [h1,List.length_map,hel]
    refine ⟨[.sl (P.cellsOf e) rows],?_,by simp only [gE,C.bulk,dB];omega,rows,rfl,⟨by omega,Nat.le_trans (Nat.mul_le_mul_right _ (by rw [h1];exact Nat.le_add_right _ _)) hz0⟩,fun r hr=>(h2 r hr).2⟩
    by_cases h0:len=0
    ·subst h0
     have:rows=[]:=List.length_eq_zero_iff.1 h1'
     subst this
     exact .cons (.nil _ (some a) cap) .nil
    ·have hI:a.block<w.heap.size:=by
      have hh:=hat 0 (by omega)
      rw [List.getElem?_eq_getElem (by omega)] at hh
      obtain ⟨cs',hc1,_⟩:=Option.bind_eq_some_iff.1 hh
      have:=World.cells?_block hc1 hk.1
      rwa [Nat.zero_mul,show (a.add 0).block=a.block by unfold Addr.add;split<;>rfl] at this
     rw [←h1']
     exact .cons (.sl _ rows a cap us hI (fun r hr=>(h2 r hr).1) (by omega) (fun i j hi hj=>by have:=h4 i j hi hj;rwa [Nat.zero_add] at this) h5) .nil
  ·rename_i e hu
   rw [hu]
   simp only [Bool.and_eq_true,decide_eq_true_eq,List.contains_iff_mem] at hk
   rcases DataW.trod_pointer hu h with ⟨rfl,rfl⟩|⟨a,cs',y,n,hn,rfl,rfl,hc,hy⟩
   ·exact ⟨[.lit (.pointer none)],.cons (.lit _ rfl) .nil,by simp [gE,C.bulk,dB],Or.inl rfl⟩
   ·obtain rfl:fuel=n:=by omega
    obtain ⟨l,k1,k2,k3⟩:=ih e cs' y hk.2 (fun m hm=>hz m (by simp only [DataW.weights,hu];exact hm)) hy
    have hI:=World.cells?_block hc hk.1
    obtain ⟨_,hl,hc5⟩:=World.cells?_some hc
    refine ⟨[.iptr l],.cons (.iptr l a (fun j=>cs'.getD j .nilFunc) hI (fun j hj=>?_) (fun j c hj=>?_)) .nil,by simp only [gE,C.bulk,dB];omega,Or.inr ⟨l,rfl,k3⟩⟩
    ·have hj':j<cs'.length:=by rw [←k1.length];exact hj
     rw [hc5 j (by omega),List.getD_eq_getElem?_getD,List.getElem?_eq_getElem hj'];rfl
    ·obtain ⟨v,hv,k⟩:=k1.at_ hj
     show CRep w _ c (cs'.getD j .nilFunc)
     rw [List.getD_eq_getElem?_getD,hv];exact k
  ·rename_i fs hu
   rw [hu]
   simp only [Bool.and_eq_true] at hk
   obtain ⟨xs,n,hn,rfl,hl,hxl,hat⟩:=DataW.trod_struct hu h
   obtain rfl:fuel=n:=by omega
   obtain ⟨l,k1,k2,k3⟩:=tile_parts (P:=P) (w:=w) (I:=fun b=>b<w.heap.size) (n:=P.cellsOf t) (Q:=Sh P fuel) fs.toList (xs.map (·.1)) 0 cs hl (Nat.zero_le _) hk.1 (by simpa using hxl) (fun i f x hf hx=>by
    obtain ⟨y,hy,rfl⟩:∃y,xs[i]? =some y/\y.1=x:=by simpa using hx
    have hh:=hat i f (by simpa using hf)
    rw [hy] at hh
    have hm:ts.contains f.type=true:=List.all_eq_true.1 hk.2 f (List.mem_of_getElem? hf)
    exact ih _ _ y (List.contains_iff_mem.1 hm) (fun m hm=>hz m (by simp only [DataW.weights,hu];exact zFn i (by simp [hf]) (by simp [hy]) hm)) hh)
   rw [List.drop_zero] at k1
   refine ⟨l,k1,by simpa [dB] using k2,by rw [k1.length,hl],fun f hf=>?_⟩
   have:=(k3 f hf).2
   rwa [Nat.sub_zero] at this
  ·rename_i n' e hu
   rw [hu]
   simp only [Bool.and_eq_true,beq_iff_eq,List.contains_iff_mem] at hk
   obtain ⟨xs,n,hn,rfl,hl,hxl,hat⟩:=DataW.trod_array hu h
   obtain rfl:fuel=n:=by omega
   obtain ⟨l,k1,k2,k3⟩:=zUt (w:=w) (I:=fun b=>b<w.heap.size) (c:=P.cellsOf e) (Q:=Sh P fuel e) n' (xs.map (·.1)) cs (by rw [hl,hk.1]) (by simpa using hxl) (fun i x hx=>by
    obtain ⟨y,hy,rfl⟩:∃y,xs[i]? =some y/\y.1=x:=by simpa using hx
    have hi:i<n':=by rw [←hxl];exact (List.getElem?_eq_some_iff.1 hy).1
    have hh:=hat i hi
    rw [hy] at hh
    exact ih _ _ y hk.2 (fun m hm=>hz m (by simp only [DataW.weights,hu];exact zGj (i:=i) (by simp [hy]) hm)) hh)
   exact ⟨l,k1,by simpa [dB] using k2,by rw [k1.length,hl],k3⟩
  ·rename_i hu;rw [hu];obtain ⟨b,rfl,rfl⟩:=DataW.trod_bool hu h;exact ⟨_,.cons (.lit _ rfl) .nil,by simp [gE,C.bulk,dB],b,rfl⟩
  ·rename_i hu;rw [hu];obtain ⟨m,rfl,rfl,hw⟩:=DataW.trod_int hu h;exact ⟨_,.cons (.lit _ rfl) .nil,by simp [gE,C.bulk,dB],m,rfl,hw⟩
  ·rename_i hu;rw [hu];obtain ⟨s,rfl,rfl,hs⟩:=DataW.trod_string hu h;exact ⟨_,.cons (.lit _ rfl) .nil,by simp only [gE,C.bulk,dB,Array.length_toList,ByteArray.size_data];omega,s,rfl,by have h9:=hz _ (by simp only [DataW.weights];exact List.mem_singleton.2 rfl);simpa using h9⟩
  ·simp at hk
def rL (P:Program) (t:TypeId):Bool:=match P.underlying t with|some (.struct _)=>true|some (.array _ _)=>true|_=>false
theorem open_arg {ts:List TypeId} (hT:ts.all (okT P ts)=true) {r:Reach} {base:Nat} {t:TypeId} {v:Value} {d:DataW H} {ps:List MemPlace} (ht:t∈ts)
  (hval:Value.okWide P w r base t v) (hz:∀n,n∈d.weights P t->n<=reachBytes) (hd:DataW.Trod enc P w 0 sp true t v d ps):
  ∃fuel l,Sh P fuel t l/\gE l<=dB d/\V1Rep w (fun b=>b<w.heap.size) (if rL P t then .agg l else .c (l.headD (.lit .nilFunc))) v:=by
 obtain ⟨fuel,hf⟩:=hd
 obtain ⟨l,h1,h2,h3⟩:=open_trod hT fuel t _ _ ht hz hf
 refine ⟨fuel,l,h3,h2,?_⟩
 have hk:okT P ts t=true:=List.all_eq_true.1 hT t ht
 unfold Value.okWide at hval
 unfold rL
 unfold okT at hk
 have agg:(∃cs,v=.agg cs/\cs.size=P.cellsOf t/\Row.okWide P w r base t cs)->V1Rep w (fun b=>b<w.heap.size) (.agg l) v:=by
  rintro ⟨cs,rfl,_,_⟩
  exact ⟨cs.toList,by simp,h1⟩
 have one:v.cells= #[v]->V1Rep w (fun b=>b<w.heap.size) (.c (l.headD (.lit .nilFunc))) v:=by
  intro hv
  rw [hv] at h1
  cases h1 with
  |cons h t=>cases t;exact h
 have notagg:Cell.okWide P w r base t v->v.cells= #[v]:=by
  intro hc
  unfold Cell.okWide at hc
  split at hc<;>first|rfl|skip
  unfold Cell.ok at hc
  split at hc<;>first|rfl|exact hc.elim
 split at hk
 all_goals first|(rename_i hu;rw [hu] at hval⊢;first|exact agg hval|exact one (notagg hval))|simp at hk
theorem zLz {ts:List TypeId} (hl:laidOutB P=true) {W W':World} {sp':Nat->Bool} (hB:Below W.heap.size W W'):∀(us:List TypeId) (vs:List Value) (ds:List (DataW H)) (ps:List MemPlace),
  (∀t∈us,P.readableRec t=true/\t<P.types.size)->DataW.TrodAll enc P W 0 (fun _=>true) true us vs ds ps->(∀p∈ps,p.block<W.heap.size)->(∀p∈ps,sp' p.block=true)->
  DataW.TrodAll enc P W' 0 sp' true us vs ds ps
 |[],[],[],ps,_,h,_,_=>h
 |t::us,v::vs,d::ds,ps,hr,h,hlt,hsp=>by
  obtain ⟨p,q,h1,h2,rfl⟩:=h
  exact ⟨p,q,WideElems.Trod_stays hl (hr t (by simp)).1 (hr t (by simp)).2 h1 (fun x hx=>hB.same (hlt x (by simp [hx]))) (fun x hx=>hsp x (by simp [hx])),
   zLz (ts:=ts) hl hB us vs ds q (fun t ht=>hr t (by simp [ht])) h2 (fun x hx=>hlt x (by simp [hx])) (fun x hx=>hsp x (by simp [hx])),rfl⟩
 |[],_::_,_,_,_,h,_,_=>h.elim
 |[],[],_::_,_,_,h,_,_=>h.elim
 |_::_,[],_,_,_,h,_,_=>h.elim
 |_::_,_::_,[],_,_,h,_,_=>h.elim
theorem Ext.below {w w':World} {I I':Nat->Prop} {μ':List E} (h:Ext w I [] w' I' μ'):Below w.heap.size w w':=
 ⟨h.os,h.tape,h.output,h.size,fun b hb=>h.block b hb (by simp [bB])⟩
theorem law_row {X:Cfg} {f:FuncId} {fn:Func} {s:ChangeSpec} {W:World} {args:Array Value} {vs:List V} {ds gs:List (DataW H)} {before:List MemPlace} {tb:TypeId}
  (hcon:Pur X f vs (.c (.lit (.bool true)))) (hH:Heap X W (fun b=>b<W.heap.size) []) (hvs:V1Reps W (fun b=>b<W.heap.size) vs args.toList)
  (hvars:s.vars=[]) (hres:fn.resultTypes= #[tb]) (htb:X.P.underlying tb=some .bool) (hl:laidOutB X.P=true)
  (hr:∀t∈fn.params.toList,X.P.readableRec t=true/\t<X.P.types.size)
  (hspec:∀gs,gs=[]->(s.fn H (ds++gs)).results=[.lit (.bool true)]/\(s.fn H (ds++gs)).args=ds/\(s.fn H (ds++gs)).vars=[])
  (hW:DataW.Whole enc X.P fn.params.toList s.vars false W args.toList ds gs before):
  Calls X.P f args W fun e W'=>∃v,e=.returned v/\s.post enc X.P fn false true false false W args v W':=by
 have hW':=hW
 obtain ⟨p,q,hA,hV,rfl,_,_⟩:=hW
 rw [hvars] at hV
 have hgq:gs=[]/\q=[]:=by
  cases gs with
  |nil=>exact ⟨rfl,hV⟩
  |cons _ _=>exact hV.elim
 obtain ⟨rfl,rfl⟩:=hgq
 obtain ⟨e1,e2,e3⟩:=hspec [] rfl
 have hc:=hcon W _ args.toList hH hvs
 rw [Array.toArray_toList] at hc
 refine hc.mono ?_
 rintro en W' ⟨v,r,μ',I',rfl,rfl,hv,hH',hE⟩
 have hB:=hE.below
 have hv':v=.bool true:=by
  cases hv;rfl
 subst hv'
 have hlt:∀x∈p,x.block<W.heap.size:=fun x hx=>by simpa using hW'.lt x (by simp [hx])
 refine ⟨_,rfl,ds,[],p++[],[],p,[],hW',?_,?_,?_,hB.frame _,fun h=>by cases h⟩
 ·rw [e1,hres]
  exact trodAll_cons_mk (shut_bool htb _) trodAll_mk0
 ·rw [e2]
  exact zLz (ts:=[]) hl hB _ _ _ _ hr hA hlt (fun x hx=>by simpa using hlt x hx)
 ·rw [hvars,e3];rfl
end
end Go.Eng
end
section
namespace Go.Eng
open Go Go.RowKit
section vals
variable {X:Cfg} {o:Oper} {e:Operand->V} {μ:List E}
theorem OpE.frame {R:V->List E->Prop} (h:OpE X o e μ R) (φ:List E):OpE X o e (μ++φ) fun r μ''=>∃μ',R r μ'/\μ''=μ'++φ:=by
 intro a w I hH hops K Q k
 refine h a w I hH.left hops K Q ?_
 intro v r μ' I' w' hr hv hH' x
 obtain ⟨h1,h2⟩:=hH.frame hH' x
 exact k v r _ I' w' ⟨μ',hr,rfl⟩ hv h1 h2
theorem OpE.mono {R R':V->List E->Prop} (h:OpE X o e μ R) (hr:∀r μ',R r μ'->R' r μ'):OpE X o e μ R':=
 fun a w I hH hops K Q k=>h a w I hH hops K Q fun v r μ' I' w' h1=>k v r μ' I' w' (hr r μ' h1)
theorem OpE.perm {R:V->List E->Prop} {φ:List E} (h:OpE X o e μ R) (p:φ.Perm μ):OpE X o e φ R:=
 fun a w I hH hops K Q k=>h a w I (hH.perm p) hops K Q fun v r μ' I' w' h1 h2 h3 x=>k v r μ' I' w' h1 h2 h3 (x.perm p.symm (List.Perm.refl _))
def FnCon (X:Cfg) (c:C) (args:List V) (μ:List E) (Q:V->List E->Prop):Prop:=
 ∀(o:Oper) (e:Operand->V) (x:Operand) (arg_:List Operand) (ts:Array TypeId),o.op=.call { callee:=.value x,args:=arg_.toArray,argTypes:=ts }->e x=.c c->mL (arg_.map e) args->OpE X o e μ Q
abbrev FnPur (X:Cfg) (c:C) (args:List V) (r:V):Prop:=FnCon X c args [] fun r' _=>r'=r
theorem FnCon.mono {c:C} {args:List V} {Q Q':V->List E->Prop} (h:FnCon X c args μ Q) (hq:∀r μ',Q r μ'->Q' r μ'):FnCon X c args μ Q':=
 fun o e x arg_ ts h1 h2 h3=>(h o e x arg_ ts h1 h2 h3).mono hq
theorem FnCon.frame {c:C} {args:List V} {Q:V->List E->Prop} (h:FnCon X c args μ Q) (φ:List E):FnCon X c args (μ++φ) fun r μ''=>∃μ',Q r μ'/\μ''=μ'++φ:=
 fun o e x arg_ ts h1 h2 h3=>(h o e x arg_ ts h1 h2 h3).frame φ
theorem FnCon.perm {c:C} {args:List V} {φ:List E} {Q:V->List E->Prop} (h:FnCon X c args μ Q) (p:φ.Perm μ):FnCon X c args φ Q:=
 fun o e x arg_ ts h1 h2 h3=>(h o e x arg_ ts h1 h2 h3).perm p
theorem FnCon.of_con {f:FuncId} {first cap:List C} {args:List V} {Q:V->List E->Prop} (hf:bA X.P f=true) (hc:Con X f (first.map .c++args++cap.map .c) μ Q):FnCon X (.fn (.func f) first cap) args μ Q:=
 fun _ _ _ _ _ ho hx ha=>zSu ho hx hf hc ha
theorem zDf {c:C} {x:Operand} {arg_:List Operand} {ts:Array TypeId} {args:List V} {Q:V->List E->Prop} (ho:o.op=.call { callee:=.value x,args:=arg_.toArray,argTypes:=ts }) (hx:e x=.c c) (hc:FnCon X c args μ Q) (ha:mL (arg_.map e) args):OpE X o e μ Q:=
 hc o e x arg_ ts ho hx ha
theorem FnPur.of_pur {f:FuncId} {first cap:List C} {args:List V} {r:V} (hf:bA X.P f=true) (hc:Pur X f (first.map .c++args++cap.map .c) r):FnPur X (.fn (.func f) first cap) args r:=
 FnCon.of_con hf hc
theorem OpE.forget {R:V->List E->Prop} (h:OpE X o e [] R):OpE X o e μ fun r μ'=>(∃φ,R r φ)/\μ'=μ:=by
 intro a w I hH hops K Q k
 have h':=h.frame μ
 refine h' a w I hH hops K Q ?_
 rintro v r μ' I' w' ⟨φ,hr,rfl⟩ hv hH' x
 exact k v r μ I' w' ⟨⟨φ,hr⟩,rfl⟩ hv ((hH'.perm List.perm_append_comm).left) (x.less fun b hb=>by rw [yW];exact List.mem_append.2 (.inr hb))
theorem zAm {c:C} {x:Operand} {arg_:List Operand} {ts:Array TypeId} {args:List V} {r:V} (ho:o.op=.call { callee:=.value x,args:=arg_.toArray,argTypes:=ts }) (hx:e x=.c c) (hc:FnPur X c args r) (ha:mL (arg_.map e) args):Det X o e μ r μ:=
 (OpE.forget (hc o e x arg_ ts ho hx ha)).mono fun _ _ ⟨⟨_,h⟩,h'⟩=>⟨h,h'⟩
end vals
/-! ## Ranges over functions -/
def LoopR (n:Nat) (fn D:Nat) (ps:Array Tmp) (assign body:Code) (regs:List (Nat×V)) (st:LoopState) (pe:Option Code):World->(Nat->Prop)->Obj->Prop:=
 fun w I o=>∃tmps:Array Value,o=.loop { state:=st,pending:=pe,fn:=fn,tmps:=tmps,params:=ps,assign:=assign,body:=body,defers:=D }/\tmps.size=n/\∀t,VRep w I (bT regs t) (tmps.getD t undef)
theorem LoopR.mono {n fn D:Nat} {ps:Array Tmp} {assign body:Code} {regs:List (Nat×V)} {st:LoopState} {pe:Option Code} (l:Nat):(E.blk l (LoopR n fn D ps assign body regs st pe)).Mono:=
 fun _ _ _ _ hw hI _ ⟨tmps,e,hs,h⟩=>⟨tmps,e,hs,fun t=>(h t).mono hw hI⟩
theorem Ext.putL {w w1:World} {I I1:Nat->Prop} {μ μ1:List E} (x:Ext w I μ w1 I1 μ1) {l:Nat} (o:Obj) (R R':World->(Nat->Prop)->Obj->Prop):Ext w I (.blk l R::μ) (w1.putObj l o) I1 (.blk l R'::μ1):=by
 have hb:∀(R:World->(Nat->Prop)->Obj->Prop) (μ:List E),bB (.blk l R::μ)=l::bB μ:=fun R μ=>by simp [bB,E.blocks]
 refine ⟨x.os,x.tape,x.output,?_,fun b h1 h2=>?_,x.imm,fun b h=>?_,fun b h=>?_⟩
 ·have:=x.size;simp [World.putObj];omega
 ·rw [hb] at h2
  rw [World.putObj_heap_other (fun e=>h2 (by simp [e]))]
  exact x.block b h1 fun h=>h2 (by simp [h])
 ·rw [hb]
  rcases x.imm' b h with h|h|h
  ·exact .inl h
  ·exact .inr (.inl (by simp [h]))
  ·exact .inr (.inr h)
 ·rw [hb] at h⊢
  rcases List.mem_cons.1 h with h|h
  ·exact .inl (by simp [h])
  ·rcases x.own' b h with h|h
   ·exact .inl (by simp [h])
   ·exact .inr h
theorem Heap.tail {X:Cfg} {w:World} {I:Nat->Prop} {en:E} {μ:List E} (h:Heap X w I (en::μ)):Heap X w I μ:=
 (h.perm (φ:=μ++[en]) (List.perm_append_comm (l₁:=[en]))).left
theorem Heap.putL {X:Cfg} {w:World} {I:Nat->Prop} {μ:List E} {l:Nat} {o:Obj} {R:World->(Nat->Prop)->Obj->Prop} (h:Heap X w I μ) (h1:l<w.heap.size) (h2:¬I l) (h3:l ∉ bB μ) (hN:X.N<=l) (hm:(E.blk l R).Mono) (hr:R (w.putObj l o) I o):Heap X (w.putObj l o) I (.blk l R::μ):=by
 have hsz:(w.putObj l o).heap.size=w.heap.size:=by simp [World.putObj]
 have hb:bB (.blk l R::μ)=l::bB μ:=by simp [bB,E.blocks]
 have hI:∀b,I b->(w.putObj l o).heap[b]? =w.heap[b]? :=fun b hb=>World.putObj_heap_other (fun e=>h2 (e ▸ hb))
 have h':Heap X (w.putObj l o) I μ:=h.except hsz fun b hc=>World.putObj_heap_other (fun e=>by
  rw [e] at hc
  rcases hc with hc|hc|hc
  ·omega
  ·exact h2 hc
  ·exact h3 hc)
 refine ⟨h'.lo,h'.glob,by rw [hb];exact List.nodup_cons.2 ⟨h3,h.nodup⟩,fun b hb'=>?_,h'.imm,fun en he=>?_,fun en he=>?_⟩
 ·rw [hb] at hb'
  rcases List.mem_cons.1 hb' with e|h
  ·subst e;exact ⟨hN,h2⟩
  ·exact h'.own b h
 ·rcases List.mem_cons.1 he with e|h
  ·subst e;exact ⟨o,World.putObj_heap_same h1,hr⟩
  ·exact h'.rep en h
 ·rcases List.mem_cons.1 he with e|h
  ·subst e;exact hm
  ·exact h'.mono en h
def sZ:List Tmp->List V->List (Nat×V)->List (Nat×V)
 |t::ts,v::vs,r=>sZ ts vs ((t,v)::r)
 |_,_,r=>r
theorem psetR_rep {w:World} {I:Nat->Prop} {n:Nat}:∀{ts:List Tmp} {vs:List V} {us:List Value} {regs:List (Nat×V)} {tmps:Array Value},(∀t,t∈ts->t<n)->V1Reps w I vs us->ts.length=vs.length->tmps.size=n->
  (∀t,VRep w I (bT regs t) (tmps.getD t undef))->(∀t,VRep w I (bT (sZ ts vs regs) t) (((ts.zip us).foldl (fun t (p:Tmp×Value)=>t.setIfInBounds p.1 p.2) tmps).getD t undef))/\((ts.zip us).foldl (fun t (p:Tmp×Value)=>t.setIfInBounds p.1 p.2) tmps).size=n
 |[],[],[],_,_,_,_,_,hs,h=>⟨h,hs⟩
 |p::ts,v::vs,u::us,regs,tmps,hn,hv,hl,hs,h=>by
  refine psetR_rep (ts:=ts) (vs:=vs) (us:=us) (regs:=(p,v)::regs) (fun t ht=>hn t (by simp [ht])) hv.2 (by simpa using hl) (by simpa using hs) fun t=>?_
  rw [zBm]
  have hp:=hn p (by simp)
  have e:(tmps.setIfInBounds p u).getD t undef=if p=t then u else tmps.getD t undef:=by
   simp only [Array.getD_eq_getD_getElem?,Array.getElem?_setIfInBounds]
   by_cases h:p=t
   ·subst h;simp [hs,hp]
   ·simp [h]
  show VRep w I (if p=t then v else bT regs t) ((tmps.setIfInBounds p u).getD t undef)
  rw [e]
  split
  ·cases v with
   |tup l=>exact hv.1.elim
   |_=>exact hv.1
  ·exact h t
 |[],_::_,_,_,_,_,_,hl,_,_=>by simp at hl
 |_::_,[],_,_,_,_,_,hl,_,_=>by simp at hl
 |[],[],_::_,_,_,_,hv,_,_,_=>hv.elim
 |_::_,_::_,[],_,_,_,hv,_,_,_=>hv.elim
theorem zLy {w:World} {I:Nat->Prop}:∀{l:List V} {vs:List Value},V1Reps w I l vs->l.length=vs.length
 |[],[],_=>rfl
 |_::_,_::_,h=>by simp [zLy h.2]
 |[],_::_,h=>h.elim
 |_::_,[],h=>h.elim
def xI (J:List E->Prop) (Jx:Code->List E->Prop):Exit->S->Prop
 |.normal,σ=>J σ.μ
 |.ret,σ=>Jx .ret σ.μ
 |.exit i,σ=>Jx (.exit i) σ.μ
 |_,_=>False
def tZ (X:Cfg) (n:Nat) (l:Nat) (assign body:Code) (J:List E->Prop) (Jx:Code->List E->Prop) (σ:S):Prop:=
 ∀z,RdOk z->z.rd=some l->z.μ=σ.μ->AWP X n z assign (nR (fun τ=>∀z,RdOk z->z.rd=some l->z.μ=τ.μ->AWP X n z body (xI J Jx) τ) fun _ _=>False) σ
theorem yield_con {X:Cfg} {n l fn D:Nat} {ps:List Tmp} {assign body:Code} {regs:List (Nat×V)} {encs:List V} {μ0:List E} {J:List E->Prop} {Jx:Code->List E->Prop} (hps:ps.length=encs.length) (hpn:∀t,t∈ps->t<n)
  (hbody:tZ X n l assign body J Jx ⟨sZ ps encs regs,μ0⟩):
  FnCon X (.fn (.yield l) [] []) encs (.blk l (LoopR n fn D ps.toArray assign body regs .ready none)::μ0) fun r μ'=>
   (r=.c (.lit (.bool true))/\∃μ1,μ'=.blk l (LoopR n fn D ps.toArray assign body regs .ready none)::μ1/\J μ1)∨
   (r=.c (.lit (.bool false))/\∃c μ1,μ'=.blk l (LoopR n fn D ps.toArray assign body regs .done (some c))::μ1/\Jx c μ1/\(c=.ret∨∃i,c=.exit i)):=by
 intro o e x arg_ ts ho hx ha a w I hH hops K Q k hn rd
 have hxv:=hops x (by rw [ho];simp [Op.operands,Call.operands])
 rw [hx] at hxv
 have hxv':CRep w I (.fn (.yield l) [] []) (a.eval x):=hxv
 have hval:a.eval x=.func (.yield l) #[] #[]:=by
  generalize a.eval x=v at hxv'
  cases hxv' with
  |fn _ _ _ us vs h1 h2 _ _=>
   have e1:us=[]:=List.length_eq_zero_iff.1 h1
   have e2:vs=[]:=List.length_eq_zero_iff.1 h2
   subst e1 e2;rfl
 have hargs:=zQh (w:=w) (I:=I) (a:=a) (fun y hy=>hops y (by rw [ho];simp [Op.operands,Call.operands,hy])) ha
 obtain ⟨ob,hl,tmps,rfl,hts,htr⟩:∃ob,w.heap[l]? =some ob/\LoopR n fn D ps.toArray assign body regs .ready none w I ob:=hH.rep (.blk l _) (by simp)
 have hlen:arg_.length=encs.length:=by
  have h:=zLy hargs
  simpa using h.symm
 have hrun:(execOp a.eval o).run X.P w=.ok (.round l fn (((ps.toArray.zip (arg_.map a.eval).toArray)).foldl (fun tmps (t,a)=>tmps.setIfInBounds t a) tmps) assign body) w:=by
  have hy:=run_yield (P:=X.P) (args:=(arg_.map a.eval).toArray) hl (by simp;omega)
  simp [execOp,ho,resolve,hval,Deferred.ofValue,invoke]
  simpa using hy
 have hblk:bB (.blk l (LoopR n fn D ps.toArray assign body regs .ready none)::μ0)=l::bB μ0:=by simp [bB,E.blocks]
 have hlI:X.N<=l/\¬I l:=hH.own l (by rw [hblk];simp)
 have hlμ:l ∉ bB μ0:=by have:=hH.nodup;rw [hblk] at this;exact (List.nodup_cons.1 this).1
 have hlt:l<w.heap.size:=(Array.getElem?_eq_some_iff.1 hl).1
 refine ⟨fun _ _=>trivial,?_⟩
 rw [zMb hn,hrun,Oper.uponIn_round]
 refine ⟨fun h=>by simp [fen,Fence.wide] at h,roundIn_of_wpIn trivial ?_⟩
 obtain ⟨hreg,hsz⟩:=psetR_rep (w:=w) (I:=I) (n:=n) (ts:=ps) (vs:=encs) (us:=arg_.map a.eval) (regs:=regs) (tmps:=tmps) hpn hargs hps hts htr
 have efold:((ps.toArray.zip (arg_.map a.eval).toArray)).foldl (fun tmps (t,a)=>tmps.setIfInBounds t a) tmps=((ps.zip (arg_.map a.eval)).foldl (fun t (p:Tmp×Value)=>t.setIfInBounds p.1 p.2) tmps):=by
  rw [List.zip_toArray];simp
 rw [efold]
 have z0ok:RdOk ⟨w,I,μ0,[],some l,false⟩:=⟨rfl,fun l' h=>by
  cases h
  exact ⟨hlt,hlI.2,hlμ,_,hl⟩⟩
 refine wpIn_mono (hbody ⟨w,I,μ0,[],some l,false⟩ z0ok rfl rfl _ (ZLe.refl _) _ w ⟨I,hH.tail,hreg,Ext.refl _ _ _,rfl,hsz⟩) ?_
 rintro en a1 w1 ⟨z1,σ,hz,q,I1,hH1,hR1,hx1,hd1,hs1⟩
 cases en with
 |normal=>
  have x1:Ext w I μ0 w1 I1 σ.μ:=hz.ext.trans hx1
  obtain ⟨l1,l2,l3,l4⟩:=x1.stays hlt hlI.2 hlμ
  have hl1:=l4.trans hl
  refine ⟨_,run_beginRound hl1 rfl,?_⟩
  generalize hb:Loop.mk LoopState.busy none fn tmps ps.toArray assign body D=busy
  have hl2:(w1.putObj l (.loop busy)).heap[l]? =some (.loop busy):=World.putObj_heap_same l1
  have hH2:Heap X (w1.putObj l (.loop busy)) I1 σ.μ:=hH1.except (by simp [World.putObj]) fun b hb=>World.putObj_heap_other (fun e=>by
   subst e
   rcases hb with hb|hb|hb
   ·have:=hlI.1;omega
   ·exact l2 hb
   ·exact l3 hb)
  have hI2:∀b,I1 b->(w1.putObj l (.loop busy)).heap[b]? =w1.heap[b]? :=fun b hb=>World.putObj_heap_other (fun e=>l2 (e ▸ hb))
  have z2ok:RdOk ⟨w1.putObj l (.loop busy),I1,σ.μ,z1.ds,some l,false⟩:=⟨rfl,fun l' h=>by
   cases h
   exact ⟨by simp [World.putObj];exact l1,l2,l3,_,hl2⟩⟩
  refine wpIn_mono (q ⟨w1.putObj l (.loop busy),I1,σ.μ,z1.ds,some l,false⟩ z2ok rfl rfl _ (ZLe.refl _) a1 _ ⟨I1,hH2,fun t=>(hR1 t).mono hI2 fun _ h=>h,Ext.refl _ _ _,hd1,hs1⟩) ?_
  rintro en a3 w3 ⟨z3,τ,hz3,q3,I3,hH3,hR3,hx3,hd3,hs3⟩
  have x3:Ext (w1.putObj l (.loop busy)) I1 σ.μ w3 I3 τ.μ:=hz3.ext.trans hx3
  obtain ⟨m1,m2,m3,m4⟩:=x3.stays (D:=l) (by simp [World.putObj];exact l1) l2 l3
  have hl3:=m4.trans hl2
  have fin:∀(jump:Option Code) (st:LoopState),st=(if jump.isNone then .ready else .done)->(Instr.endRound l jump).run X.P w3=.ok (.bool jump.isNone) (w3.putObj l (.loop { busy with state:=st,pending:=jump }))/\
    Heap X (w3.putObj l (.loop { busy with state:=st,pending:=jump })) I3 (.blk l (LoopR n fn D ps.toArray assign body regs st jump)::τ.μ)/\
    Ext w I (.blk l (LoopR n fn D ps.toArray assign body regs .ready none)::μ0) (w3.putObj l (.loop { busy with state:=st,pending:=jump })) I3 (.blk l (LoopR n fn D ps.toArray assign body regs st jump)::τ.μ):=by
   rintro jump st rfl
   refine ⟨run_endRound jump hl3,hH3.putL m1 m2 m3 hlI.1 (LoopR.mono l) ⟨tmps,by rw [←hb],hts,fun t=>?_⟩,?_⟩
   ·refine (htr t).mono (I':=I3) (fun b hb=>?_) fun b hb=>x3.imm b (x1.imm b hb)
    rw [World.putObj_heap_other (k:=b) (r:=l) (fun e:b=l=>m2 (by rw [←e];exact x3.imm b (x1.imm b hb)))]
    rw [hH2.still x3 b (x1.imm b hb),hI2 b (x1.imm b hb)]
    exact hH.tail.still x1 b hb
   ·have y1:=x1.putL (l:=l) (.loop busy) (LoopR n fn D ps.toArray assign body regs .ready none) (LoopR n fn D ps.toArray assign body regs .ready none)
    exact y1.trans (x3.putL (l:=l) _ _ _)
  cases en with
  |normal=>
   obtain ⟨f1,f2,f3⟩:=fin none .ready rfl
   exact ⟨_,_,f1,k _ _ _ I3 _ (.inl ⟨rfl,_,rfl,q3⟩) (CRep.lit _ rfl) f2 f3⟩
  |ret=>
   obtain ⟨f1,f2,f3⟩:=fin (some .ret) .done rfl
   exact ⟨_,_,f1,k _ _ _ I3 _ (.inr ⟨rfl,_,_,rfl,q3,.inl rfl⟩) (CRep.lit _ rfl) f2 f3⟩
  |exit i=>
   obtain ⟨f1,f2,f3⟩:=fin (some (.exit i)) .done rfl
   exact ⟨_,_,f1,k _ _ _ I3 _ (.inr ⟨rfl,_,_,rfl,q3,.inr ⟨i,rfl⟩⟩) (CRep.lit _ rfl) f2 f3⟩
  |goto t=>exact q3.elim
  |panic ch=>exact q3.elim
  |outgrown=>exact q3.elim
 |ret=>exact q.elim
 |exit i=>exact q.elim
 |goto t=>exact q.elim
 |panic ch=>exact q.elim
 |outgrown=>exact q.elim
def xE {α:Type} (X:Cfg) (gf:FuncId) (first cap:List C) (xs:List α) (enc:α->List V):Prop:=
 ∀(y:C) (J Jx:List α->List E->Prop) (μ:List E),
  (∀pre x suf μ,xs=pre++x::suf->J pre μ->FnCon X y (enc x) μ fun r μ'=>(r=.c (.lit (.bool true))/\J (pre++[x]) μ')∨(r=.c (.lit (.bool false))/\Jx (pre++[x]) μ'))->
  J [] μ->Con X gf (first.map .c++[.c y]++cap.map .c) μ fun _ μ'=>J xs μ'∨∃pre x suf,xs=pre++x::suf/\Jx (pre++[x]) μ'
theorem awp_rangeFunc {α:Type} {X:Cfg} {n:Nat} {z:Z} (hz:RdOk z) {Q:Exit->S->Prop} {regs:List (Nat×V)} {μ:List E} {g:Operand} {ps:List Tmp} {assign body:Code} {gf:FuncId} {first cap:List C} (hg:ev regs g=.c (.fn (.func gf) first cap)) (hgf:bA X.P gf=true)
  {xs:List α} {enc:α->List V} (hit:xE X gf first cap xs enc) (hps:∀x,x∈xs->ps.length=(enc x).length) (hpn:ps.all (fun t=>Nat.blt t n)=true)
  (J:List α->List E->Prop) (Jx:Code->List α->List E->Prop) (h0:J [] μ)
  (hround:∀l pre x suf μ',xs=pre++x::suf->J pre μ'->tZ X n l assign body (J (pre++[x])) (fun c=>Jx c (pre++[x])) ⟨sZ ps (enc x) regs,μ'⟩)
  (hdone:∀μ',J xs μ'->Q .normal ⟨regs,μ'⟩)
  (hret:∀pre x suf μ',xs=pre++x::suf->Jx .ret (pre++[x]) μ'->Q .ret ⟨regs,μ'⟩)
  (hexit:∀i pre x suf μ',xs=pre++x::suf->Jx (.exit i) (pre++[x]) μ'->Q (.exit i) ⟨regs,μ'⟩):
  AWP X n z (.rangeFunc g ps.toArray assign body) Q ⟨regs,μ⟩:=by
 intro z1 hz1 a w ⟨I,hH,hR,hx,hd,hs⟩
 refine wpIn_rangeFunc ?_
 intro fn _
 have hgv:=ev_rep hR g
 rw [hg] at hgv
 have hgv':CRep w I (.fn (.func gf) first cap) (a.eval g):=hgv
 obtain ⟨us,vs,hev,hu,hv⟩:∃us vs:List Value,a.eval g=.func (.func gf) us.toArray vs.toArray/\CReps w I first us/\CReps w I cap vs:=by
  generalize a.eval g=v at hgv'
  cases hgv' with
  |fn _ _ _ us vs h1 h2 hr1 hr2=>exact ⟨us,vs,rfl,CReps.of_at h1.symm hr1,CReps.of_at h2.symm hr2⟩
 obtain ⟨D,W0,mk,hent,hH0,hx0,hmk⟩:∃(D:Nat) (W0:World) (mk:List Nat),(Instr.enterLoop fn a.tmps ps.toArray assign body z.rd).run X.P w=.ok (W0.heap.size,mk.map sJ) (W0.alloc (.loop { state:=.ready,pending:=none,fn:=fn,tmps:=a.tmps,params:=ps.toArray,assign:=assign,body:=body,defers:=D }))/\
   Heap X W0 I μ/\Ext w I μ W0 I μ/\mk.Nodup/\∀D',D'∈mk->w.heap.size<=D'/\D'<W0.heap.size/\¬I D'/\D' ∉ bB μ/\W0.heap[D']? =some (.deferred (some [])):=by
  cases hrd:z.rd with
  |some l0=>
   obtain ⟨h1,h2,h3,r0,h4⟩:=(hz.le hz1).2 l0 (by rw [hz1.rd];exact hrd)
   obtain ⟨_,_,_,k4⟩:=hx.stays h1 h2 h3
   exact ⟨r0.defers,w,[],run_enterLoop_inner (k4.trans h4) _ _ _ _ _,hH,Ext.refl _ _ _,List.nodup_nil,fun D' h=>by simp at h⟩
  |none=>
   have hsz:(w.alloc (.deferred (some []))).heap.size=w.heap.size+1:=by show (w.heap.push _).size=_;simp
   obtain ⟨k1,k2⟩:=zDa hH (.deferred (some [])) (.blk w.heap.size fun _ _ _=>True) rfl (fun _ _ _ _ _ _ _ _=>trivial) ⟨_,heap_alloc_new w _,trivial⟩
   refine ⟨w.heap.size,w.alloc (.deferred (some [])),[w.heap.size],?_,k1.tail,k2.less fun b hb=>by simp [bB] at hb⊢;exact .inr hb,by simp,fun D' h=>?_⟩
   ·rw [run_enterLoop_outer,hsz];rfl
   ·obtain rfl:D'=w.heap.size:=by simpa using h
    exact ⟨Nat.le_refl _,by omega,fun h=>by have:=hH.imm _ h;omega,fun h=>by have:=hH.lt h;omega,heap_alloc_new w _⟩
 generalize hrec:Loop.mk LoopState.ready none fn a.tmps ps.toArray assign body D=rec at hent
 obtain ⟨hH1,hx1⟩:=zDa hH0 (.loop rec) (.blk W0.heap.size (LoopR n fn D ps.toArray assign body regs .ready none)) rfl (LoopR.mono _) ⟨_,heap_alloc_new W0 _,a.tmps,by rw [hrec],hs,fun t=>by
  have:=hH.vrep hx0 (hR t)
  exact this.mono (fun b hb=>Below.heap_alloc W0 _ b (hH0.imm b hb)) fun _ h=>h⟩
 have hw01:=hx0.trans hx1
 refine ⟨W0.heap.size,mk.map sJ,W0.alloc (.loop rec),{ target:=.fn (.func gf) vs.toArray,args:=us.toArray++ #[.func (.yield W0.heap.size) #[] #[]] },W0.alloc (.loop rec),gf,
  (us++[Value.func (.yield W0.heap.size) #[] #[]]++vs).toArray,W0.alloc (.loop rec),hent,?_,fun _ _=>trivial,?_,fun h=>by simp [fen,Fence.wide] at h,?_⟩
 ·simp only [resolve,hev]
  simp [Act.eval,Deferred.ofValue]
 ·simp [invoke,zJd hgf]
 refine zLv _ _ ?_
 have hc:=hit (.fn (.yield W0.heap.size) [] [])
  (fun pre μ'=>∃μ1,μ'=.blk W0.heap.size (LoopR n fn D ps.toArray assign body regs .ready none)::μ1/\J pre μ1)
  (fun pre μ'=>∃c μ1,μ'=.blk W0.heap.size (LoopR n fn D ps.toArray assign body regs .done (some c))::μ1/\Jx c pre μ1/\(c=.ret∨∃i,c=.exit i))
  (.blk W0.heap.size (LoopR n fn D ps.toArray assign body regs .ready none)::μ)
  (by
   rintro pre x suf μ' hxs ⟨μ1,rfl,hj⟩
   exact yield_con (hps x (by rw [hxs];simp)) (fun t ht=>by have:=List.all_eq_true.1 hpn t ht;simpa [Nat.blt_eq] using this) (hround _ pre x suf μ1 hxs hj))
  ⟨μ,rfl,h0⟩
 have hargs:V1Reps (W0.alloc (.loop rec)) I (first.map .c++[.c (.fn (.yield W0.heap.size) [] [])]++cap.map .c) (us++[.func (.yield W0.heap.size) #[] #[]]++vs):=by
  have hst:=hH.still hw01
  have hy:V1Reps (W0.alloc (.loop rec)) I [.c (.fn (.yield W0.heap.size) [] [])] [.func (.yield W0.heap.size) #[] #[]]:=
   ⟨CRep.fn (.yield W0.heap.size) [] [] [] [] rfl rfl (fun j c u hc=>by simp at hc) (fun j c u hc=>by simp at hc),trivial⟩
  exact ((V1Reps.of_c (hu.mono hst fun _ h=>h)).append hy).append (V1Reps.of_c (hv.mono hst fun _ h=>h))
 refine (hc (W0.alloc (.loop rec)) I _ hH1 hargs).mono ?_
 have hW0lt:w.heap.size<=W0.heap.size:=hx0.size
 rintro en w3 ⟨v,r,μ3,I3,rfl,hq,hv3,hH3,hx3⟩
 have base:∀(st:LoopState) (pe:Option Code) (μ4:List E),st≠ .busy->μ3=.blk W0.heap.size (LoopR n fn D ps.toArray assign body regs st pe)::μ4->
   ∃w4,(Instr.endLoop W0.heap.size).run X.P w3=.ok pe w4/\∃z',ZLe z1 z'/\St X n z' ⟨regs,μ4⟩ { a with defers:=mk.map sJ++a.defers } w4:=by
  rintro st pe μ4 hst rfl
  obtain ⟨ob,hl3,tmps,rfl,hts,htr⟩:∃ob,w3.heap[W0.heap.size]? =some ob/\LoopR n fn D ps.toArray assign body regs st pe w3 I3 ob:=hH3.rep (.blk W0.heap.size _) (by simp)
  have hblk:bB (.blk W0.heap.size (LoopR n fn D ps.toArray assign body regs st pe)::μ4)=W0.heap.size::bB μ4:=by simp [bB,E.blocks]
  have hlI:X.N<=W0.heap.size/\¬I3 W0.heap.size:=hH3.own _ (by rw [hblk];simp)
  have hlμ:W0.heap.size ∉ bB μ4:=by have:=hH3.nodup;rw [hblk] at this;exact (List.nodup_cons.1 this).1
  refine ⟨_,run_endLoop hl3 hst,?_⟩
  generalize hob:Obj.loop { state:=LoopState.exhausted,pending:=pe,fn:=fn,tmps:=tmps,params:=ps.toArray,assign:=assign,body:=body,defers:=D }=ob4
  have hI4:∀b,I3 b->(w3.putObj W0.heap.size ob4).heap[b]? =w3.heap[b]? :=fun b hb=>World.putObj_heap_other (fun e=>hlI.2 (e ▸ hb))
  have hH4:Heap X (w3.putObj W0.heap.size ob4) I3 μ4:=hH3.tail.except (by simp [World.putObj]) fun b hb=>World.putObj_heap_other (fun e=>by
   subst e
   rcases hb with hb|hb|hb
   ·omega
   ·exact hlI.2 hb
   ·exact hlμ hb)
  have x13:Ext (W0.alloc (.loop rec)) I (.blk W0.heap.size (LoopR n fn D ps.toArray assign body regs .ready none)::μ) w3 I3 (.blk W0.heap.size (LoopR n fn D ps.toArray assign body regs st pe)::μ4):=hx3
  have hsz1:(W0.alloc (.loop rec)).heap.size=W0.heap.size+1:=by show (W0.heap.push _).size=_;simp
  have x04:Ext w I μ (w3.putObj W0.heap.size ob4) I3 μ4:=by
   have x03:=hw01.trans x13
   refine ⟨x03.os,x03.tape,x03.output,by simp [World.putObj];exact x03.size,fun b h1 h2=>?_,x03.imm,x03.imm',fun b h=>x03.own' b (by rw [hblk];simp [h])⟩
   rw [World.putObj_heap_other (by omega)]
   exact x03.block b h1 h2
  have hst:∀b,I b->(w3.putObj W0.heap.size ob4).heap[b]? =w.heap[b]? :=hH.still x04
  refine ⟨⟨w3.putObj W0.heap.size ob4,I3,μ4,mk.map sJ++z1.ds,z1.rd,z1.nm⟩,⟨rfl,hx.trans x04,rfl,fun h=>(by rw [(hz.le hz1).1] at h;cases h),mk,rfl,hmk.1,fun D' hD'=>?_⟩,I3,hH4,fun t=>(hR t).mono hst x04.imm,Ext.refl _ _ _,by show mk.map sJ++a.defers=mk.map sJ++z1.ds;rw [hd],hs⟩
  obtain ⟨d1,d2,d3,d4,d5⟩:=hmk.2 D' hD'
  have e1:(W0.alloc (.loop rec)).heap[D']? =W0.heap[D']? :=Below.heap_alloc W0 _ D' d2
  obtain ⟨s1,s2,s3,s4⟩:=x13.stays (D:=D') (by omega) d3 (by rw [show bB (.blk W0.heap.size (LoopR n fn D ps.toArray assign body regs .ready none)::μ)=W0.heap.size::bB μ by simp [bB,E.blocks]];simp;exact ⟨by omega,d4⟩)
  refine ⟨Nat.le_trans hx.size d1,by simp [World.putObj];exact s1,s2,fun h=>s3 (by rw [hblk];simp [h]),?_⟩
  show (w3.putObj W0.heap.size ob4).heap[D']? =_
  rw [World.putObj_heap_other (by omega),s4,e1,d5]
 rcases hq with ⟨μ4,hμ,hj⟩|⟨pre,x,suf,hxs,c,μ4,hμ,hjx,hc'⟩
 ·obtain ⟨w4,h1,z',h2,h3⟩:=base _ _ μ4 (by simp) hμ
  exact ⟨none,w4,h1,z',⟨regs,μ4⟩,h2,hdone μ4 hj,h3⟩
 ·obtain ⟨w4,h1,z',h2,h3⟩:=base _ _ μ4 (by simp) hμ
  refine ⟨some c,w4,h1,?_⟩
  rcases hc' with rfl|⟨i,rfl⟩
  ·exact wpIn_ret ⟨z',⟨regs,μ4⟩,h2,hret pre x suf μ4 hxs hjx,h3⟩
  ·exact wpIn_exit ⟨z',⟨regs,μ4⟩,h2,hexit i pre x suf μ4 hxs hjx,h3⟩
end Go.Eng
end
section
namespace Go.Eng
open Go Go.RowKit
/-! ## Structs of numbers,strings and truth values -/
inductive FK where
 |int
 |str
 |bool
def cEq:C->C->Bool
 |.lit (.int _ a),.lit (.int _ b)=>decide (a=b)
 |.lit (.string a),.lit (.string b)=>decide (a=b)
 |.lit (.bool a),.lit (.bool b)=>a==b
 |_,_=>false
def bF:List C->List C->Bool
 |x::xs,y::ys=>cEq x y&&bF xs ys
 |_,_=>true
def fkT (P:Program) (t:TypeId):Option FK:=match P.underlying t with
 |some (.int _)=>some .int
 |some .string=>some .str
 |some .bool=>some .bool
 |_=>none
def rY (P:Program):List Field->Nat->Option (List FK)
 |[],_=>some []
 |f::r,o=>
  if f.name ≠ "_" ∧ f.offset = o then
   match fkT P f.type,rY P r (o+1) with
   |some k,some ks=>some (k::ks)
   |_,_=>none
  else none
def flatK (P:Program) (t:TypeId):Option (List FK):=match P.underlying t with
 |some (.struct fs)=>if P.stoodInHeld t=false/\P.eqGuardType P.depth t=false then rY P fs.toList 0 else none
 |_=>none
def mW:List FK->List C->List C->Bool
 |.int::ks,.lit (.int .i64 _)::xs,.lit (.int .i64 _)::ys=>mW ks xs ys
 |.str::ks,.lit (.string _)::xs,.lit (.string _)::ys=>mW ks xs ys
 |.bool::ks,.lit (.bool _)::xs,.lit (.bool _)::ys=>mW ks xs ys
 |[],[],[]=>true
 |_,_,_=>false
theorem eqStep {P : Program} {w : World} {d : Nat} {US VS : Array Value} {f : Field} {r : List Field} {o : Nat} {u v : Value} {b c : Bool} (hn : f.name ≠ "_") (ho : f.offset = o) (hagg : (isAgg f.type).run P w = .ok false w) (hu : US[o]? = some u) (hv : VS[o]? = some v)
  (he:(Op.equalIn (d+1) f.type u v).run P w=.ok b w) (ih:(Op.eqFields (d+1) US VS r).run P w=.ok c w):(Op.eqFields (d+1) US VS (f::r)).run P w=.ok (b&&c) w:=by
 cases b<;>simp [Op.eqFields,hn,part,ho,hagg,hu,hv,he,ih]
theorem zCy {α:Type} {l:List α} {o:Nat} {u:α} {us:List α} (h:l.drop o=u::us):l[o]? =some u/\l.drop (o+1)=us:=by
 constructor
 ·have:=congrArg (fun l=>l[0]?) h
  simpa using this
 ·have:=congrArg List.tail h
  simpa using this
theorem zEj {P:Program} {w:World} {I:Nat->Prop} (d:Nat) {US VS:Array Value}:∀(fs:List Field) (o:Nat) (ks:List FK) (xs ys:List C) (us vs:List Value),rY P fs o=some ks->mW ks xs ys=true->CReps w I xs us->CReps w I ys vs->
  US.toList.drop o=us->VS.toList.drop o=vs->(Op.eqFields (d+1) US VS fs).run P w=.ok (bF xs ys) w
 |[],o,ks,xs,ys,us,vs,hf,hk,_,_,_,_=>by
  simp only [rY,Option.some.injEq] at hf
  subst hf
  match xs,ys,hk with
  |[],[],_=>simp [Op.eqFields,bF]
 |f::r,o,ks,xs,ys,us,vs,hf,hk,hx,hy,hu,hv=>by
  unfold rY at hf
  split at hf
  ·rename_i hn
   split at hf
   ·rename_i k ks' hk1 hk2
    simp only [Option.some.injEq] at hf
    subst hf
    cases k with
    |int=>
     have ht:∃k,P.underlying f.type=some (.int k):=by
      unfold fkT at hk1;split at hk1<;>first|exact ⟨_,by assumption⟩|cases hk1
     obtain ⟨kk,ht⟩:=ht
     match xs,ys,hk,hx,hy with
     |.lit (.int .i64 a)::xs,.lit (.int .i64 b)::ys,hk,.cons h1 hx,.cons h2 hy=>
      cases h1;cases h2
      obtain ⟨u0,u1⟩:=zCy hu
      obtain ⟨v0,v1⟩:=zCy hv
      have:=eqStep hn.1 hn.2 (by simp [isAgg,run_underlying ht]) (by simpa using u0) (by simpa using v0) (run_equalIn_int w d f.type .i64 kk a b ht) (zEj d r (o+1) ks' xs ys _ _ hk2 hk hx hy u1 v1)
      simp only [bF,cEq]
      exact this
    |str=>
     have ht:P.underlying f.type=some .string:=by
      unfold fkT at hk1;split at hk1<;>first|assumption|cases hk1
     match xs,ys,hk,hx,hy with
     |.lit (.string a)::xs,.lit (.string b)::ys,hk,.cons h1 hx,.cons h2 hy=>
      cases h1;cases h2
      obtain ⟨u0,u1⟩:=zCy hu
      obtain ⟨v0,v1⟩:=zCy hv
      have:=eqStep hn.1 hn.2 (by simp [isAgg,run_underlying ht]) (by simpa using u0) (by simpa using v0) (run_equalIn_string w d f.type a b ht) (zEj d r (o+1) ks' xs ys _ _ hk2 hk hx hy u1 v1)
      rw [str_beq] at this
      simpa [bF,cEq] using this
    |bool=>
     have ht:P.underlying f.type=some .bool:=by
      unfold fkT at hk1;split at hk1<;>first|assumption|cases hk1
     match xs,ys,hk,hx,hy with
     |.lit (.bool a)::xs,.lit (.bool b)::ys,hk,.cons h1 hx,.cons h2 hy=>
      cases h1;cases h2
      obtain ⟨u0,u1⟩:=zCy hu
      obtain ⟨v0,v1⟩:=zCy hv
      have:=eqStep hn.1 hn.2 (by simp [isAgg,run_underlying ht]) (by simpa using u0) (by simpa using v0) (run_equalIn_bool' w d f.type a b ht) (zEj d r (o+1) ks' xs ys _ _ hk2 hk hx hy u1 v1)
      simpa [bF,cEq] using this
   ·cases hf
  ·cases hf
section aeq
variable {X:Cfg} {o:Oper} {e:Operand->V} {μ:List E} {t ty:TypeId} {x y:Operand} {ks:List FK} {xs ys:List C}
theorem run_flat {w:World} {I:Nat->Prop} {US VS:List Value} (ht:flatK X.P t=some ks) (hk:mW ks xs ys=true) (hx:CReps w I xs US) (hy:CReps w I ys VS):
  X.P.eqGuardType X.P.depth t=false/\(Op.equalIn 10000 t (.agg US.toArray) (.agg VS.toArray)).run X.P w=.ok (bF xs ys) w:=by
 unfold flatK at ht
 split at ht
 ·rename_i fs hu
  split at ht
  ·rename_i hg
   have hfs:X.P.fieldsOf t=fs:=by simp [Program.fieldsOf,hu]
   refine ⟨hg.2,?_⟩
   rw [run_equalIn_struct w 9999 t _ _ (by rw [hfs];exact hu) hg.1,hfs]
   exact zEj 9998 fs.toList 0 ks xs ys _ _ ht hk hx hy (by simp) (by simp)
  ·cases ht
 ·cases ht
theorem zKp (ho:o.op=.binOp .eql t x y ty) (ht:flatK X.P t=some ks) (hx:e x=.agg xs) (hy:e y=.agg ys) (hk:mW ks xs ys=true):Det X o e μ (.c (.lit (.bool (bF xs ys)))) μ:=
 kL fun a w I _ hops=>by
  have hxv:=hops x (by rw [ho];simp [Op.operands])
  have hyv:=hops y (by rw [ho];simp [Op.operands])
  rw [hx] at hxv
  rw [hy] at hyv
  obtain ⟨us,h0,hu⟩:=hxv.agg_inv
  obtain ⟨vs,h2,hv⟩:=hyv.agg_inv
  obtain ⟨h3,h4⟩:=run_flat ht hk hu hv
  refine ⟨.bool (bF xs ys),?_,CRep.lit _ rfl⟩
  simp only [execOp,ho,h0,h2,Sem.run_bind,run_eqGuard_agg w _ _ _ _ _ _ h3,run_eql_struct,h4,Result.andThen_ok,Sem.run_pure]
theorem zAu (ho:o.op=.binOp .neq t x y ty) (ht:flatK X.P t=some ks) (hx:e x=.agg xs) (hy:e y=.agg ys) (hk:mW ks xs ys=true):Det X o e μ (.c (.lit (.bool (!bF xs ys)))) μ:=
 kL fun a w I _ hops=>by
  have hxv:=hops x (by rw [ho];simp [Op.operands])
  have hyv:=hops y (by rw [ho];simp [Op.operands])
  rw [hx] at hxv
  rw [hy] at hyv
  obtain ⟨us,h0,hu⟩:=hxv.agg_inv
  obtain ⟨vs,h2,hv⟩:=hyv.agg_inv
  obtain ⟨h3,h4⟩:=run_flat ht hk hu hv
  refine ⟨.bool (!bF xs ys),?_,CRep.lit _ rfl⟩
  simp only [execOp,ho,h0,h2,Sem.run_bind,run_eqGuard_agg w _ _ _ _ _ _ h3,run_neq_struct,h4,Result.andThen_ok,Sem.run_pure]
end aeq
/-! ## Slices of the call's own -/
section own
variable {X:Cfg} {o:Oper} {e:Operand->V} {μ:List E} {t:TypeId}
theorem zFe {et:TypeId} {size bytes len:Nat} {zs:List Value} {parts:List (Nat×Operand)} {rows:List (List C)} (ho:o.op=.buildSlice t len parts.toArray) (ht:dK X.P t=some (et,size,bytes)) (hz:dM X.P et=some zs) (hlim:Nat.ble (len*size) 16777216=true)
  (hidx:rX 0 parts=true) (hlen:Nat.beq parts.length len=true) (hrows:jW size (parts.map fun p=>e p.2)=some rows):OpE X o e μ fun r μ'=>∃sv,r=.c (.lit sv)/\μ'=.vec sv et size rows::μ:=by
 intro a w I hH hops K Q k
 obtain ⟨us,hrun,hc,hul⟩:=zNx (X:=X) (I:=I) ho ht hz hlim hidx hlen hrows hops
 have hl:parts.length=len:=Nat.eq_of_beq_eq_true hlen
 obtain ⟨hrl,hrs⟩:=rowsOf_len hrows
 simp only [List.length_map] at hrl
 obtain ⟨_,_,_,_,_,_,_,_,hpos⟩:=kZ ht
 have hlr:len=rows.length:=by omega
 have hmax:len<=maxLen:=by
  have h1:=Nat.le_of_ble_eq_true hlim
  have h2:len*1<=len*size:=Nat.mul_le_mul_left _ hpos
  simp only [maxLen];omega
 subst hlr
 have dC:∀b,b<w.heap.size->(w.alloc (.cells us.toArray et)).heap[b]? =w.heap[b]? :=fun b hb=>Below.heap_alloc w _ b hb
 have hrep:ERep (w.alloc (.cells us.toArray et)) I (.vec (.slice (some ⟨w.heap.size,0,none⟩) rows.length rows.length) et size rows):=
  zHf (xs:=us) ⟨hul,.inr ⟨w.heap.size,rows.length,us.toArray,rfl,Nat.zero_le _,heap_alloc_new w _,Nat.le_refl _,hmax,by simpa using hul,by simp [←hul]⟩⟩ (hc.mono (fun b hb=>dC b (hH.imm b hb)) fun _ h=>h) hrs
 cases hn:rows.length with
 |zero=>
  exact r8
 |succ n=>
  exact v30
abbrev OwnR (X:Cfg) (f:FuncId) (args:List V) (et:TypeId) (size:Nat) (rows:List (List C)):Prop:=Con X f args [] fun r μ'=>∃sv,r=.c (.lit sv)/\μ'=[.vec sv et size rows]
theorem ope_call_own {f:FuncId} {arg_:List Operand} {ts:Array TypeId} {args:List V} {et:TypeId} {size:Nat} {rows:List (List C)} (ho:o.op=.call { callee:=.value (.func f),args:=arg_.toArray,argTypes:=ts }) (hf:bA X.P f=true) (hc:OwnR X f args et size rows) (ha:mL (arg_.map e) args):
  OpE X o e μ fun r μ'=>∃sv,r=.c (.lit sv)/\μ'=.vec sv et size rows::μ:=
 (zBw ho hf (hc.frame μ) ha).mono fun r μ' ⟨_,⟨sv,h1,h2⟩,h3⟩=>⟨sv,h1,by rw [h3,h2];rfl⟩
theorem OwnR.pur {f:FuncId} {args:List V} {et:TypeId} {size:Nat} {rows:List (List C)} (h:OwnR X f args et size rows):Pur X f args (.c (.sl size rows)):=by
 intro w I vs hH ha
 refine (h w I vs hH ha).mono ?_
 rintro en w' ⟨v,r,μ',I',rfl,⟨sv,rfl,rfl⟩,hv,hH',x⟩
 have hrep:=hH'.rep _ (List.mem_singleton.2 rfl)
 have e1:v=sv:=hv.lit_inv
 subst e1
 refine ⟨v,_,[],fun b=>I' b∨b∈(E.vec v et size rows).blocks,rfl,rfl,?_,?_,?_⟩
 ·exact vec_sl (hrep.mono (w':=w') trivial (fun _ _=>rfl) (fun b h=>.inl h) fun _ _=>rfl) fun b hb=>.inr hb
 ·refine ⟨hH'.lo,hH'.glob,by simp [bB],fun b hb=>by simp [bB] at hb,?_,fun en hen=>by simp at hen,fun en hen=>by simp at hen⟩
  rintro b (h|h)
  ·exact hH'.imm b h
  ·exact hrep.lt h
 ·refine ⟨x.os,x.tape,x.output,x.size,x.block,fun b h=>.inl (x.imm b h),?_,fun b h=>by simp [bB] at h⟩
  rintro b (h|h)
  ·exact x.imm' b h
  ·rcases x.own' b (zAs (List.mem_singleton.2 rfl) h) with h|h
   ·simp [bB] at h
   ·exact .inr (.inr h)
end own
/-! ## Leaving a slice alone to which other memory points -/
structure EFle (sv:Value) (size:Nat) (rows:List (List C)) (e e':E):Prop where
 blocks:e'.blocks=e.blocks
 mono:e.Mono->e'.Mono
 rep:∀w I,CRep w I (.sl size rows) sv->ERep w I e->ERep w I e'
section efle
variable {sv:Value} {size:Nat} {rows:List (List C)}
theorem EFle.refl (e:E):EFle sv size rows e e:=⟨rfl,fun h=>h,fun _ _ _ h=>h⟩
theorem EFle.row {b:Nat} {t:TypeId} {cs ds:List C} (h:pU sv size rows cs ds):EFle sv size rows (.row b t cs) (.row b t ds):=
 ⟨rfl,fun _=>trivial,fun _ _ hs ⟨vs,h1,h2⟩=>⟨vs,h1,zNm hs h h2⟩⟩
theorem cfle_length {xs ys:List C} (h:pU sv size rows xs ys):ys.length=xs.length:=by
 induction xs generalizing ys with
 |nil=>cases ys with
  |nil=>rfl
  |cons y ys=>exact h.elim
 |cons x xs ih=>cases ys with
  |nil=>exact h.elim
  |cons y ys=>simp [ih h.2]
theorem cfle_refl (xs:List C):pU sv size rows xs xs:=by
 induction xs with
 |nil=>trivial
 |cons x xs ih=>exact ⟨.inl rfl,ih⟩
theorem zUn {xs ys xs' ys':List C} (h:pU sv size rows xs ys) (k:pU sv size rows xs' ys'):pU sv size rows (xs++xs') (ys++ys'):=by
 induction xs generalizing ys with
 |nil=>cases ys with
  |nil=>exact k
  |cons y ys=>exact h.elim
 |cons x xs ih=>cases ys with
  |nil=>exact h.elim
  |cons y ys=>exact ⟨h.1,ih h.2⟩
theorem flat_cfle {R:List (List C)} {i:Nat} {r r':List C} (hi:R[i]? =some r) (h:pU sv size rows r r'):pU sv size rows R.flatten (R.set i r').flatten:=by
 induction R generalizing i with
 |nil=>simp at hi
 |cons q R ih=>
  cases i with
  |zero=>
   simp at hi;subst hi
   simpa using zUn h (cfle_refl R.flatten)
  |succ i=>simpa using zUn (cfle_refl q) (ih (by simpa using hi))
theorem EFle.vec {s:Value} {t:TypeId} {n i:Nat} {R:List (List C)} {r r':List C} (hi:R[i]? =some r) (h:pU sv size rows r r'):EFle sv size rows (.vec s t n R) (.vec s t n (R.set i r')):=by
 refine ⟨rfl,fun _=>trivial,fun w I hs k=>?_⟩
 rcases k with ⟨_,_,rfl⟩|⟨h1,xs,h2,h3,h4⟩
 ·simp at hi
 ·refine .inr ⟨h1,xs,by rw [List.length_set];exact h2,zNm hs (flat_cfle hi h) h3,fun q hq=>?_⟩
  rcases List.mem_or_eq_of_mem_set hq with h|h
  ·exact h4 q h
  ·subst h;rw [cfle_length ‹_›];exact h4 r (List.mem_of_getElem? hi)
def tX (sv:Value) (size:Nat) (rows:List (List C)):List E->List E->Prop
 |[],[]=>True
 |e::es,e'::es'=>EFle sv size rows e e'/\tX sv size rows es es'
 |_,_=>False
theorem zPq:∀{μ μ':List E},tX sv size rows μ μ'->bB μ'=bB μ
 |[],[],_=>rfl
 |_::_,_::_,h=>by rw [wW,wW,h.1.blocks,zPq h.2]
 |[],_::_,h=>h.elim
 |_::_,[],h=>h.elim
theorem zUc:∀{μ μ':List E},tX sv size rows μ μ'->∀e',e'∈μ'->∃e,e∈μ/\EFle sv size rows e e'
 |[],[],_,_,h=>by simp at h
 |e::_,_::_,h,e',hm=>by
  rcases List.mem_cons.1 hm with rfl|hm
  ·exact ⟨e,by simp,h.1⟩
  ·obtain ⟨e0,h1,h2⟩:=zUc h.2 e' hm
   exact ⟨e0,by simp [h1],h2⟩
 |[],_::_,h,_,_=>h.elim
 |_::_,[],h,_,_=>h.elim
def xN (sv:Value) (size:Nat) (rows:List (List C)) (regs:List (Nat×V)):List (Nat×V)->Prop
 |[]=>True
 |(t,y)::r=>FLe sv size rows (bT regs t) y/\xN sv size rows regs r
theorem fles_rep {regs:List (Nat×V)} {w:World} {I:Nat->Prop} {a:Act} (hs:CRep w I (.sl size rows) sv) (hR:∀t,VRep w I (bT regs t) (a.tmps.getD t undef)):∀{r:List (Nat×V)},xN sv size rows regs r->∀t,VRep w I (bT (r++regs) t) (a.tmps.getD t undef)
 |[],_,t=>hR t
 |(s,y)::r,h,t=>by
  rw [List.cons_append,zBm]
  split
  ·rename_i e;subst e;exact h.1 w I _ hs (hR s)
  ·exact fles_rep hs hR h.2 t
theorem kS {regs regs':List (Nat×V)} {μ μ':List E} {et:TypeId} (p:Nat) (hp:nth μ p=some (.vec sv et size rows)) (hr:xN sv size rows regs regs') (hμ:tX sv size rows (mX μ p) μ'):Weak ⟨regs,μ⟩ ⟨regs'++regs,μ'⟩:=by
 intro X n z a w ⟨I,hH,hR,hx,hd,hs⟩
 have pm:=zHs hp
 have h1:Heap X w I ([E.vec sv et size rows]++mX μ p):=hH.perm pm
 have hrep:=hH.rep _ (zAg hp)
 let I':Nat->Prop:=fun b=>I b∨b∈(E.vec sv et size rows).blocks
 have hII:∀b,I b->I' b:=fun b h=>.inl h
 have hsl:CRep w I' (.sl size rows) sv:=vec_sl (hrep.mono (w':=w) (I':=I') trivial (fun _ _=>rfl) hII fun _ _=>rfl) fun b hb=>.inr hb
 have hn:=h1.nodup
 rw [yW] at hn
 obtain ⟨_,hn2,hn3⟩:=List.nodup_append.1 hn
 have hb1:bB [E.vec sv et size rows]=(E.vec sv et size rows).blocks:=by simp [bB]
 have hmem:∀b,b∈bB (mX μ p)->b∈bB μ:=fun b hb=>(wV pm).mem_iff.2 (by rw [wW];exact List.mem_append.2 (.inr hb))
 have hbs:=zPq hμ
 refine ⟨I',⟨hH.lo,hH.glob,by rw [hbs];exact hn2,fun b hb=>?_,?_,fun en hen=>?_,fun en hen=>?_⟩,?_,?_,hd,hs⟩
 ·rw [hbs] at hb
  refine ⟨(hH.own b (hmem b hb)).1,?_⟩
  rintro (h|h)
  ·exact (hH.own b (hmem b hb)).2 h
  ·exact hn3 b (by rw [hb1];exact h) b hb rfl
 ·rintro b (h|h)
  ·exact hH.imm b h
  ·exact hrep.lt h
 ·obtain ⟨e0,h0,hf⟩:=zUc hμ en hen
  have hm:e0∈μ:=pm.mem_iff.2 (List.mem_cons_of_mem _ h0)
  exact hf.rep w I' hsl ((hH.rep e0 hm).mono (hH.mono e0 hm) (fun _ _=>rfl) hII fun _ _=>rfl)
 ·obtain ⟨e0,h0,hf⟩:=zUc hμ en hen
  exact hf.mono (hH.mono e0 (pm.mem_iff.2 (List.mem_cons_of_mem _ h0)))
 ·exact fles_rep hsl (fun t=>(hR t).mono (fun _ _=>rfl) hII) hr
 ·refine ⟨hx.os,hx.tape,hx.output,hx.size,hx.block,fun b h=>.inl (hx.imm b h),fun b hb=>?_,fun b hb=>hx.own' b (hmem b (by rw [←hbs];exact hb))⟩
  rcases hb with h|h
  ·exact hx.imm' b h
  ·rcases hx.own' b (zAs (zAg hp) h) with h'|h'
   ·exact .inr (.inl h')
   ·exact .inr (.inr h')
end efle
/-! ## Leaving a variable alone -/
theorem row_iptr {w:World} {I:Nat->Prop} {b:Nat} {t:TypeId} {cells:List C} (h:ERep w I (.row b t cells)) (hI:I b):CRep w I (.iptr cells) (.pointer (some ⟨b,0,none⟩)):=by
 obtain ⟨vs,hh,hc⟩:=h
 refine .iptr cells ⟨b,0,none⟩ (fun j=>(vs[j]?).getD undef) hI (fun j hj=>?_) (fun j c hj=>?_)
 ·rw [zBj,Nat.zero_add,cell_of_row w b j vs.toArray t (0,0) hh]
  have:j<vs.length:=by rw [←hc.length];exact hj
  simp [this]
 ·obtain ⟨v,hv,hr⟩:=hc.at_ hj
  simp only [hv,Option.getD_some]
  exact hr
def PLe (b:Nat) (cells:List C) (x y:V):Prop:=∀w I v,CRep w I (.iptr cells) (.pointer (some ⟨b,0,none⟩))->VRep w I x v->VRep w I y v
theorem PLe.ptr {b:Nat} {cells:List C}:PLe b cells (.c (.lit (.pointer (some ⟨b,0,none⟩)))) (.c (.iptr cells)):=by
 intro w I v h hv
 rw [hv.lit_inv]
 exact h
def vQ (b:Nat) (cells:List C):List C->List C->Prop
 |[],[]=>True
 |x::xs,y::ys=>(x=y∨(x=.lit (.pointer (some ⟨b,0,none⟩))/\y=.iptr cells))/\vQ b cells xs ys
 |_,_=>False
theorem pcfle_reps {b:Nat} {cells:List C} {w:World} {I:Nat->Prop} (h:CRep w I (.iptr cells) (.pointer (some ⟨b,0,none⟩))):∀{xs ys:List C} {vs:List Value},vQ b cells xs ys->CReps w I xs vs->CReps w I ys vs
 |[],[],_,_,k=>k
 |x::xs,y::ys,_,hc,.cons hd tl=>by
  refine .cons ?_ (pcfle_reps h hc.2 tl)
  rcases hc.1 with rfl|⟨rfl,rfl⟩
  ·exact hd
  ·cases hd;exact h
 |[],_::_,_,h,_=>h.elim
 |_::_,[],_,h,_=>h.elim
theorem PLe.fn {b:Nat} {cells:List C} {f:Fn} {fs xs ys:List C} (h:vQ b cells xs ys):PLe b cells (.c (.fn f fs xs)) (.c (.fn f fs ys)):=by
 intro w I v hp hv
 have hv':CRep w I (.fn f fs xs) v:=hv
 cases hv' with
 |fn _ _ _ us vs h1 h2 hr1 hr2=>
  have k:=pcfle_reps hp h (CReps.of_at h2.symm hr2)
  exact CRep.fn f fs ys us vs h1 k.length.symm hr1 (fun j c u hc hu=>by
   obtain ⟨u',hu',hr⟩:=k.at_ hc
   rw [hu] at hu';cases hu';exact hr)
theorem kM {regs:List (Nat×V)} {μ:List E} {b:Nat} {ty:TypeId} {cells:List C} (p:Nat) (hp:nth μ p=some (.row b ty cells)) (t:Nat) (y:V) (hy:PLe b cells (bT regs t) y):Weak ⟨regs,μ⟩ ⟨(t,y)::regs,mX μ p⟩:=by
 intro X n z a w ⟨I,hH,hR,hx,hd,hs⟩
 have pm:=zHs hp
 have h1:Heap X w I ([E.row b ty cells]++mX μ p):=hH.perm pm
 have hrep:=hH.rep _ (zAg hp)
 let I':Nat->Prop:=fun k=>I k∨k∈(E.row b ty cells).blocks
 have hII:∀b,I b->I' b:=fun b h=>.inl h
 have hsl:CRep w I' (.iptr cells) (.pointer (some ⟨b,0,none⟩)):=row_iptr (hrep.mono (w':=w) (I':=I') trivial (fun _ _=>rfl) hII fun _ _=>rfl) (.inr (by simp [E.blocks]))
 have hn:=h1.nodup
 rw [yW] at hn
 obtain ⟨_,hn2,hn3⟩:=List.nodup_append.1 hn
 have hb1:bB [E.row b ty cells]=(E.row b ty cells).blocks:=by simp [bB]
 have hmem:∀b,b∈bB (mX μ p)->b∈bB μ:=fun b hb=>(wV pm).mem_iff.2 (by rw [wW];exact List.mem_append.2 (.inr hb))
 refine ⟨I',⟨hH.lo,hH.glob,hn2,fun b hb=>⟨(hH.own b (hmem b hb)).1,?_⟩,?_,fun en hen=>?_,fun en hen=>?_⟩,fun t'=>?_,?_,hd,hs⟩
 ·rintro (h|h)
  ·exact (hH.own b (hmem b hb)).2 h
  ·exact hn3 b (by rw [hb1];exact h) b hb rfl
 ·rintro b (h|h)
  ·exact hH.imm b h
  ·exact hrep.lt h
 ·have hm:en∈μ:=pm.mem_iff.2 (List.mem_cons_of_mem _ hen)
  exact (hH.rep en hm).mono (hH.mono en hm) (fun _ _=>rfl) hII fun _ _=>rfl
 ·exact hH.mono en (pm.mem_iff.2 (List.mem_cons_of_mem _ hen))
 ·have dC:VRep w I' (bT regs t') (a.tmps.getD t' undef):=(hR t').mono (fun _ _=>rfl) hII
  show VRep w I' (bT ((t,y)::regs) t') _
  rw [zBm]
  split
  ·rename_i e;subst e;exact hy w I' _ hsl dC
  ·exact dC
 ·refine ⟨hx.os,hx.tape,hx.output,hx.size,hx.block,fun b h=>.inl (hx.imm b h),fun b hb=>?_,fun b hb=>hx.own' b (hmem b hb)⟩
  rcases hb with h|h
  ·exact hx.imm' b h
  ·rcases hx.own' b (zAs (zAg hp) h) with h'|h'
   ·exact .inr (.inl h')
   ·exact .inr (.inr h')
/-! ## More operators -/
section ops2
variable {X:Cfg} {o:Oper} {e:Operand->V} {μ:List E} {t ty:TypeId} {x y:Operand}
theorem det_sgeq {a b:ByteArray} (ho:o.op=.binOp .geq t x y ty) (hx:e x=.c (.lit (.string a))) (hy:e y=.c (.lit (.string b))):Det X o e μ (.c (.lit (.bool (!tQ a b)))) μ:=zAx ho hx hy (fun w=>by simp only [eqGuard,binOp,Op.stringOp];rfl) rfl
theorem zUg {k k':IntKind} {a b:Int} (ho:o.op=.binOp .shl t x y ty) (hx:e x=.c (.lit (.int k a))) (hy:e y=.c (.lit (.int k' b))) (h0:0<=b):Det X o e μ (.c (.lit (.int k (k.wrap (a*2^(min b.toNat k.bits)))))) μ:=
 zAx ho hx hy (fun w=>by
  have:¬b<0:=by omega
  simp [eqGuard,binOp,Op.shift,this]) rfl
theorem det_shr {k k':IntKind} {a b:Int} (ho:o.op=.binOp .shr t x y ty) (hx:e x=.c (.lit (.int k a))) (hy:e y=.c (.lit (.int k' b))) (h0:0<=b):Det X o e μ (.c (.lit (.int k (a.fdiv (2^(min b.toNat k.bits)))))) μ:=
 zAx ho hx hy (fun w=>by
  have:¬b<0:=by omega
  simp [eqGuard,binOp,Op.shift,this]) rfl
theorem det_bits {op:BinOp} {k:IntKind} {a b:Int} {r:Value} (ho:o.op=.binOp op t x y ty) (hop:op=.and∨op=.or∨op=.xor) (hx:e x=.c (.lit (.int k a))) (hy:e y=.c (.lit (.int k b))) (hr:∀(P:Program) w,(Op.intBits op k a b).run P w=.ok r w) (h1:r.oneCell'=true):Det X o e μ (.c (.lit r)) μ:=
 zAx ho hx hy (fun w=>by rcases hop with rfl|rfl|rfl<;>simp [eqGuard,binOp,hr]) h1
end ops2
/-! ## Weaker ends; ranges over functions with named memory -/
theorem awp_wk {X:Cfg} {n:Nat} {z:Z} {c:Code} {Q:Exit->S->Prop} {σ:S} (h:AWP X n z c (fun e σ=>∃τ,Weak σ τ/\Q e τ) σ):AWP X n z c Q σ:=by
 intro z1 hz1 a w s
 refine wpIn_mono (h z1 hz1 a w s) ?_
 rintro e a' w' ⟨z2,σ',hz2,⟨τ,hw,q⟩,s'⟩
 exact ⟨z2,τ,hz2,q,hw _ _ _ _ _ s'⟩
theorem yZ {X:Cfg} {n:Nat} {z:Z} {Q:Exit->S->Prop} {σ:S} {ops:Array Oper} {l:List Oper} (τ:S) (h:Weak σ τ) (k:RWP X n z ops l Q τ):RWP X n z ops l Q σ:=
 fun hall z1 hz1 a w s=>k hall z1 hz1 a w (h X n z1 a w s)
def vO {α:Type} (inv:List α->Prop) (hμ:List α->List E) (invx:Code->List α->Prop) (hμx:Code->List α->List E) (bμ:List E) (pre:List α):Exit->S->Prop
 |.normal,τ=>inv pre/\τ.μ=hμ pre++bμ
 |.ret,τ=>invx .ret pre/\τ.μ=hμx .ret pre++bμ
 |.exit i,τ=>invx (.exit i) pre/\τ.μ=hμx (.exit i) pre++bμ
 |_,_=>False
theorem zEh {P:Exit->S->Prop} {e:Exit} {σ τ:S} (h:Weak σ τ) (k:P e τ):∃τ',Weak σ τ'/\P e τ':=⟨τ,h,k⟩
theorem zId {α:Type} {X:Cfg} {n:Nat} {z:Z} (hz:RdOk z) {Q:Exit->S->Prop} {regs:List (Nat×V)} {μ bμ:List E} {g:Operand} {ps:List Tmp} {assign body:Code} {gf:FuncId} {first cap:List C} (kμ:Nat) (_hm:tF kμ μ=some bμ)
  (hg:ev regs g=.c (.fn (.func gf) first cap)) (hgf:bA X.P gf=true) {xs:List α} {enc:α->List V} (hit:xE X gf first cap xs enc) (hps:∀x,x∈xs->ps.length=(enc x).length) (hpn:ps.all (fun t=>Nat.blt t n)=true)
  (inv:List α->Prop) (hμ:List α->List E) (invx:Code->List α->Prop) (hμx:Code->List α->List E) (h0:inv []/\μ=hμ []++bμ)
  (hround:∀pre x suf,xs=pre++x::suf->inv pre->∀z,RdOk z->AWP X n z assign (nR (fun τ=>∀z,RdOk z->AWP X n z body (fun e σ=>∃τ',Weak σ τ'/\vO inv hμ invx hμx bμ (pre++[x]) e τ') τ) fun _ _=>False) ⟨sZ ps (enc x) regs,hμ pre++bμ⟩)
  (hdone:inv xs->Q .normal ⟨regs,hμ xs++bμ⟩)
  (hret:∀pre x suf,xs=pre++x::suf->invx .ret (pre++[x])->Q .ret ⟨regs,hμx .ret (pre++[x])++bμ⟩)
  (hexit:∀i pre x suf,xs=pre++x::suf->invx (.exit i) (pre++[x])->Q (.exit i) ⟨regs,hμx (.exit i) (pre++[x])++bμ⟩):
  AWP X n z (.rangeFunc g ps.toArray assign body) Q ⟨regs,μ⟩:=by
 refine awp_rangeFunc hz hg hgf hit hps hpn (fun pre μ'=>inv pre/\μ'=hμ pre++bμ) (fun c pre μ'=>invx c pre/\μ'=hμx c pre++bμ) h0 ?_ ?_ ?_ ?_
 ·rintro l pre x suf μ' hxs ⟨hi,rfl⟩ z1 hz1 _ _
  refine awp_mono (hround pre x suf hxs hi z1 hz1) ?_
  intro e σ q
  cases e with
  |normal=>
   intro z2 hz2 _ _
   refine awp_mono (awp_wk (Q:=vO inv hμ invx hμx bμ (pre++[x])) (q z2 hz2)) ?_
   intro e τ k
   cases e<;>exact k
  |_=>exact q
 ·rintro μ' ⟨hi,rfl⟩;exact hdone hi
 ·rintro pre x suf μ' hxs ⟨hi,rfl⟩;exact hret pre x suf hxs hi
 ·rintro i pre x suf μ' hxs ⟨hi,rfl⟩;exact hexit i pre x suf hxs hi
/-! ## Nil slices -/
theorem VLe.nil {n:Nat}:VLe (.c (.lit (.slice none 0 0))) (.c (.sl n [])):=by
 intro w I v h
 rw [h.lit_inv]
 exact CRep.nil n none 0
def unN:List (Option Nat)->List C->List C
 |some n::m,_::r=>.sl n []::unN m r
 |none::m,c::r=>c::unN m r
 |_,r=>r
def vW:C->Bool
 |.lit (.slice none 0 0)=>true
 |_=>false
def okN:List (Option Nat)->List C->Bool
 |some _::m,c::r=>vW c&&okN m r
 |none::m,_::r=>okN m r
 |_,_=>true
theorem isNil_eq {c:C} (h:vW c=true):c=.lit (.slice none 0 0):=by
 unfold vW at h
 split at h
 ·rfl
 ·cases h
theorem zQi {w:World} {I:Nat->Prop}:∀{m:List (Option Nat)} {cs:List C} {vs:List Value},okN m cs=true->CReps w I cs vs->CReps w I (unN m cs) vs
 |some n::m,c::r,_,h,.cons hd tl=>by
  simp only [okN,Bool.and_eq_true] at h
  rw [isNil_eq h.1] at hd
  cases hd
  exact .cons (.nil n none 0) (zQi h.2 tl)
 |none::m,c::r,_,h,.cons hd tl=>.cons hd (zQi (m:=m) h tl)
 |[],[],_,_,k=>k
 |[],_::_,_,_,k=>k
 |some _::_,[],_,_,k=>k
 |none::_,[],_,_,k=>k
theorem VLe.nils {m:List (Option Nat)} {cs:List C} (h:okN m cs=true):VLe (.agg cs) (.agg (unN m cs)):=by
 intro w I v hv
 obtain ⟨vs,rfl,hc⟩:=hv.agg_inv
 exact ⟨vs,rfl,zQi h hc⟩
theorem Det.weaken {X:Cfg} {o:Oper} {e:Operand->V} {μ μ':List E} {r r':V} (h:Det X o e μ r μ') (hle:VLe r r'):Det X o e μ r' μ':=by
 intro a w I hH hops K Q k
 refine h a w I hH hops K Q ?_
 rintro v _ _ I' w' ⟨rfl,rfl⟩ hv hH' x
 exact k v _ _ I' w' ⟨rfl,rfl⟩ (hle _ _ _ hv) hH' x
section
variable {X:Cfg} {o:Oper} {e:Operand->V} {μ:List E} {t:TypeId}
theorem kY (m:List (Option Nat)) {zs:List Value} {ps:List (Nat×Nat)} {parts:List (Nat×Operand)} {cells:List C} (ho:o.op=.build t parts.toArray) (hz:dM X.P t=some zs) (hp:fG X.P t=some ps) (hf:mK (nth ps) (zs.map .lit) (parts.map fun p=>(p.1,e p.2))=some cells) (hok:okN m cells=true):
  Det X o e μ (.agg (unN m cells)) μ:=(zBp ho hz hp hf).weaken (VLe.nils hok)
theorem det_assignN (n:Nat) {x:Operand} (ho:o.op=.assign x) (hx:e x=.c (.lit (.slice none 0 0))):Det X o e μ (.c (.sl n [])) μ:=(yE ho hx).weaken VLe.nil
theorem yN {n_:Nat} {z_:Z} {Q_:Exit->S->Prop} {rs:List (Nat×V)} {os:Array Oper} {re:List Oper} {d_:Tmp} {x:Operand} (n:Nat) (hd:(dgO o,o.op,(ev rs) x)=(some d_,.assign x,.c (.lit (.slice none 0 0))))  (k_:RWP X n_ z_ os re Q_ ⟨(d_,(.c (.sl n [])))::rs,μ⟩):RWP X n_ z_ os (o::re) Q_ ⟨rs,μ⟩:=by
 simp only [Prod.mk.injEq] at hd
 obtain ⟨h_,q1,q2⟩:=hd
 exact zAe (dgs h_).1 (dgs h_).2 (det_assignN (e:=ev rs) n q1 q2) k_
theorem row_unN {w:World} {I:Nat->Prop} {b:Nat} {m:List (Option Nat)} {cs:List C} (h:okN m cs=true) (k:ERep w I (.row b t cs)):ERep w I (.row b t (unN m cs)):=by
 obtain ⟨vs,h1,h2⟩:=k
 exact ⟨vs,h1,zQi h h2⟩
theorem qT (m:List (Option Nat)) {zs:List Value} (ho:o.op=.alloc t) (hz:dM X.P t=some zs) (hok:okN m (zs.map .lit)=true):OpE X o e μ fun r μ'=>∃b,r=.c (.lit (.pointer (some ⟨b,0,none⟩)))/\μ'=.row b t (unN m (zs.map .lit))::μ:=by
 intro a w I hH hops K Q k
 refine qS (μ:=μ) ho hz a w I hH hops K Q ?_
 rintro v r μ' I' w' ⟨b,rfl,rfl⟩ hv hH' x
 refine k v _ _ I' w' ⟨b,rfl,rfl⟩ hv ?_ (x.less fun b hb=>by simpa [bB,E.blocks] using hb)
 have e:bB (.row b t (unN m (zs.map .lit))::μ)=bB (.row b t (zs.map .lit)::μ):=by simp [bB,E.blocks]
 refine ⟨hH'.lo,hH'.glob,by rw [e];exact hH'.nodup,fun c hc=>hH'.own c (by rw [←e];exact hc),hH'.imm,fun en hen=>?_,fun en hen=>?_⟩
 ·rcases List.mem_cons.1 hen with rfl|h
  ·exact row_unN hok (hH'.rep _ (by simp))
  ·exact hH'.rep en (by simp [h])
 ·rcases List.mem_cons.1 hen with rfl|h
  ·trivial
  ·exact hH'.mono en (by simp [h])
end
theorem Weak.mem {regs:List (Nat×V)} {μ μ':List E} (m:List Bool) (hμ:keep m μ=μ'):Weak ⟨regs,μ⟩ ⟨regs,μ'⟩:=by
 intro X n z a w ⟨I,hH,hR,hx,hd,hs⟩
 obtain ⟨φ,p⟩:=zMp m μ
 rw [hμ] at p
 have hH':Heap X w I (μ'++φ):=hH.perm p.symm
 exact ⟨I,hH'.left,hR,hx.less fun b hb=>(wV p).mem_iff.1 (by rw [yW];exact List.mem_append.2 (.inl hb)),hd,hs⟩
theorem yH {α:Type} {X:Cfg} {o:Oper} {e:Operand->V} {μ:List E} {t et:TypeId} {x:Operand} {size bytes:Nat} {f:α->List C} {l:List α} (ho:o.op=.call { callee:=.builtin .len,args:= #[x],argTypes:= #[t] }) (ht:dK X.P t=some (et,size,bytes)) (hx:e x=.c (.sl size (l.map f))):Det X o e μ (.c (.lit (.int .i64 l.length))) μ:=by
 have h:=det_len_sl (X:=X) (μ:=μ) ho ht hx
 rwa [List.length_map] at h
theorem qC {n_:Nat} {z_:Z} {Q_:Exit->S->Prop} {rs:List (Nat×V)} {os:Array Oper} {re:List Oper} {d_:Tmp} {α:Type} {X:Cfg} {o:Oper} {μ:List E} {t et:TypeId} {x:Operand} {size bytes:Nat} {f:α->List C} {l:List α} (hd:(dgO o,o.op,(ev rs) x)=(some d_,.call { callee:=.builtin .len,args:= #[x],argTypes:= #[t] },.c (.sl size (l.map f)))) (ht:dK X.P t=some (et,size,bytes)) (k_:RWP X n_ z_ os re Q_ ⟨(d_,(.c (.lit (.int .i64 l.length))))::rs,μ⟩):RWP X n_ z_ os (o::re) Q_ ⟨rs,μ⟩:=by
 simp only [Prod.mk.injEq] at hd
 obtain ⟨h_,q0,q2⟩:=hd
 exact zAe (dgs h_).1 (dgs h_).2 (yH (e:=ev rs) q0 ht q2) k_
theorem Weak.regs {r r':List (Nat×V)} {μ:List E} (h:xA r' r):Weak ⟨r,μ⟩ ⟨r',μ⟩:=by
 intro X n z a w ⟨I,hH,hR,hx,hd,hs⟩
 refine ⟨I,hH,fun t=>?_,hx,hd,hs⟩
 rcases look_mem r' t with e|hm
 ·show VRep w I (bT r' t) _
  rw [e];trivial
 ·exact subR_mem h t _ hm w I _ (hR t)
theorem zHc {X:Cfg} {n:Nat} {z:Z} {Q:Exit->S->Prop} {c:Code} {regs base:List (Nat×V)} {μ:List E} (k:Nat) (_hb:tF k regs=some base) (G:Type) (hd:G->List (Nat×V)) (hμ:G->List E) (inv:G->Prop) (m:G->Nat)
  (h0:∃g,inv g/\Weak ⟨regs,μ⟩ ⟨hd g++base,hμ g⟩)
  (round:∀g,inv g->AWP X n z c (nR (fun τ=>∃g',inv g'/\m g'<m g/\Weak τ ⟨hd g'++base,hμ g'⟩) Q) ⟨hd g++base,hμ g⟩):AWP X n z (.loop c) Q ⟨regs,μ⟩:=
 awp_loop G (fun g=>⟨hd g++base,hμ g⟩) inv m h0 round
theorem fn_bool {X:Cfg} {c:C} {args:List V} {μ:List E} {A B:List E->Prop} (h:FnCon X c args μ fun r μ'=>(r=.c (.lit (.bool true))/\A μ')∨(r=.c (.lit (.bool false))/\B μ')):
  FnCon X c args μ fun r μ'=>∃b,r=.c (.lit (.bool b))/\(b=true->A μ')/\(b=false->B μ'):=
 h.mono fun r μ' k=>by
  rcases k with ⟨rfl,k⟩|⟨rfl,k⟩
  ·exact ⟨true,rfl,fun _=>k,fun h=>(by cases h)⟩
  ·exact ⟨false,rfl,fun h=>(by cases h),fun _=>k⟩
theorem kN {K:S->Prop} {R:Exit->S->Prop} {i:Nat} {σ:S} (h:R (.exit i) σ):nR K R (.exit i) σ:=h
theorem kI {i:Nat} {R:Exit->S->Prop} {σ:S} (h:R .normal σ):rO i R (.exit i) σ:=by
 simp only [rO,if_true];exact h
end Go.Eng
end
section
namespace Go.Eng
open Go Go.RowKit
def TD2 (X:Cfg) (n:Nat) (ops:Array Oper) (M:List E->Prop) (μ:List E):List Oper->List Bool->List (Nat×V)->(List (Nat×V)->Prop)->Prop
 |[],_,regs,K=>K regs
 |o::rest,u,regs,K=>∃r,pC X n ops o regs μ r/\(u.headD false=true->∀μ',M μ'->pC X n ops o regs μ' r)/\TD2 X n ops M μ rest u.tail (nB o.dst r regs) K
section rules
variable {X:Cfg} {n:Nat} {ops:Array Oper} {M:List E->Prop} {μ:List E} {o:Oper} {rest:List Oper} {u:List Bool} {regs:List (Nat×V)} {K:List (Nat×V)->Prop}
end rules
theorem TD2.parts {X:Cfg} {n:Nat} {ops:Array Oper} {M:List E->Prop} {μ:List E} {K:List (Nat×V)->Prop}:∀{l:List Oper} {u:List Bool} {regs:List (Nat×V)},TD2 X n ops M μ l u regs K->
  ∃rs:List V,rs.length=l.length/\(∀(i:Nat) o r,l[i]? =some o->rs[i]? =some r->pC X n ops o (gL (l.take i) (rs.take i) regs) μ r/\(u.getD i false=true->∀μ',M μ'->pC X n ops o (gL (l.take i) (rs.take i) regs) μ' r))/\K (gL l rs regs)
 |[],u,regs,h=>⟨[],rfl,fun i o r h=>by simp at h,h⟩
 |o::l,u,regs,⟨r,hr,hu,h⟩=>by
  obtain ⟨rs,h1,h2,h3⟩:=TD2.parts h
  refine ⟨r::rs,by simp [h1],fun i o' r' ho hr'=>?_,h3⟩
  cases i with
  |zero=>
   simp at ho hr';subst ho hr'
   refine ⟨hr,fun h=>hu ?_⟩
   cases u with
   |nil=>simp at h
   |cons b u=>simpa using h
  |succ i=>
   obtain ⟨k1,k2⟩:=h2 i o' r' (by simpa using ho) (by simpa using hr')
   refine ⟨k1,fun h=>k2 ?_⟩
   cases u with
   |nil=>simp at h
   |cons b u=>simpa using h
section draw
variable {X:Cfg} {n:Nat} {z:Z} {Q:Exit->S->Prop} {regs:List (Nat×V)} {μ:List E} {l:List Oper} {s:Nat} {M:List E->Prop}
end draw
theorem zJl {X:Cfg} {o:Oper} {e:Operand->V} {μ:List E} {t ty et:TypeId} {size bytes n:Nat} {rows:List (List C)} {x y:Operand} (ho:o.op=.binOp .eql t x y ty) (ht:dK X.P t=some (et,size,bytes)) (hx:e x=.c (.sl n rows)) (hy:e y=.c (.lit (.slice none 0 0))):
  OpE X o e μ fun r μ'=>∃b:Bool,r=.c (.lit (.bool b))/\(b=true->rows=[])/\μ'=μ:=by
 intro a w I hH hops K Q k
 obtain ⟨hu,_⟩:=kZ ht
 have hxv:=hops x (by rw [ho];simp [Op.operands])
 have hyv:=hops y (by rw [ho];simp [Op.operands])
 rw [hx] at hxv
 rw [hy] at hyv
 have h2:=hyv.lit_inv
 have hxv':CRep w I (.sl n rows) (a.eval x):=hxv
 obtain ⟨ad,len,cap,hv,hn⟩:∃ad len cap,a.eval x=.slice ad len cap/\(ad.isNone=true->rows=[]):=by
  generalize a.eval x=v at hxv'
  cases hxv' with
  |nil _ ad cap=>exact ⟨ad,0,cap,rfl,fun _=>rfl⟩
  |sl _ _ ad cap us hI hl' hcap hc hr=>exact ⟨some ad,rows.length,cap,rfl,fun h=>by simp at h⟩
 refine zBb (v:=.bool ad.isNone) (w':=w) ?_ (k _ _ μ I w ⟨ad.isNone,rfl,hn,rfl⟩ (CRep.lit _ rfl) hH (Ext.refl _ _ _))
 have h3:=run_equal_slice_nil w (P:=X.P) t et ad len cap hu
 have h4:(binOp .eql t (.slice ad len cap) (.slice none 0 0)).run X.P w=.ok (.bool ad.isNone) w:=by
  simp only [binOp];simp [h3]
 have h5:(eqGuard .eql t x y (.slice ad len cap) (.slice none 0 0)).run X.P w=.ok () w:=by simp [eqGuard]
 simp only [execOp,ho,hv,h2,Sem.run_bind,h5,h4,Result.andThen_ok,Sem.run_pure]
end Go.Eng
end
section
namespace Go.Eng
open Go Go.RowKit
inductive Kd where
 |q
 |u
 |f
def Kd.fr:Kd->Bool
 |.f=>true
 |_=>false
def Kd.fl:Kd->Bool
 |.u=>true
 |_=>false
def kd (ks:List Kd) (i:Nat):Kd:=ks.getD i .q
def pO (X:Cfg) (o:Oper) (e:Operand->V) (Rf:V->E->Prop):Prop:=OpE X o e [] fun r μ'=>∃en,Rf r en/\μ'=[en]
def TDq (X:Cfg) (n:Nat) (ops:Array Oper) (M:List E->Prop) (μ:List E):List Oper->List Kd->List (Nat×V)->(List (Nat×V)->Prop)->Prop
 |[],_,regs,K=>K regs
 |_::rest,.f::ks,regs,K=>TDq X n ops M μ rest ks regs K
 |o::rest,.q::ks,regs,K=>∃r,pC X n ops o regs μ r/\TDq X n ops M μ rest ks (nB o.dst r regs) K
 |o::rest,.u::ks,regs,K=>∃r,(pC X n ops o regs μ r/\∀μ',M μ'->pC X n ops o regs μ' r)/\TDq X n ops M μ rest ks (nB o.dst r regs) K
 |_::_,[],_,_=>False
def TDf (X:Cfg) (regs:List (Nat×V)):List Oper->List Kd->List (Option Tmp×(V->E->Prop))->(List (Option Tmp×(V->E->Prop))->Prop)->Prop
 |[],_,acc,K=>K acc
 |o::rest,.f::ks,acc,K=>∃Rf,pO X o (ev regs) Rf/\TDf X regs rest ks (acc++[(o.dst,Rf)]) K
 |_::rest,_::ks,acc,K=>TDf X regs rest ks acc K
 |_::_,[],_,_=>False
def AllCh:List (Option Tmp×(V->E->Prop))->List (Nat×V)->List E->(List (Nat×V)->List E->Prop)->Prop
 |[],regs,ν,K=>K regs ν
 |(d,Rf)::acc,regs,ν,K=>∀v en,Rf v en->AllCh acc (nB d v regs) (en::ν) K
/-! ### what they leave in the registers -/
def tS:List Oper->List Kd->List V->List (Nat×V)->List (Nat×V)
 |o::l,k::ks,r::rs,regs=>tS l ks rs (bif k.fr then regs else nB o.dst r regs)
 |_,_,_,regs=>regs
def sY:List Oper->List Kd->List V->List (Nat×V)->List (Nat×V)
 |o::l,k::ks,r::rs,regs=>sY l ks rs (bif k.fr then nB o.dst r regs else regs)
 |_,_,_,regs=>regs
def tE:List Kd->List E->List E->List E
 |k::ks,en::es,ν=>tE ks es (bif k.fr then en::ν else ν)
 |_,_,ν=>ν
theorem TDq.parts {X:Cfg} {n:Nat} {ops:Array Oper} {M:List E->Prop} {μ:List E} {K:List (Nat×V)->Prop}:∀{l:List Oper} {ks:List Kd} {regs:List (Nat×V)},ks.length=l.length->TDq X n ops M μ l ks regs K->
  ∃rs:List V,rs.length=l.length/\(∀(i:Nat) o r,l[i]? =some o->rs[i]? =some r->(kd ks i).fr=false->pC X n ops o (tS (l.take i) (ks.take i) (rs.take i) regs) μ r/\((kd ks i).fl=true->∀μ',M μ'->pC X n ops o (tS (l.take i) (ks.take i) (rs.take i) regs) μ' r))/\K (tS l ks rs regs)
 |[],ks,regs,_,h=>⟨[],rfl,fun i o r h=>by simp at h,by cases ks<;>exact h⟩
 |o::l,.f::ks,regs,hl,h=>by
  obtain ⟨rs,h1,h2,h3⟩:=TDq.parts (by simpa using hl) (show TDq X n ops M μ l ks regs K from h)
  refine ⟨.un::rs,by simp [h1],fun i o' r' ho hr' hk=>?_,h3⟩
  cases i with
  |zero=>simp [kd,Kd.fr] at hk
  |succ i=>exact h2 i o' r' (by simpa using ho) (by simpa using hr') (by simpa [kd] using hk)
 |o::l,.q::ks,regs,hl,h=>by
  obtain ⟨r,hr,h⟩:=h
  obtain ⟨rs,h1,h2,h3⟩:=TDq.parts (by simpa using hl) h
  refine ⟨r::rs,by simp [h1],fun i o' r' ho hr' hk=>?_,h3⟩
  cases i with
  |zero=>simp at ho hr';subst ho hr';exact ⟨hr,fun h=>by simp [kd,Kd.fl] at h⟩
  |succ i=>exact h2 i o' r' (by simpa using ho) (by simpa using hr') (by simpa [kd] using hk)
 |o::l,.u::ks,regs,hl,h=>by
  obtain ⟨r,hr,h⟩:=h
  obtain ⟨rs,h1,h2,h3⟩:=TDq.parts (by simpa using hl) h
  refine ⟨r::rs,by simp [h1],fun i o' r' ho hr' hk=>?_,h3⟩
  cases i with
  |zero=>simp at ho hr';subst ho hr';exact ⟨hr.1,fun _=>hr.2⟩
  |succ i=>exact h2 i o' r' (by simpa using ho) (by simpa using hr') (by simpa [kd] using hk)
 |_::_,[],_,hl,_=>by simp at hl
theorem AllCh.cons {d:Option Tmp} {Rf:V->E->Prop} {acc:List (Option Tmp×(V->E->Prop))}:∀{pre:List (Option Tmp×(V->E->Prop))} {regs:List (Nat×V)} {ν:List E} {K:List (Nat×V)->List E->Prop},AllCh (pre++(d,Rf)::acc) regs ν K->AllCh pre regs ν fun regs' ν'=>∀v en,Rf v en->AllCh acc (nB d v regs') (en::ν') K
 |[],_,_,_,h=>h
 |(_,_)::_,_,_,_,h=>fun v en hv=>AllCh.cons (h v en hv)
theorem TDf.parts {X:Cfg} {regs0:List (Nat×V)} {K:List (Option Tmp×(V->E->Prop))->Prop}:∀{l:List Oper} {ks:List Kd} {acc:List (Option Tmp×(V->E->Prop))},ks.length=l.length->TDf X regs0 l ks acc K->
  ∃Rfs:List (V->E->Prop),Rfs.length=l.length/\(∀(i:Nat) o Rf,l[i]? =some o->Rfs[i]? =some Rf->(kd ks i).fr=true->pO X o (ev regs0) Rf)/\
   ∃more,K (acc++more)/\∀{regs:List (Nat×V)} {ν:List E} {K':List (Nat×V)->List E->Prop} {rs:List V} {es:List E},rs.length=l.length->es.length=l.length->(∀(i:Nat) r en Rf,rs[i]? =some r->es[i]? =some en->Rfs[i]? =some Rf->(kd ks i).fr=true->Rf r en)->AllCh more regs ν K'->K' (sY l ks rs regs) (tE ks es ν)
 |[],ks,acc,hl,h=>by
  obtain rfl:ks=[]:=by simpa using hl
  refine ⟨[],rfl,fun i o r h=>by simp at h,[],by rw [List.append_nil];exact h,?_⟩
  intro regs ν K' rs es hr he _ hc
  exact hc
 |o::l,.f::ks,acc,hl,h=>by
  obtain ⟨Rf,hf,h⟩:=h
  obtain ⟨Rfs,h1,h2,more,h3,h4⟩:=TDf.parts (by simpa using hl) h
  refine ⟨Rf::Rfs,by simp [h1],fun i o' Rf' ho hr' hk=>?_,(o.dst,Rf)::more,by simpa using h3,?_⟩
  ·cases i with
   |zero=>simp at ho hr';subst ho hr';exact hf
   |succ i=>exact h2 i o' Rf' (by simpa using ho) (by simpa using hr') (by simpa [kd] using hk)
  ·intro regs ν K' rs es hr he hall hc
   cases rs with
   |nil=>simp at hr
   |cons r rs=>
    cases es with
    |nil=>simp at he
    |cons en es=>
     have h0:=hall 0 r en Rf rfl rfl rfl (by simp [kd,Kd.fr])
     simp only [sY,tE,Kd.fr,cond_true]
     exact h4 (by simpa using hr) (by simpa using he) (fun i r' en' Rf' a b c d=>hall (i+1) r' en' Rf' (by simpa using a) (by simpa using b) (by simpa using c) (by simpa [kd] using d)) (hc r en h0)
 |o::l,.q::ks,acc,hl,h=>by
  exact p6
 |o::l,.u::ks,acc,hl,h=>by
  exact p6
 |_::_,[],_,hl,_=>by simp at hl
/-! ### memory -/
section draw
variable {X:Cfg} {n:Nat} {z:Z} {Q:Exit->S->Prop} {regs:List (Nat×V)} {μ:List E} {l:List Oper} {s:Nat} {M:List E->Prop} {ks:List Kd}
end draw
section rules
variable {X:Cfg} {n:Nat} {ops:Array Oper} {M:List E->Prop} {μ:List E} {o:Oper} {rest:List Oper} {ks:List Kd} {regs:List (Nat×V)} {K:List (Nat×V)->Prop}
end rules
theorem zBe {X:Cfg} {o:Oper} {e:Operand->V} {t:TypeId} {cells:List C} (h:OpE X o e [] fun r μ'=>∃b,r=.c (.lit (.pointer (some ⟨b,0,none⟩)))/\μ'=[.row b t cells]):pO X o e fun r en=>∃b,r=.c (.lit (.pointer (some ⟨b,0,none⟩)))/\en=.row b t cells:=
 h.mono fun _ _ ⟨b,h2,h3⟩=>⟨.row b t cells,⟨b,h2,rfl⟩,h3⟩
theorem fresh_own {X:Cfg} {o:Oper} {e:Operand->V} {t:TypeId} {size:Nat} {rows:List (List C)} (h:OpE X o e [] fun r μ'=>∃sv,r=.c (.lit sv)/\μ'=[.vec sv t size rows]):pO X o e fun r en=>∃sv,r=.c (.lit sv)/\en=.vec sv t size rows:=
 h.mono fun _ _ ⟨sv,h2,h3⟩=>⟨.vec sv t size rows,⟨sv,h2,rfl⟩,h3⟩
section rules2
variable {X:Cfg} {n:Nat} {ops:Array Oper} {μ:List E} {p:Nat} {o:Oper} {rest:List Oper} {ks:List Kd} {regs:List (Nat×V)} {K:List (Nat×V)->Prop}
end rules2
def xK (regs:List (Nat×V)) (o:Oper):Option (Tmp×C):=
 match o.op,o.dst,o.guard with
 |.move x,some d,none=>(match ev regs x with|.c c=>some (d,c)|_=>none)
 |.assign x,some d,none=>(match ev regs x with|.c c=>some (d,c)|_=>none)
 |_,_,_=>none
theorem mvOf_parts {regs:List (Nat×V)} {o:Oper} {d:Tmp} {c:C} (h:xK regs o=some (d,c)):o.dst=some d/\o.guard=none/\∃x,(o.op=.move x∨o.op=.assign x)/\ev regs x=.c c:=by
 unfold xK at h
 split at h
 ·rename_i x d' h1 h2 h3
  split at h
  ·rename_i c' h4
   simp only [Option.some.injEq,Prod.mk.injEq] at h
   exact ⟨by rw [h2,h.1],h3,x,.inl h1,by rw [h4,h.2]⟩
  ·cases h
 ·rename_i x d' h1 h2 h3
  split at h
  ·rename_i c' h4
   simp only [Option.some.injEq,Prod.mk.injEq] at h
   exact ⟨by rw [h2,h.1],h3,x,.inr h1,by rw [h4,h.2]⟩
  ·cases h
 ·cases h
theorem zC {a:V}:VLe a a:=VLe.refl a
theorem zX {X:Cfg} {n:Nat} {z:Z} {Q:Exit->S->Prop} {regs:List (Nat×V)} {μ μ':List E} {ops:Array Oper} {rest:List Oper} {o:Oper} {d:Tmp} {r:V} (hd:dgO o=some d) (h:Det X o (ev regs) μ r μ') (k:RWP X n z ops rest Q ⟨(d,r)::regs,μ'⟩):RWP X n z ops (o::rest) Q ⟨regs,μ⟩:=by
 exact zAe (dgs hd).1 (dgs hd).2 h k
theorem zS {P:Program} {regs:List (Nat×V)} {μ:List E} {t:Nat} {y:C} {Q:V->List E->Prop} (h:bT regs t=.c y) (hq:Q (.c y) μ):fT P [.tmp t] Q .ret ⟨regs,μ⟩:=fin1 (L h) hq
theorem G {X:Cfg} {n:Nat} {z:Z} {Q:Exit->S->Prop} {regs:List (Nat×V)} {μ:List E} {ops:Array Oper} {rest:List Oper} {o:Oper} {d:Tmp} {c:C} (h:xK regs o=some (d,c)) (k:RWP X n z ops rest Q ⟨(d,.c c)::regs,μ⟩):RWP X n z ops (o::rest) Q ⟨regs,μ⟩:=by
 obtain ⟨h1,h2,x,h3,h4⟩:=mvOf_parts h
 rcases h3 with h3|h3
 ·exact zAe h1 h2 (zO h3 h4) k
 ·exact zAe h1 h2 (yE h3 h4) k
theorem Y {X:Cfg} {n:Nat} {z:Z} {Q:Exit->S->Prop} {σ:S} {id:Nat} {l:List Oper} {y:Code} (hd:l.all (dstOk n)=true) (h:RWP X n z l.toArray l (nR (AWP X n z y Q) Q) σ):AWP X n z (.seq (.region id l.toArray false) y) Q σ:=zK (zQ hd h)
def vT (n:Nat) (ops:Array Oper) (o:Oper):Option (Nat×Nat×Bool×Nat):=
 match o.dst,o.guard with
 |some t,some (j,want)=>(match (ops[j]?).bind (·.dst) with|some d=>bif Nat.blt d n then some (t,j,want,d) else none|none=>none)
 |_,_=>none
theorem lzOf_parts {n:Nat} {ops:Array Oper} {o:Oper} {t j d:Nat} {want:Bool} (h:vT n ops o=some (t,j,want,d)):o.dst=some t/\o.guard=some (j,want)/\(ops[j]?).bind (·.dst)=some d/\Nat.blt d n=true:=by
 unfold vT at h
 split at h
 ·rename_i t' j' w' h1 h2
  split at h
  ·rename_i d' h3
   cases c:Nat.blt d' n with
   |false=>rw [c] at h;cases h
   |true=>
    rw [c] at h
    simp only [cond_true,Option.some.injEq,Prod.mk.injEq] at h
    obtain ⟨e1,e2,e3,e4⟩:=h
    subst e1 e2 e3 e4
    exact ⟨h1,h2,h3,c⟩
  ·cases h
 ·cases h
theorem rLz {X:Cfg} {n:Nat} {z:Z} {Q:Exit->S->Prop} {regs:List (Nat×V)} {μ:List E} {ops:Array Oper} {rest:List Oper} {o:Oper} {r:V} {t j d:Nat} {want g:Bool} (ov:List (Nat×V)) (hl:vT n ops o=some (t,j,want,d)) (hb:nP (bT regs d) want g) (hov:tI g regs ov)
  (h:g=true->Det X o (ev (ov++regs)) μ r μ) (hpl:r.plain=true) (k:RWP X n z ops rest Q ⟨(t,.ifv g r)::regs,μ⟩):RWP X n z ops (o::rest) Q ⟨regs,μ⟩:=by
 obtain ⟨h1,h2,h3,h4⟩:=lzOf_parts hl
 exact rwp_lazy ov h1 h2 h3 h4 hb hov h hpl k
theorem rL0 {X:Cfg} {n:Nat} {z:Z} {Q:Exit->S->Prop} {regs:List (Nat×V)} {μ:List E} {ops:Array Oper} {rest:List Oper} {o:Oper} {r:V} {t j d:Nat} {want b:Bool} (hl:(vT n ops o,bT regs d)=(some (t,j,want,d),.c (.lit (.bool b))))
  (h:Lz b want=true->Det X o (ev regs) μ r μ) (hpl:r.plain=true) (k:RWP X n z ops rest Q ⟨(t,.ifv (Lz b want) r)::regs,μ⟩):RWP X n z ops (o::rest) Q ⟨regs,μ⟩:=by
 simp only [Prod.mk.injEq] at hl
 exact rLz [] hl.1 (by rw [hl.2];exact gv1) trivial h hpl k
theorem rL1 {X:Cfg} {n:Nat} {z:Z} {Q:Exit->S->Prop} {regs:List (Nat×V)} {μ:List E} {ops:Array Oper} {rest:List Oper} {o:Oper} {r y:V} {t j d:Nat} {want b:Bool} (a:Nat) (hl:(vT n ops o,bT regs d,bT regs a,y.plain)=(some (t,j,want,d),.c (.lit (.bool b)),.ifv (Lz b want) y,true))
  (h:Lz b want=true->Det X o (ev ([(a,y)]++regs)) μ r μ) (hpl:r.plain=true) (k:RWP X n z ops rest Q ⟨(t,.ifv (Lz b want) r)::regs,μ⟩):RWP X n z ops (o::rest) Q ⟨regs,μ⟩:=by
 simp only [Prod.mk.injEq] at hl
 exact rLz [(a,y)] hl.1 (by rw [hl.2.1];exact gv1) ⟨hl.2.2.1,hl.2.2.2,trivial⟩ h hpl k
end Go.Eng
end
section
namespace Go.Eng
open Go Go.RowKit
def mT:List Nat->List E->Option (List E×List E)
 |[],μ=>some ([],μ)
 |p::ps,μ=>match nth μ p with
  |some e=>match mT ps (mX μ p) with
   |some (a,b)=>some (e::a,b)
   |none=>none
  |none=>none
def xM:List E->Nat->E->List E
 |l,0,y=>y::l
 |[],_+1,y=>[y]
 |x::l,i+1,y=>x::xM l i y
def rE:List Nat->List E->List E->List E
 |p::ps,e::a,b=>xM (rE ps a b) p e
 |[],a,b=>a++b
 |_::_,[],b=>b
theorem zFd:∀{ps:List Nat} {μ a b:List E},mT ps μ=some (a,b)->μ.Perm (a++b)
 |[],μ,a,b,h=>by simp only [mT,Option.some.injEq,Prod.mk.injEq] at h;obtain ⟨rfl,rfl⟩:=h;exact List.Perm.refl _
 |p::ps,μ,a,b,h=>by
  unfold mT at h
  split at h
  ·rename_i e he
   split at h
   ·rename_i a' b' hq
    simp only [Option.some.injEq,Prod.mk.injEq] at h
    obtain ⟨rfl,rfl⟩:=h
    exact (zHs he).trans ((zFd hq).cons e)
   ·cases h
  ·cases h
theorem insN_perm (y:E):∀(l:List E) (i:Nat),(xM l i y).Perm (y::l)
 |l,0=>by cases l<;>exact List.Perm.refl _
 |[],_+1=>List.Perm.refl _
 |x::l,i+1=>((insN_perm y l i).cons x).trans (List.Perm.swap y x l)
theorem zHi:∀(ps:List Nat) (a b:List E),(rE ps a b).Perm (a++b)
 |p::ps,e::a,b=>(insN_perm e _ p).trans ((zHi ps a b).cons e)
 |[],a,b=>List.Perm.refl _
 |_::_,[],b=>List.Perm.refl _
section
variable {X:Cfg} {o:Oper} {e:Operand->V} {μ:List E}
theorem OpE.det_perm {r:V} {a b:List E} (h:OpE X o e μ fun r' μ'=>r'=r/\μ'=a) (p:a.Perm b):Det X o e μ r b:=by
 intro a' w I hH hops K Q k
 refine h a' w I hH hops K Q ?_
 rintro v r' μ' I' w' ⟨rfl,rfl⟩ hv hH' x
 exact k v r' b I' w' ⟨rfl,rfl⟩ hv (hH'.perm p) (x.perm (List.Perm.refl _) p)
theorem kX {f:FuncId} {arg_:List Operand} {ts:Array TypeId} {args:List V} {μf μf' φ:List E} {r:V} (ps:List Nat) (ho:o.op=.call { callee:=.value (.func f),args:=arg_.toArray,argTypes:=ts }) (hf:bA X.P f=true)
  (hc:Con X f args μf fun r' μ'=>r'=r/\μ'=μf') (ha:mL (arg_.map e) args) (hp:mT ps μ=some (μf,φ)):Det X o e μ r (rE ps μf' φ):=by
 refine OpE.det_perm (a:=μf'++φ) ?_ (zHi ps μf' φ).symm
 exact (zBw ho hf ((hc.frame φ).perm (zFd hp)) ha).mono fun r' μ' ⟨_,⟨h1,h2⟩,h3⟩=>⟨h1,by rw [h3,h2]⟩
end
end Go.Eng
end
