/-
  Sorting of monomials by their names: slices.SortFunc,by the shelf's contract.
  Conditions: none.
-/
import Derived.Test.YtgfomfnjionbeaaGreatDoorPlain2
import Derived.Test.YtgfomfnjionbeaaGreatDoorShelfX
set_option linter.unusedSimpArgs false
set_option linter.unusedVariables false
namespace Go.Br
open Go Go.Eng Go.RowKit Go.Proofs Go.L41 Go.Sort
/-! ## The order -/
theorem less_cmp:∀a b:List UInt8,Op.bytesLess a b=decide (Lib.compareBytes a b<0)
 |[],[]=>by simp [Op.bytesLess,Lib.compareBytes]
 |[],_::_=>by simp [Op.bytesLess,Lib.compareBytes]
 |_::_,[]=>by simp [Op.bytesLess,Lib.compareBytes]
 |x::a,y::b=>by
  rw [Op.bytesLess,Lib.compareBytes,less_cmp a b]
  by_cases h:x<y
  ·simp [h]
  ·by_cases h2:y<x
   ·have:¬x=y:=fun e=>by subst e;exact h h2
    simp [h,h2,this]
   ·have:x=y:=UInt8.le_antisymm (UInt8.not_lt.1 h2) (UInt8.not_lt.1 h)
    simp [h,h2,this]
theorem lt_cmp (a b:ByteArray):bX a b=decide (rZ a b<0):=by
 unfold bX rZ
 rw [less_cmp,ByteArray.toList_eq,ByteArray.toList_eq]
def cfM (x y:Mono):Int:=rZ x.Name y.Name
theorem ltOf_M (x y:Mono):ltOf cfM x y=bX x.Name y.Name:=by unfold ltOf cfM;rw [lt_cmp]
theorem swo_M:SWO (ltOf cfM) where
 irrefl x:=by rw [ltOf_M,zRy]
 trans x y z h1 h2:=by rw [ltOf_M] at *;exact zCn h1 h2
 ntrans x y z h1 h2:=by
  rw [ltOf_M] at *
  refine Bool.eq_false_iff.2 fun h=>?_
  cases k:bX y.Name x.Name with
  |true=>have:=zCn k h;rw [h2] at this;cases this
  |false=>have e:=zIm h1 k;rw [e,h2] at h;cases h
/-! ## The cells -/
instance:Inhabited Mono:=⟨⟨bs [],0⟩⟩
def mv (m:Mono):List Value:=[.string m.Name,.int .i64 m.By]
theorem mv_len (m:Mono):(mv m).length=2:=rfl
theorem mv_one (m:Mono):∀v∈mv m,v.oneCell'=true:=fun v hv=>by
 simp only [mv,List.mem_cons,List.not_mem_nil,or_false] at hv
 rcases hv with rfl|rfl<;>rfl
theorem flat_M:∀l:List Mono,(l.map Mono.cells).flatten=l.flatMap Mono.cells
 |[]=>rfl
 |x::r=>by rw [List.map_cons,List.flatten_cons,List.flatMap_cons,flat_M r]
theorem reps_M {w:World} {I:Nat->Prop}:∀{l:List Mono} {xs:List Value},CReps w I (l.flatMap Mono.cells) xs->xs=l.flatMap mv
 |[],_,.nil=>rfl
 |x::r,_,.cons h1 (.cons h2 t)=>by
  have e:=reps_M (l:=r) t
  cases h1;cases h2
  rw [e];rfl
theorem M_reps {w:World} {I:Nat->Prop}:∀l:List Mono,CReps w I (l.flatMap Mono.cells) (l.flatMap mv)
 |[]=>.nil
 |x::r=>.cons (.lit _ rfl) (.cons (.lit _ rfl) (M_reps r))
theorem len_M:∀l:List Mono,(l.flatMap mv).length=l.length*2
 |[]=>rfl
 |x::r=>by rw [List.flatMap_cons,List.length_append,len_M r,mv_len,List.length_cons];omega
theorem get_M:∀(l:List Mono) (t:Nat),t<l.length*2->(l.flatMap mv)[t]? =some ((mv ((l[t/2]?).getD default))[t%2]!)
 |[],t,h=>by simp at h
 |x::r,0,h=>rfl
 |x::r,1,h=>rfl
 |x::r,t+2,h=>by
  rw [List.flatMap_cons,show mv x=[.string x.Name,.int .i64 x.By] from rfl]
  show (r.flatMap mv)[t]? =_
  rw [get_M r t (by simp at h;omega),show (t+2)/2=t/2+1 by omega,show (t+2)%2=t%2 by omega];rfl
theorem flatK_M (l:List Mono):flatK mv 2 l.toArray=(l.flatMap mv).toArray:=by
 refine ext_get! (by rw [size_flatK,List.size_toArray,List.size_toArray,len_M]) fun t ht=>?_
 rw [size_flatK] at ht
 have ht:t<l.length*2:=by simpa using ht
 rw [get_flatK _ _ _ _ (by simpa using ht)]
 have h:=get_M l t ht
 have hb:t<(l.flatMap mv).length:=by rw [len_M];exact ht
 rw [List.getElem?_eq_getElem hb] at h
 rw [getElem!_pos (l.flatMap mv).toArray t (by simpa using hb)]
 simp only [List.getElem_toArray]
 rw [Option.some.inj h]
 congr 2
 simp [Array.getElem!_eq_getD,Array.getD_eq_getD_getElem?,List.getElem!_eq_getElem?_getD]
theorem heap_K {w:World} {g n:Nat} {os:Array Obj} {cur:Array Value} {e:TypeId} {fr:Nat×Nat} (F:Array Value) (hb:w.heap[g]? =some (.cells cur e fr)):
  (grow (putRow id (Sort.ahead w n) g 0 F) os).heap[g]? =some (.cells (putCells id 0 F cur) e fr):=by
 have hg:g<w.heap.size:=(Array.getElem?_eq_some_iff.1 hb).1
 rw [heap_grow_old _ _ (by simpa using hg)]
 simp [putRow,mapBlock,Sort.ahead,Array.getElem?_modify,hb,onCells]
theorem grownBy_K {w:World} {g n:Nat} {os:Array Obj} (F:Array Value):w.grownBy (grow (putRow id (Sort.ahead w n) g 0 F) os) (some g):=by
 refine ⟨rfl,rfl,rfl,uG,fun k hk hne=>?_⟩
 rw [heap_grow_old _ _ (by simpa using hk)]
 have:g≠k:=fun e=>hne (by rw [e])
 simp [putRow,mapBlock,Sort.ahead,Array.getElem?_modify,this]
theorem take_K (cur:Array Value) (F:List Value) (h:F.length<=cur.size):(putCells id 0 F.toArray cur).toList.take F.length=F:=by
 apply List.ext_getElem?
 intro j
 by_cases hj:j<F.length
 ·rw [List.getElem?_take_of_lt hj,Array.getElem?_toList]
  simp [putCells,hj,show j<cur.size by omega]
 ·rw [List.getElem?_take_eq_none zC,List.getElem?_eq_none zC]
theorem perm_sort {l:List Mono} {d':Array Mono} (hn:(l.map Mono.Name).Nodup) (hp:PermIn 0 l.toArray.size l.toArray d') (hs:SortedIn (ltOf cfM) 0 l.toArray.size d'):d'.toList=gY l:=by
 obtain ⟨h1,_,h2⟩:=hp
 have e1:(d'.extract 0 l.toArray.size)=d':=by rw [←h1];exact Array.extract_size ..
 rw [e1,Array.extract_size] at h2
 have h2:d'.toList.Perm l:=h2
 have hn':(d'.toList.map Mono.Name).Nodup:=(h2.map Mono.Name).nodup_iff.2 hn
 refine asc_ext ?_ (sortM_asc hn) fun m=>by rw [sortM_mem];exact h2.mem_iff
 unfold List.Nodup at hn'
 rw [List.pairwise_map] at hn'
 unfold xB
 rw [List.pairwise_iff_getElem] at hn'⊢
 intro i j hi hj hij
 have hi':i<d'.size:=by simpa using hi
 have hj':j<d'.size:=by simpa using hj
 have h3:=hs i j (Nat.zero_le _) hij (by rw [←h1];exact hj')
 rw [ltOf_M,getElem!_pos d' i hi',getElem!_pos d' j hj'] at h3
 have h4:=hn' i j hi hj hij
 simp only [Array.getElem_toList] at h4⊢
 cases k:bX d'[i].Name d'[j].Name with
 |true=>rfl
 |false=>exact absurd (zIm k h3) h4
/-! ## The comparison -/
set_option maxHeartbeats 1000000 in
theorem cmp_closure (x y:Mono) (W:World):Calls Tryz.prog 134 #[.agg #[.string x.Name,.int .i64 x.By],.agg #[.string y.Name,.int .i64 y.By]] W fun e w'=>e=.returned (.int .i64 (cfM x y))/\∃q os',w'=grow (W.drewN q) os':=by
 have hcon:=fun W'=>Tryz.strings_Compare x.Name y.Name W'
 change ∀W',Calls Tryz.prog 135 _ _ _ at hcon
 show Calls Tryz.prog _ _ W fun e w'=>e=.returned (.int .i64 (Lib.compareBytes x.Name.data.toList y.Name.data.toList))/\∃q os',w'=grow (W.drewN q) os'
 generalize Lib.compareBytes x.Name.data.toList y.Name.data.toList=r at hcon⊢
 go_enter Tryz.func134,Tryz.ntmps134
 go_wp2_with (go_at_call 135;refine (hcon _).mono ?_;rintro e w' ⟨rfl,rfl⟩)
 go_ret
 exact ⟨rfl,0,_,by rw [alloc_eq_grow,alloc_eq_grow,grow_grow];rfl⟩
theorem rep_M {w:World} {I:Nat->Prop} {sv:Value} {t:TypeId} {l:List Mono} (h:w.ownsRow 0 t 2 sv l.length (l.flatMap mv)) (hb:svB sv≠[]):ERep w I (.vec sv t 2 (l.map Mono.cells)):=by
 refine .inr ⟨hb,l.flatMap mv,?_,?_,fun r hr=>?_⟩
 ·rw [List.length_map];exact h
 ·rw [flat_M];exact M_reps l
 ·obtain ⟨x,_,rfl⟩:=List.mem_map.1 hr;rfl
theorem rep_M_inv {w:World} {I:Nat->Prop} {sv:Value} {t:TypeId} {l:List Mono} (h:ERep w I (.vec sv t 2 (l.map Mono.cells))):(∃a,sv=.slice a 0 0/\l=[])∨(svB sv≠[]/\w.ownsRow 0 t 2 sv l.length (l.flatMap mv)):=by
 rcases h with ⟨a,h1,h2⟩|⟨h1,xs,h2,h3,h4⟩
 ·exact .inl ⟨a,h1,by simpa using h2⟩
 ·rw [flat_M] at h3
  rw [reps_M h3,List.length_map] at h2
  exact .inr ⟨h1,h2⟩
theorem sortM_nil:gY []=[]:=by unfold gY;simp
abbrev eY:C:=.fn (.func 134) [] []
theorem isAgg_M (w:World):(isAgg 139).run Tryz.prog w=.ok true w:=Tryz.isAgg139 w
theorem sizeOf_M (w:World):(Go.sizeOf 139).run Tryz.prog w=.ok 2 w:=Tryz.sizeOf139 w
theorem sortM_con (sv:Value) (l:List Mono) (hl:l.length<=4294967296) (hn:(l.map Mono.Name).Nodup):Con cfg 133 [.c (.lit sv),.c eY] [.vec sv 139 2 (l.map Mono.cells)] fun r μ'=>r=.tup []/\μ'=[.vec sv 139 2 ((gY l).map Mono.cells)]:=by
 intro w I vs hH ha
 match vs,ha with
 |[v,u],ha=>
  have e:v=sv:=by cases (ha.1:CRep w I (.lit sv) v) with|lit _ _=>rfl
  have hu:CRep w I eY u:=ha.2.1
  obtain rfl:u=.func (.func 134) #[] #[]:=by
   cases hu with
   |fn f first cap us ws h1 h2 hr1 hr2=>
    have e1:us=[]:=List.eq_nil_of_length_eq_zero h1
    have e2:ws=[]:=List.eq_nil_of_length_eq_zero h2
    subst e1 e2;rfl
  subst e
  have hrep:=hH.rep _ (List.mem_singleton.2 rfl)
  rcases rep_M_inv hrep with ⟨a,rfl,rfl⟩|⟨hb,hown⟩
  ·refine (AnyF.slices_SortFunc_none Tryz.laysSortM a 0 _ w).mono ?_
   rintro en w' ⟨rfl,rfl⟩
   refine ⟨_,_,_,I,rfl,⟨rfl,by rw [sortM_nil]⟩,⟨[],rfl,trivial⟩,hH,Ext.refl _ _ _⟩
  ·have hne:v≠ .slice none 0 0:=by rintro rfl;exact hb rfl
   obtain ⟨_,hcase⟩:=hown
   rcases hcase with ⟨h0,_⟩|⟨g,cap,cur,rfl,hbg,hcur,hn2,hm2,hcs,htk⟩
   ·exact absurd h0 hne
   ·have hgl:g<w.heap.size:=(Array.getElem?_eq_some_iff.1 hcur).1
    have hHo:HoldsK mv 2 w g 0 l.toArray:=by
     unfold HoldsK
     rw [flatK_M]
     intro j hj
     have hj:j<(l.flatMap mv).length:=by simpa using hj
     refine ⟨?_,by simp [World.frozen?,hcur]⟩
     have h1:(cur.toList.take (l.length*2))[j]? =(l.flatMap mv)[j]?:=by rw [htk]
     rw [List.getElem?_take_of_lt (by rw [←len_M];exact hj)] at h1
     simp only [World.cell?,hcur,Nat.zero_add]
     simp only [Option.isSome_none,Bool.false_eq_true,if_false]
     rw [←Array.getElem?_toList,h1,List.getElem?_eq_getElem hj,getElem!_pos (l.flatMap mv).toArray j (by simpa using hj)]
     simp
    have hcall:=AnyQ.slices_SortFunc Tryz.laysSortM 2 isAgg_M sizeOf_M mv mv_len mv_one cfM swo_M 134 #[] g 0 cap l.toArray w (enters_of Tryz.func134 uC rfl) (fun _ _ _ _ x y=>cmp_closure x y _) hHo hgl uF
    rw [List.size_toArray] at hcall
    refine hcall.mono ?_
    rintro en w' ⟨rfl,d',n,os,hp,hs,rfl⟩
    have hd:d'.toList=gY l:=perm_sort hn hp (by simpa using hs)
    obtain rfl:d'=(gY l).toArray:=by rw [←hd]
    have hw:sortWorldK mv 2 w g 0 n (gY l).toArray os=grow (putRow id (Sort.ahead w n) g 0 ((gY l).flatMap mv).toArray) os:=by
     unfold sortWorldK putRowK;rw [flatK_M]
    rw [hw]
    have hlen:((gY l).flatMap mv).length=l.length*2:=by rw [len_M,zRz]
    have hgr:=grownBy_K (w:=w) (g:=g) (n:=n) (os:=os) ((gY l).flatMap mv).toArray
    have hrep2:ERep (grow (putRow id (Sort.ahead w n) g 0 ((gY l).flatMap mv).toArray) os) I (.vec (.slice (some ⟨g,0,none⟩) l.length cap) 139 2 ((gY l).map Mono.cells)):=by
     refine rep_M ?_ hb
     rw [zRz]
     exact ⟨hlen,.inr ⟨g,cap,_,rfl,hbg,heap_K _ hcur,hn2,hm2,by simp [putCells,hcs],by rw [←hlen];exact take_K cur _ (by rw [hlen,hcs];exact Nat.mul_le_mul_right 2 hn2)⟩⟩
    obtain ⟨hH',hx'⟩:=Heap.write (w':=grow (putRow id (Sort.ahead w n) g 0 ((gY l).flatMap mv).toArray) os) hH (p:=0) (en:=.vec (.slice (some ⟨g,0,none⟩) l.length cap) 139 2 (l.map Mono.cells)) (en':=.vec (.slice (some ⟨g,0,none⟩) l.length cap) 139 2 ((gY l).map Mono.cells)) rfl hgr.os hgr.tape hgr.output hgr.size
     (fun b hb1 hb2=>hgr.block b hb1 (fun e=>by
      injection e with e
      apply hb2
      have hin:svB (.slice (some ⟨g,0,none⟩) l.length cap)≠[]:=hb
      subst e
      exact svB_of hin rfl)) (by have h:=hH.nodup;simp only [bB,List.flatMap_cons,List.flatMap_nil,List.append_nil] at h;exact h) (fun b h=>.inl h) trivial hrep2
    exact ⟨_,_,_,I,rfl,⟨rfl,rfl⟩,⟨[],rfl,trivial⟩,hH',hx'⟩
end Go.Br
