/-
  Sorting of monomials by their names: slices.SortFunc,by the shelf's contract.
  Conditions: none.
-/
import Derived.Test.YtgfomfnjionbeaaGreatDoorPlain2
import Derived.Test.YtgfomfnjionbeaaGreatDoorShelfX
set_option linter.unusedSimpArgs false
set_option linter.unusedVariables false
set_option linter.defProp false
namespace Go.Br
open Go Go.Eng Go.RowKit Go.Proofs Go.L41 Go.Sort Tryz
/-! ## The order -/
def Fh:∀a b:List UInt8,Op.bytesLess a b=decide (Lib.compareBytes a b<0)
 |[],[]=>by simp [Op.bytesLess,Lib.compareBytes]
 |[],_::_=>by simp [Op.bytesLess,Lib.compareBytes]
 |_::_,[]=>by simp [Op.bytesLess,Lib.compareBytes]
 |x::a,y::b=>by
  rw [Op.bytesLess,Lib.compareBytes,Fh a b]
  by_cases h:x<y
  ·simp [h]
  ·by_cases h2:y<x
   ·have:¬x=y:=λe=>by subst e;exact h h2
    simp [h,h2,this]
   ·have:x=y:=jx (im.1 h2) (im.1 h)
    simp [h,h2,this]
def YB (a b:nq):bF a b=decide (sX a b<0):=by
 unfold bF sX
 rw [Fh,fe,fe]
def cfM (x y:Mono):Int:=sX x.Name y.Name
def C8 (x y:Mono):ltOf cfM x y=bF x.Name y.Name:=by unfold ltOf cfM;rw [YB]
def swo_M:SWO (ltOf cfM) where
 irrefl x:=by rw [C8,OA]
 trans x y z h1 h2:=by rw [C8] at *;exact Oh h1 h2
 ntrans x y z h1 h2:=by
  rw [C8] at *
  refine iz.2 λh=>?_
  cases k:bF y.Name x.Name with
  |true=>have:=Oh k h;rw [h2] at this;cases this
  |false=>have e:=Oi h1 k;rw [e,h2] at h;cases h
/-! ## The cells -/
instance:Inhabited Mono:=⟨⟨bs [],0⟩⟩
def mv (m:Mono):List Value:=[.string m.Name,.int .i64 m.By]
def QC (m:Mono):(mv m).length=2:=rfl
def YP (m:Mono):∀v∈mv m,v.oneCell'=true:=λv hv=>by
 simp only [mv,rp,aJ,cm] at hv
 rcases hv with rfl|rfl<;>rfl
def HW:∀l:List Mono,(l.map Mono.cells).flatten=l.flatMap Mono.cells
 |[]=>rfl
 |x::r=>by rw [aG,eh,cc,HW r]
def Ra {w:World} {I:Nat->Prop}:∀{l:List Mono} {xs:List Value},CReps w I (l.flatMap Mono.cells) xs->xs=l.flatMap mv
 |[],_,.nil=>rfl
 |x::r,_,.cons h1 (.cons h2 t)=>by
  have e:=Ra (l:=r) t
  cases h1;cases h2
  rw [e];rfl
def OK {w:World} {I:Nat->Prop}:∀l:List Mono,CReps w I (l.flatMap Mono.cells) (l.flatMap mv)
 |[]=>.nil
 |x::r=>.cons (.lit _ rfl) (.cons (.lit _ rfl) (OK r))
def Fg:∀l:List Mono,(l.flatMap mv).length=l.length*2
 |[]=>rfl
 |x::r=>by rw [cc,qp,Fg r,QC,pw];omega
def Wd:∀(l:List Mono) (t:Nat),t<l.length*2->(l.flatMap mv)[t]? =some ((mv ((l[t/2]?).getD default))[t%2]!)
 |[],t,h=>by simp at h
 |x::r,0,h=>rfl
 |x::r,1,h=>rfl
 |x::r,t+2,h=>by
  rw [cc,show mv x=[.string x.Name,.int .i64 x.By] from rfl]
  show (r.flatMap mv)[t]? =_
  rw [Wd r t (by simp at h;omega),show (t+2)/2=t/2+1 by omega,show (t+2)%2=t%2 by omega];rfl
def Kr (l:List Mono):flatK mv 2 l.toArray=(l.flatMap mv).toArray:=by
 refine ext_get! (by rw [size_flatK,gt,gt,Fg]) λt ht=>?_
 rw [size_flatK] at ht
 have ht:t<l.length*2:=by simpa using ht
 rw [get_flatK _ _ _ _ (by simpa using ht)]
 have h:=Wd l t ht
 have hb:t<(l.flatMap mv).length:=by rw [Fg];exact ht
 rw [ak hb] at h
 rw [il (l.flatMap mv).toArray t (by simpa using hb)]
 simp only [List.getElem_toArray]
 rw [Option.some.inj h]
 congr 2
 simp [Array.getElem!_eq_getD,au,List.getElem!_eq_getElem?_getD]
variable {w:World}
def Yk {g n:Nat} {os:Array Obj} {cur:Array Value} {e:nr} {fr:Nat×Nat} (F:Array Value) (hb:w.heap[g]? =some (.cells cur e fr)):
  (grow (putRow id (Sort.ahead w n) g 0 F) os).heap[g]? =some (.cells (putCells id 0 F cur) e fr):=by
 have hg:g<w.heap.size:=(bv.1 hb).1
 rw [heap_grow_old _ _ (by simpa using hg)]
 simp [putRow,mapBlock,Sort.ahead,lv,hb,onCells]
def Ms {g n:Nat} {os:Array Obj} (F:Array Value):w.grownBy (grow (putRow id (Sort.ahead w n) g 0 F) os) (some g):=by
 refine ⟨rfl,rfl,rfl,uF,λk hk hne=>?_⟩
 rw [heap_grow_old _ _ (by simpa using hk)]
 have:g≠k:=λe=>hne (by rw [e])
 simp [putRow,mapBlock,Sort.ahead,lv,this]
def Zv (cur:Array Value) (F:List Value) (h:F.length<=cur.size):(putCells id 0 F.toArray cur).toList.take F.length=F:=by
 apply ej
 intro j
 by_cases hj:j<F.length
 ·rw [lc hj,gz]
  simp [putCells,hj,show j<cur.size by omega]
 ·rw [List.getElem?_take_eq_none zB,cy zB]
def Nm {l:List Mono} {d':Array Mono} (hn:(l.map Mono.Name).Nodup) (hp:PermIn 0 l.toArray.size l.toArray d') (hs:SortedIn (ltOf cfM) 0 l.toArray.size d'):d'.toList=jS l:=by
 obtain ⟨h1,_,h2⟩:=hp
 have e1:(d'.extract 0 l.toArray.size)=d':=by rw [<-h1];exact mm ..
 rw [e1,mm] at h2
 have h2:d'.toList.Perm l:=h2
 have hn':(d'.toList.map Mono.Name).Nodup:=(h2.map Mono.Name).nodup_iff.2 hn
 refine Co ?_ (BQ hn) λm=>by rw [zXh];exact h2.mem_iff
 unfold List.Nodup at hn'
 rw [e8] at hn'
 unfold xM
 rw [ix] at hn'⊢
 intro i j hi hj hij
 have hi':i<d'.size:=by simpa using hi
 have hj':j<d'.size:=by simpa using hj
 have h3:=hs i j (cb _) hij (by rw [<-h1];exact hj')
 rw [C8,il d' i hi',il d' j hj'] at h3
 have h4:=hn' i j hi hj hij
 simp only [Array.getElem_toList] at h4⊢
 cases k:bF d'[i].Name d'[j].Name with
 |true=>rfl
 |false=>exact absurd (Oi k h3) h4
/-! ## The comparison -/
set_option maxHeartbeats 1000000 in
def Er (x y:Mono) (W:World):Calls prog 134 #[.agg #[.string x.Name,.int .i64 x.By],.agg #[.string y.Name,.int .i64 y.By]] W λe w'=>e=.returned (.int .i64 (cfM x y))/\∃q os',w'=grow (W.drewN q) os':=by
 have hcon:=λW'=>Tryz.strings_Compare x.Name y.Name W'
 change ∀W',Calls prog 135 _ _ _ at hcon
 show Calls prog _ _ W λe w'=>e=.returned (.int .i64 (Lib.compareBytes x.Name.data.toList y.Name.data.toList))/\∃q os',w'=grow (W.drewN q) os'
 generalize Lib.compareBytes x.Name.data.toList y.Name.data.toList=r at hcon⊢
 go_enter func134,ntmps134
 go_wp2_with (go_at_call 135;refine (hcon _).mono ?_;rintro e w' ⟨rfl,rfl⟩)
 go_ret
 exact ⟨rfl,0,_,by rw [alloc_eq_grow,alloc_eq_grow,grow_grow];rfl⟩
def rep_M {I:Nat->Prop} {sv:Value} {t:nr} {l:List Mono} (h:w.ownsRow 0 t 2 sv l.length (l.flatMap mv)) (hb:BV sv≠[]):ERep w I (.vec sv t 2 (l.map Mono.cells)):=by
 refine .inr ⟨hb,l.flatMap mv,?_,?_,λr hr=>?_⟩
 ·rw [pc];exact h
 ·rw [HW];exact OK l
 ·obtain ⟨x,_,rfl⟩:=aY.1 hr;rfl
def Nx {I:Nat->Prop} {sv:Value} {t:nr} {l:List Mono} (h:ERep w I (.vec sv t 2 (l.map Mono.cells))):(∃a,sv=.slice a 0 0/\l=[])∨(BV sv≠[]/\w.ownsRow 0 t 2 sv l.length (l.flatMap mv)):=by
 rcases h with ⟨a,h1,h2⟩|⟨h1,xs,h2,h3,h4⟩
 ·exact .inl ⟨a,h1,by simpa using h2⟩
 ·rw [HW] at h3
  rw [Ra h3,pc] at h2
  exact .inr ⟨h1,h2⟩
def NR:jS []=[]:=by unfold jS;simp
abbrev oF:C:=.fn (.func 134) [] []
def T4 (w:World):(isAgg 139).run prog w=.ok true w:=Tryz.isAgg139 w
def Rv (w:World):(Go.sizeOf 139).run prog w=.ok 2 w:=Tryz.sizeOf139 w
def NQ (sv:Value) (l:List Mono) (hl:l.length<=4294967296) (hn:(l.map Mono.Name).Nodup):Con cfg 133 [.c (.lit sv),.c oF] [.vec sv 139 2 (l.map Mono.cells)] λr μ'=>r=.tup []/\μ'=[.vec sv 139 2 ((jS l).map Mono.cells)]:=by
 intro w I vs hH ha
 match vs,ha with
 |[v,u],ha=>
  have e:v=sv:=by cases (ha.1:CRep w I (.lit sv) v) with|lit _ _=>rfl
  have hu:CRep w I oF u:=ha.2.1
  obtain rfl:u=.func (.func 134) #[] #[]:=by
   cases hu with
   |fn f first cap us ws h1 h2 hr1 hr2=>
    have e1:us=[]:=bi h1
    have e2:ws=[]:=bi h2
    subst e1 e2;rfl
  subst e
  have hrep:=hH.rep _ (aR.2 rfl)
  rcases Nx hrep with ⟨a,rfl,rfl⟩|⟨hb,hown⟩
  ·refine (AnyF.slices_SortFunc_none Tryz.laysSortM a 0 _ w).mono ?_
   rintro en w' ⟨rfl,rfl⟩
   refine ⟨_,_,_,I,rfl,⟨rfl,by rw [NR]⟩,⟨[],rfl,trivial⟩,hH,Ext.refl _ _ _⟩
  ·have hne:v≠ .slice none 0 0:=by rintro rfl;exact hb rfl
   obtain ⟨_,hcase⟩:=hown
   rcases hcase with ⟨h0,_⟩|⟨g,cap,cur,rfl,hbg,hcur,hn2,hm2,hcs,htk⟩
   ·exact absurd h0 hne
   ·have hgl:g<w.heap.size:=(bv.1 hcur).1
    have hHo:HoldsK mv 2 w g 0 l.toArray:=by
     unfold HoldsK
     rw [Kr]
     intro j hj
     have hj:j<(l.flatMap mv).length:=by simpa using hj
     refine ⟨?_,by simp [World.frozen?,hcur]⟩
     have h1:(cur.toList.take (l.length*2))[j]? =(l.flatMap mv)[j]?:=by rw [htk]
     rw [lc (by rw [<-Fg];exact hj)] at h1
     simp only [World.cell?,hcur,cd]
     simp only [Option.isSome_none,gk,gn]
     rw [<-gz,h1,ak hj,il (l.flatMap mv).toArray j xJ8]
     simp
    have hcall:=AnyQ.slices_SortFunc Tryz.laysSortM 2 T4 Rv mv QC YP cfM swo_M 134 #[] g 0 cap l.toArray w (enters_of func134 uB rfl) (λ_ _ _ _ x y=>Er x y _) hHo hgl uD
    rw [gt] at hcall
    refine hcall.mono ?_
    rintro en w' ⟨rfl,d',n,os,hp,hs,rfl⟩
    have hd:d'.toList=jS l:=Nm hn hp (by simpa using hs)
    obtain rfl:d'=(jS l).toArray:=by rw [<-hd]
    have hw:sortWorldK mv 2 w g 0 n (jS l).toArray os=grow (putRow id (Sort.ahead w n) g 0 ((jS l).flatMap mv).toArray) os:=by
     unfold sortWorldK putRowK;rw [Kr]
    rw [hw]
    have hlen:((jS l).flatMap mv).length=l.length*2:=by rw [Fg,zXi]
    have hgr:=Ms (w:=w) (g:=g) (n:=n) (os:=os) ((jS l).flatMap mv).toArray
    have hrep2:ERep (grow (putRow id (Sort.ahead w n) g 0 ((jS l).flatMap mv).toArray) os) I (.vec (.slice (some ⟨g,0,none⟩) l.length cap) 139 2 ((jS l).map Mono.cells)):=by
     refine rep_M ?_ hb
     rw [zXi]
     exact ⟨hlen,.inr ⟨g,cap,_,rfl,hbg,Yk _ hcur,hn2,hm2,by simp [putCells,hcs],by rw [<-hlen];exact Zv cur _ (by rw [hlen,hcs];exact dd 2 hn2)⟩⟩
    obtain ⟨hH',hx'⟩:=Heap.write (w':=grow (putRow id (Sort.ahead w n) g 0 ((jS l).flatMap mv).toArray) os) hH (p:=0) (en:=.vec (.slice (some ⟨g,0,none⟩) l.length cap) 139 2 (l.map Mono.cells)) (en':=.vec (.slice (some ⟨g,0,none⟩) l.length cap) 139 2 ((jS l).map Mono.cells)) rfl hgr.os hgr.tape hgr.output hgr.size
     (λb hb1 hb2=>hgr.block b hb1 (λe=>by
      injection e with e
      apply hb2
      have hin:BV (.slice (some ⟨g,0,none⟩) l.length cap)≠[]:=hb
      subst e
      exact tz hin rfl)) (by have h:=hH.nodup;simp only [bC,cc,nh,rk] at h;exact h) (λb h=>.inl h) trivial hrep2
    exact ⟨_,_,_,I,rfl,⟨rfl,rfl⟩,⟨[],rfl,trivial⟩,hH',hx'⟩
end Go.Br
