/-
  Lists of strings,sorted and thinned (for a seat without slices.Sort at strings).
  And what the laws need besides.
  Conditions: none.
-/
import Derived.Test.YtgfomfnjionbeaaGreatDoorCfg
import Derived.Test.YtgfomfnjionbeaaGreatDoorEngZ
import Derived.Sort.OwnSorted
import Derived.Lib.OwnBridge
import Derived.Test.YtgfomfnjionbeaaGreatDoorPlain
import Derived.Lib.ItoaNum
set_option linter.unusedSimpArgs false
set_option linter.unusedVariables false
set_option linter.defProp false
section
namespace Go.Br
open Go Go.Eng Go.RowKit Go.Proofs Go.L41
abbrev fM (l:List nn):List (List C):=l.map fun s=>[cS s]
def toB (l:List (List UInt8)):List nn:=l.map fun x=>⟨x.toArray⟩
def ofB (l:List nn):List (List UInt8):=l.map (·.data.toList)
def eJ (l:List nn):List nn:=toB ((ofB l).mergeSort fun x y=>decide (x<=y))
def eI (l:List nn):List nn:=toB (Lib.compact (ofB l))
def iJ (x:Ix):List nn:=if x.From=bs [] then [] else [x.From]
def iP (l:List Ix):List nn:=l.flatMap iJ
def eN (x:Ex):List nn:=if x.Op=3 then [x.Name] else []
def eL (x:Ex):List nn:=eN x++iP x.Idx
def iQ (l:List Ex):List nn:=l.flatMap eL
def vT (e:Ex):List nn:=eI (eJ (iQ (dQ e)))
variable {s:nn}
def mem_toB {l:List (List UInt8)}:s∈toB l↔s.data.toList∈l:=by
 unfold toB
 rw [aX]
 constructor
 ·rintro ⟨x,hx,rfl⟩;simpa using hx
 ·intro h;exact ⟨_,h,by cases s;simp⟩
def mem_ofB {l:List nn}:s.data.toList∈ofB l↔s∈l:=by
 unfold ofB
 rw [aX]
 constructor
 ·rintro ⟨x,hx,e⟩
  have:x=s:=by cases x;cases s;congr 1;exact fv.1 e
  rw [←this];exact hx
 ·intro h;exact ⟨s,h,rfl⟩
def mem_sortB {l:List nn}:s∈eJ l↔s∈l:=by
 unfold eJ;rw [mem_toB,List.mem_mergeSort,mem_ofB]
def mem_thinB {l:List nn} (h:s∈eI l):s∈l:=by
 unfold eI at h
 rw [mem_toB] at h
 rw [←mem_ofB]
 unfold Lib.compact Lib.compactUpTo at h
 obtain ⟨i,hi,e⟩:=aX.1 h
 have hi2:=(da.1 hi).1
 have hlt:=cr.1 hi2
 rw [←e,ie _ i (by simpa using hlt)]
 simp
variable {e:Ex}
def mem_readsT (h:s∈vT e):∃x,x∈dQ e/\((x.Op=3/\s=x.Name)∨∃i,i∈x.Idx/\i.From≠bs []/\s=i.From):=by
 unfold vT at h
 have h:=mem_sortB.1 (mem_thinB h)
 obtain ⟨x,hx,h⟩:=dg.1 h
 refine ⟨x,hx,?_⟩
 unfold eL at h
 rcases ao.1 h with h|h
 ·left;unfold eN at h;split at h
  ·rename_i h3;exact ⟨h3,by simpa using h⟩
  ·cases h
 ·right
  obtain ⟨i,hi,h⟩:=dg.1 h
  unfold iJ at h
  split at h
  ·cases h
  ·rename_i h3;exact ⟨i,hi,h3,by simpa using h⟩
/-! ## vK definitions -/
def findD_take {s:nn}:∀(l:List Df) (k:Nat),(dY s (l.take k)).ok=true->dY s l=dY s (l.take k)
 |[],k,h=>by simp
 |d::r,0,h=>by simp [dY] at h
 |d::r,k+1,h=>by
  rw [au] at h⊢
  unfold dY at h⊢
  by_cases c:d.Name=s
  ·rw [al c];rfl
  ·rw [am c] at h⊢
   exact findD_take r k h
def findP_take {s:nn} {ds:List Df} {k:Nat}:∀(l:List Pm),(fV s (ds.take k) l).ok=true->fV s ds l=fV s (ds.take k) l
 |[],h=>findD_take ds k h
 |x::r,h=>by
  unfold fV at h⊢
  by_cases c:x.Name=s
  ·rw [al c];rfl
  ·rw [am c] at h⊢
   exact findP_take r h
def findD_mem {s:nn}:∀(l:List Df),(dY s l).ok=true->∃d,d∈l/\d.Name=s
 |[],h=>by simp [dY] at h
 |d::r,h=>by
  unfold dY at h
  by_cases c:d.Name=s
  ·exact ⟨d,uF,c⟩
  ·rw [am c] at h
   obtain ⟨y,hy,e⟩:=findD_mem r h
   exact ⟨y,by simp [hy],e⟩
def findP_mem {s:nn} {ds:List Df}:∀(l:List Pm),(fV s ds l).ok=true->(∃x,x∈l/\x.Name=s)∨∃d,d∈ds/\d.Name=s
 |[],h=>.inr (findD_mem ds h)
 |x::r,h=>by
  unfold fV at h
  by_cases c:x.Name=s
  ·exact .inl ⟨x,uF,c⟩
  ·rw [am c] at h
   rcases findP_mem r h with ⟨y,hy,e⟩|h2
   ·exact .inl ⟨y,by simp [hy],e⟩
   ·exact .inr h2
def vK (a b:En):Prop:=∀s,(a.find s).ok=true->b.find s=a.find s
def indexK_more {a b:En} (h:vK a b) {k:nn->Bool} {x:Ix} (hx:dI a k x=0):dI b k x=0:=by
 unfold dI at hx⊢
 by_cases c:x.From=bs []
 ·rw [al c] at hx⊢;exact hx
 ·rw [am c] at hx⊢
  cases c2:(a.find x.From).ok with
  |false=>rw [c2] at hx;simp at hx
  |true=>rw [h _ c2];exact hx
def zWv {a b:En} (h:vK a b) {k:nn->Bool}:∀l:List Ix,fK a k l=0->fK b k l=0
 |[],_=>rfl
 |x::r,hx=>by
  unfold fK at hx⊢
  by_cases c:dI a k x=0
  ·rw [al c] at hx
   rw [al (indexK_more h c)]
   exact zWv h r hx
  ·rw [am c] at hx
   exact absurd hx c
def readK_of {a:En} {k:nn->Bool} (hx:(jT a k e).2=0):(a.find e.Name).ok=true/\e.Idx.length=(a.find e.Name).dims.length/\fK a k e.Idx=0:=by
 unfold jT at hx
 cases c:(a.find e.Name).ok with
 |false=>rw [c] at hx;simp at hx
 |true=>
  rw [c] at hx
  by_cases c2:e.Idx.length=(a.find e.Name).dims.length
  ·rw [al c2] at hx
   by_cases c3:fK a k e.Idx=0
   ·exact ⟨rfl,c2,c3⟩
   ·rw [am c3] at hx;exact absurd hx c3
  ·rw [am c2] at hx;simp at hx
def readK_more {a b:En} (h:vK a b) {k:nn->Bool} (hx:(jT a k e).2=0):jT b k e=jT a k e:=by
 obtain ⟨h1,h2,h3⟩:=readK_of hx
 have e1:=h _ h1
 rw [readK_0 h1 h2 h3,readK_0 (by rw [e1];exact h1) (by rw [e1];exact h2) (zWv h _ h3),e1]
def ofN_more {a b:En} (h:vK a b) {k:nn->Bool} {l:List Ty} (hx:(ofN a k e l).2=0):ofN b k e l=ofN a k e l:=by
 unfold ofN at hx⊢
 by_cases c1:e.Op=1∨e.Op=12
 ·rw [ab c1,ab c1]
 rw [aa c1] at hx⊢
 rw [aa c1]
 by_cases c2:e.Op=2
 ·rw [ab c2,ab c2]
 rw [aa c2] at hx⊢
 rw [aa c2]
 by_cases c3:e.Op=3
 ·rw [ab c3] at hx⊢
  rw [ab c3]
  exact readK_more h hx
 ·rw [aa c3,aa c3]
mutual
def nodeT_more {a b:En} (h:vK a b) (k:nn->Bool):∀e:Ex,(bR (ofN a k) e).2=0->bR (ofN b k) e=bR (ofN a k) e
 |.mk o nm v t l i xs,hx=>by
  rw [bR] at hx⊢
  rw [bR]
  by_cases c:(bJ (ofN a k) xs).2=0
  ·rw [ab c] at hx⊢
   rw [nodeL_more h k xs c,ab c]
   exact ofN_more h hx
  ·rw [aa c] at hx;exact absurd hx c
def nodeL_more {a b:En} (h:vK a b) (k:nn->Bool):∀l:List Ex,(bJ (ofN a k) l).2=0->bJ (ofN b k) l=bJ (ofN a k) l
 |[],_=>rfl
 |x::r,hx=>by
  rw [bJ] at hx⊢
  rw [bJ]
  by_cases c:(bR (ofN a k) x).2=0
  ·rw [ab c] at hx⊢
   by_cases d:(bJ (ofN a k) r).2=0
   ·rw [nodeT_more h k x c,nodeL_more h k r d,ab c]
   ·rw [aa d] at hx;exact absurd hx d
  ·rw [aa c] at hx;exact absurd hx c
end
variable {vars:List nn}
def zLe {n:En} (h:(gX n vars e).2=0):dO e=0/\fS e=false/\(bR (ofN n (knB n.sz vars)) e).2=0:=by
 unfold gX nT at h
 by_cases c:dO e=0
 ·rw [ab c] at h
  by_cases d:fS e=true
  ·rw [ab d] at h;cases h
  ·rw [aa d] at h
   by_cases f:(bR (ofN n (knB n.sz vars)) e).2=0
   ·exact ⟨c,by simpa using d,f⟩
   ·rw [aa f] at h;exact absurd h f
 ·rw [aa c] at h;exact absurd h c
def typeT_more {a b:En} (h:vK a b) (hs:b.sz=a.sz) (hx:(gX a vars e).2=0):gX b vars e=gX a vars e:=by
 obtain ⟨h1,h2,h3⟩:=zLe hx
 rw [typeT_of rfl h1 h2,typeT_of rfl h1 h2,hs,nodeT_more h _ e h3]
/-! ## What an expression reads is found -/
def nodeT_all (N:Ex->List Ty->Ty×Int) (e:Ex):(bR N e).2=0->∀x,x∈dQ e->∃l,(N x l).2=0:=by
 induction e using Ex.ind with
 |_ e ih=>
  intro h x hx
  rw [zMy] at h
  by_cases c:(bJ N e.Args).2=0
  ·rw [ab c] at h
   rw [zAl] at hx
   rcases ag.1 hx with rfl|hx
   ·exact ⟨_,h⟩
   ·have key:∀l:List Ex,(∀a,a∈l->a∈e.Args)->(bJ N l).2=0->x∈bV l->∃t,(N x t).2=0:=by
     intro l
     induction l with
     |nil=>intro _ _ h;simp [bV] at h
     |cons a r ih2=>
      intro hm hl hx
      rw [bJ] at hl
      by_cases c1:(bR N a).2=0
      ·rw [ab c1] at hl
       by_cases c2:(bJ N r).2=0
       ·rw [bV] at hx
        rcases ao.1 hx with hx|hx
        ·exact ih a (hm a uF) c1 x hx
        ·exact ih2 (fun b hb=>hm b (by simp [hb])) c2 hx
       ·rw [aa c2] at hl;exact absurd hl c2
      ·rw [aa c1] at hl;exact absurd hl c1
    exact key e.Args (fun _ h=>h) c hx
  ·rw [aa c] at h;exact absurd h c
def indexL_of {a:En} {k:nn->Bool}:∀l:List Ix,fK a k l=0->∀x,x∈l->x.From≠bs []->(a.find x.From).ok=true
 |[],_,x,hx,_=>by cases hx
 |y::r,h,x,hx,hf=>by
  unfold fK at h
  by_cases c:dI a k y=0
  ·rw [al c] at h
   rcases ag.1 hx with rfl|hx
   ·unfold dI at c
    rw [am hf] at c
    cases d:(a.find x.From).ok with
    |true=>rfl
    |false=>rw [d] at c;simp at c
   ·exact indexL_of r h x hx hf
  ·rw [am c] at h;exact absurd h c
def reads_found {n:En} (h:(gX n vars e).2=0):∀s,s∈vT e->(n.find s).ok=true:=by
 intro s hs
 obtain ⟨h1,h2,h3⟩:=zLe h
 obtain ⟨x,hx,hr⟩:=mem_readsT hs
 obtain ⟨l,hl⟩:=nodeT_all _ e h3 x hx
 have hn:=zQc (zFc h1) x hx
 have hsy:=(zPn hn).1
 by_cases c:x.Op=3
 ·rw [zPl c] at hl
  obtain ⟨k1,_,k3⟩:=readK_of hl
  rcases hr with ⟨_,rfl⟩|⟨i,hi,hf,rfl⟩
  ·exact k1
  ·exact indexL_of _ k3 i hi hf
 ·have h0:x.Idx.length=0:=by
   unfold jO at hsy
   simp only [ae,az,cm,eu,aC,aj,aw] at hsy
   rcases hsy.1.2 with h|h
   ·exact absurd h c
   ·have:=h.2;omega
  rcases hr with ⟨h,_⟩|⟨i,hi,_,_⟩
  ·exact absurd h c
  ·have:=ja hi;omega
def zKh (p:Pg):∀(l:List Df) (a:Int) (t:List nn) (b:List Df),(mZ p a t b l).2=0->∀(i:Nat) (d:Df),l[i]? =some d->nB ⟨p.Sizes,p.Params,b++l.take i⟩ d (t++(l.take i).map Df.Name)=0
 |[],a,t,b,_,i,d,hd=>by simp at hd
 |x::r,a,t,b,h,i,d,hd=>by
  rw [mZ] at h
  by_cases c:nB ⟨p.Sizes,p.Params,b⟩ x t=0
  ·rw [ab c] at h
   cases i with
   |zero=>simp at hd;subst hd;simpa using c
   |succ i=>
    have:=zKh p r _ _ _ h i d (by simpa using hd)
    simpa [lAa] using this
  ·rw [aa c] at h;exact absurd h c
def zFe (p q:Pg) (hs:q.Sizes=p.Sizes):∀(l:List Pm) (a:Int) (t:List nn),(fU p a t l).2=0->∃a',(mZ p a' (t++l.map Pm.Name) [] p.Defs).2=0/\fU q a t l=mZ q a' (t++l.map Pm.Name) [] q.Defs
 |[],a,t,h=>⟨a,by rw [fU] at h;simpa using h,by rw [fU];simp⟩
 |x::r,a,t,h=>by
  rw [fU] at h
  by_cases c:jH x p.Sizes t=0
  ·rw [ab c] at h
   obtain ⟨a',h1,h2⟩:=zFe p q hs r _ _ h
   exact ⟨a',by simpa [lAa] using h1,by rw [fU,hs,ab c,h2];simp [lAa]⟩
  ·rw [aa c] at h;exact absurd h c
variable {p:Pg}
def zFu (h:(lG p).2=0):dK p/\jB [] p.Sizes=0/\jM p.Sizes p.Where=0/\(fU p 2 p.Sizes p.Params).2=0:=by
 unfold lG at h
 by_cases c1:dK p
 ·rw [ab c1] at h
  by_cases c2:jB [] p.Sizes=0
  ·rw [ab c2] at h
   by_cases c3:jM p.Sizes p.Where=0
   ·rw [ab c3] at h;exact ⟨c1,c2,c3,h⟩
   ·rw [aa c3] at h;exact absurd h c3
  ·rw [aa c2] at h;exact absurd h c2
 ·rw [aa c1] at h;cases h
def hasB_mem17 {l:List nn} (h:bQ l s=false):s ∉ l:=fun k=>by
 unfold bQ at h
 rw [ei] at h
 exact h s k uF
variable {t:List nn} {d:Df}
def defR_of {n:En} (h:nB n d t=0):d.Name ∉ t/\gX n (bD d) d.Body=(d.T,0):=by
 have h1:dE d.Name t=0:=cp fun c=>by rw [defR_1 c] at h;exact c h
 have h2:dJ d.T=true:=by
  cases c:dJ d.T with
  |true=>rfl
  |false=>rw [defR_10 h1 c] at h;cases h
 have h3:¬(6<d.Dims.length∨6<d.Red.length):=fun c=>by rw [defR_11 h1 h2 c] at h;cases h
 rw [defR_ok h1 h2 h3] at h
 have h4:jL n.sz n.sz (d.Dims++d.Red)=0:=cp fun c=>by rw [aa c] at h;exact c h
 rw [ab h4] at h
 have h5:pB d=0:=cp fun c=>by rw [aa c] at h;exact c h
 rw [ab h5,←typeT_R] at h
 unfold rO at h
 have h6:(gX n (bD d) d.Body).2=0:=cp fun c=>by rw [aa c] at h;exact c h
 rw [ab h6] at h
 have h7:(gX n (bD d) d.Body).1=d.T:=cp fun c=>by rw [aa c] at h;cases h
 refine ⟨hasB_mem17 ?_,Prod.ext h7 h6⟩
 cases c:bQ t d.Name with
 |false=>rfl
 |true=>
  unfold dE at h1
  by_cases c2:bB d.Name=true
  ·rw [ab c2,ab c] at h1;cases h1
  ·rw [aa c2] at h1;cases h1
def defOf_lt {s:nn}:∀(l:List Df) (i:Nat),(∃d,d∈l.take i/\d.Name=s)->pC s l<i
 |[],i,⟨d,hd,_⟩=>by simp at hd
 |x::r,0,⟨d,hd,_⟩=>by simp at hd
 |x::r,i+1,⟨d,hd,e⟩=>by
  unfold pC dT
  by_cases c:x.Name=s
  ·rw [al c];show (0:Int)<_;omega
  ·rw [am c]
   have h2:pC s r<i:=defOf_lt r i ⟨d,by
    rw [au] at hd
    rcases ag.1 hd with rfl|hd
    ·exact absurd e c
    ·exact hd,e⟩
   unfold pC at h2
   simp only [av]
   by_cases c3:dT (fun d:Df=>decide (d.Name=s)) r= -1
   ·rw [al c3];show (-1:Int)<_;omega
   ·rw [am c3];show _+1<_;push_cast;omega
variable {i:Nat}
def pre_def (h:(bK p).2=0) (hd:p.Defs[i]? =some d):gX p.en (bD d) d.Body=(d.T,0)/\pC d.Name p.Defs=i/\∀s,s∈vT d.Body->(p.en.find s).ok=true/\pC s p.Defs<i:=by
 rw [zFm] at h
 obtain ⟨h1,h2,h3,h4⟩:=zFu h
 obtain ⟨a',h5,_⟩:=zFe p p rfl p.Params _ _ h4
 have key:=zKh p p.Defs _ _ _ h5
 have names:∀j y,p.Defs[j]? =some y->y.Name ∉ (p.Sizes++p.Params.map Pm.Name)++(p.Defs.take j).map Df.Name:=fun j y hy=>(defR_of (key j y hy)).1
 obtain ⟨_,ht⟩:=defR_of (key i d hd)
 rw [lNa] at ht
 have hm:vK ⟨p.Sizes,p.Params,p.Defs.take i⟩ p.en:=fun s hs=>findP_take p.Params hs
 refine ⟨?_,?_,fun s hs=>?_⟩
 ·rw [typeT_more hm rfl (by rw [ht]),ht]
 ·refine zFq hd uF ?_
  rw [ei]
  intro y hy e
  have e2:y.Name=d.Name:=by simpa using e
  exact names i d hd (by rw [←e2];exact ao.2 (.inr (aX.2 ⟨y,hy,rfl⟩)))
 ·have hf:=reads_found (n:=⟨p.Sizes,p.Params,p.Defs.take i⟩) (by rw [ht]) s hs
  refine ⟨by rw [hm s hf];exact hf,?_⟩
  rcases findP_mem p.Params hf with ⟨x,hx,e⟩|⟨y,hy,e⟩
  ·have:pC s p.Defs= -1:=by
    refine zDe ?_
    rw [ei]
    intro y hy e2
    have e3:y.Name=s:=by simpa using e2
    obtain ⟨j,hj⟩:=bn hy
    exact names j y hj (ao.2 (.inl (ao.2 (.inr (aX.2 ⟨x,hx,by rw [e,e3]⟩)))))
   rw [this];omega
  ·exact defOf_lt p.Defs i ⟨y,hy,e⟩
/-! ## The order of names -/
def bl_cons (a b:UInt8) (x y:List UInt8):Op.bytesLess (a::x) (b::y)=true↔a<b∨(a=b/\Op.bytesLess x y=true):=by
 rw [Op.bytesLess]
 by_cases h1:a<b<;>by_cases h2:a=b<;>simp [h1,h2]
def bl_trans:∀(x y z:List UInt8),Op.bytesLess x y=true->Op.bytesLess y z=true->Op.bytesLess x z=true
 |[],[],_,h,_=>by simp [Op.bytesLess] at h
 |[],_::_,[],_,h=>by simp [Op.bytesLess] at h
 |[],_::_,_::_,_,_=>by simp [Op.bytesLess]
 |_::_,[],_,h,_=>by simp [Op.bytesLess] at h
 |_::_,_::_,[],_,h=>by simp [Op.bytesLess] at h
 |a::x,b::y,c::z,h,k=>by
  rw [bl_cons] at h k⊢
  rcases h with h|⟨rfl,h⟩
  ·rcases k with k|⟨rfl,k⟩
   ·exact .inl (UInt8.lt_trans h k)
   ·exact .inl h
  ·rcases k with k|⟨rfl,k⟩
   ·exact .inl k
   ·exact .inr ⟨rfl,bl_trans x y z h k⟩
def bl_tri:∀(x y:List UInt8),Op.bytesLess x y=false->Op.bytesLess y x=false->x=y
 |[],[],_,_=>rfl
 |[],_::_,h,_=>by simp [Op.bytesLess] at h
 |_::_,[],_,h=>by simp [Op.bytesLess] at h
 |a::x,b::y,h,k=>by
  have h1:¬Op.bytesLess (a::x) (b::y)=true:=by rw [h];simp
  have k1:¬Op.bytesLess (b::y) (a::x)=true:=by rw [k];simp
  rw [bl_cons] at h1 k1
  have e:a=b:=ju (ig.1 fun c=>k1 (.inl c)) (ig.1 fun c=>h1 (.inl c))
  subst e
  have h2:Op.bytesLess x y=false:=by
   cases c:Op.bytesLess x y with
   |false=>rfl
   |true=>exact absurd (.inr ⟨rfl,c⟩) h1
  have k2:Op.bytesLess y x=false:=by
   cases c:Op.bytesLess y x with
   |false=>rfl
   |true=>exact absurd (.inr ⟨rfl,c⟩) k1
  rw [bl_tri x y h2 k2]
def bl_irr:∀(x:List UInt8),Op.bytesLess x x=false
 |[]=>by simp [Op.bytesLess]
 |a::x=>by
  cases c:Op.bytesLess (a::x) (a::x) with
  |false=>rfl
  |true=>
   rw [bl_cons] at c
   rcases c with c|⟨_,c⟩
   ·exact absurd c (kj a)
   ·rw [bl_irr x] at c;cases c
def zBr {a b:nn} (h:bF a b=false) (k:bF b a=false):a=b:=by
 have h1:=bl_tri _ _ h k
 rw [e9,e9] at h1
 exact iy (fv.1 h1)
def zCj (a:nn):bF a a=false:=bl_irr _
def zAg {a b c:nn} (h:bF a b=true) (k:bF b c=true):bF a c=true:=bl_trans _ _ _ h k
/-! ## Numbers -/
def r64 (n:Int):Prop:= -9223372036854775808<=n/\n<=9223372036854775807
instance (n:Int):Decidable (r64 n):=by unfold r64;infer_instance
def w64 (n:Int):Int:=IntKind.i64.wrap n
def zIo {n:Int} (h:r64 n):w64 n=n:=IntWalk.i64_in n h
def zGz (n:Int):w64 n=(n+9223372036854775808)%18446744073709551616-9223372036854775808:=by unfold w64;rw [IntKind.wrap_i64]
def w64_r (n:Int):r64 (w64 n):=by rw [zGz];unfold r64;omega
def zOt (n:Int):IntKind.u64.wrap n=n%18446744073709551616:=by rw [g7]
def plus_ok {a b:Int} (ha:r64 a) (hb:r64 b):decide (decide (a<w64 (a+b))=decide (0<b))=decide (r64 (a+b)):=by
 refine dl.2 ?_
 rw [zGz,dl]
 unfold r64 at *
 omega
variable {a b:Nat}
def sq_le (ha:a<=4294967295) (hb:b<=4294967295):a*b<=18446744065119617025:=gk ha hb
def hiN (a b:Nat):Nat:=
 (a/4294967296)*(b/4294967296)+((a/4294967296)*(b%4294967296)+((a%4294967296)*(b%4294967296))/4294967296)/4294967296+
  ((a%4294967296)*(b/4294967296)+((a/4294967296)*(b%4294967296)+((a%4294967296)*(b%4294967296))/4294967296)%4294967296)/4294967296
def zWc (a b:Nat):a*b=(a/4294967296)*(b/4294967296)*18446744073709551616+((a/4294967296)*(b%4294967296)+(a%4294967296)*(b/4294967296))*4294967296+(a%4294967296)*(b%4294967296):=by
 have ea:a=(a/4294967296)*4294967296+a%4294967296:=by omega
 have eb:b=(b/4294967296)*4294967296+b%4294967296:=by omega
 generalize a/4294967296=a1 at *
 generalize a%4294967296=a0 at *
 generalize b/4294967296=b1 at *
 generalize b%4294967296=b0 at *
 subst ea eb
 rw [gg,ki,ki,gg]
 have e1:a1*4294967296*(b1*4294967296)=a1*b1*18446744073709551616:=by
  rw [Nat.mul_mul_mul_comm]
 have e2:a1*4294967296*b0=a1*b0*4294967296:=by rw [Nat.mul_right_comm]
 have e3:a0*(b1*4294967296)=a0*b1*4294967296:=by rw [ga]
 rw [e1,e2,e3]
 omega
def hi_lo (a b:Nat):hiN a b*18446744073709551616+(a*b)%18446744073709551616=a*b:=by
 have h:=zWc a b
 unfold hiN
 generalize a*b=n at *
 generalize (a/4294967296)*(b/4294967296)=p11 at *
 generalize (a/4294967296)*(b%4294967296)=p10 at *
 generalize (a%4294967296)*(b/4294967296)=p01 at *
 generalize (a%4294967296)*(b%4294967296)=p00 at *
 omega
def part_le (ha:a<18446744073709551616) (hb:b<18446744073709551616):
  (a/4294967296)*(b/4294967296)<=18446744065119617025/\(a/4294967296)*(b%4294967296)<=18446744065119617025/\(a%4294967296)*(b/4294967296)<=18446744065119617025/\(a%4294967296)*(b%4294967296)<=18446744065119617025:=
 ⟨sq_le zB zB,sq_le zB zB,sq_le zB zB,sq_le zB zB⟩
def hi_zero:hiN a b=0↔a*b<18446744073709551616:=by
 have h:=hi_lo a b
 constructor
 ·intro e;rw [e] at h;omega
 ·intro e
  by_cases c:hiN a b=0
  ·exact c
  ·exfalso;generalize a*b=n at *;generalize hiN a b=m at *;omega
def hi_le (ha:a<=9223372036854775808) (hb:b<=9223372036854775808):hiN a b<=4611686018427387904:=by
 have h:=hi_lo a b
 have:a*b<=9223372036854775808*9223372036854775808:=gk ha hb
 generalize a*b=n at *;generalize hiN a b=m at *;omega
def hi_bounds (ha:a<18446744073709551616) (hb:b<18446744073709551616):
  (a/4294967296)*(b%4294967296)+((a%4294967296)*(b%4294967296))/4294967296<18446744073709551616/\
  (a%4294967296)*(b/4294967296)+((a/4294967296)*(b%4294967296)+((a%4294967296)*(b%4294967296))/4294967296)%4294967296<18446744073709551616/\
  (a/4294967296)*(b/4294967296)+((a/4294967296)*(b%4294967296)+((a%4294967296)*(b%4294967296))/4294967296)/4294967296<18446744073709551616/\hiN a b<18446744073709551616:=by
 obtain ⟨h1,h2,h3,h4⟩:=part_le ha hb
 have h5:=hi_lo a b
 have h6:a*b<=18446744073709551615*18446744073709551615:=gk zB zB
 refine ⟨?_,?_,?_,?_⟩
 ·generalize (a/4294967296)*(b%4294967296)=p10 at *
  generalize (a%4294967296)*(b%4294967296)=p00 at *
  omega
 ·generalize (a/4294967296)*(b%4294967296)=p10 at *
  generalize (a%4294967296)*(b/4294967296)=p01 at *
  generalize (a%4294967296)*(b%4294967296)=p00 at *
  omega
 ·generalize (a/4294967296)*(b/4294967296)=p11 at *
  generalize (a/4294967296)*(b%4294967296)=p10 at *
  generalize (a%4294967296)*(b%4294967296)=p00 at *
  omega
 ·generalize a*b=n at *
  generalize hiN a b=m at *
  omega
def fH (x y:Int):Int×Bool:=if r64 (x*y) then (x*y,true) else (0,false)
variable {x:Int}
def zUb (h:r64 x) (hn:x<0):IntKind.u64.wrap (-(IntKind.u64.wrap x))=(x.natAbs:Int):=by
 unfold r64 at h;rw [zOt,zOt];omega
def zUa (h:r64 x) (hn:¬x<0):IntKind.u64.wrap x=(x.natAbs:Int):=by
 unfold r64 at h;rw [zOt];omega
def zBt (h:r64 x):x.natAbs<=9223372036854775808:=by unfold r64 at h;omega
def zFl (x y:Int):(x*y).natAbs=x.natAbs*y.natAbs:=Int.natAbs_mul x y
variable {y:Int}
def sign_mul (hx:x<0) (hy:¬y<0):x*y<=0:=Int.mul_nonpos_of_nonpos_of_nonneg zB zB
def sign_mul2 (hx:¬x<0) (hy:y<0):x*y<=0:=Int.mul_nonpos_of_nonneg_of_nonpos zB zB
def sign_mul3 (hx:x<0) (hy:y<0):0<=x*y:=Int.mul_nonneg_of_nonpos_of_nonpos zB zB
def sign_mul4 (hx:¬x<0) (hy:¬y<0):0<=x*y:=Int.mul_nonneg zB zB
def neg_mul (h:(decide (x<0)==decide (y<0))=false):x*y<=0:=by
 by_cases hx:x<0<;>by_cases hy:y<0
 ·simp [hx,hy] at h
 ·exact sign_mul hx hy
 ·exact sign_mul2 hx hy
 ·simp [hx,hy] at h
def pos_mul (h:(decide (x<0)==decide (y<0))=true):0<=x*y:=by
 by_cases hx:x<0<;>by_cases hy:y<0
 ·exact sign_mul3 hx hy
 ·simp [hx,hy] at h
 ·simp [hx,hy] at h
 ·exact sign_mul4 hx hy
def times_big (hx:r64 x) (hy:r64 y) (h:hiN x.natAbs y.natAbs≠0∨9223372036854775808<x.natAbs*y.natAbs%18446744073709551616):fH x y=(0,false):=by
 unfold fH
 refine aa fun k=>?_
 have h1:=zFl x y
 unfold r64 at k
 have h2:x.natAbs*y.natAbs<18446744073709551616:=by rw [←h1];omega
 rcases h with h|h
 ·exact h (hi_zero.2 h2)
 ·rw [i4 h2,←h1] at h;omega
def times_edge (h:(decide (x<0)==decide (y<0))=true) (h2:x.natAbs*y.natAbs%18446744073709551616=9223372036854775808):fH x y=(0,false):=by
 unfold fH
 refine aa fun k=>?_
 have h1:=zFl x y
 have h3:=pos_mul h
 unfold r64 at k
 rw [←h1] at h2
 omega
def times_neg (h:(decide (x<0)==decide (y<0))=false) (h0:hiN x.natAbs y.natAbs=0) (hl:x.natAbs*y.natAbs%18446744073709551616<=9223372036854775808):fH x y=(IntKind.i64.wrap (IntKind.u64.wrap (-((x.natAbs*y.natAbs%18446744073709551616:Nat):Int))),true):=by
 have h1:=zFl x y
 have h3:=neg_mul h
 have h4:=hi_zero.1 h0
 rw [i4 h4] at hl⊢
 rw [←h1] at hl⊢
 unfold fH
 rw [ab (by unfold r64;omega),zOt]
 congr 1
 show _=w64 _
 rw [zGz];omega
def times_pos (h:(decide (x<0)==decide (y<0))=true) (h0:hiN x.natAbs y.natAbs=0) (hl:x.natAbs*y.natAbs%18446744073709551616<9223372036854775808):fH x y=(IntKind.i64.wrap ((x.natAbs*y.natAbs%18446744073709551616:Nat):Int),true):=by
 have h1:=zFl x y
 have h3:=pos_mul h
 have h4:=hi_zero.1 h0
 rw [i4 h4] at hl⊢
 rw [←h1] at hl⊢
 unfold fH
 rw [ab (by unfold r64;omega)]
 congr 1
 show _=w64 _
 rw [zGz];omega
def times_f (hx:r64 x) (hy:r64 y) (c:(¬((hiN x.natAbs y.natAbs:Nat):Int)=0∨9223372036854775808<((x.natAbs*y.natAbs%18446744073709551616:Nat):Int))∨((x.natAbs*y.natAbs%18446744073709551616:Nat):Int)=9223372036854775808/\(decide (x<0)==decide (y<0))=true):fH x y=(0,false):=by
 rcases c with (c|c)|⟨c,d⟩
 ·exact times_big hx hy (.inl zB)
 ·exact times_big hx hy (.inr zB)
 ·exact times_edge d zB
def vZ (a b:Nat):Nat:=(a%4294967296)*(b%4294967296)/4294967296+(a/4294967296)*(b%4294967296)%4294967296+(a%4294967296)*(b/4294967296)%4294967296
def wHi (a b:Nat):Nat:=(a/4294967296)*(b/4294967296)+(a/4294967296)*(b%4294967296)/4294967296+(a%4294967296)*(b/4294967296)/4294967296+vZ a b/4294967296
def wLo (a b:Nat):Nat:=vZ a b%4294967296*4294967296+(a%4294967296)*(b%4294967296)%4294967296
def wide_eq (a b:Nat):wHi a b=a*b/18446744073709551616/\wLo a b=a*b%18446744073709551616:=by
 have h:=zWc a b
 unfold wHi wLo vZ
 generalize a*b=n at *
 generalize (a/4294967296)*(b/4294967296)=p11 at *
 generalize (a/4294967296)*(b%4294967296)=p10 at *
 generalize (a%4294967296)*(b/4294967296)=p01 at *
 generalize (a%4294967296)*(b%4294967296)=p00 at *
 omega
def zUs (hx:r64 x) (hy:r64 y):x.natAbs*y.natAbs<=85070591730234615865843651857942052864:=gk (zBt hx) (zBt hy)
def wide_lt (hx:r64 x) (hy:r64 y):wHi x.natAbs y.natAbs<18446744073709551616/\wLo x.natAbs y.natAbs<18446744073709551616:=by
 obtain ⟨h1,h2⟩:=wide_eq x.natAbs y.natAbs
 have:=zUs hx hy
 rw [h1,h2];omega
def zTm (hx:r64 x) (hy:r64 y) (h:(decide (x<0)==decide (y<0))=true):IntKind.i64.wrap ((wHi x.natAbs y.natAbs:Nat):Int)=(x*y)/18446744073709551616/\wLo x.natAbs y.natAbs=((x*y)%18446744073709551616).toNat:=by
 obtain ⟨h1,h2⟩:=wide_eq x.natAbs y.natAbs
 have h3:=pos_mul h
 have h4:=zFl x y
 have h5:=zUs hx hy
 show w64 _=_/\_
 rw [h1,h2,zGz,←h4] at *
 generalize x*y=z at *
 omega
def zOo (hx:r64 x) (hy:r64 y) (h:(decide (x<0)==decide (y<0))=false) (h0:(18446744073709551616-wLo x.natAbs y.natAbs)%18446744073709551616=0):IntKind.i64.wrap (((18446744073709551615-wHi x.natAbs y.natAbs+1)%18446744073709551616:Nat):Int)=(x*y)/18446744073709551616/\(18446744073709551616-wLo x.natAbs y.natAbs)%18446744073709551616=((x*y)%18446744073709551616).toNat:=by
 exact v59
def zOn (hx:r64 x) (hy:r64 y) (h:(decide (x<0)==decide (y<0))=false) (h0:¬(18446744073709551616-wLo x.natAbs y.natAbs)%18446744073709551616=0):IntKind.i64.wrap ((18446744073709551615-wHi x.natAbs y.natAbs:Nat):Int)=(x*y)/18446744073709551616/\(18446744073709551616-wLo x.natAbs y.natAbs)%18446744073709551616=((x*y)%18446744073709551616).toNat:=by
 exact v59
def prod_bd (hx:r64 x) (hy:r64 y): -4611686018427387904<=x*y/18446744073709551616/\x*y/18446744073709551616<=4611686018427387904:=by
 have h5:=zUs hx hy
 have h4:=zFl x y
 rw [←h4] at h5
 generalize x*y=z at *
 omega
def zUo {a z k S:Int} (h0:0<=S) (h1:S<18446744073709551616) (h:k*18446744073709551616+S=a+z):
  V.tup [vI (IntKind.i64.wrap S),vB (decide (k=0)&&decide (0<=IntKind.i64.wrap S)||decide (k= -1)&&decide (IntKind.i64.wrap S<0))]=V.tup [vI (w64 (a+z)),vB (decide (r64 (a+z)))]:=by
 have e:IntKind.i64.wrap S=(S+9223372036854775808)%18446744073709551616-9223372036854775808:=zGz S
 have e1:w64 (a+z)=IntKind.i64.wrap S:=by rw [zGz,e];omega
 have e2:(decide (k=0)&&decide (0<=IntKind.i64.wrap S)||decide (k= -1)&&decide (IntKind.i64.wrap S<0))=decide (r64 (a+z)):=by
  rw [e]
  by_cases c:r64 (a+z)
  ·rw [al c]
   unfold r64 at c
   by_cases d:k=0
   ·rw [al d,al zB];rfl
   ·rw [am d,al (show k= -1 by omega),al (show (S+9223372036854775808)%18446744073709551616-9223372036854775808<0 by omega)];rfl
  ·rw [am c]
   unfold r64 at c
   by_cases d:k=0
   ·rw [al d,am (show ¬k= -1 by omega),am zB];rfl
   ·rw [am d]
    by_cases f:k= -1
    ·rw [al f,am (show ¬(S+9223372036854775808)%18446744073709551616-9223372036854775808<0 by omega)];rfl
    ·rw [am f];rfl
 rw [e1,e2]
def zUn {a z:Int} (ha:r64 a):∃S,S=IntKind.u64.wrap (((z%18446744073709551616).toNat:Int)+IntKind.u64.wrap a)/\0<=S/\S<18446744073709551616/\S=((z%18446744073709551616)+a%18446744073709551616)%18446744073709551616/\((z%18446744073709551616).toNat:Int)=z%18446744073709551616:=by
 refine ⟨_,rfl,?_⟩
 rw [zOt,zOt]
 omega
/-! ## Merges -/
abbrev Tr:=nn×Int×Int
def fB:Nat->List Mono->List Mono->List Tr
 |0,_,_=>[]
 |_+1,[],[]=>[]
 |n+1,a::ar,[]=>(a.Name,a.By,0)::fB n ar []
 |n+1,[],b::bs=>(b.Name,0,b.By)::fB n [] bs
 |n+1,a::ar,b::bs=>
  bif bF a.Name b.Name then (a.Name,a.By,0)::fB n ar (b::bs)
  else bif bF b.Name a.Name then (b.Name,0,b.By)::fB n (a::ar) bs
  else (a.Name,a.By,b.By)::fB n ar bs
def zAx:∀(n:Nat) (a b:List Mono),a.length+b.length<=n->fB n a b=fB (a.length+b.length) a b
 |0,a,b,h=>by rw [show a.length+b.length=0 by omega]
 |n+1,[],[],_=>rfl
 |n+1,a::ar,[],h=>by
  have ih:=zAx n ar [] (by simp at h⊢;omega)
  show (a.Name,a.By,0)::fB n ar []=(a.Name,a.By,0)::fB (ar.length) ar []
  rw [ih];rfl
 |n+1,[],b::bs,h=>by
  have ih:=zAx n [] bs (by simp at h⊢;omega)
  have e:([]:List Mono).length+(b::bs).length=bs.length+1:=by simp
  rw [e,fB,fB,ih];simp
 |n+1,a::ar,b::bs,h=>by
  have h':ar.length+1+(bs.length+1)<=n+1:=by simpa using h
  have i1:=zAx n ar (b::bs) uD
  have i2:=zAx n (a::ar) bs uD
  have i3:=zAx n ar bs zB
  have j1:=zAx (ar.length+bs.length+1) ar (b::bs) uD
  have j2:=zAx (ar.length+bs.length+1) (a::ar) bs uD
  have j3:=zAx (ar.length+bs.length+1) ar bs zB
  have e:(a::ar).length+(b::bs).length=(ar.length+bs.length+1)+1:=by simp;omega
  rw [e,fB,fB,i1,i2,i3,j1,j2,j3]
def bE (a b:List Mono):List Tr:=fB (a.length+b.length) a b
def zGv:bE [] []=[]:=rfl
def zFo (a:Mono) (ar:List Mono):bE (a::ar) []=(a.Name,a.By,0)::bE ar []:=rfl
def zFn (b:Mono) (bs:List Mono):bE [] (b::bs)=(b.Name,0,b.By)::bE [] bs:=by
 unfold bE;rw [show ([]:List Mono).length+(b::bs).length=bs.length+1 by simp,fB];simp
def zCs (a b:Mono) (ar bs:List Mono):bE (a::ar) (b::bs)=bif bF a.Name b.Name then (a.Name,a.By,0)::bE ar (b::bs) else bif bF b.Name a.Name then (b.Name,0,b.By)::bE (a::ar) bs else (a.Name,a.By,b.By)::bE ar bs:=by
 unfold bE
 rw [show (a::ar).length+(b::bs).length=(ar.length+bs.length+1)+1 by simp;omega,fB]
 rw [zAx _ ar (b::bs) uD,zAx _ (a::ar) bs uD,zAx _ ar bs zB]
def zDd (a b:List Mono):(bE a b).length<=a.length+b.length:=by
 have:∀(n:Nat) (a b:List Mono),(fB n a b).length<=n:=by
  intro n
  induction n with
  |zero=>intro a b;simp [fB]
  |succ n ih=>
   intro a b
   cases a with
   |nil=>
    cases b with
    |nil=>simp [fB]
    |cons b bs=>simp only [fB,lLc];have:=ih [] bs;omega
   |cons a ar=>
    cases b with
    |nil=>simp only [fB,lLc];have:=ih ar [];omega
    |cons b bs=>
     have h1:=ih ar (b::bs)
     have h2:=ih (a::ar) bs
     have h3:=ih ar bs
     simp only [fB]
     cases bF a.Name b.Name<;>cases bF b.Name a.Name<;>simp only [aD,av,lLc]<;>omega
 exact this _ a b
def hdM (l:List Mono):Mono:=l.headD ⟨bs [],0⟩
def zMh {l:List Mono} (h:0<l.length):l[0]? =some (hdM l):=by
 cases l with
 |nil=>simp at h
 |cons x r=>rfl
def mC2 (a b:List Mono):Bool:=decide ((b.length:Int)=0)||(decide ((0:Int)<a.length)&&bF (hdM a).Name (hdM b).Name)
def mC3 (a b:List Mono):Bool:=decide ((a.length:Int)=0)||bF (hdM b).Name (hdM a).Name
def mC2_b {a b:List Mono} (c:mC2 a b=false):0<b.length:=by
 unfold mC2 at c
 cases b with
 |nil=>simp at c
 |cons y s=>simp
def merge_left {a b:List Mono} (h:0<a.length∨0<b.length) (c:mC2 a b=true):0<a.length/\bE a b=((hdM a).Name,(hdM a).By,0)::bE (a.drop 1) b:=by
 unfold mC2 at c
 cases a with
 |nil=>
  cases b with
  |nil=>simp at h
  |cons y s=>simp at c;omega
 |cons x r=>
  refine ⟨uF,?_⟩
  cases b with
  |nil=>rw [zFo];rfl
  |cons y s=>
   have c2:bF x.Name y.Name=true:=by
    rw [aE,ae,aj] at c
    rcases c with c|c
    ·simp at c;omega
    ·exact c.2
   rw [zCs,c2];rfl
def merge_right {a b:List Mono} (h:0<a.length∨0<b.length) (c:mC2 a b=false) (c3:mC3 a b=true):0<b.length/\bE a b=((hdM b).Name,0,(hdM b).By)::bE a (b.drop 1):=by
 unfold mC2 at c
 unfold mC3 at c3
 cases b with
 |nil=>simp at c
 |cons y s=>
  refine ⟨uF,?_⟩
  cases a with
  |nil=>rw [zFn];rfl
  |cons x r=>
   have c2:bF x.Name y.Name=false:=by
    rw [aC,cm] at c
    rcases c.2 with c|c
    ·simp at c
    ·exact c
   have c4:bF y.Name x.Name=true:=by
    rw [aE,aj] at c3
    rcases c3 with c|c
    ·simp at c;omega
    ·exact c
   rw [zCs,c2,c4];rfl
def merge_both {a b:List Mono} (c:mC2 a b=false) (c3:mC3 a b=false):0<a.length/\0<b.length/\bE a b=((hdM a).Name,(hdM a).By,(hdM b).By)::bE (a.drop 1) (b.drop 1):=by
 unfold mC2 at c
 unfold mC3 at c3
 cases b with
 |nil=>simp at c
 |cons y s=>
  cases a with
  |nil=>simp at c3
  |cons x r=>
   refine ⟨uF,uF,?_⟩
   have c2:bF x.Name y.Name=false:=by
    rw [aC,cm] at c
    rcases c.2 with c|c
    ·simp at c
    ·exact c
   have c4:bF y.Name x.Name=false:=by
    rw [aC] at c3
    exact c3.2
   rw [zCs,c2,c4];rfl
/-! ## Sums -/
def trV (t:Tr):Int:=t.2.1+t.2.2
def sO (t:Tr):Bool:=decide (r64 (trV t))
def lI (ts:List Tr):List Mono:=ts.filterMap fun t=>if w64 (trV t)=0 then none else some ⟨t.1,w64 (trV t)⟩
def zFw (d:List Tr) (t:Tr):lI (d++[t])=lI d++(if w64 (trV t)=0 then [] else [⟨t.1,w64 (trV t)⟩]):=by
 unfold lI;rw [jf];congr 1
 by_cases h:w64 (trV t)=0<;>simp [h]
def zTu (d:List Tr):(lI d).length<=d.length:=ky _ _
def okF (ok:Bool) (d:List Tr):Bool:=d.foldl (fun b t=>b&&decide (r64 (t.2.1+t.2.2))) ok
def zHw (ok:Bool) (d:List Tr) (t:Tr):okF ok (d++[t])=(okF ok d&&decide (r64 (t.2.1+t.2.2))):=by unfold okF;rw [d7];rfl
def okF_all (ok:Bool) (d:List Tr):okF ok d=(ok&&d.all sO):=by
 induction d generalizing ok with
 |nil=>simp [okF]
 |cons t r ih=>
  show okF (ok&&sO t) r=_
  rw [ih,bi,jj]
def zGu:∀(n:Nat) (a b:List Mono),(∀m,m∈a->r64 m.By)->(∀m,m∈b->r64 m.By)->∀t,t∈fB n a b->r64 t.2.1/\r64 t.2.2
 |0,_,_,_,_,t,ht=>by simp [fB] at ht
 |_+1,[],[],_,_,t,ht=>by simp [fB] at ht
 |n+1,x::r,[],h1,h2,t,ht=>by
  simp only [fB] at ht
  rcases ag.1 ht with rfl|ht
  ·exact ⟨h1 x uF,by show r64 0;unfold r64;omega⟩
  ·exact zGu n r [] (fun m hm=>h1 m (by simp [hm])) h2 t ht
 |n+1,[],y::s,h1,h2,t,ht=>by
  simp only [fB] at ht
  rcases ag.1 ht with rfl|ht
  ·exact ⟨by show r64 0;unfold r64;omega,h2 y uF⟩
  ·exact zGu n [] s h1 (fun m hm=>h2 m (by simp [hm])) t ht
 |n+1,x::r,y::s,h1,h2,t,ht=>by
  have g1:=zGu n r (y::s) (fun m hm=>h1 m (by simp [hm])) h2 t
  have g2:=zGu n (x::r) s h1 (fun m hm=>h2 m (by simp [hm])) t
  have g3:=zGu n r s (fun m hm=>h1 m (by simp [hm])) (fun m hm=>h2 m (by simp [hm])) t
  have z0:r64 0:=by unfold r64;omega
  simp only [fB] at ht
  cases c1:bF x.Name y.Name with
  |true=>
   rw [c1,aD] at ht
   rcases ag.1 ht with rfl|ht
   ·exact ⟨h1 x uF,z0⟩
   ·exact g1 ht
  |false=>
   rw [c1,av] at ht
   cases c2:bF y.Name x.Name with
   |true=>
    rw [c2,aD] at ht
    rcases ag.1 ht with rfl|ht
    ·exact ⟨z0,h2 y uF⟩
    ·exact g2 ht
   |false=>
    rw [c2,av] at ht
    rcases ag.1 ht with rfl|ht
    ·exact ⟨h1 x uF,h2 y uF⟩
    ·exact g3 ht
def merge_rng {a b:List Mono} (h1:∀m,m∈a->r64 m.By) (h2:∀m,m∈b->r64 m.By) {d s:List Tr} {t:Tr} (h:bE a b=d++t::s):r64 t.2.1/\r64 t.2.2/\d.length<=a.length+b.length:=by
 have h3:=zDd a b
 rw [h] at h3
 simp only [lLa,lLc] at h3
 obtain ⟨k1,k2⟩:=zGu _ a b h1 h2 t (by rw [show fB (a.length+b.length) a b=bE a b from rfl,h];simp)
 exact ⟨k1,k2,zB⟩
def mK (k:Int) (ts:List Tr):Lf×Int:=if r64 k/\ts.all sO=true then (⟨k,lI ts⟩,0) else (zL,3)
def gQ (a b:Lf):Lf×Int:=if bG a=true/\bG b=true then mK (a.K+b.K) (bE a.L b.L) else (zL,1)
def add_bad {a b:Lf} (h:¬(bG a=true/\bG b=true)):gQ a b=(zL,1):=by unfold gQ;rw [aa h]
def add_c1 {a b:Lf} (c:¬dH a=0∨¬dH b=0):gQ a b=(zL,1):=add_bad fun h=>by
 rcases c with c|c
 ·have:=zMe c;rw [h.1] at this;cases this
 ·have:=zMe c;rw [h.2] at this;cases this
def add_no {a b:Lf} (h1:bG a=true) (h2:bG b=true) (h:okF (decide (r64 (a.K+b.K))) (bE a.L b.L)=false):gQ a b=(zL,3):=by
 unfold gQ mK
 rw [ab ⟨h1,h2⟩,aa fun k=>?_]
 rw [okF_all,al k.1,k.2] at h
 cases h
def add_ok {a b:Lf} (h1:bG a=true) (h2:bG b=true) (h:okF (decide (r64 (a.K+b.K))) (bE a.L b.L)=true):gQ a b=(⟨w64 (a.K+b.K),lI (bE a.L b.L)⟩,0):=by
 rw [okF_all,ae,aj] at h
 unfold gQ mK
 rw [ab ⟨h1,h2⟩,ab h,zIo h.1]
def mS (by_:Int) (l:List Mono):List Mono:=l.map fun m=>⟨m.Name,m.By*by_⟩
def gI (by_:Int) (l:List Mono):Bool:=l.all fun m=>decide (r64 (m.By*by_))
def fI (a:Lf) (by_:Int):Lf×Int:=if bG a=true then (if by_=0 then (zL,0) else if r64 (a.K*by_)/\gI by_ a.L=true then (⟨a.K*by_,mS by_ a.L⟩,0) else (zL,3)) else (zL,1)
def lS (l:Lf) (s:nn):Lf:=⟨l.K,l.L.filter fun m=> !decide (m.Name=s)⟩
def bN (l:List Mono) (s:nn):Int:=l.foldl (fun by_ m=>if m.Name=s then m.By else by_) 0
def bU (l:Lf) (s:nn) (to_:Lf):Lf×Int:=
 if bG l=true/\bB s=true/\bG to_=true then (if (fI to_ (bN l.L s)).2=0 then gQ (lS l s) (fI to_ (bN l.L s)).1 else (zL,(fI to_ (bN l.L s)).2)) else (zL,1)
def mB (by_:Int) (ts:List Tr):List Tr:=ts.map fun t=>(t.1,t.2.1,t.2.2*by_)
def bO (l:Lf) (s:nn) (to_:Lf):Lf×Int:=
 if bG l=true/\bG to_=true/\bB s=true then
  (if bN l.L s=0 then (l,0) else if r64 (to_.K*bN l.L s)/\gI (bN l.L s) to_.L=true then mK (l.K+to_.K*bN l.L s) (mB (bN l.L s) (bE (lS l s).L to_.L)) else (zL,3))
 else (zL,1)
def nE (by_:Int) (l:List Mono):List Mono:=l.map fun m=>⟨m.Name,(fH m.By by_).1⟩
def nU (by_:Int) (l:List Mono):Bool:=l.all fun m=>(fH m.By by_).2
def scaleW_len (by_:Int) (l:List Mono):(nE by_ l).length=l.length:=by simp [nE]
variable {k:Nat} {by_:Int}
def scaleW_next {l:List Mono} {x:Mono} (h:l[k]? =some x):nE by_ (l.take (k+1))=nE by_ (l.take k)++[⟨x.Name,(fH x.By by_).1⟩]:=by unfold nE;rw [yA h,ah];rfl
def scaleB_next {l:List Mono} {x:Mono} (h:l[k]? =some x):nU by_ (l.take (k+1))=(nU by_ (l.take k)&&(fH x.By by_).2):=by unfold nU;rw [yA h,ce];simp
def timesT_2 (x y:Int):(fH x y).2=decide (r64 (x*y)):=by unfold fH;by_cases h:r64 (x*y)<;>simp [h]
def timesT_1 (h:r64 (x*y)):(fH x y).1=x*y:=by unfold fH;rw [ab h]
def scaleOk_next {l:List Mono} {x:Mono} (h:l[k]? =some x) (hp:gI by_ (l.take k)=true) (hx:r64 (x.By*by_)):gI by_ (l.take (k+1))=true:=by
 unfold gI at *;rw [yA h,ce,hp];simp [hx]
def scaleOk_no {l:List Mono} {x:Mono} (h:l[k]? =some x) (hx:¬r64 (x.By*by_)):gI by_ l=false:=by
 unfold gI;rw [fj];exact ⟨x,qD h,by simp [hx]⟩
def scaleB_ok (by_:Int) (l:List Mono):nU by_ l=gI by_ l:=by unfold nU gI;congr 1;funext m;exact timesT_2 _ _
def scaleW_ok {l:List Mono} (h:gI by_ l=true):nE by_ l=mS by_ l:=by
 unfold gI at h
 rw [lAe] at h
 unfold nE mS
 refine dn fun m hm=>?_
 rw [timesT_1 (by simpa using h m hm)]
variable {l:Lf}
def scale_ok (h1:bG l=true) (h2:¬by_=0) (h3:(fH l.K by_).2=true/\nU by_ l.L=true):fI l by_=(⟨(fH l.K by_).1,nE by_ l.L⟩,0):=by
 rw [timesT_2,aj,scaleB_ok] at h3
 unfold fI
 rw [ab h1,aa h2,ab h3,timesT_1 h3.1,scaleW_ok h3.2]
def scale_no (h1:bG l=true) (h2:¬by_=0) (h3:(fH l.K by_).2=false∨nU by_ l.L=false):fI l by_=(zL,3):=by
 unfold fI
 rw [ab h1,aa h2,aa fun h=>?_]
 rw [timesT_2,scaleB_ok,al h.1,h.2] at h3
 rcases h3 with h3|h3<;>cases h3
def scale_zero (h1:bG l=true) (h2:by_=0):fI l by_=(zL,0):=by unfold fI;rw [ab h1,ab h2]
def scale_bad (h1:bG l=false):fI l by_=(zL,1):=by unfold fI;rw [aa (by rw [h1];simp)]
def zEf (by_:Int):∀(n:Nat) (a b:List Mono),a.length+b.length<=n->bE a (mS by_ b)=mB by_ (bE a b)
 |_,[],[],_=>rfl
 |0,_::_,_,h=>by simp at h
 |0,[],_::_,h=>by simp at h
 |n+1,a::ar,[],h=>by
  have ih:=zEf by_ n ar [] (by simp at h⊢;omega)
  show bE (a::ar) []=_
  rw [zFo]
  show _=(a.Name,a.By,0*by_)::mB by_ (bE ar [])
  rw [←ih,jx];rfl
 |n+1,[],b::bs,h=>by
  have ih:=zEf by_ n [] bs (by simp at h⊢;omega)
  show bE [] (⟨b.Name,b.By*by_⟩::mS by_ bs)=_
  rw [zFn,zFn,ih];rfl
 |n+1,a::ar,b::bs,h=>by
  have h':ar.length+1+(bs.length+1)<=n+1:=by simpa using h
  have i1:=zEf by_ n ar (b::bs) uD
  have i2:=zEf by_ n (a::ar) bs uD
  have i3:=zEf by_ n ar bs zB
  have e:mS by_ (b::bs)=⟨b.Name,b.By*by_⟩::mS by_ bs:=rfl
  rw [e] at i1⊢
  rw [zCs,zCs,i1,i2,i3]
  cases bF a.Name b.Name<;>cases bF b.Name a.Name<;>simp [mB]
def zJy {l:List Mono} {x:Mono} (h:l[k]? =some x):bN (l.take (k+1)) s=if x.Name=s then x.By else bN (l.take k) s:=by
 unfold bN;rw [yA h,d7];rfl
def zPd {l:List Mono} {x:Mono} (h:l[k]? =some x):(l.take (k+1)).filter (fun m=> !decide (m.Name=s))=(l.take k).filter (fun m=> !decide (m.Name=s))++(if x.Name=s then [] else [x]):=by
 rw [yA h,mh];by_cases e:x.Name=s<;>simp [e]
def zGt:∀{p:Option nn} {l:List Mono},bM p l=true->∀m,m∈l->m.By≠0/\bB m.Name=true
 |_,[],_,m,hm=>by cases hm
 |p,x::r,h,m,hm=>by
  simp only [bM,ae,az,aw] at h
  rcases ag.1 hm with rfl|hm
  ·exact ⟨h.1.1.2,h.1.1.1⟩
  ·exact zGt h.2 m hm
def last_none {l:List Mono} (h:∀m,m∈l->m.Name≠s):bN l s=0/\l.filter (fun m=> !decide (m.Name=s))=l:=by
 constructor
 ·have:∀(l:List Mono) (b:Int),(∀m,m∈l->m.Name≠s)->l.foldl (fun by_ m=>if m.Name=s then m.By else by_) b=b:=by
   intro l
   induction l with
   |nil=>intro b _;rfl
   |cons x r ih=>intro b hl;rw [cv,aa (hl x uF),ih b fun m hm=>hl m (by simp [hm])]
  exact this l 0 h
 ·rw [List.filter_eq_self];intro m hm;simp [h m hm]
def zPr {p:Option nn} {l:List Mono} (h:bM p l=true) (hz:bN l s=0):∀m,m∈l->m.Name≠s:=by
 have key:∀(l:List Mono) (b:Int),(∀m,m∈l->m.By≠0)->l.foldl (fun by_ m=>if m.Name=s then m.By else by_) b=0->∀m,m∈l->m.Name≠s:=by
  intro l
  induction l with
  |nil=>intro b _ _ m hm;cases hm
  |cons x r ih=>
   intro b hl h m hm
   rw [cv] at h
   rcases ag.1 hm with rfl|hm
   ·intro e
    rw [ab e] at h
    by_cases c:∀y,y∈r->y.Name≠s
    ·have:r.foldl (fun by_ m=>if m.Name=s then m.By else by_) m.By=m.By:=by
      clear ih h hl hm
      generalize m.By=z
      induction r generalizing z with
      |nil=>rfl
      |cons y r ih2=>rw [cv,aa (c y uF),ih2 (fun q hq=>c q (by simp [hq]))]
     rw [this] at h
     exact hl m uF h
    ·exact c (ih _ (fun y hy=>hl y (by simp [hy])) h)
   ·exact ih _ (fun y hy=>hl y (by simp [hy])) h m hm
 exact key l 0 (fun m hm=>(zGt h m hm).1) hz
def Lf.rng (l:Lf):Prop:=r64 l.K/\∀m,m∈l.L->r64 m.By
def zJt:∀{l:List Mono},(∀m,m∈l->r64 m.By/\m.By≠0)->(bE l []).all sO=true/\lI (bE l [])=l
 |[],_=>⟨rfl,rfl⟩
 |a::ar,h=>by
  obtain ⟨h1,h2⟩:=zJt (l:=ar) fun m hm=>h m (by simp [hm])
  obtain ⟨h3,h4⟩:=h a uF
  rw [zFo]
  have e:trV (a.Name,a.By,0)=a.By:=by simp [trV]
  constructor
  ·rw [bi,h1,sO,e,al h3];rfl
  ·show List.filterMap _ _=_
   rw [dq]
   simp only [e,zIo h3,aa h4]
   exact ai (a:: ·) h2
def zPs (h:l.rng) (s:nn):r64 (bN l.L s):=by
 have key:∀(l:List Mono) (b:Int),(∀m,m∈l->r64 m.By)->r64 b->r64 (l.foldl (fun by_ m=>if m.Name=s then m.By else by_) b):=by
  intro l
  induction l with
  |nil=>intro b _ h;exact h
  |cons x r ih=>
   intro b hl hb
   rw [cv]
   refine ih _ (fun m hm=>hl m (by simp [hm])) ?_
   split
   ·exact hl x uF
   ·exact hb
 exact key l.L 0 h.2 (by unfold r64;omega)
def zSn:zL.rng:=⟨by show r64 0;unfold r64;omega,fun m hm=>by cases hm⟩
def scale_rng (l:Lf) (b:Int):(fI l b).1.rng/\(fI l b).1.L.length<=l.L.length:=by
 unfold fI
 split
 ·split
  ·exact ⟨zSn,by simp [zL]⟩
  ·split
   ·rename_i h
    refine ⟨⟨h.1,fun m hm=>?_⟩,by simp [mS]⟩
    obtain ⟨x,hx,rfl⟩:=aX.1 hm
    have:=h.2
    unfold gI at this
    rw [lAe] at this
    simpa using this x hx
   ·exact ⟨zSn,by simp [zL]⟩
 ·exact ⟨zSn,by simp [zL]⟩
def rest_rng (h:l.rng) (s:nn):(lS l s).rng/\(lS l s).L.length<=l.L.length:=
 ⟨⟨h.1,fun m hm=>h.2 m (da.1 hm).1⟩,dt _ _⟩
variable {to_:Lf}
def subst_c1 (c:(¬dH l=0∨bB s=false)∨¬dH to_=0):bU l s to_=(zL,1):=by
 unfold bU
 refine aa fun h=>?_
 rcases c with (c|c)|c
 ·have:=zMe c;rw [h.1] at this;cases this
 ·rw [h.2.1] at c;cases c
 ·have:=zMe c;rw [h.2.2] at this;cases this
def subst_c4 (c:(dH l=0/\bB s=true)/\dH to_=0) (c4:¬(fI to_ (bN l.L s)).2=0):bU l s to_=(zL,(fI to_ (bN l.L s)).2):=by
 unfold bU
 rw [ab ⟨zMf c.1.1,c.1.2,zMf c.2⟩,aa c4]
def subst_ok (c:(dH l=0/\bB s=true)/\dH to_=0) (c4:(fI to_ (bN l.L s)).2=0):bU l s to_=gQ (lS l s) (fI to_ (bN l.L s)).1:=by
 unfold bU
 rw [ab ⟨zMf c.1.1,c.1.2,zMf c.2⟩,ab c4]
def strLt_trans' {a b c:nn} (h:bF a b=true) (k:bF b c=true):bF a c=true:=zAg h k
def monos_weak {p q:Option nn} {l:List Mono} (h:bM p l=true) (hpq:∀n,ltO p n=true->ltO q n=true):bM q l=true:=by
 cases l with
 |nil=>rfl
 |cons x r=>
  simp only [bM,ae] at h⊢
  exact ⟨⟨h.1.1,hpq _ h.1.2⟩,h.2⟩
def zLv (f:Mono->Bool):∀{p:Option nn} {l:List Mono},bM p l=true->bM p (l.filter f)=true
 |_,[],_=>rfl
 |p,x::r,h=>by
  simp only [bM,ae] at h
  have ih:=zLv f h.2
  rw [ke]
  by_cases c:f x=true
  ·rw [ab c];simp only [bM,ae];exact ⟨h.1,ih⟩
  ·rw [aa c]
   refine monos_weak ih fun n hn=>?_
   cases p with
   |none=>rfl
   |some q=>exact strLt_trans' h.1.2 hn
def zWd {b:Int} (hb:b≠0):∀{p:Option nn} {l:List Mono},bM p l=true->bM p (mS b l)=true
 |_,[],_=>rfl
 |p,x::r,h=>by
  simp only [bM,ae,az,aw] at h
  have ih:=zWd hb h.2
  show bM p (⟨x.Name,x.By*b⟩::mS b r)=true
  simp only [bM,ae,az,aw]
  exact ⟨⟨⟨h.1.1.1,Int.mul_ne_zero h.1.1.2 hb⟩,h.1.2⟩,ih⟩
def zJl (hl:l.rng):bU l s to_=bO l s to_:=by
 unfold bU bO
 by_cases h:bG l=true/\bB s=true/\bG to_=true
 ·obtain ⟨h1,h2,h3⟩:=h
  rw [ab (⟨h1,h2,h3⟩:bG l=true/\bB s=true/\bG to_=true),ab (⟨h1,h3,h2⟩:bG l=true/\bG to_=true/\bB s=true)]
  by_cases c:bN l.L s=0
  ·rw [ab c]
   have hn:=zPr h1 c
   have e:fI to_ (bN l.L s)=(zL,0):=by unfold fI;rw [ab h3,ab c]
   rw [e,ab rfl]
   have er:lS l s=l:=by unfold lS;rw [(last_none hn).2]
   rw [er]
   unfold gQ
   rw [ab ⟨h1,rfl⟩]
   obtain ⟨g1,g2⟩:=zJt (l:=l.L) fun m hm=>⟨hl.2 m hm,(zGt h1 m hm).1⟩
   show mK (l.K+0) (bE l.L [])=_
   unfold mK
   rw [jy,ab ⟨hl.1,g1⟩,g2]
  ·rw [aa c]
   by_cases d:r64 (to_.K*bN l.L s)/\gI (bN l.L s) to_.L=true
   ·rw [ab d]
    have e:fI to_ (bN l.L s)=(⟨to_.K*bN l.L s,mS (bN l.L s) to_.L⟩,0):=by unfold fI;rw [ab h3,aa c,ab d]
    rw [e,ab rfl]
    unfold gQ
    rw [ab ⟨zLv _ h1,zWd c h3⟩]
    show mK (l.K+to_.K*bN l.L s) (bE (lS l s).L (mS (bN l.L s) to_.L))=_
    rw [zEf _ _ _ _ (aA _)]
   ·rw [aa d]
    have e:fI to_ (bN l.L s)=(zL,3):=by unfold fI;rw [ab h3,aa c,aa d]
    rw [e,aa uA]
 ·rw [aa h,aa fun k=>h ⟨k.1,k.2.2,k.2.1⟩]
variable {n:Nat}
def sum_both {a b:List Mono} {x y:Mono} (hx:a[i]? =some x) (hy:b[n]? =some y) (h:y.Name=x.Name):bE (a.drop i) (b.drop n)=(x.Name,x.By,y.By)::bE (a.drop (i+1)) (b.drop (n+1)):=by
 rw [qJ hx,qJ hy,zCs,h,zCj,av,av]
def sum_left1 {a b:List Mono} {x:Mono} (hx:a[i]? =some x) (hn:¬n<b.length):bE (a.drop i) (b.drop n)=(x.Name,x.By,0)::bE (a.drop (i+1)) (b.drop n):=by
 rw [qJ hx,kL hn,zFo]
def sum_left2 {a b:List Mono} {x y:Mono} (hx:a[i]? =some x) (hy:b[n]? =some y) (h:bF y.Name x.Name=false) (hne:¬y.Name=x.Name):bE (a.drop i) (b.drop n)=(x.Name,x.By,0)::bE (a.drop (i+1)) (b.drop n):=by
 rw [qJ hx,qJ hy,zCs]
 have:bF x.Name y.Name=true:=by
  cases h2:bF x.Name y.Name with
  |true=>rfl
  |false=>exact absurd (zBr h h2) hne
 rw [this,aD]
def sum_right1 {a b:List Mono} {y:Mono} (hi:¬i<a.length) (hy:b[n]? =some y):bE (a.drop i) (b.drop n)=(y.Name,0,y.By)::bE (a.drop i) (b.drop (n+1)):=by
 rw [kL hi,qJ hy,zFn]
def sum_right2 {a b:List Mono} {x y:Mono} (hx:a[i]? =some x) (hy:b[n]? =some y) (h:bF y.Name x.Name=true):bE (a.drop i) (b.drop n)=(y.Name,0,y.By)::bE (a.drop i) (b.drop (n+1)):=by
 rw [qJ hx,qJ hy,zCs]
 have:bF x.Name y.Name=false:=by
  cases h2:bF x.Name y.Name with
  |false=>rfl
  |true=>have:=zAg h h2;rw [zCj] at this;cases this
 rw [this,av,h,aD]
def sum_end {a b:List Mono} (hi:¬i<a.length) (hn:¬n<b.length):bE (a.drop i) (b.drop n)=[]:=by
 rw [kL hi,kL hn,zGv]
/-! the tests of the reference's loop -/
def atM (l:List Mono) (k:Nat):Mono:=l.getD k ⟨bs [],0⟩
def zFa {l:List Mono} (h:k<l.length):l[k]? =some (atM l k):=by
 unfold atM;rw [cz,ak h];rfl
def zTd {l:List Mono} (h:k<l.length):atM l k∈l:=qD (zFa h)
def sC2 (a b:List Mono) (i n:Nat):Bool:=decide ((n:Int)=b.length)||(decide ((i:Int)<a.length)&&(bF (atM a i).Name (atM b n).Name||decide ((atM a i).Name=(atM b n).Name)))
def sC3 (b:List Mono) (n:Nat) (s:nn):Bool:=decide ((n:Int)<b.length)&&decide ((atM b n).Name=s)
def le_t {x y:nn} (h:(bF x y||decide (x=y))=true):bF y x=false:=by
 rw [aE,aj] at h
 rcases h with h|rfl
 ·cases k:bF y x with
  |false=>rfl
  |true=>have:=zAg h k;rw [zCj] at this;cases this
 ·exact zCj _
def le_f {x y:nn} (h:(bF x y||decide (x=y))=false):bF y x=true:=by
 rw [aC,aw] at h
 cases k:bF y x with
 |true=>rfl
 |false=>exact absurd (zBr h.1 k) h.2
def sum_t {a b:List Mono} (h:i<a.length∨n<b.length) (hn:n<=b.length) (c2:sC2 a b i n=true):i<a.length:=by
 unfold sC2 at c2
 rw [aE,ae,aj,aj] at c2
 rcases c2 with c2|⟨c2,_⟩<;>omega
def sum_tt {a b:List Mono} (hi:i<a.length) (c3:sC3 b n (atM a i).Name=true):n<b.length/\bE (a.drop i) (b.drop n)=((atM a i).Name,(atM a i).By,(atM b n).By)::bE (a.drop (i+1)) (b.drop (n+1)):=by
 unfold sC3 at c3
 simp only [ae,aj] at c3
 have hn:n<b.length:=by omega
 exact ⟨hn,sum_both (zFa hi) (zFa hn) c3.2⟩
def sum_tf {a b:List Mono} (hi:i<a.length) (hn:n<=b.length) (c2:sC2 a b i n=true) (c3:sC3 b n (atM a i).Name=false):bE (a.drop i) (b.drop n)=((atM a i).Name,(atM a i).By,0)::bE (a.drop (i+1)) (b.drop n):=by
 by_cases h:n<b.length
 ·unfold sC2 at c2
  unfold sC3 at c3
  rw [aE,ae,aj] at c2
  simp only [cm,aw] at c3
  have h2:bF (atM b n).Name (atM a i).Name=false:=by
   rcases c2 with c2|c2
   ·omega
   ·exact le_t c2.2
  have h3:¬(atM b n).Name=(atM a i).Name:=by
   rcases c3 with c3|c3
   ·omega
   ·exact c3
  exact sum_left2 (zFa hi) (zFa h) h2 h3
 ·exact sum_left1 (zFa hi) h
def sum_f {a b:List Mono} (hn:n<=b.length) (c2:sC2 a b i n=false):n<b.length:=by
 unfold sC2 at c2
 rw [aC,aw] at c2
 omega
def sum_fx {a b:List Mono} (hn:n<b.length) (c2:sC2 a b i n=false):bE (a.drop i) (b.drop n)=((atM b n).Name,0,(atM b n).By)::bE (a.drop i) (b.drop (n+1))/\sC3 b n (atM b n).Name=true:=by
 refine ⟨?_,by unfold sC3;rw [al (by omega:(n:Int)<b.length),al rfl];rfl⟩
 unfold sC2 at c2
 rw [aC,cm,aw] at c2
 by_cases h:i<a.length
 ·have h2:bF (atM b n).Name (atM a i).Name=true:=by
   rcases c2.2 with k|k
   ·rw [aw] at k;omega
   ·exact le_f k
  exact sum_right2 (zFa h) (zFa hn) h2
 ·exact sum_right1 h (zFa hn)
def add_no' {k:Int} {ts:List Tr} (h:okF (decide (r64 k)) ts=false):mK k ts=(zL,3):=by
 rw [okF_all,cm,aw] at h
 unfold mK
 refine aa fun hh=>?_
 rcases h with h|h
 ·exact h hh.1
 ·rw [hh.2] at h;cases h
def add_ok' {k:Int} {ts:List Tr} (h:okF (decide (r64 k)) ts=true):mK k ts=(⟨w64 k,lI ts⟩,0):=by
 rw [okF_all,ae,aj] at h
 unfold mK
 rw [ab h,zIo h.1]
def zEa (by_:Int) (d:List Tr) (t:Tr):mB by_ (d++[t])=mB by_ d++[(t.1,t.2.1,t.2.2*by_)]:=by simp [mB]
def zJk (by_:Int) (d:List Tr):(lI (mB by_ d)).length<=d.length:=by
 have:=zTu (mB by_ d);simpa [mB] using this
def substR_bad (c:(bG l=false∨bG to_=false)∨bB s=false):bO l s to_=(zL,1):=by
 unfold bO
 refine aa fun h=>?_
 rcases c with (c|c)|c
 ·rw [h.1] at c;cases c
 ·rw [h.2.1] at c;cases c
 ·rw [h.2.2] at c;cases c
def substR_c1 (c:(bG l=true/\bG to_=true)/\bB s=true):bG l=true/\bG to_=true/\bB s=true:=⟨c.1.1,c.1.2,c.2⟩
def substR_same (c:bG l=true/\bG to_=true/\bB s=true) (c4:bN l.L s=0):bO l s to_=(l,0):=by
 unfold bO;rw [ab c,ab c4]
def substR_no (c:bG l=true/\bG to_=true/\bB s=true) (c4:¬bN l.L s=0) (c5:¬r64 (to_.K*bN l.L s)∨gI (bN l.L s) to_.L=false):bO l s to_=(zL,3):=by
 unfold bO;rw [ab c,aa c4,aa fun h=>by rcases c5 with c5|c5;exact c5 h.1;rw [h.2] at c5;cases c5]
def substR_yes (c:bG l=true/\bG to_=true/\bB s=true) (c4:¬bN l.L s=0) (c5:r64 (to_.K*bN l.L s)/\gI (bN l.L s) to_.L=true):bO l s to_=mK (l.K+to_.K*bN l.L s) (mB (bN l.L s) (bE (lS l s).L to_.L)):=by
 unfold bO;rw [ab c,aa c4,ab c5]
def zI:Ix:=⟨zL,bs [],[]⟩
def iR:Except Int Ix->Ix
 |.ok e=>e
 |.error _=>zI
variable {f:Lf->Lf×Int}
def mIxs_next' {l:List Ix} {x:Ix} {done:List Ix} (h:l[k]? =some x) (hp:dM f l=bW done (dM f (l.drop k))) (hx:gG (mIx f x)=0):dM f l=bW (done++[iR (mIx f x)]) (dM f (l.drop (k+1))):=by
 obtain ⟨y,hy⟩:=zXn hx mIx_ne
 rw [hy];exact zWj h hp hy
def mIxs_no' {l:List Ix} {x:Ix} {done:List Ix} (h:l[k]? =some x) (hp:dM f l=bW done (dM f (l.drop k))) (hx:¬gG (mIx f x)=0):dM f l=.error (gG (mIx f x)):=by
 cases hm:mIx f x with
 |error y=>exact zWi h hp hm
 |ok y=>rw [hm] at hx;exact absurd rfl hx
variable {g:Lf->Lf×Int}
/-! ## What mapping keeps -/
def fE_congr (h:f l=g l):fE f l=fE g l:=by unfold fE;rw [h]
def zWh {f g:Lf->Lf×Int}:∀{l:List Lf},(∀x,x∈l->f x=g x)->dL f l=dL g l
 |[],_=>rfl
 |x::r,h=>by rw [dL,dL,fE_congr (h x uF),zWh fun y hy=>h y (by simp [hy])]
def mIx_congr {x:Ix} (h1:f x.Lin=g x.Lin) (h2:∀l,l∈x.At->f l=g l):mIx f x=mIx g x:=by
 rw [mIx,mIx,fE_congr h1,zWh h2]
def mIxs_congr {f g:Lf->Lf×Int}:∀{l:List Ix},(∀x,x∈l->f x.Lin=g x.Lin/\∀y,y∈x.At->f y=g y)->dM f l=dM g l
 |[],_=>rfl
 |x::r,h=>by rw [dM,dM,mIx_congr (h x uF).1 (h x uF).2,mIxs_congr fun y hy=>h y (by simp [hy])]
def mExs_congr {f g:Lf->Lf×Int}:∀{l:List Ex},(∀a,a∈l->mEx f a=mEx g a)->gB f l=gB g l
 |[],_=>by rw [gB,gB]
 |x::r,h=>by rw [gB,gB,h x uF,mExs_congr fun y hy=>h y (by simp [hy])]
variable {P:Lf->Prop}
def mEx_congr (hfg:∀l,P l->f l=g l) (e:Ex) (h:e.allF P):mEx f e=mEx g e:=by
 induction e using Ex.ind with
 |_ e ih=>
  rw [zWl,zWl,fE_congr (hfg _ (Ex.allF_lin h)),mIxs_congr fun x hx=>⟨hfg _ (Ex.allF_ix h hx),fun y hy=>hfg _ (Ex.allF_at h hx hy)⟩,mExs_congr fun a ha=>ih a ha (Ex.allF_arg h ha)]
/-! ## Ascending triples -/
def mC:Option nn->List Tr->Bool
 |_,[]=>true
 |p,t::r=>bB t.1&&ltO p t.1&&mC (some t.1) r
def ltO_trans {p:Option nn} {a b:nn} (h:ltO p a=true) (k:bF a b=true):ltO p b=true:=by
 cases p with
 |none=>rfl
 |some q=>exact zAg h k
def zCl:∀(n:Nat) (p:Option nn) (a b:List Mono),a.length+b.length<=n->bM p a=true->bM p b=true->mC p (bE a b)=true
 |_,p,[],[],_,_,_=>rfl
 |0,_,_::_,_,h,_,_=>by simp at h
 |0,_,[],_::_,h,_,_=>by simp at h
 |n+1,p,x::r,[],h,ha,hb=>by
  simp only [bM,ae] at ha
  rw [zFo,mC,ae,ae]
  exact ⟨⟨ha.1.1.1,ha.1.2⟩,zCl n _ r [] (by simp at h⊢;omega) ha.2 rfl⟩
 |n+1,p,[],y::s,h,ha,hb=>by
  simp only [bM,ae] at hb
  rw [zFn,mC,ae,ae]
  exact ⟨⟨hb.1.1.1,hb.1.2⟩,zCl n _ [] s (by simp at h⊢;omega) rfl hb.2⟩
 |n+1,p,x::r,y::s,h,ha,hb=>by
  have ha0:=ha
  have hb0:=hb
  simp only [bM,ae] at ha hb
  rw [zCs]
  cases h1:bF x.Name y.Name with
  |true=>
   rw [aD,mC,ae,ae]
   refine ⟨⟨ha.1.1.1,ha.1.2⟩,zCl n _ r (y::s) (by simp at h⊢;omega) ha.2 ?_⟩
   simp only [bM,ae]
   exact ⟨⟨hb.1.1,h1⟩,hb.2⟩
  |false=>
   rw [av]
   cases h2:bF y.Name x.Name with
   |true=>
    rw [aD,mC,ae,ae]
    refine ⟨⟨hb.1.1.1,hb.1.2⟩,zCl n _ (x::r) s (by simp at h⊢;omega) ?_ hb.2⟩
    simp only [bM,ae]
    exact ⟨⟨ha.1.1,h2⟩,ha.2⟩
   |false=>
    rw [av,mC,ae,ae]
    have e:x.Name=y.Name:=zBr h1 h2
    refine ⟨⟨ha.1.1.1,ha.1.2⟩,zCl n _ r s (by simp at h⊢;omega) ha.2 ?_⟩
    show bM (some x.Name) s=true
    rw [e];exact hb.2
def mul_asc (b:Int):∀{p:Option nn} {l:List Tr},mC p l=true->mC p (mB b l)=true
 |_,[],_=>rfl
 |p,t::r,h=>by
  simp only [mC,ae] at h
  show mC p ((t.1,t.2.1,t.2.2*b)::mB b r)=true
  simp only [mC,ae]
  exact ⟨h.1,mul_asc b h.2⟩
def sum_asc:∀{p:Option nn} {l:List Tr},mC p l=true->bM p (lI l)=true
 |_,[],_=>rfl
 |p,t::r,h=>by
  simp only [mC,ae] at h
  have ih:=sum_asc h.2
  unfold lI at ih⊢
  rw [dq]
  by_cases c:w64 (trV t)=0
  ·rw [ab c]
   exact monos_weak ih fun n hn=>ltO_trans h.1.2 hn
  ·rw [aa c]
   simp only [bM,ae,az,aw]
   exact ⟨⟨⟨h.1.1,c⟩,h.1.2⟩,ih⟩
def zFf:∀(n:Nat) (a b:List Mono),a.length+b.length<=n->∀t,t∈bE a b->(∃m,m∈a/\m.Name=t.1)∨∃m,m∈b/\m.Name=t.1
 |_,[],[],_,t,ht=>by rw [zGv] at ht;cases ht
 |0,_::_,_,h,_,_=>by simp at h
 |0,[],_::_,h,_,_=>by simp at h
 |n+1,x::r,[],h,t,ht=>by
  rw [zFo] at ht
  rcases ag.1 ht with rfl|ht
  ·exact .inl ⟨x,uF,rfl⟩
  ·rcases zFf n r [] (by simp at h⊢;omega) t ht with ⟨m,hm,e⟩|k
   ·exact .inl ⟨m,by simp [hm],e⟩
   ·exact .inr k
 |n+1,[],y::s,h,t,ht=>by
  rw [zFn] at ht
  rcases ag.1 ht with rfl|ht
  ·exact .inr ⟨y,uF,rfl⟩
  ·rcases zFf n [] s (by simp at h⊢;omega) t ht with k|⟨m,hm,e⟩
   ·exact .inl k
   ·exact .inr ⟨m,by simp [hm],e⟩
 |n+1,x::r,y::s,h,t,ht=>by
  rw [zCs] at ht
  have up:∀(a b:List Mono),(∀m,m∈a->m∈x::r)->(∀m,m∈b->m∈y::s)->((∃m,m∈a/\m.Name=t.1)∨∃m,m∈b/\m.Name=t.1)->(∃m,m∈x::r/\m.Name=t.1)∨∃m,m∈y::s/\m.Name=t.1:=by
   intro a b h1 h2 k
   rcases k with ⟨m,hm,e⟩|⟨m,hm,e⟩
   ·exact .inl ⟨m,h1 m hm,e⟩
   ·exact .inr ⟨m,h2 m hm,e⟩
  have self1:∀m,m∈x::r->m∈x::r:=fun _ h=>h
  have self2:∀m,m∈y::s->m∈y::s:=fun _ h=>h
  have tl1:∀m,m∈r->m∈x::r:=fun m hm=>by simp [hm]
  have tl2:∀m,m∈s->m∈y::s:=fun m hm=>by simp [hm]
  cases h1:bF x.Name y.Name with
  |true=>
   rw [h1,aD] at ht
   rcases ag.1 ht with rfl|ht
   ·exact .inl ⟨x,uF,rfl⟩
   ·exact up r (y::s) tl1 self2 (zFf n r (y::s) (by simp at h⊢;omega) t ht)
  |false=>
   rw [h1,av] at ht
   cases h2:bF y.Name x.Name with
   |true=>
    rw [h2,aD] at ht
    rcases ag.1 ht with rfl|ht
    ·exact .inr ⟨y,uF,rfl⟩
    ·exact up (x::r) s self1 tl2 (zFf n (x::r) s (by simp at h⊢;omega) t ht)
   |false=>
    rw [h2,av] at ht
    rcases ag.1 ht with rfl|ht
    ·exact .inl ⟨x,uF,rfl⟩
    ·exact up r s tl1 tl2 (zFf n r s (by simp at h⊢;omega) t ht)
def sum_rng {l:List Tr} {m:Mono} (h:m∈lI l):r64 m.By:=by
 unfold lI at h
 obtain ⟨t,ht,e⟩:=ip.1 h
 by_cases c:w64 (trV t)=0
 ·rw [ab c] at e;cases e
 ·rw [aa c] at e;injection e with e;subst e;exact w64_r _
/-! ## One form -/
def eC (l:Lf) (s:nn):Prop:=∃m,m∈l.L/\m.Name=s
def substR_len (l to_:Lf) (s:nn):(bO l s to_).1.L.length<=l.L.length+to_.L.length:=by
 unfold bO
 split
 ·split
  ·exact i5 _ _
  ·split
   ·unfold mK
    split
    ·show (lI (mB _ _)).length<=_
     have h1:=zJk (bN l.L s) (bE (lS l s).L to_.L)
     have h2:=zDd (lS l s).L to_.L
     have h3:(lS l s).L.length<=l.L.length:=dt _ _
     omega
    ·exact bu _
   ·exact bu _
 ·exact bu _
def zQv (s:nn) (hl:l.rng):(bO l s to_).1.rng:=by
 unfold bO
 split
 ·split
  ·exact hl
  ·split
   ·unfold mK
    split
    ·rename_i h;exact ⟨h.1,fun m hm=>sum_rng hm⟩
    ·exact zSn
   ·exact zSn
 ·exact zSn
def substR_ok (h1:bG l=true) (h2:bG to_=true) (h3:bB s=true) (h:(bO l s to_).2=0):bG (bO l s to_).1=true:=by
 unfold bO at h⊢
 rw [ab ⟨h1,h2,h3⟩] at h⊢
 by_cases c:bN l.L s=0
 ·rw [ab c] at h⊢;exact h1
 ·rw [aa c] at h⊢
  by_cases d:r64 (to_.K*bN l.L s)/\gI (bN l.L s) to_.L=true
  ·rw [ab d] at h⊢
   unfold mK at h⊢
   split
   ·exact sum_asc (mul_asc _ (zCl _ none _ _ (aA _) (zLv _ h1) h2))
   ·rfl
  ·rw [aa d] at h⊢;rfl
def zHg:∀{q:nn} {l:List Mono},bM (some q) l=true->∀m,m∈l->bF q m.Name=true
 |_,[],_,m,hm=>by cases hm
 |q,x::r,h,m,hm=>by
  simp only [bM,ae] at h
  rcases ag.1 hm with rfl|hm
  ·exact h.1.2
  ·exact zAg h.1.2 (zHg h.2 m hm)
def lastBy_mem {l:List Mono} (h:bN l s≠0):∃m,m∈l/\m.Name=s/\m.By=bN l s:=by
 have key:∀(l:List Mono) (b:Int),l.foldl (fun by_ m=>if m.Name=s then m.By else by_) b=b∨∃m,m∈l/\m.Name=s/\m.By=l.foldl (fun by_ m=>if m.Name=s then m.By else by_) b:=by
  intro l
  induction l with
  |nil=>intro b;exact .inl rfl
  |cons x r ih=>
   intro b
   rw [cv]
   by_cases c:x.Name=s
   ·rw [ab c]
    rcases ih x.By with e|⟨m,hm,e1,e2⟩
    ·exact .inr ⟨x,uF,c,e.symm⟩
    ·exact .inr ⟨m,by simp [hm],e1,e2⟩
   ·rw [aa c]
    rcases ih b with e|⟨m,hm,e1,e2⟩
    ·exact .inl e
    ·exact .inr ⟨m,by simp [hm],e1,e2⟩
 rcases key l 0 with e|h2
 ·exact absurd e h
 ·exact h2
def gIx (g:Lf->Lf) (x:Ix):Ix:=⟨g x.Lin,x.From,x.At.map g⟩
mutual
def gEx (g:Lf->Lf):Ex->Ex
 |.mk o n v t l i arg_=>.mk o n v t (g l) (i.map (gIx g)) (rI g arg_)
def rI (g:Lf->Lf):List Ex->List Ex
 |[]=>[]
 |a::r=>gEx g a::rI g r
end
def gExs_map (g:Lf->Lf) (l:List Ex):rI g l=l.map (gEx g):=by
 induction l with
 |nil=>rfl
 |cons a r ih=>rw [rI,ih];rfl
def zSv (g:Lf->Lf) (e:Ex):gEx g e=.mk e.Op e.Name e.Val e.Ty (g e.Lin) (e.Idx.map (gIx g)) (e.Args.map (gEx g)):=by
 cases e;rw [gEx,gExs_map];rfl
def mLins_g {f:Lf->Lf×Int}:∀{l r:List Lf},dL f l=.ok r->r=l.map (fun x=>(f x).1)/\∀x,x∈l->(f x).2=0
 |[],r,h=>by rw [dL] at h;injection h with h;subst h;exact ⟨rfl,fun x hx=>by cases hx⟩
 |a::t,r,h=>by
  rw [dL] at h
  by_cases c:(f a).2=0
  ·rw [zOk c] at h
   cases hm:dL f t with
   |error y=>rw [hm] at h;cases h
   |ok u=>
    rw [hm] at h
    injection h with h
    subst h
    obtain ⟨h1,h2⟩:=mLins_g hm
    exact ⟨by rw [h1];rfl,fun x hx=>by rcases ag.1 hx with rfl|hx;exact c;exact h2 x hx⟩
  ·rw [zPz c] at h;cases h
def mIx_g {x y:Ix} (h:mIx f x=.ok y):y=gIx (fun l=>(f l).1) x/\(f x.Lin).2=0/\∀l,l∈x.At->(f l).2=0:=by
 rw [mIx] at h
 by_cases c:(f x.Lin).2=0
 ·rw [zOk c] at h
  cases hm:dL f x.At with
  |error y=>rw [hm] at h;cases h
  |ok u=>
   rw [hm] at h
   injection h with h
   subst h
   obtain ⟨h1,h2⟩:=mLins_g hm
   exact ⟨by rw [h1];rfl,c,h2⟩
 ·rw [zPz c] at h;cases h
def mIxs_g {f:Lf->Lf×Int}:∀{l r:List Ix},dM f l=.ok r->r=l.map (gIx fun x=>(f x).1)/\∀x,x∈l->(f x.Lin).2=0/\∀y,y∈x.At->(f y).2=0
 |[],r,h=>by rw [dM] at h;injection h with h;subst h;exact ⟨rfl,fun x hx=>by cases hx⟩
 |a::t,r,h=>by
  rw [dM] at h
  cases h1:mIx f a with
  |error y=>rw [h1] at h;cases h
  |ok a'=>
   rw [h1] at h
   cases hm:dM f t with
   |error y=>rw [hm] at h;cases h
   |ok u=>
    rw [hm] at h
    injection h with h
    subst h
    obtain ⟨k1,k2⟩:=mIx_g h1
    obtain ⟨k3,k4⟩:=mIxs_g hm
    exact ⟨by rw [k1,k3];rfl,fun x hx=>by rcases ag.1 hx with rfl|hx;exact k2;exact k4 x hx⟩
def nodes_allF (h1:∀l,l∈dD e->P l) (h2:∀a,a∈e.Args->a.allF P):e.allF P:=by
 exact v11
mutual
def mEx_g {f:Lf->Lf×Int}:∀{e e':Ex},mEx f e=.ok e'->e'=gEx (fun l=>(f l).1) e/\e.allF fun l=>(f l).2=0
 |.mk o n v t l i arg_,e',h=>by
  rw [mEx] at h
  by_cases c:(f l).2=0
  ·rw [zOk c] at h
   cases h1:dM f i with
   |error y=>rw [h1] at h;cases h
   |ok i'=>
    rw [h1] at h
    cases h2:gB f arg_ with
    |error y=>rw [h2] at h;cases h
    |ok as'=>
     rw [h2] at h
     injection h with h
     subst h
     obtain ⟨k1,k2⟩:=mIxs_g h1
     obtain ⟨k3,k4⟩:=mExs_g h2
     refine ⟨by rw [gEx,k1,k3,gExs_map],nodes_allF ?_ k4⟩
     intro y hy
     unfold dD at hy
     rcases ag.1 hy with rfl|hy
     ·exact c
     ·obtain ⟨x,hx,hy⟩:=dg.1 hy
      rcases ag.1 hy with rfl|hy
      ·exact (k2 x hx).1
      ·exact (k2 x hx).2 y hy
  ·rw [zPz c] at h;cases h
def mExs_g {f:Lf->Lf×Int}:∀{l r:List Ex},gB f l=.ok r->r=l.map (gEx fun l=>(f l).1)/\∀a,a∈l->a.allF fun l=>(f l).2=0
 |[],r,h=>by rw [gB] at h;injection h with h;subst h;exact ⟨rfl,fun x hx=>by cases hx⟩
 |a::t,r,h=>by
  rw [gB] at h
  cases h1:mEx f a with
  |error y=>rw [h1] at h;cases h
  |ok a'=>
   rw [h1] at h
   cases hm:gB f t with
   |error y=>rw [hm] at h;cases h
   |ok u=>
    rw [hm] at h
    injection h with h
    subst h
    obtain ⟨k1,k2⟩:=mEx_g h1
    obtain ⟨k3,k4⟩:=mExs_g hm
    exact ⟨by rw [k1,k3];rfl,fun x hx=>by rcases ag.1 hx with rfl|hx;exact k2;exact k4 x hx⟩
end
def mLins_er {f:Lf->Lf×Int} {c:Int}:∀{l:List Lf},dL f l=.error c->∃x,x∈l/\(f x).2=c
 |[],h=>by rw [dL] at h;cases h
 |a::t,h=>by
  rw [dL] at h
  by_cases k:(f a).2=0
  ·rw [zOk k] at h
   cases hm:dL f t with
   |error y=>rw [hm] at h;injection h with h;subst h;obtain ⟨x,hx,e⟩:=mLins_er hm;exact ⟨x,by simp [hx],e⟩
   |ok u=>rw [hm] at h;cases h
  ·rw [zPz k] at h;injection h with h;exact ⟨a,uF,h⟩
def mIx_er {c:Int} {x:Ix} (h:mIx f x=.error c):∃l,l∈ixF x/\(f l).2=c:=by
 rw [mIx] at h
 by_cases k:(f x.Lin).2=0
 ·rw [zOk k] at h
  cases hm:dL f x.At with
  |error y=>rw [hm] at h;injection h with h;subst h;obtain ⟨l,hl,e⟩:=mLins_er hm;exact ⟨l,by simp [ixF,hl],e⟩
  |ok u=>rw [hm] at h;cases h
 ·rw [zPz k] at h;injection h with h;exact ⟨x.Lin,by simp [ixF],h⟩
def mIxs_er {f:Lf->Lf×Int} {c:Int}:∀{l:List Ix},dM f l=.error c->∃x,x∈l.flatMap ixF/\(f x).2=c
 |[],h=>by rw [dM] at h;cases h
 |a::t,h=>by
  rw [dM] at h
  cases k:mIx f a with
  |error y=>rw [k] at h;injection h with h;subst h;obtain ⟨l,hl,e⟩:=mIx_er k;exact ⟨l,by rw [cc];exact dy _ hl,e⟩
  |ok a'=>
   rw [k] at h
   cases hm:dM f t with
   |error y=>rw [hm] at h;injection h with h;subst h;obtain ⟨x,hx,e⟩:=mIxs_er hm;exact ⟨x,by rw [cc];exact dh _ hx,e⟩
   |ok u=>rw [hm] at h;cases h
def mEx_er {P:Int->Prop} (e:Ex) (hP:e.allF fun l=>P (f l).2):∀c,mEx f e=.error c->P c:=by
 induction e using Ex.ind with
 |_ e ih=>
  intro c h
  rw [zWl] at h
  by_cases k:(f e.Lin).2=0
  ·rw [zOk k] at h
   cases h1:dM f e.Idx with
   |error y=>
    rw [h1] at h;injection h with h;subst h
    obtain ⟨x,hx,e2⟩:=mIxs_er h1
    have:=hP e (by rw [zAl];simp) x (by unfold dD;exact aJ _ hx)
    have this:P (f x).2:=this
    rw [e2] at this;exact this
   |ok i'=>
    rw [h1] at h
    cases h2:gB f e.Args with
    |error y=>
     rw [h2] at h;injection h with h;subst h
     have key:∀l:List Ex,(∀a,a∈l->a∈e.Args)->gB f l=.error y->P y:=by
      intro l
      induction l with
      |nil=>intro _ h;rw [gB] at h;cases h
      |cons a t iht=>
       intro hl h
       rw [gB] at h
       cases k2:mEx f a with
       |error z=>rw [k2] at h;injection h with h;subst h;exact ih a (hl a uF) (Ex.allF_arg hP (hl a uF)) _ k2
       |ok a'=>
        rw [k2] at h
        cases hm:gB f t with
        |error z=>rw [hm] at h;injection h with h;subst h;exact iht (fun b hb=>hl b (by simp [hb])) hm
        |ok u=>rw [hm] at h;cases h
     exact key e.Args (fun a h=>h) h2
    |ok as'=>rw [h2] at h;cases h
  ·rw [zPz k] at h;injection h with h;subst h
   exact hP e (by rw [zAl];simp) _ (by unfold dD;simp)
/-! ## What stays -/
def forms_g (g:Lf->Lf) (e:Ex):dD (gEx g e)=(dD e).map g:=by
 rw [zSv]
 show g e.Lin::(e.Idx.map (gIx g)).flatMap (fun x=>x.Lin::x.At)=(e.Lin::e.Idx.flatMap fun x=>x.Lin::x.At).map g
 rw [aH]
 congr 1
 induction e.Idx with
 |nil=>rfl
 |cons x r ih=>rw [aH,cc,cc,ah,ih];rfl
mutual
def nodes_g (g:Lf->Lf):∀e:Ex,dQ (gEx g e)=(dQ e).map (gEx g)
 |.mk o n v t l i arg_=>by rw [gEx,dQ,dQ,nodesL_g g arg_,aH,gEx]
def nodesL_g (g:Lf->Lf):∀l:List Ex,bV (rI g l)=(bV l).map (gEx g)
 |[]=>by rw [rI,bV];rfl
 |a::r=>by rw [rI,bV,bV,nodes_g g a,nodesL_g g r,ah]
end
def zYi {g:Lf->Lf} (h:e.allF fun l=>P (g l)):(gEx g e).allF P:=by
 intro x hx l hl
 rw [nodes_g] at hx
 obtain ⟨y,hy,rfl⟩:=aX.1 hx
 rw [forms_g] at hl
 obtain ⟨k,hk,rfl⟩:=aX.1 hl
 exact h y hy k hk
def valid_lin (h:dO e=0):e.allF fun l=>bG l=true:=by
 intro x hx l hl
 have:=(zPn (zQc (zFc h) x hx)).2.2.2.2
 unfold lV at this
 rw [ae] at this
 exact aT.1 this.2 l hl
/-! ## Weights -/
structure PO {α:Type} (f:α->α->Int) (a:α):Prop where
 anti:∀b,f b a= -f a b
 rng:∀b,-1<=f a b/\f a b<=1
 cong:∀b,f a b=0->∀c,f a c=f b c
 cong':∀b c,f b c=0->f a b=f a c
 trans:∀b c,f a b<0->f b c<0->f a c<0
variable {α:Type}
def PO.zero (a:α):PO (fun _ _=>0) a:=
 ⟨fun _=>rfl,fun _=>⟨by show (-1:Int)<=0;omega,by show (0:Int)<=1;omega⟩,fun _ _ _=>rfl,fun _ _ _=>rfl,fun _ _ h _=>h⟩
/-! ## Short names -/
def iT (l:Lf):List nn:=l.L.map Mono.Name
def iS (x:Ex):List nn:=(dD x).flatMap iT
def iU (l:List Ex):List nn:=l.flatMap iS
def nF:List nn->nn->List nn
 |[],s=>[s]
 |x::r,s=>if bF x s=true then x::nF r s else if x=s then x::r else s::x::r
def gY (l:List nn) (m:List nn):List nn:=m.foldl nF l
def below (s:nn) (x:nn):Bool:=bF x s
def insW_end:∀{l:List nn} {s:nn},l.all (below s)=true->nF l s=l++[s]
 |[],s,_=>rfl
 |x::r,s,h=>by
  simp only [bi,ae] at h
  rw [nF,ab (show bF x s=true from h.1),insW_end h.2];rfl
def insW_mid:∀{l:List nn} {s x:nn} {k:Nat},(l.take k).all (below s)=true->l[k]? =some x->bF x s=false->¬x=s->nF l s=l.take k++s::l.drop k
 |[],s,x,k,_,h,_,_=>by simp at h
 |y::r,s,x,0,_,h,h2,h3=>by
  have hx:y=x:=by simpa using h
  subst hx
  rw [nF,aa (by rw [h2];simp),aa h3];rfl
 |y::r,s,x,k+1,h0,h,h2,h3=>by
  simp only [au,bi,ae] at h0
  rw [nF,ab (show bF y s=true from h0.1),insW_mid h0.2 (by simpa using h) h2 h3];rfl
def zMi (x:nn) (r:List nn) (s:nn):bQ (x::r) s=(decide (x=s)||bQ r s):=rfl
def insW_has (t:nn):∀(l:List nn) (s:nn),bQ (nF l s) t=(bQ l t||decide (s=t))
 |[],s=>by simp [nF,bQ]
 |x::r,s=>by
  rw [nF]
  split
  ·rw [zMi,zMi,insW_has t r s,Bool.or_assoc]
  ·split
   ·rename_i h;subst h;rw [zMi];cases decide (x=t)<;>simp
   ·rw [zMi s,Bool.or_comm]
def insWs_has (t:nn):∀(m l:List nn),bQ (gY l m) t=(bQ l t||bQ m t)
 |[],l=>by simp [gY,bQ]
 |x::m,l=>by
  have:=insWs_has t m (nF l x)
  unfold gY at *
  rw [cv,this,insW_has,zMi,Bool.or_assoc]
def insW_len:∀(l:List nn) (s:nn),(nF l s).length<=l.length+1
 |[],s=>by simp [nF]
 |x::r,s=>by
  rw [nF]
  have:=insW_len r s
  split
  ·simp;omega
  ·split<;>simp
def insWs_len:∀(m l:List nn),(gY l m).length<=l.length+m.length
 |[],l=>by simp [gY]
 |x::m,l=>by
  have h1:=insWs_len m (nF l x)
  have h2:=insW_len l x
  unfold gY at *
  rw [cv,lLc];omega
def insWs_append (l a b:List nn):gY l (a++b)=gY (gY l a) b:=by unfold gY;rw [d7]
def atB (l:List nn) (k:Nat):nn:=l.getD k (bs [])
def atB_get {l:List nn} (h:k<l.length):l[k]? =some (atB l k):=by
 rw [ak h];simp [atB,List.getD,ak h]
def insWs0_len (m:List nn):(gY [] m).length<=m.length:=by have:=insWs_len m [];simpa using this
def zEb {l:List nn}:bQ l s=true↔s∈l:=by
 unfold bQ;rw [dm]
 constructor
 ·rintro ⟨x,hx,h⟩;rw [aj] at h;rw [←h];exact hx
 ·intro h;exact ⟨s,h,uF⟩
def iY (e:Ex):List nn:=gY [] (iU (dQ e))
def nodeT_args {N:Ex->List Ty->Ty×Int} (h:(bR N e).2=0):(bJ N e.Args).2=0/\bR N e=N e (bJ N e.Args).1:=by
 rw [zMy] at h⊢
 by_cases c:(bJ N e.Args).2=0
 ·rw [ab c] at h⊢;exact ⟨c,rfl⟩
 ·rw [aa c] at h;exact absurd h c
def nodeL_cons {N:Ex->List Ty->Ty×Int} {a:Ex} {r:List Ex} (h:(bJ N (a::r)).2=0):(bR N a).2=0/\(bJ N r).2=0/\(bJ N (a::r)).1=(bR N a).1::(bJ N r).1:=by
 rw [bJ] at h⊢
 by_cases c:(bR N a).2=0
 ·rw [ab c] at h⊢
  by_cases d:(bJ N r).2=0
  ·rw [ab d];exact ⟨c,d,rfl⟩
  ·rw [aa d] at h;exact absurd h d
 ·rw [aa c] at h;exact absurd h c
section
variable {fr:Ex->Bool} {o_:List nn} {e a b c:Ex}
end
/-! ## Weights -/
section
variable {n:En} {o_:List nn} {e:Ex} {t:Ty×Int}
end
def valid_defs (h:(bK p).2=0):∀d,d∈p.Defs->bB d.Name=true:=by
 rw [zFm] at h
 obtain ⟨a',h5,_⟩:=zFe p p rfl p.Params _ _ (zFu h).2.2.2
 intro d hd
 obtain ⟨i,hi⟩:=bn hd
 have h1:=zKh p p.Defs _ _ _ h5 i d hi
 have h2:dE d.Name ((p.Sizes++p.Params.map Pm.Name)++(p.Defs.take i).map Df.Name)=0:=cp fun c=>by rw [defR_1 c] at h1;exact c h1
 unfold dE at h2
 by_cases g:bB d.Name=true
 ·exact g
 ·rw [aa g] at h2;exact absurd h2 uA
def zPo (h:bB s=true):s.size<=16:=by
 rcases bx 16 s.size with c|c
 ·rw [name_short (by rw [aE,aE];exact .inl (.inr (al zB)))] at h;cases h
 ·exact c
section
variable {p:Pg} {o_:List nn} {R:List Df×List nn×Int}
end
section
variable {n:En} {d:Df} {A:List nn} {X:Ex×Int}
end
def dWt (d:Df):Nat:=d.Dims.length+d.Red.length+gW d.Body 1500
def smD:List Df->Nat->Nat
 |[],n=>n
 |d::r,n=>if n<=1500 then smD r (n+dWt d) else n
def smP:List Pm->Nat->Nat
 |[],n=>n
 |x::r,n=>if n<=1500 then smP r (n+x.Dims.length) else n
def xU (p:Pg):Bool:=((((!decide (40<p.Params.length)&& !decide (40<p.Defs.length))&& !decide (40<p.Outs.length))&& !decide (80<p.Sizes.length))&& !decide (80<p.Where.length))
def cF (p:Pg):Bool:=xU p&&decide (smP p.Params (smD p.Defs 0)<=1500)
def smD_ge:∀(l:List Df) (n:Nat),n<=smD l n
 |[],n=>aA _
 |d::r,n=>by
  rw [smD]
  split
  ·have:=smD_ge r (n+dWt d);omega
  ·exact aA _
def smP_ge:∀(l:List Pm) (n:Nat),n<=smP l n
 |[],n=>aA _
 |d::r,n=>by
  rw [smP]
  split
  ·have:=smP_ge r (n+d.Dims.length);omega
  ·exact aA _
def smD_all:∀(l:List Df) (n:Nat),smD l n<=1500->∀d,d∈l->dWt d<=1500
 |x::r,n,h,d,hd=>by
  rw [smD] at h
  by_cases c:n<=1500
  ·rw [ab c] at h
   rcases ag.1 hd with rfl|hd
   ·have:=smD_ge r (n+dWt d);omega
   ·exact smD_all r _ h d hd
  ·rw [aa c] at h;exact absurd h c
def smP_all:∀(l:List Pm) (n:Nat),smP l n<=1500->∀d,d∈l->d.Dims.length<=1500
 |x::r,n,h,d,hd=>by
  rw [smP] at h
  by_cases c:n<=1500
  ·rw [ab c] at h
   rcases ag.1 hd with rfl|hd
   ·have:=smP_ge r (n+d.Dims.length);omega
   ·exact smP_all r _ h d hd
  ·rw [aa c] at h;exact absurd h c
def smD_next {l:List Df} {N:Nat} (h:l[k]? =some d) (hp:N=smD (l.drop k) n) (c:n<=1500):N=smD (l.drop (k+1)) (n+dWt d):=by
 rw [hp,qJ h,smD,ab c]
def smD_end {l:List Df} {N:Nat} (hp:N=smD (l.drop k) n) (c:¬(k<l.length/\n<=1500)):N=n:=by
 rw [hp]
 by_cases h:k<l.length
 ·obtain ⟨x,hx⟩:=qX l k h
  rw [qJ hx,smD,aa (fun d=>c ⟨h,d⟩)]
 ·rw [kL h,smD]
def smP_next {l:List Pm} {N:Nat} {d:Pm} (h:l[k]? =some d) (hp:N=smP (l.drop k) n) (c:n<=1500):N=smP (l.drop (k+1)) (n+d.Dims.length):=by
 rw [hp,qJ h,smP,ab c]
def smP_end {l:List Pm} {N:Nat} (hp:N=smP (l.drop k) n) (c:¬(k<l.length/\n<=1500)):N=n:=by
 rw [hp]
 by_cases h:k<l.length
 ·obtain ⟨x,hx⟩:=qX l k h
  rw [qJ hx,smP,aa (fun d=>c ⟨h,d⟩)]
 ·rw [kL h,smP]
structure Pg.Frm (p:Pg):Prop where
 whs:∀c,c∈p.Where->c.Lin.L.length<=5864062014805
 ps:∀x,x∈p.Params->∀l,l∈x.Dims->l.L.length<=5864062014805
 ds:∀d,d∈p.Defs->(∀a,a∈d.Dims->a.Size.L.length<=5864062014805)/\∀a,a∈d.Red->a.Size.L.length<=5864062014805
structure Pg.Sm (p:Pg):Prop where
 sizes:p.Sizes.length<=80
 wh:p.Where.length<=80
 params:p.Params.length<=40
 defs:p.Defs.length<=40
 outs:p.Outs.length<=40
 frm:p.Frm
 ps:∀x,x∈p.Params->x.Dims.length<=1500
 ds:∀d,d∈p.Defs->d.Dims.length<=1500/\d.Red.length<=1500/\d.Body.wt<=1500
def sml_is (h:cF p=true) (hf:p.Frm):p.Sm:=by
 unfold cF xU at h
 simp only [ae,az,aw,aj] at h
 obtain ⟨⟨⟨⟨⟨h1,h2⟩,h3⟩,h4⟩,h5⟩,h6⟩:=h
 refine ⟨zB,zB,zB,zB,zB,hf,smP_all _ _ h6,fun d hd=>?_⟩
 have h7:=smD_all p.Defs 0 (aL (smP_ge _ _) h6) d hd
 unfold dWt at h7
 have:=zOp d.Body 1500 zB
 exact ⟨zB,zB,zB⟩
def Pg.Sm.ok (h:p.Sm):p.Ok:=
 ⟨aL h.sizes uA,aL h.wh uA,aL h.params uA,aL h.defs uA,aL h.outs uA,h.frm.whs,
  fun x hx=>⟨aL (h.ps x hx) uA,h.frm.ps x hx⟩,
  fun d hd=>⟨aL (h.ds d hd).1 uA,aL (h.ds d hd).2.1 uA,(h.frm.ds d hd).1,(h.frm.ds d hd).2,aL (h.ds d hd).2.2 uA⟩⟩
/-! ## What the loop over the definitions makes is small -/
def Pg.Sm.df (h:p.Sm) (hd:d∈p.Defs):d.Dims.length<=1500/\d.Red.length<=1500/\(∀a,a∈d.Dims->a.Size.L.length<=5864062014805)/\(∀a,a∈d.Red->a.Size.L.length<=5864062014805)/\d.Body.wt<=1500:=
 ⟨(h.ds d hd).1,(h.ds d hd).2.1,(h.frm.ds d hd).1,(h.frm.ds d hd).2,(h.ds d hd).2.2⟩
/-! ## Numerals -/
/-! ## Occurrences -/
def axsN (d:Df) (e:Ex):List Ax:=(d.Dims++d.Red).filter fun a=>bQ (iY e) a.Name
structure Cl where
 e:Ex
 axes:List Ax
 first:Nat
 n:Nat
 deriving DecidableEq
structure Cl.Ok (c:Cl) (D:List Df):Prop where
 op:3<c.e.Op
 cond:fS c.e=false
 axes:c.axes.length<=6
 n:1<=c.n
 first:∃d,D[c.first]? =some d/\c.e∈dQ d.Body/\c.axes=axsN d c.e
def Ex.ops (e:Ex):Prop:=∀x,x∈dQ e->1<=x.Op
/-! ## A class begins with its first occurrence -/
/-! ## Ascending monomials -/
def xJ (l:List Mono):Prop:=l.Pairwise fun a b=>bF a.Name b.Name=true
def zWe:∀{p:Option nn} {l:List Mono},bM p l=true->xJ l
 |_,[],_=>List.Pairwise.nil
 |p,x::r,h=>by
  simp only [bM,ae] at h
  exact List.Pairwise.cons (fun m hm=>zHg h.2 m hm) (zWe h.2)
def asc_ne {x y:nn} (h:bF x y=true):x≠y:=by rintro rfl;rw [zCj] at h;cases h
def asc_not {x y:nn} (h:bF x y=true):bF y x=false:=by
 cases k:bF y x with
 |false=>rfl
 |true=>have:=zAg h k;rw [zCj] at this;cases this
def asc_ext:∀{a b:List Mono},xJ a->xJ b->(∀m,m∈a↔m∈b)->a=b
 |[],[],_,_,_=>rfl
 |[],y::s,_,_,h=>by have:=(h y).2 uF;cases this
 |x::r,[],_,_,h=>by have:=(h x).1 uF;cases this
 |x::r,y::s,ha,hb,h=>by
  unfold xJ at ha hb
  rw [ec] at ha hb
  have hxy:x=y:=by
   rcases ag.1 ((h x).1 uF) with e|e
   ·exact e
   ·rcases ag.1 ((h y).2 uF) with e2|e2
    ·exact e2.symm
    ·have h1:=hb.1 x e
     have h2:=ha.1 y e2
     rw [asc_not h1] at h2;cases h2
  subst hxy
  rw [asc_ext (a:=r) (b:=s) ha.2 hb.2 fun m=>?_]
  constructor
  ·intro hm
   rcases ag.1 ((h m).1 (by simp [hm])) with e|e
   ·subst e;exact absurd rfl (asc_ne (ha.1 m hm))
   ·exact e
  ·intro hm
   rcases ag.1 ((h m).2 (by simp [hm])) with e|e
   ·subst e;exact absurd rfl (asc_ne (hb.1 m hm))
   ·exact e
def asc_nodup {l:List Mono} (h:xJ l):(l.map Mono.Name).Nodup:=by
 unfold List.Nodup
 rw [ey]
 exact h.imp fun h=>asc_ne h
def jJ (l:List Mono):List Mono:=l.mergeSort fun a b=> !bF b.Name a.Name
def zVe {l:List Mono} {m:Mono}:m∈jJ l↔m∈l:=(jn l _).mem_iff
def zVf (l:List Mono):(jJ l).length=l.length:=(jn l _).length_eq
def sortM_asc {l:List Mono} (h:(l.map Mono.Name).Nodup):xJ (jJ l):=by
 have h1:(jJ l).Pairwise fun a b=>(!bF b.Name a.Name)=true:=by
  apply List.pairwise_mergeSort
  ·intro a b c hab hbc
   simp only [az] at hab hbc⊢
   cases k:bF c.Name a.Name with
   |false=>rfl
   |true=>
    cases k2:bF c.Name b.Name with
    |true=>rw [k2] at hbc;cases hbc
    |false=>
     cases k3:bF b.Name c.Name with
     |true=>have:=zAg k3 k;rw [this] at hab;cases hab
     |false=>have e:=zBr k2 k3;rw [←e,k] at hab;cases hab
  ·intro a b
   cases k:bF b.Name a.Name with
   |false=>simp
   |true=>simp [asc_not k]
 have h2:((jJ l).map Mono.Name).Nodup:=((jn l _).map Mono.Name).nodup_iff.2 h
 unfold List.Nodup at h2
 rw [ey] at h2
 unfold xJ
 refine (h1.and h2).imp fun {a b} hh=>?_
 cases k:bF a.Name b.Name with
 |true=>rfl
 |false=>exact absurd (zBr k (by simpa using hh.1)) hh.2
/-! ## Names exchanged -/
def ixB (A:List nn) (s:nn):Int:=dT (fun x=>decide (x=s)) A
def mA (A B:List nn) (s:nn):nn:=if 0<=ixB B s then A.getD (ixB B s).toNat (bs []) else s
variable {A:List nn}
def ixB_no (h:s ∉ A):ixB A s= -1:=zDe (by rw [ei];intro x hx hh;exact h (by simpa using (show x=s by simpa using hh) ▸ hx))
def ixB_at (hn:A.Nodup) (h:A[k]? =some s):ixB A s=(k:Nat):=by
 refine zFq h uF ?_
 rw [ei]
 intro x hx hh
 have e:x=s:=by simpa using hh
 subst e
 obtain ⟨j,hj,hj2⟩:=List.mem_iff_getElem.1 hx
 rw [aq] at hj
 have hk:k<A.length:=by
  rcases bx k A.length with h1|h1
  ·exact h1
  ·rw [cu h1] at h;cases h
 rw [mr] at hj2
 rw [ak hk] at h
 injection h with h
 exact (iu.1 hn) j k zB hk zB (by rw [hj2,h])
def mem_ix (h:s∈A):∃k:Nat,A[k]? =some s:=bn h
variable {B:List nn}
def renB_no (h:s ∉ B):mA A B s=s:=by unfold mA;rw [ixB_no h,aa uA]
def renB_at {t:nn} (hB:B.Nodup) (h:B[k]? =some s) (hA:A[k]? =some t):mA A B s=t:=by
 unfold mA
 rw [ixB_at hB h,ab zB]
 simp [hA]
def get_len {l:List α} {x:α} (h:l[k]? =some x):k<l.length:=by
 rcases bx k l.length with h1|h1
 ·exact h1
 ·rw [cu h1] at h;cases h
def ren_back (hA:A.Nodup) (hB:B.Nodup) (hl:A.length=B.length) (h:s ∉ B->s ∉ A):mA B A (mA A B s)=s:=by
 by_cases c:s∈B
 ·obtain ⟨k,hk⟩:=mem_ix c
  have hkl:=get_len hk
  have ha:A[k]? =some (A[k]'zB):=ak zB
  rw [renB_at hB hk ha,renB_at hA ha hk]
 ·rw [renB_no c,renB_no (h c)]
def gK (A B:List nn) (l:Lf):Lf:=⟨l.K,jJ (l.L.map fun m=>⟨mA A B m.Name,m.By⟩)⟩
section
variable {A B:List nn}
def rX (A B:List nn) (l:Lf):Prop:=bG l=true/\∀m,m∈l.L->m.Name ∉ B->m.Name ∉ A
end
/-! ## Definitions -/
def namesD_len (d:Df):(bD d).length=d.Dims.length+d.Red.length:=by unfold bD;simp
structure twnOk (a b:Df):Prop where
 na:(bD a).Nodup
 nb:(bD b).Nodup
 fa:a.Body.allF fun l=>bG l=true
 fb:b.Body.allF (rX (bD a) (bD b))
def nameR_not (h:dE s t=0):s ∉ t:=fun hm=>by
 unfold dE at h
 by_cases c:bB s=true
 ·rw [ab c,ab (zEb.2 hm)] at h;cases h
 ·rw [aa c] at h;cases h
def axesR_of {sz:List nn}:∀(l:List Ax) (t:List nn),jL sz t l=0->(l.map Ax.Name).Nodup/\∀a,a∈l->a.Name ∉ t
 |[],t,_=>⟨io,fun a ha=>by cases ha⟩
 |x::r,t,h=>by
  rw [jL] at h
  by_cases c:dE x.Name t=0
  ·rw [ab c] at h
   by_cases c2:jA x.Size sz=0
   ·rw [ab c2] at h
    obtain ⟨h1,h2⟩:=axesR_of r _ h
    refine ⟨?_,fun a ha=>?_⟩
    ·rw [aH,cl]
     refine ⟨fun hm=>?_,h1⟩
     obtain ⟨a,ha,e⟩:=aX.1 hm
     exact h2 a ha (by rw [e];simp)
    ·rcases ag.1 ha with rfl|ha
     ·exact nameR_not c
     ·exact fun hm=>h2 a ha (dy _ hm)
   ·rw [aa c2] at h;exact absurd h c2
  ·rw [aa c] at h;exact absurd h c
def defR_axes {n:En} (h:nB n d t=0):jL n.sz n.sz (d.Dims++d.Red)=0:=by
 have h1:dE d.Name t=0:=cp fun c=>by rw [defR_1 c] at h;exact c h
 have h2:dJ d.T=true:=by
  cases c:dJ d.T with
  |true=>rfl
  |false=>rw [defR_10 h1 c] at h;cases h
 have h3:¬(6<d.Dims.length∨6<d.Red.length):=fun c=>by rw [defR_11 h1 h2 c] at h;cases h
 rw [defR_ok h1 h2 h3] at h
 exact cp fun c=>by rw [aa c] at h;exact c h
def knL_mem {k:nn->Bool} {l:List Mono} (h:knL k l=true):∀m,m∈l->k m.Name=true:=fun m hm=>aT.1 h m hm
def formK_of {k:nn->Bool} (h:mY k l=0):knL k l.L=true:=by
 unfold mY at h
 cases c:knL k l.L with
 |true=>rfl
 |false=>rw [c] at h;cases h
def formsK_of {k:nn->Bool} {l:List Lf} (h:lU k l=0):∀x,x∈l->knL k x.L=true:=by
 unfold lU at h
 cases c:l.all (fun x=>knL k x.L) with
 |true=>exact aT.1 c
 |false=>rw [c] at h;cases h
def zeroL_L (h:pU l=true):l.L=[]:=by
 unfold pU at h
 simp only [ae,aj] at h
 exact bg zB
def zWw {n:En} {k:nn->Bool}:∀l:List Ix,fK n k l=0->∀x,x∈l->dI n k x=0
 |[],_,x,hx=>by cases hx
 |y::r,h,x,hx=>by
  rw [fK] at h
  by_cases c:dI n k y=0
  ·rw [al c,aD] at h
   rcases ag.1 hx with rfl|hx
   ·exact c
   ·exact zWw r h x hx
  ·rw [am c,av] at h;exact absurd h c
def indexK_of {n:En} {k:nn->Bool} {x:Ix} (hw:lO x=true) (h:dI n k x=0):∀l,l∈x.Lin::x.At->∀m,m∈l.L->k m.Name=true:=by
 unfold lO at hw
 unfold dI at h
 by_cases c:x.From=bs []
 ·rw [al c,aD] at hw h
  have hA:x.At=[]:=bg (by have:=ca hw;omega)
  intro l hl
  rw [hA,aR] at hl
  subst hl
  exact knL_mem (formK_of h)
 ·rw [am c,av] at hw h
  cases c1:(n.find x.From).ok with
  |false=>rw [c1] at h;cases h
  |true=>
   rw [c1,aU,av] at h
   by_cases c2:(n.find x.From).ty.Kind=3
   ·rw [al c2,aU,av] at h
    by_cases c3:x.At.length=(n.find x.From).dims.length
    ·rw [al c3,aU,av] at h
     intro l hl m hm
     rcases ag.1 hl with rfl|hl
     ·rw [zeroL_L hw] at hm;cases hm
     ·exact knL_mem (formsK_of h l hl) m hm
    ·rw [am c3,cf,aD] at h;cases h
   ·rw [am c2,cf,aD] at h;cases h
def node_known {n:En} {k:nn->Bool} {tys:List Ty} (hs:jO e=true) (h:(ofN n k e tys).2=0):∀l,l∈dD e->∀m,m∈l.L->k m.Name=true:=by
 unfold jO at hs
 simp only [ae,az,cm,aC,eu,aj,aw,lAe] at hs
 obtain ⟨⟨⟨⟨⟨_,_⟩,_⟩,h4⟩,h5⟩,h6⟩:=hs
 intro l hl m hm
 unfold dD at hl
 rcases ag.1 hl with rfl|hl
 ·by_cases c:e.Op=2
  ·unfold ofN at h
   rw [aa zB,ab c] at h
   exact knL_mem (formK_of h) m hm
  ·rcases h4 with h4|h4
   ·exact absurd h4 c
   ·rw [zeroL_L h4] at hm;cases hm
 ·obtain ⟨x,hx,hlx⟩:=dg.1 hl
  have h3:e.Op=3:=by
   rcases h5 with h5|h5
   ·exact h5
   ·have:=ja hx
    exact absurd (show (0:Int)<e.Idx.length by omega) (by simpa using h5.2)
  unfold ofN at h
  rw [aa zB,aa zB,ab h3] at h
  exact indexK_of (h6 x hx) (zWw _ (readK_of h).2.2 x hx) l hlx m hm
def nodeL_each {N:Ex->List Ty->Ty×Int}:∀l:List Ex,(bJ N l).2=0->∀a,a∈l->(bR N a).2=0
 |[],_,a,ha=>by cases ha
 |x::r,h,a,ha=>by
  obtain ⟨h1,h2,_⟩:=nodeL_cons h
  rcases ag.1 ha with rfl|ha
  ·exact h1
  ·exact nodeL_each r h2 a ha
def tree_known {n:En} {k:nn->Bool} (e:Ex):(∀x,x∈dQ e->bZ x=0)->(bR (ofN n k) e).2=0->e.allF fun l=>∀m,m∈l.L->k m.Name=true:=by
 induction e using Ex.ind with
 |_ e ih=>
  intro hn h
  obtain ⟨h1,h2⟩:=nodeT_args h
  rw [h2] at h
  exact nodes_allF (node_known (zPn (hn e (by rw [zAl];exact bm))).1 h) fun a ha=>
   ih a ha (fun x hx=>hn x (by rw [zAl];exact aJ _ (zVz ha hx))) (nodeL_each _ h1 a ha)
def zVb {n:En} (h:(gX n vars e).2=0):e.allF fun l=>∀m,m∈l.L->knB n.sz vars m.Name=true:=by
 obtain ⟨h1,_,h3⟩:=zLe h
 exact tree_known e (zQc (zFc h1)) h3
def valid_axes (h:(bK p).2=0):∀d,d∈p.Defs->(bD d).Nodup/\∀s,s∈bD d->s ∉ p.Sizes:=by
 rw [zFm] at h
 obtain ⟨a',h5,_⟩:=zFe p p rfl p.Params _ _ (zFu h).2.2.2
 intro d hd
 obtain ⟨i,hi⟩:=bn hd
 have h1:=defR_axes (zKh p p.Defs _ _ _ h5 i d hi)
 obtain ⟨h2,h3⟩:=axesR_of _ _ h1
 have e:bD d=(d.Dims++d.Red).map Ax.Name:=by unfold bD;rw [ah]
 rw [e]
 refine ⟨h2,fun s hs=>?_⟩
 obtain ⟨a,ha,rfl⟩:=aX.1 hs
 exact h3 a ha
abbrev SmM:Type:=List (nn×nn)
def mgetS_put (m:SmM) (k s a:nn):fQ (fJ m k a) s=if k=s then some a else fQ m s:=by
 induction m with
 |nil=>rfl
 |cons q r ih=>
  obtain ⟨k',b⟩:=q
  rw [fJ]
  split
  ·next h=>subst h;simp only [fQ];split<;>rfl
  ·next h=>
   simp only [fQ]
   rw [ih]
   split
   ·next h2=>subst h2;rw [aa (fun e=>h e.symm)]
   ·rfl
def cQ (A B:List nn) (k:Nat):SmM:=((B.zip A).take k).foldl (fun m q=>fJ m q.1 q.2) []
def foldS_get (s:nn):∀(l:SmM) (m:SmM),(l.map Prod.fst).Nodup->fQ (l.foldl (fun m q=>fJ m q.1 q.2) m) s=(match l.find? fun q=>decide (q.1=s) with|some q=>some q.2|none=>fQ m s)
 |[],m,_=>rfl
 |q::r,m,h=>by
  rw [cv,foldS_get s r _ (by rw [aH,cl] at h;exact h.2),List.find?_cons]
  rw [aH,cl] at h
  by_cases c:q.1=s
  ·have hn:r.find? (fun q=>decide (q.1=s))=none:=by
    rw [mg]
    intro x hx hh
    exact h.1 (by rw [c,←ca hh];exact fy hx)
   rw [hn,al c,mgetS_put,ab c]
  ·rw [am c,mgetS_put,aa c]
def mapAB_end (hB:B.Nodup) (hl:A.length=B.length) (hk:¬k<B.length) (s:nn):(fQ (cQ A B k) s).getD s=mA A B s:=by
 unfold cQ
 rw [yI (by rw [ia];omega),foldS_get s _ _ (by rw [List.map_fst_zip zB];exact hB)]
 by_cases c:s∈B
 ·obtain ⟨i,hi⟩:=bn c
  have hiB:=get_len hi
  have hA:A[i]? =some (A[i]'zB):=ak zB
  rw [renB_at hB hi hA]
  cases hf:(B.zip A).find? (fun q=>decide (q.1=s)) with
  |none=>
   rw [mg] at hf
   exact absurd (by simp:decide (s=s)=true) (hf (s,A[i]'zB) (by rw [List.mem_iff_getElem?];exact ⟨i,by rw [fx];exact ⟨hi,hA⟩⟩))
  |some q=>
   have h1:=nj hf
   have h2:=kv hf
   obtain ⟨j,hj⟩:=bn h2
   rw [fx] at hj
   have e1:q.1=s:=ca h1
   have hjB:=get_len hj.1
   have e2:j=i:=by
    have e3:=ixB_at hB hi
    have e4:=ixB_at (s:=s) hB (e1 ▸ hj.1)
    omega
   subst e2
   rw [hA] at hj
   exact (Option.some.inj hj.2).symm
 ·rw [renB_no c]
  cases hf:(B.zip A).find? (fun q=>decide (q.1=s)) with
  |none=>rfl
  |some q=>
   have h1:=nj hf
   have h2:=kv hf
   exact absurd (by rw [←ca h1];exact (List.of_mem_zip h2).1) c
def ren_nodup (hA:A.Nodup) (hB:B.Nodup) (hl:A.length=B.length) (h:rX A B l):((l.L.map fun x=>(⟨mA A B x.Name,x.By⟩:Mono)).map Mono.Name).Nodup:=by
 have h1:=zWe (p:=none) (l:=l.L) (by have:=h.1;unfold bG at this;exact this)
 unfold List.Nodup
 rw [fq,ey]
 refine (List.Pairwise.and_mem.1 h1).imp fun {a b} hh e=>?_
 obtain ⟨ha,hb,hlt⟩:=hh
 have e:mA A B a.Name=mA A B b.Name:=e
 have e1:=ren_back hA hB hl (h.2 a ha)
 have e2:=ren_back hA hB hl (h.2 b hb)
 rw [e,e2] at e1
 exact asc_ne hlt e1.symm
def idx_le {p:α->Bool} {l:List α} (h:0<=dT p l):∃i x,dT p l=(i:Nat)/\l[i]? =some x/\p x=true/\(l.take i).any p=false:=by
 obtain ⟨i,hi⟩:∃i:Nat,dT p l=i:=⟨(dT p l).toNat,zB⟩
 rcases Bool.eq_false_or_eq_true (l.any p) with ha|ha
 ·obtain ⟨x,hx,hp⟩:=dm.1 ha
  have:∀l:List α,l.any p=true->∃i x,l[i]? =some x/\p x=true/\(l.take i).any p=false:=by
   intro l
   induction l with
   |nil=>intro h;cases h
   |cons y r ih=>
    exact v32
  obtain ⟨j,z,h1,h2,h3⟩:=this l ha
  exact ⟨j,z,zFq h1 h2 h3,h1,h2,h3⟩
 ·rw [zDe ha] at h;exact absurd h uA
def idx_lt {p:α->Bool} {l:List α} (h:dT p l<0):l.any p=false:=by
 refine iw.2 fun ha=>?_
 obtain ⟨x,hx,hp⟩:=dm.1 ha
 have:∀l:List α,l.any p=true->∃i x,l[i]? =some x/\p x=true/\(l.take i).any p=false:=by
  intro l
  induction l with
  |nil=>intro h;cases h
  |cons y r ih=>
   exact v32
 obtain ⟨j,z,h1,h2,h3⟩:=this l ha
 rw [zFq h1 h2 h3] at h;omega
abbrev sS (t:np) (b mb:Nat) (p:Pg):E:=.row b t [.sl 1 (p.Sizes.map fun s=>[cS s]),.sl 3 (p.Where.map Cn.cells),.sl 7 (p.Params.map Pm.cells),.sl 22 (p.Defs.map Df.cells),.sl 1 (p.Outs.map fun s=>[cS s]),.lit (.map (some mb))]
abbrev ckE (b mb:Nat) (p:Pg) (m:Kn):List E:=[sS 119 b mb p,.blk mb (MapR vI m)]
abbrev tyE (b mb:Nat) (p:Pg) (m:Kn):List E:=[sS 236 b mb p,.blk mb (MapR vI m)]
end Go.Br
end
