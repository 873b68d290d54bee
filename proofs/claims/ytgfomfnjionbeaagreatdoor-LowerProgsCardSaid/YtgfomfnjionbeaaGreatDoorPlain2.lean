/-
  Lists of strings,sorted and thinned (for a seat without slices.Sort at strings).
  And what the laws need besides.
  Conditions: none.
-/
import Derived.Test.YtgfomfnjionbeaaGreatDoorCfg
import Derived.Test.YtgfomfnjionbeaaGreatDoorEngZ
import Derived.Sort.OwnSorted
import Derived.Lib.OwnBridge
import Derived.Test.YtgfomfnjionbeaaGreatDoorPlain
import Derived.Lib.ItoaNum
set_option linter.unusedSimpArgs false
set_option linter.unusedVariables false
set_option linter.defProp false
section
namespace Go.Br
open Go Go.Eng Go.RowKit Go.Proofs Go.L41
abbrev fU (l:List nq):List (List C):=l.map λs=>[cS s]
def toB (l:List (List UInt8)):List nq:=l.map λx=>⟨x.toArray⟩
def ofB (l:List nq):List (List UInt8):=l.map (·.data.toList)
def eL (l:List nq):List nq:=toB ((ofB l).mergeSort λx y=>decide (x<=y))
def eK (l:List nq):List nq:=toB (Lib.compact (ofB l))
def iL (x:Ix):List nq:=if x.From=bs [] then [] else [x.From]
def iR (l:List Ix):List nq:=l.flatMap iL
def eP (x:Ex):List nq:=if x.Op=3 then [x.Name] else []
def eN (x:Ex):List nq:=eP x++iR x.Idx
def iS (l:List Ex):List nq:=l.flatMap eN
def vV (e:Ex):List nq:=eK (eL (iS (dE e)))
variable {s:nq}
def KX {l:List (List UInt8)}:s∈toB l↔s.data.toList∈l:=by
 unfold toB
 rw [aY]
 constructor
 ·rintro ⟨x,hx,rfl⟩;simpa using hx
 ·intro h;exact ⟨_,h,by cases s;simp⟩
def KW {l:List nq}:s.data.toList∈ofB l↔s∈l:=by
 unfold ofB
 rw [aY]
 constructor
 ·rintro ⟨x,hx,e⟩
  have:x=s:=by cases x;cases s;congr 1;exact fz.1 e
  rw [<-this];exact hx
 ·intro h;exact ⟨s,h,rfl⟩
def M1 {l:List nq}:s∈eL l↔s∈l:=by
 unfold eL;rw [KX,List.mem_mergeSort,KW]
def M3 {l:List nq} (h:s∈eK l):s∈l:=by
 unfold eK at h
 rw [KX] at h
 rw [<-KW]
 unfold Lib.compact Lib.compactUpTo at h
 obtain ⟨i,hi,e⟩:=aY.1 h
 have hi2:=(dg.1 hi).1
 have hlt:=cw.1 hi2
 rw [<-e,il _ i (by simpa using hlt)]
 simp
variable {e:Ex}
def Ip (h:s∈vV e):∃x,x∈dE e/\((x.Op=3/\s=x.Name)∨∃i,i∈x.Idx/\i.From≠bs []/\s=i.From):=by
 unfold vV at h
 have h:=M1.1 (M3 h)
 obtain ⟨x,hx,h⟩:=dm.1 h
 refine ⟨x,hx,?_⟩
 unfold eN at h
 rcases aq.1 h with h|h
 ·left;unfold eP at h;split at h
  ·rename_i h3;exact ⟨h3,by simpa using h⟩
  ·cases h
 ·right
  obtain ⟨i,hi,h⟩:=dm.1 h
  unfold iL at h
  split at h
  ·cases h
  ·rename_i h3;exact ⟨i,hi,h3,by simpa using h⟩
/-! ## vN definitions -/
def wy {s:nq}:∀(l:List Df) (k:Nat),(fI s (l.take k)).ok=true->fI s l=fI s (l.take k)
 |[],k,h=>by simp
 |d::r,0,h=>by simp [fI] at h
 |d::r,k+1,h=>by
  rw [av] at h⊢
  unfold fI at h⊢
  by_cases c:d.Name=s
  ·rw [al c];rfl
  ·rw [am c] at h⊢
   exact wy r k h
def wz {s:nq} {ds:List Df} {k:Nat}:∀(l:List Pm),(gC s (ds.take k) l).ok=true->gC s ds l=gC s (ds.take k) l
 |[],h=>wy ds k h
 |x::r,h=>by
  unfold gC at h⊢
  by_cases c:x.Name=s
  ·rw [al c];rfl
  ·rw [am c] at h⊢
   exact wz r h
def A2 {s:nq}:∀(l:List Df),(fI s l).ok=true->∃d,d∈l/\d.Name=s
 |[],h=>by simp [fI] at h
 |d::r,h=>by
  unfold fI at h
  by_cases c:d.Name=s
  ·exact ⟨d,uF,c⟩
  ·rw [am c] at h
   obtain ⟨y,hy,e⟩:=A2 r h
   exact ⟨y,by simp [hy],e⟩
def A4 {s:nq} {ds:List Df}:∀(l:List Pm),(gC s ds l).ok=true->(∃x,x∈l/\x.Name=s)∨∃d,d∈ds/\d.Name=s
 |[],h=>.inr (A2 ds h)
 |x::r,h=>by
  unfold gC at h
  by_cases c:x.Name=s
  ·exact .inl ⟨x,uF,c⟩
  ·rw [am c] at h
   rcases A4 r h with ⟨y,hy,e⟩|h2
   ·exact .inl ⟨y,by simp [hy],e⟩
   ·exact .inr h2
def vN (a b:En):Prop:=∀s,(a.find s).ok=true->b.find s=a.find s
def E7 {a b:En} (h:vN a b) {k:nq->Bool} {x:Ix} (hx:dN a k x=0):dN b k x=0:=by
 unfold dN at hx⊢
 by_cases c:x.From=bs []
 ·rw [al c] at hx⊢;exact hx
 ·rw [am c] at hx⊢
  cases c2:(a.find x.From).ok with
  |false=>rw [c2] at hx;simp at hx
  |true=>rw [h _ c2];exact hx
def zZg {a b:En} (h:vN a b) {k:nq->Bool}:∀l:List Ix,fS a k l=0->fS b k l=0
 |[],_=>rfl
 |x::r,hx=>by
  unfold fS at hx⊢
  by_cases c:dN a k x=0
  ·rw [al c] at hx
   rw [al (E7 h c)]
   exact zZg h r hx
  ·rw [am c] at hx
   exact absurd hx c
def yv {a:En} {k:nq->Bool} (hx:(lA a k e).2=0):(a.find e.Name).ok=true/\e.Idx.length=(a.find e.Name).dims.length/\fS a k e.Idx=0:=by
 unfold lA at hx
 cases c:(a.find e.Name).ok with
 |false=>rw [c] at hx;simp at hx
 |true=>
  rw [c] at hx
  by_cases c2:e.Idx.length=(a.find e.Name).dims.length
  ·rw [al c2] at hx
   by_cases c3:fS a k e.Idx=0
   ·exact ⟨rfl,c2,c3⟩
   ·rw [am c3] at hx;exact absurd hx c3
  ·rw [am c2] at hx;simp at hx
def IH {a b:En} (h:vN a b) {k:nq->Bool} (hx:(lA a k e).2=0):lA b k e=lA a k e:=by
 obtain ⟨h1,h2,h3⟩:=yv hx
 have e1:=h _ h1
 rw [u3 h1 h2 h3,u3 (by rw [e1];exact h1) (by rw [e1];exact h2) (zZg h _ h3),e1]
def QJ {a b:En} (h:vN a b) {k:nq->Bool} {l:List Ty} (hx:(qd a k e l).2=0):qd b k e l=qd a k e l:=by
 unfold qd at hx⊢
 by_cases c1:e.Op=1∨e.Op=12
 ·rw [ab c1,ab c1]
 rw [aa c1] at hx⊢
 rw [aa c1]
 by_cases c2:e.Op=2
 ·rw [ab c2,ab c2]
 rw [aa c2] at hx⊢
 rw [aa c2]
 by_cases c3:e.Op=3
 ·rw [ab c3] at hx⊢
  rw [ab c3]
  exact IH h hx
 ·rw [aa c3,aa c3]
mutual
def yi {a b:En} (h:vN a b) (k:nq->Bool):∀e:Ex,(bP (qd a k) e).2=0->bP (qd b k) e=bP (qd a k) e
 |.mk o nm v t l i xs,hx=>by
  rw [bP] at hx⊢
  rw [bP]
  by_cases c:(bG (qd a k) xs).2=0
  ·rw [ab c] at hx⊢
   rw [yh h k xs c,ab c]
   exact QJ h hx
  ·rw [aa c] at hx;exact absurd hx c
def yh {a b:En} (h:vN a b) (k:nq->Bool):∀l:List Ex,(bG (qd a k) l).2=0->bG (qd b k) l=bG (qd a k) l
 |[],_=>rfl
 |x::r,hx=>by
  rw [bG] at hx⊢
  rw [bG]
  by_cases c:(bP (qd a k) x).2=0
  ·rw [ab c] at hx⊢
   by_cases d:(bG (qd a k) r).2=0
   ·rw [yi h k x c,yh h k r d,ab c]
   ·rw [aa d] at hx;exact absurd hx d
  ·rw [aa c] at hx;exact absurd hx c
end
variable {vars:List nq}
def zLx {n:En} (h:(jB n vars e).2=0):dT e=0/\bV e=false/\(bP (qd n (qt n.sz vars)) e).2=0:=by
 unfold jB pB at h
 by_cases c:dT e=0
 ·rw [ab c] at h
  by_cases d:bV e=true
  ·rw [ab d] at h;cases h
  ·rw [aa d] at h
   by_cases f:(bP (qd n (qt n.sz vars)) e).2=0
   ·exact ⟨c,by simpa using d,f⟩
   ·rw [aa f] at h;exact absurd h f
 ·rw [aa c] at h;exact absurd h c
def Jv {a b:En} (h:vN a b) (hs:b.sz=a.sz) (hx:(jB a vars e).2=0):jB b vars e=jB a vars e:=by
 obtain ⟨h1,h2,h3⟩:=zLx hx
 rw [zm rfl h1 h2,zm rfl h1 h2,hs,yi h _ e h3]
/-! ## What an expression FZ is found -/
def Na (N:Ex->List Ty->Ty×Int) (e:Ex):(bP N e).2=0->∀x,x∈dE e->∃l,(N x l).2=0:=by
 induction e using Ex.ind with
 |_ e ih=>
  intro h x hx
  rw [zNy] at h
  by_cases c:(bG N e.Args).2=0
  ·rw [ab c] at h
   rw [G8] at hx
   rcases ag.1 hx with rfl|hx
   ·exact ⟨_,h⟩
   ·have key:∀l:List Ex,(∀a,a∈l->a∈e.Args)->(bG N l).2=0->x∈bT l->∃t,(N x t).2=0:=by
     intro l
     induction l with
     |nil=>intro _ _ h;simp [bT] at h
     |cons a r ih2=>
      intro hm hl hx
      rw [bG] at hl
      by_cases c1:(bP N a).2=0
      ·rw [ab c1] at hl
       by_cases c2:(bG N r).2=0
       ·rw [bT] at hx
        rcases aq.1 hx with hx|hx
        ·exact ih a (hm a uF) c1 x hx
        ·exact ih2 (λb hb=>hm b Vx) c2 hx
       ·rw [aa c2] at hl;exact absurd hl c2
      ·rw [aa c1] at hl;exact absurd hl c1
    exact key e.Args (λ_ h=>h) c hx
  ·rw [aa c] at h;exact absurd h c
def Bh {a:En} {k:nq->Bool}:∀l:List Ix,fS a k l=0->∀x,x∈l->x.From≠bs []->(a.find x.From).ok=true
 |[],_,x,hx,_=>by cases hx
 |y::r,h,x,hx,hf=>by
  unfold fS at h
  by_cases c:dN a k y=0
  ·rw [al c] at h
   rcases ag.1 hx with rfl|hx
   ·unfold dN at c
    rw [am hf] at c
    cases d:(a.find x.From).ok with
    |true=>rfl
    |false=>rw [d] at c;simp at c
   ·exact Bh r h x hx hf
  ·rw [am c] at h;exact absurd h c
def F0 {n:En} (h:(jB n vars e).2=0):∀s,s∈vV e->(n.find s).ok=true:=by
 intro s hs
 obtain ⟨h1,h2,h3⟩:=zLx h
 obtain ⟨x,hx,hr⟩:=Ip hs
 obtain ⟨l,hl⟩:=Na _ e h3 x hx
 have hn:=zRk (VG h1) x hx
 have hsy:=(zNx hn).1
 by_cases c:x.Op=3
 ·rw [zQr c] at hl
  obtain ⟨k1,_,k3⟩:=yv hl
  rcases hr with ⟨_,rfl⟩|⟨i,hi,hf,rfl⟩
  ·exact k1
  ·exact Bh _ k3 i hi hf
 ·have h0:x.Idx.length=0:=by
   unfold jX at hsy
   simp only [ae,aA,bk,ey,ax,aj,ao] at hsy
   rcases hsy.1.2 with h|h
   ·exact absurd h c
   ·have:=h.2;omega
  rcases hr with ⟨h,_⟩|⟨i,hi,_,_⟩
  ·exact absurd h c
  ·have:=je hi;omega
def zLc (p:Pg):∀(l:List Df) (a:Int) (t:List nq) (b:List Df),(nJ p a t b l).2=0->∀(i:Nat) (d:Df),l[i]? =some d->nM ⟨p.Sizes,p.Params,b++l.take i⟩ d (t++(l.take i).map Df.Name)=0
 |[],a,t,b,_,i,d,hd=>by simp at hd
 |x::r,a,t,b,h,i,d,hd=>by
  rw [nJ] at h
  by_cases c:nM ⟨p.Sizes,p.Params,b⟩ x t=0
  ·rw [ab c] at h
   cases i with
   |zero=>simp at hd;subst hd;simpa using c
   |succ i=>
    have:=zLc p r _ _ _ h i d (by simpa using hd)
    simpa [tu] using this
  ·rw [aa c] at h;exact absurd h c
def Z4 (p q:Pg) (hs:q.Sizes=p.Sizes):∀(l:List Pm) (a:Int) (t:List nq),(gA p a t l).2=0->∃a',(nJ p a' (t++l.map Pm.Name) [] p.Defs).2=0/\gA q a t l=nJ q a' (t++l.map Pm.Name) [] q.Defs
 |[],a,t,h=>⟨a,by rw [gA] at h;simpa using h,by rw [gA];simp⟩
 |x::r,a,t,h=>by
  rw [gA] at h
  by_cases c:jO x p.Sizes t=0
  ·rw [ab c] at h
   obtain ⟨a',h1,h2⟩:=Z4 p q hs r _ _ h
   exact ⟨a',by simpa [tu] using h1,by rw [gA,hs,ab c,h2];simp [tu]⟩
  ·rw [aa c] at h;exact absurd h c
variable {p:Pg}
def W4 (h:(lM p).2=0):dP p/\jG [] p.Sizes=0/\jV p.Sizes p.Where=0/\(gA p 2 p.Sizes p.Params).2=0:=by
 unfold lM at h
 by_cases c1:dP p
 ·rw [ab c1] at h
  by_cases c2:jG [] p.Sizes=0
  ·rw [ab c2] at h
   by_cases c3:jV p.Sizes p.Where=0
   ·rw [ab c3] at h;exact ⟨c1,c2,c3,h⟩
   ·rw [aa c3] at h;exact absurd h c3
  ·rw [aa c2] at h;exact absurd h c2
 ·rw [aa c1] at h;cases h
def H4 {l:List nq} (h:bQ l s=false):s ∉ l:=λk=>by
 unfold bQ at h
 rw [ek] at h
 exact h s k uF
variable {t:List nq} {d:Df}
def J0 {n:En} (h:nM n d t=0):d.Name ∉ t/\jB n (bD d) d.Body=(d.T,0):=by
 have h1:dJ d.Name t=0:=ct λc=>by rw [wa c] at h;exact c h
 have h2:dO d.T=true:=by
  cases c:dO d.T with
  |true=>rfl
  |false=>rw [uy h1 c] at h;cases h
 have h3:¬(6<d.Dims.length∨6<d.Red.length):=λc=>by rw [uz h1 h2 c] at h;cases h
 rw [Cw h1 h2 h3] at h
 have h4:jU n.sz n.sz (d.Dims++d.Red)=0:=ct λc=>by rw [aa c] at h;exact c h
 rw [ab h4] at h
 have h5:pJ d=0:=ct λc=>by rw [aa c] at h;exact c h
 rw [ab h5,<-LK] at h
 unfold rU at h
 have h6:(jB n (bD d) d.Body).2=0:=ct λc=>by rw [aa c] at h;exact c h
 rw [ab h6] at h
 have h7:(jB n (bD d) d.Body).1=d.T:=ct λc=>by rw [aa c] at h;cases h
 refine ⟨H4 ?_,Prod.ext h7 h6⟩
 cases c:bQ t d.Name with
 |false=>rfl
 |true=>
  unfold dJ at h1
  by_cases c2:bB d.Name=true
  ·rw [ab c2,ab c] at h1;cases h1
  ·rw [aa c2] at h1;cases h1
def Ey {s:nq}:∀(l:List Df) (i:Nat),(∃d,d∈l.take i/\d.Name=s)->pK s l<i
 |[],i,⟨d,hd,_⟩=>by simp at hd
 |x::r,0,⟨d,hd,_⟩=>by simp at hd
 |x::r,i+1,⟨d,hd,e⟩=>by
  unfold pK fA
  by_cases c:x.Name=s
  ·rw [al c];show (0:Int)<_;omega
  ·rw [am c]
   have h2:pK s r<i:=Ey r i ⟨d,by
    rw [av] at hd
    rcases ag.1 hd with rfl|hd
    ·exact absurd e c
    ·exact hd,e⟩
   unfold pK at h2
   simp only [aw]
   by_cases c3:fA (λd:Df=>decide (d.Name=s)) r= -1
   ·rw [al c3];show (-1:Int)<_;omega
   ·rw [am c3];show _+1<_;push_cast;omega
variable {i:Nat}
def Lh (h:(bK p).2=0) (hd:p.Defs[i]? =some d):jB p.en (bD d) d.Body=(d.T,0)/\pK d.Name p.Defs=i/\∀s,s∈vV d.Body->(p.en.find s).ok=true/\pK s p.Defs<i:=by
 rw [Sw] at h
 obtain ⟨h1,h2,h3,h4⟩:=W4 h
 obtain ⟨a',h5,_⟩:=Z4 p p rfl p.Params _ _ h4
 have key:=zLc p p.Defs _ _ _ h5
 have names:∀j y,p.Defs[j]? =some y->y.Name ∉ (p.Sizes++p.Params.map Pm.Name)++(p.Defs.take j).map Df.Name:=λj y hy=>(J0 (key j y hy)).1
 obtain ⟨_,ht⟩:=J0 (key i d hd)
 rw [D6] at ht
 have hm:vN ⟨p.Sizes,p.Params,p.Defs.take i⟩ p.en:=λs hs=>wz p.Params hs
 refine ⟨?_,?_,λs hs=>?_⟩
 ·rw [Jv hm rfl (by rw [ht]),ht]
 ·refine zGk hd uF ?_
  rw [ek]
  intro y hy e
  have e2:y.Name=d.Name:=by simpa using e
  exact names i d hd (by rw [<-e2];exact aq.2 (.inr (aY.2 ⟨y,hy,rfl⟩)))
 ·have hf:=F0 (n:=⟨p.Sizes,p.Params,p.Defs.take i⟩) (by rw [ht]) s hs
  refine ⟨by rw [hm s hf];exact hf,?_⟩
  rcases A4 p.Params hf with ⟨x,hx,e⟩|⟨y,hy,e⟩
  ·have:pK s p.Defs= -1:=by
    refine zDz ?_
    rw [ek]
    intro y hy e2
    have e3:y.Name=s:=by simpa using e2
    obtain ⟨j,hj⟩:=bh hy
    exact names j y hj (aq.2 (.inl (aq.2 (.inr (aY.2 ⟨x,hx,by rw [e,e3]⟩)))))
   rw [this];omega
  ·exact Ey p.Defs i ⟨y,hy,e⟩
/-! ## The order of names -/
def Cr (a b:UInt8) (x y:List UInt8):Op.bytesLess (a::x) (b::y)=true↔a<b∨(a=b/\Op.bytesLess x y=true):=by
 rw [Op.bytesLess]
 by_cases h1:a<b<;>by_cases h2:a=b<;>simp [h1,h2]
def Eh:∀(x y z:List UInt8),Op.bytesLess x y=true->Op.bytesLess y z=true->Op.bytesLess x z=true
 |[],[],_,h,_=>by simp [Op.bytesLess] at h
 |[],_::_,[],_,h=>by simp [Op.bytesLess] at h
 |[],_::_,_::_,_,_=>by simp [Op.bytesLess]
 |_::_,[],_,h,_=>by simp [Op.bytesLess] at h
 |_::_,_::_,[],_,h=>by simp [Op.bytesLess] at h
 |a::x,b::y,c::z,h,k=>by
  rw [Cr] at h k⊢
  rcases h with h|⟨rfl,h⟩
  ·rcases k with k|⟨rfl,k⟩
   ·exact .inl (UInt8.lt_trans h k)
   ·exact .inl h
  ·rcases k with k|⟨rfl,k⟩
   ·exact .inl k
   ·exact .inr ⟨rfl,Eh x y z h k⟩
def OT:∀(x y:List UInt8),Op.bytesLess x y=false->Op.bytesLess y x=false->x=y
 |[],[],_,_=>rfl
 |[],_::_,h,_=>by simp [Op.bytesLess] at h
 |_::_,[],_,h=>by simp [Op.bytesLess] at h
 |a::x,b::y,h,k=>by
  have h1:¬Op.bytesLess (a::x) (b::y)=true:=by rw [h];simp
  have k1:¬Op.bytesLess (b::y) (a::x)=true:=by rw [k];simp
  rw [Cr] at h1 k1
  have e:a=b:=jx (im.1 λc=>k1 (.inl c)) (im.1 λc=>h1 (.inl c))
  subst e
  have h2:Op.bytesLess x y=false:=by
   cases c:Op.bytesLess x y with
   |false=>rfl
   |true=>exact absurd (.inr ⟨rfl,c⟩) h1
  have k2:Op.bytesLess y x=false:=by
   cases c:Op.bytesLess y x with
   |false=>rfl
   |true=>exact absurd (.inr ⟨rfl,c⟩) k1
  rw [OT x y h2 k2]
def OS:∀(x:List UInt8),Op.bytesLess x x=false
 |[]=>by simp [Op.bytesLess]
 |a::x=>by
  cases c:Op.bytesLess (a::x) (a::x) with
  |false=>rfl
  |true=>
   rw [Cr] at c
   rcases c with c|⟨_,c⟩
   ·exact absurd c (ko a)
   ·rw [OS x] at c;cases c
def Oi {a b:nq} (h:bF a b=false) (k:bF b a=false):a=b:=by
 have h1:=OT _ _ h k
 rw [fe,fe] at h1
 exact i5 (fz.1 h1)
def OA (a:nq):bF a a=false:=OS _
def Oh {a b c:nq} (h:bF a b=true) (k:bF b c=true):bF a c=true:=Eh _ _ _ h k
/-! ## Numbers -/
def oQ (n:Int):Prop:= -9223372036854775808<=n/\n<=9223372036854775807
instance (n:Int):Decidable (oQ n):=by unfold oQ;infer_instance
def rh (n:Int):Int:=IntKind.i64.wrap n
def Om {n:Int} (h:oQ n):rh n=n:=IntWalk.i64_in n h
def L0 (n:Int):rh n=(n+9223372036854775808)%18446744073709551616-9223372036854775808:=by unfold rh;rw [IntKind.wrap_i64]
def w64_r (n:Int):oQ (rh n):=by rw [L0];unfold oQ;omega
def VT (n:Int):IntKind.u64.wrap n=n%18446744073709551616:=by rw [ic]
def UN {a b:Int} (ha:oQ a) (hb:oQ b):decide (decide (a<rh (a+b))=decide (0<b))=decide (oQ (a+b)):=by
 refine dk.2 ?_
 rw [L0,dk]
 unfold oQ at *
 omega
variable {a b:Nat}
def LB (ha:a<=4294967295) (hb:b<=4294967295):a*b<=18446744065119617025:=gp ha hb
def CU (a b:Nat):Nat:=
 (a/4294967296)*(b/4294967296)+((a/4294967296)*(b%4294967296)+((a%4294967296)*(b%4294967296))/4294967296)/4294967296+
  ((a%4294967296)*(b/4294967296)+((a/4294967296)*(b%4294967296)+((a%4294967296)*(b%4294967296))/4294967296)%4294967296)/4294967296
def zYn (a b:Nat):a*b=(a/4294967296)*(b/4294967296)*18446744073709551616+((a/4294967296)*(b%4294967296)+(a%4294967296)*(b/4294967296))*4294967296+(a%4294967296)*(b%4294967296):=by
 have ea:a=(a/4294967296)*4294967296+a%4294967296:=by omega
 have eb:b=(b/4294967296)*4294967296+b%4294967296:=by omega
 generalize a/4294967296=a1 at *
 generalize a%4294967296=a0 at *
 generalize b/4294967296=b1 at *
 generalize b%4294967296=b0 at *
 subst ea eb
 rw [gl,km,km,gl]
 have e1:a1*4294967296*(b1*4294967296)=a1*b1*18446744073709551616:=by
  rw [Nat.mul_mul_mul_comm]
 have e2:a1*4294967296*b0=a1*b0*4294967296:=by rw [Nat.mul_right_comm]
 have e3:a0*(b1*4294967296)=a0*b1*4294967296:=by rw [gg]
 rw [e1,e2,e3]
 omega
def Ku (a b:Nat):CU a b*18446744073709551616+(a*b)%18446744073709551616=a*b:=by
 have h:=zYn a b
 unfold CU
 generalize a*b=n at *
 generalize (a/4294967296)*(b/4294967296)=p11 at *
 generalize (a/4294967296)*(b%4294967296)=p10 at *
 generalize (a%4294967296)*(b/4294967296)=p01 at *
 generalize (a%4294967296)*(b%4294967296)=p00 at *
 omega
def uZ (ha:a<18446744073709551616) (hb:b<18446744073709551616):
  (a/4294967296)*(b/4294967296)<=18446744065119617025/\(a/4294967296)*(b%4294967296)<=18446744065119617025/\(a%4294967296)*(b/4294967296)<=18446744065119617025/\(a%4294967296)*(b%4294967296)<=18446744065119617025:=
 ⟨LB zB zB,LB zB zB,LB zB zB,LB zB zB⟩
def CV:CU a b=0↔a*b<18446744073709551616:=by
 have h:=Ku a b
 constructor
 ·intro e;rw [e] at h;omega
 ·intro e
  by_cases c:CU a b=0
  ·exact c
  ·exfalso;generalize a*b=n at *;generalize CU a b=m at *;omega
def We (ha:a<=9223372036854775808) (hb:b<=9223372036854775808):CU a b<=4611686018427387904:=by
 have h:=Ku a b
 have:a*b<=9223372036854775808*9223372036854775808:=gp ha hb
 generalize a*b=n at *;generalize CU a b=m at *;omega
def Mu (ha:a<18446744073709551616) (hb:b<18446744073709551616):
  (a/4294967296)*(b%4294967296)+((a%4294967296)*(b%4294967296))/4294967296<18446744073709551616/\
  (a%4294967296)*(b/4294967296)+((a/4294967296)*(b%4294967296)+((a%4294967296)*(b%4294967296))/4294967296)%4294967296<18446744073709551616/\
  (a/4294967296)*(b/4294967296)+((a/4294967296)*(b%4294967296)+((a%4294967296)*(b%4294967296))/4294967296)/4294967296<18446744073709551616/\CU a b<18446744073709551616:=by
 obtain ⟨h1,h2,h3,h4⟩:=uZ ha hb
 have h5:=Ku a b
 have h6:a*b<=18446744073709551615*18446744073709551615:=gp zB zB
 refine ⟨?_,?_,?_,?_⟩
 ·generalize (a/4294967296)*(b%4294967296)=p10 at *
  generalize (a%4294967296)*(b%4294967296)=p00 at *
  omega
 ·generalize (a/4294967296)*(b%4294967296)=p10 at *
  generalize (a%4294967296)*(b/4294967296)=p01 at *
  generalize (a%4294967296)*(b%4294967296)=p00 at *
  omega
 ·generalize (a/4294967296)*(b/4294967296)=p11 at *
  generalize (a/4294967296)*(b%4294967296)=p10 at *
  generalize (a%4294967296)*(b%4294967296)=p00 at *
  omega
 ·generalize a*b=n at *
  generalize CU a b=m at *
  omega
def fP (x y:Int):Int×Bool:=if oQ (x*y) then (x*y,true) else (0,false)
variable {x:Int}
def zVx (h:oQ x) (hn:x<0):IntKind.u64.wrap (-(IntKind.u64.wrap x))=(x.natAbs:Int):=by
 unfold oQ at h;rw [VT,VT];omega
def zVw (h:oQ x) (hn:¬x<0):IntKind.u64.wrap x=(x.natAbs:Int):=by
 unfold oQ at h;rw [VT];omega
def Cd (h:oQ x):x.natAbs<=9223372036854775808:=by unfold oQ at h;omega
def OC (x y:Int):(x*y).natAbs=x.natAbs*y.natAbs:=Int.natAbs_mul x y
variable {y:Int}
def Ru (hx:x<0) (hy:¬y<0):x*y<=0:=Int.mul_nonpos_of_nonpos_of_nonneg zB zB
def NI (hx:¬x<0) (hy:y<0):x*y<=0:=Int.mul_nonpos_of_nonneg_of_nonpos zB zB
def NJ (hx:x<0) (hy:y<0):0<=x*y:=Int.mul_nonneg_of_nonpos_of_nonpos zB zB
def NK (hx:¬x<0) (hy:¬y<0):0<=x*y:=Int.mul_nonneg zB zB
def Dl (h:(decide (x<0)==decide (y<0))=false):x*y<=0:=by
 by_cases hx:x<0<;>by_cases hy:y<0
 ·simp [hx,hy] at h
 ·exact Ru hx hy
 ·exact NI hx hy
 ·simp [hx,hy] at h
def u2 (h:(decide (x<0)==decide (y<0))=true):0<=x*y:=by
 by_cases hx:x<0<;>by_cases hy:y<0
 ·exact NJ hx hy
 ·simp [hx,hy] at h
 ·simp [hx,hy] at h
 ·exact NK hx hy
def BY (hx:oQ x) (hy:oQ y) (h:CU x.natAbs y.natAbs≠0∨9223372036854775808<x.natAbs*y.natAbs%18446744073709551616):fP x y=(0,false):=by
 unfold fP
 refine aa λk=>?_
 have h1:=OC x y
 unfold oQ at k
 have h2:x.natAbs*y.natAbs<18446744073709551616:=by rw [<-h1];omega
 rcases h with h|h
 ·exact h (CV.2 h2)
 ·rw [i7 h2,<-h1] at h;omega
def Jr (h:(decide (x<0)==decide (y<0))=true) (h2:x.natAbs*y.natAbs%18446744073709551616=9223372036854775808):fP x y=(0,false):=by
 unfold fP
 refine aa λk=>?_
 have h1:=OC x y
 have h3:=u2 h
 unfold oQ at k
 rw [<-h1] at h2
 omega
def NY (h:(decide (x<0)==decide (y<0))=false) (h0:CU x.natAbs y.natAbs=0) (hl:x.natAbs*y.natAbs%18446744073709551616<=9223372036854775808):fP x y=(IntKind.i64.wrap (IntKind.u64.wrap (-((x.natAbs*y.natAbs%18446744073709551616:Nat):Int))),true):=by
 have h1:=OC x y
 have h3:=Dl h
 have h4:=CV.1 h0
 rw [i7 h4] at hl⊢
 rw [<-h1] at hl⊢
 unfold fP
 rw [ab Sk,VT]
 congr 1
 show _=rh _
 rw [L0];omega
def NZ (h:(decide (x<0)==decide (y<0))=true) (h0:CU x.natAbs y.natAbs=0) (hl:x.natAbs*y.natAbs%18446744073709551616<9223372036854775808):fP x y=(IntKind.i64.wrap ((x.natAbs*y.natAbs%18446744073709551616:Nat):Int),true):=by
 have h1:=OC x y
 have h3:=u2 h
 have h4:=CV.1 h0
 rw [i7 h4] at hl⊢
 rw [<-h1] at hl⊢
 unfold fP
 rw [ab Sk]
 congr 1
 show _=rh _
 rw [L0];omega
def Vn (hx:oQ x) (hy:oQ y) (c:(¬((CU x.natAbs y.natAbs:Nat):Int)=0∨9223372036854775808<((x.natAbs*y.natAbs%18446744073709551616:Nat):Int))∨((x.natAbs*y.natAbs%18446744073709551616:Nat):Int)=9223372036854775808/\(decide (x<0)==decide (y<0))=true):fP x y=(0,false):=by
 rcases c with (c|c)|⟨c,d⟩
 ·exact BY hx hy (.inl zB)
 ·exact BY hx hy (.inr zB)
 ·exact Jr d zB
def xB (a b:Nat):Nat:=(a%4294967296)*(b%4294967296)/4294967296+(a/4294967296)*(b%4294967296)%4294967296+(a%4294967296)*(b/4294967296)%4294967296
def WK (a b:Nat):Nat:=(a/4294967296)*(b/4294967296)+(a/4294967296)*(b%4294967296)/4294967296+(a%4294967296)*(b/4294967296)/4294967296+xB a b/4294967296
def WL (a b:Nat):Nat:=xB a b%4294967296*4294967296+(a%4294967296)*(b%4294967296)%4294967296
def DZ (a b:Nat):WK a b=a*b/18446744073709551616/\WL a b=a*b%18446744073709551616:=by
 have h:=zYn a b
 unfold WK WL xB
 generalize a*b=n at *
 generalize (a/4294967296)*(b/4294967296)=p11 at *
 generalize (a/4294967296)*(b%4294967296)=p10 at *
 generalize (a%4294967296)*(b/4294967296)=p01 at *
 generalize (a%4294967296)*(b%4294967296)=p00 at *
 omega
def zWv (hx:oQ x) (hy:oQ y):x.natAbs*y.natAbs<=85070591730234615865843651857942052864:=gp (Cd hx) (Cd hy)
def Vt (hx:oQ x) (hy:oQ y):WK x.natAbs y.natAbs<18446744073709551616/\WL x.natAbs y.natAbs<18446744073709551616:=by
 obtain ⟨h1,h2⟩:=DZ x.natAbs y.natAbs
 have:=zWv hx hy
 rw [h1,h2];omega
def zVg (hx:oQ x) (hy:oQ y) (h:(decide (x<0)==decide (y<0))=true):IntKind.i64.wrap ((WK x.natAbs y.natAbs:Nat):Int)=(x*y)/18446744073709551616/\WL x.natAbs y.natAbs=((x*y)%18446744073709551616).toNat:=by
 obtain ⟨h1,h2⟩:=DZ x.natAbs y.natAbs
 have h3:=u2 h
 have h4:=OC x y
 have h5:=zWv hx hy
 show rh _=_/\_
 rw [h1,h2,L0,<-h4] at *
 generalize x*y=z at *
 omega
def zPw (hx:oQ x) (hy:oQ y) (h:(decide (x<0)==decide (y<0))=false) (h0:(18446744073709551616-WL x.natAbs y.natAbs)%18446744073709551616=0):IntKind.i64.wrap (((18446744073709551615-WK x.natAbs y.natAbs+1)%18446744073709551616:Nat):Int)=(x*y)/18446744073709551616/\(18446744073709551616-WL x.natAbs y.natAbs)%18446744073709551616=((x*y)%18446744073709551616).toNat:=by
 exact v65
def zPv (hx:oQ x) (hy:oQ y) (h:(decide (x<0)==decide (y<0))=false) (h0:¬(18446744073709551616-WL x.natAbs y.natAbs)%18446744073709551616=0):IntKind.i64.wrap ((18446744073709551615-WK x.natAbs y.natAbs:Nat):Int)=(x*y)/18446744073709551616/\(18446744073709551616-WL x.natAbs y.natAbs)%18446744073709551616=((x*y)%18446744073709551616).toNat:=by
 exact v65
def UO (hx:oQ x) (hy:oQ y): -4611686018427387904<=x*y/18446744073709551616/\x*y/18446744073709551616<=4611686018427387904:=by
 have h5:=zWv hx hy
 have h4:=OC x y
 rw [<-h4] at h5
 generalize x*y=z at *
 omega
def zWq {a z k S:Int} (h0:0<=S) (h1:S<18446744073709551616) (h:k*18446744073709551616+S=a+z):
  V.tup [vI (IntKind.i64.wrap S),vB (decide (k=0)&&decide (0<=IntKind.i64.wrap S)||decide (k= -1)&&decide (IntKind.i64.wrap S<0))]=V.tup [vI (rh (a+z)),vB (decide (oQ (a+z)))]:=by
 have e:IntKind.i64.wrap S=(S+9223372036854775808)%18446744073709551616-9223372036854775808:=L0 S
 have e1:rh (a+z)=IntKind.i64.wrap S:=by rw [L0,e];omega
 have e2:(decide (k=0)&&decide (0<=IntKind.i64.wrap S)||decide (k= -1)&&decide (IntKind.i64.wrap S<0))=decide (oQ (a+z)):=by
  rw [e]
  by_cases c:oQ (a+z)
  ·rw [al c]
   unfold oQ at c
   by_cases d:k=0
   ·rw [al d,al zB];rfl
   ·rw [am d,al (show k= -1 by omega),al (show (S+9223372036854775808)%18446744073709551616-9223372036854775808<0 by omega)];rfl
  ·rw [am c]
   unfold oQ at c
   by_cases d:k=0
   ·rw [al d,am (show ¬k= -1 by omega),am zB];rfl
   ·rw [am d]
    by_cases f:k= -1
    ·rw [al f,am (show ¬(S+9223372036854775808)%18446744073709551616-9223372036854775808<0 by omega)];rfl
    ·rw [am f];rfl
 rw [e1,e2]
def zWp {a z:Int} (ha:oQ a):∃S,S=IntKind.u64.wrap (((z%18446744073709551616).toNat:Int)+IntKind.u64.wrap a)/\0<=S/\S<18446744073709551616/\S=((z%18446744073709551616)+a%18446744073709551616)%18446744073709551616/\((z%18446744073709551616).toNat:Int)=z%18446744073709551616:=by
 refine ⟨_,rfl,?_⟩
 rw [VT,VT]
 omega
/-! ## Merges -/
abbrev Tr:=nq×Int×Int
def fK:Nat->List Mono->List Mono->List Tr
 |0,_,_=>[]
 |_+1,[],[]=>[]
 |n+1,a::ar,[]=>(a.Name,a.By,0)::fK n ar []
 |n+1,[],b::bs=>(b.Name,0,b.By)::fK n [] bs
 |n+1,a::ar,b::bs=>
  bif bF a.Name b.Name then (a.Name,a.By,0)::fK n ar (b::bs)
  else bif bF b.Name a.Name then (b.Name,0,b.By)::fK n (a::ar) bs
  else (a.Name,a.By,b.By)::fK n ar bs
def Sq:∀(n:Nat) (a b:List Mono),a.length+b.length<=n->fK n a b=fK (a.length+b.length) a b
 |0,a,b,h=>by rw [show a.length+b.length=0 by omega]
 |n+1,[],[],_=>rfl
 |n+1,a::ar,[],h=>by
  have ih:=Sq n ar [] Cb
  show (a.Name,a.By,0)::fK n ar []=(a.Name,a.By,0)::fK (ar.length) ar []
  rw [ih];rfl
 |n+1,[],b::bs,h=>by
  have ih:=Sq n [] bs Cb
  have e:([]:List Mono).length+(b::bs).length=bs.length+1:=by simp
  rw [e,fK,fK,ih];simp
 |n+1,a::ar,b::bs,h=>by
  have h':ar.length+1+(bs.length+1)<=n+1:=by simpa using h
  have i1:=Sq n ar (b::bs) uD
  have i2:=Sq n (a::ar) bs uD
  have i3:=Sq n ar bs zB
  have j1:=Sq (ar.length+bs.length+1) ar (b::bs) uD
  have j2:=Sq (ar.length+bs.length+1) (a::ar) bs uD
  have j3:=Sq (ar.length+bs.length+1) ar bs zB
  have e:(a::ar).length+(b::bs).length=(ar.length+bs.length+1)+1:=by simp;omega
  rw [e,fK,fK,i1,i2,i3,j1,j2,j3]
def bE (a b:List Mono):List Tr:=fK (a.length+b.length) a b
def zHt:bE [] []=[]:=rfl
def S2 (a:Mono) (ar:List Mono):bE (a::ar) []=(a.Name,a.By,0)::bE ar []:=rfl
def S0 (b:Mono) (bs:List Mono):bE [] (b::bs)=(b.Name,0,b.By)::bE [] bs:=by
 unfold bE;rw [show ([]:List Mono).length+(b::bs).length=bs.length+1 by simp,fK];simp
def LX (a b:Mono) (ar bs:List Mono):bE (a::ar) (b::bs)=bif bF a.Name b.Name then (a.Name,a.By,0)::bE ar (b::bs) else bif bF b.Name a.Name then (b.Name,0,b.By)::bE (a::ar) bs else (a.Name,a.By,b.By)::bE ar bs:=by
 unfold bE
 rw [show (a::ar).length+(b::bs).length=(ar.length+bs.length+1)+1 by simp;omega,fK]
 rw [Sq _ ar (b::bs) uD,Sq _ (a::ar) bs uD,Sq _ ar bs zB]
def VH (a b:List Mono):(bE a b).length<=a.length+b.length:=by
 have:∀(n:Nat) (a b:List Mono),(fK n a b).length<=n:=by
  intro n
  induction n with
  |zero=>intro a b;simp [fK]
  |succ n ih=>
   intro a b
   cases a with
   |nil=>
    cases b with
    |nil=>simp [fK]
    |cons b bs=>simp only [fK,pw];have:=ih [] bs;omega
   |cons a ar=>
    cases b with
    |nil=>simp only [fK,pw];have:=ih ar [];omega
    |cons b bs=>
     have h1:=ih ar (b::bs)
     have h2:=ih (a::ar) bs
     have h3:=ih ar bs
     simp only [fK]
     cases bF a.Name b.Name<;>cases bF b.Name a.Name<;>simp only [aB,aw,pw]<;>omega
 exact this _ a b
def ud (l:List Mono):Mono:=l.headD ⟨bs [],0⟩
def SF {l:List Mono} (h:0<l.length):l[0]? =some (ud l):=by
 cases l with
 |nil=>simp at h
 |cons x r=>rfl
def Wq (a b:List Mono):Bool:=decide ((b.length:Int)=0)||(decide ((0:Int)<a.length)&&bF (ud a).Name (ud b).Name)
def mC3 (a b:List Mono):Bool:=decide ((a.length:Int)=0)||bF (ud b).Name (ud a).Name
def mC2_b {a b:List Mono} (c:Wq a b=false):0<b.length:=by
 unfold Wq at c
 cases b with
 |nil=>simp at c
 |cons y s=>simp
def Ir {a b:List Mono} (h:0<a.length∨0<b.length) (c:Wq a b=true):0<a.length/\bE a b=((ud a).Name,(ud a).By,0)::bE (a.drop 1) b:=by
 unfold Wq at c
 cases a with
 |nil=>
  cases b with
  |nil=>simp at h
  |cons y s=>simp at c;omega
 |cons x r=>
  refine ⟨uF,?_⟩
  cases b with
  |nil=>rw [S2];rfl
  |cons y s=>
   have c2:bF x.Name y.Name=true:=by
    rw [aD,ae,aj] at c
    rcases c with c|c
    ·simp at c;omega
    ·exact c.2
   rw [LX,c2];rfl
def Fx {a b:List Mono} (h:0<a.length∨0<b.length) (c:Wq a b=false) (c3:mC3 a b=true):0<b.length/\bE a b=((ud b).Name,0,(ud b).By)::bE a (b.drop 1):=by
 unfold Wq at c
 unfold mC3 at c3
 cases b with
 |nil=>simp at c
 |cons y s=>
  refine ⟨uF,?_⟩
  cases a with
  |nil=>rw [S0];rfl
  |cons x r=>
   have c2:bF x.Name y.Name=false:=by
    rw [ax,bk] at c
    rcases c.2 with c|c
    ·simp at c
    ·exact c
   have c4:bF y.Name x.Name=true:=by
    rw [aD,aj] at c3
    rcases c3 with c|c
    ·simp at c;omega
    ·exact c
   rw [LX,c2,c4];rfl
def Iq {a b:List Mono} (c:Wq a b=false) (c3:mC3 a b=false):0<a.length/\0<b.length/\bE a b=((ud a).Name,(ud a).By,(ud b).By)::bE (a.drop 1) (b.drop 1):=by
 unfold Wq at c
 unfold mC3 at c3
 cases b with
 |nil=>simp at c
 |cons y s=>
  cases a with
  |nil=>simp at c3
  |cons x r=>
   refine ⟨uF,uF,?_⟩
   have c2:bF x.Name y.Name=false:=by
    rw [ax,bk] at c
    rcases c.2 with c|c
    ·simp at c
    ·exact c
   have c4:bF y.Name x.Name=false:=by
    rw [ax] at c3
    exact c3.2
   rw [LX,c2,c4];rfl
/-! ## Sums -/
def ti (t:Tr):Int:=t.2.1+t.2.2
def sR (t:Tr):Bool:=decide (oQ (ti t))
def lP (ts:List Tr):List Mono:=ts.filterMap λt=>if rh (ti t)=0 then none else some ⟨t.1,rh (ti t)⟩
def W5 (d:List Tr) (t:Tr):lP (d++[t])=lP d++(if rh (ti t)=0 then [] else [⟨t.1,rh (ti t)⟩]):=by
 unfold lP;rw [jj];congr 1
 by_cases h:rh (ti t)=0<;>simp [h]
def zVn (d:List Tr):(lP d).length<=d.length:=lb _ _
def IC (ok:Bool) (d:List Tr):Bool:=d.foldl (λb t=>b&&decide (oQ (t.2.1+t.2.2))) ok
def zIv (ok:Bool) (d:List Tr) (t:Tr):IC ok (d++[t])=(IC ok d&&decide (oQ (t.2.1+t.2.2))):=by unfold IC;rw [du];rfl
def uY (ok:Bool) (d:List Tr):IC ok d=(ok&&d.all sR):=by
 induction d generalizing ok with
 |nil=>simp [IC]
 |cons t r ih=>
  show IC (ok&&sR t) r=_
  rw [ih,bm,jn]
def zHs:∀(n:Nat) (a b:List Mono),(∀m,m∈a->oQ m.By)->(∀m,m∈b->oQ m.By)->∀t,t∈fK n a b->oQ t.2.1/\oQ t.2.2
 |0,_,_,_,_,t,ht=>by simp [fK] at ht
 |_+1,[],[],_,_,t,ht=>by simp [fK] at ht
 |n+1,x::r,[],h1,h2,t,ht=>by
  simp only [fK] at ht
  rcases ag.1 ht with rfl|ht
  ·exact ⟨h1 x uF,by show oQ 0;unfold oQ;omega⟩
  ·exact zHs n r [] (λm hm=>h1 m Sl) h2 t ht
 |n+1,[],y::s,h1,h2,t,ht=>by
  simp only [fK] at ht
  rcases ag.1 ht with rfl|ht
  ·exact ⟨by show oQ 0;unfold oQ;omega,h2 y uF⟩
  ·exact zHs n [] s h1 (λm hm=>h2 m Sl) t ht
 |n+1,x::r,y::s,h1,h2,t,ht=>by
  have g1:=zHs n r (y::s) (λm hm=>h1 m Sl) h2 t
  have g2:=zHs n (x::r) s h1 (λm hm=>h2 m Sl) t
  have g3:=zHs n r s (λm hm=>h1 m Sl) (λm hm=>h2 m Sl) t
  have z0:oQ 0:=by unfold oQ;omega
  simp only [fK] at ht
  cases c1:bF x.Name y.Name with
  |true=>
   rw [c1,aB] at ht
   rcases ag.1 ht with rfl|ht
   ·exact ⟨h1 x uF,z0⟩
   ·exact g1 ht
  |false=>
   rw [c1,aw] at ht
   cases c2:bF y.Name x.Name with
   |true=>
    rw [c2,aB] at ht
    rcases ag.1 ht with rfl|ht
    ·exact ⟨z0,h2 y uF⟩
    ·exact g2 ht
   |false=>
    rw [c2,aw] at ht
    rcases ag.1 ht with rfl|ht
    ·exact ⟨h1 x uF,h2 y uF⟩
    ·exact g3 ht
def M5 {a b:List Mono} (h1:∀m,m∈a->oQ m.By) (h2:∀m,m∈b->oQ m.By) {d s:List Tr} {t:Tr} (h:bE a b=d++t::s):oQ t.2.1/\oQ t.2.2/\d.length<=a.length+b.length:=by
 have h3:=VH a b
 rw [h] at h3
 simp only [qp,pw] at h3
 obtain ⟨k1,k2⟩:=zHs _ a b h1 h2 t (by rw [show fK (a.length+b.length) a b=bE a b from rfl,h];simp)
 exact ⟨k1,k2,zB⟩
def mV (k:Int) (ts:List Tr):Lf×Int:=if oQ k/\ts.all sR=true then (⟨k,lP ts⟩,0) else (zL,3)
def gS (a b:Lf):Lf×Int:=if bI a=true/\bI b=true then mV (a.K+b.K) (bE a.L b.L) else (zL,1)
def Tf {a b:Lf} (h:¬(bI a=true/\bI b=true)):gS a b=(zL,1):=by unfold gS;rw [aa h]
def Xp {a b:Lf} (c:¬dM a=0∨¬dM b=0):gS a b=(zL,1):=Tf λh=>by
 rcases c with c|c
 ·have:=zNa c;rw [h.1] at this;cases this
 ·have:=zNa c;rw [h.2] at this;cases this
def Xr {a b:Lf} (h1:bI a=true) (h2:bI b=true) (h:IC (decide (oQ (a.K+b.K))) (bE a.L b.L)=false):gS a b=(zL,3):=by
 unfold gS mV
 rw [ab ⟨h1,h2⟩,aa λk=>?_]
 rw [uY,al k.1,k.2] at h
 cases h
def Xs {a b:Lf} (h1:bI a=true) (h2:bI b=true) (h:IC (decide (oQ (a.K+b.K))) (bE a.L b.L)=true):gS a b=(⟨rh (a.K+b.K),lP (bE a.L b.L)⟩,0):=by
 rw [uY,ae,aj] at h
 unfold gS mV
 rw [ab ⟨h1,h2⟩,ab h,Om h.1]
def nC (by_:Int) (l:List Mono):List Mono:=l.map λm=>⟨m.Name,m.By*by_⟩
def gO (by_:Int) (l:List Mono):Bool:=l.all λm=>decide (oQ (m.By*by_))
def fQ (a:Lf) (by_:Int):Lf×Int:=if bI a=true then (if by_=0 then (zL,0) else if oQ (a.K*by_)/\gO by_ a.L=true then (⟨a.K*by_,nC by_ a.L⟩,0) else (zL,3)) else (zL,1)
def lZ (l:Lf) (s:nq):Lf:=⟨l.K,l.L.filter λm=> !decide (m.Name=s)⟩
def bO (l:List Mono) (s:nq):Int:=l.foldl (λby_ m=>if m.Name=s then m.By else by_) 0
def bX (l:Lf) (s:nq) (to_:Lf):Lf×Int:=
 if bI l=true/\bB s=true/\bI to_=true then (if (fQ to_ (bO l.L s)).2=0 then gS (lZ l s) (fQ to_ (bO l.L s)).1 else (zL,(fQ to_ (bO l.L s)).2)) else (zL,1)
def mK (by_:Int) (ts:List Tr):List Tr:=ts.map λt=>(t.1,t.2.1,t.2.2*by_)
def bS (l:Lf) (s:nq) (to_:Lf):Lf×Int:=
 if bI l=true/\bI to_=true/\bB s=true then
  (if bO l.L s=0 then (l,0) else if oQ (to_.K*bO l.L s)/\gO (bO l.L s) to_.L=true then mV (l.K+to_.K*bO l.L s) (mK (bO l.L s) (bE (lZ l s).L to_.L)) else (zL,3))
 else (zL,1)
def nO (by_:Int) (l:List Mono):List Mono:=l.map λm=>⟨m.Name,(fP m.By by_).1⟩
def pC (by_:Int) (l:List Mono):Bool:=l.all λm=>(fP m.By by_).2
def y5 (by_:Int) (l:List Mono):(nO by_ l).length=l.length:=by simp [nO]
variable {k:Nat} {by_:Int}
def Gs {l:List Mono} {x:Mono} (h:l[k]? =some x):nO by_ (l.take (k+1))=nO by_ (l.take k)++[⟨x.Name,(fP x.By by_).1⟩]:=by unfold nO;rw [yB h,ah];rfl
def Gr {l:List Mono} {x:Mono} (h:l[k]? =some x):pC by_ (l.take (k+1))=(pC by_ (l.take k)&&(fP x.By by_).2):=by unfold pC;rw [yB h,cj];simp
def zk (x y:Int):(fP x y).2=decide (oQ (x*y)):=by unfold fP;by_cases h:oQ (x*y)<;>simp [h]
def GO (h:oQ (x*y)):(fP x y).1=x*y:=by unfold fP;rw [ab h]
def DM {l:List Mono} {x:Mono} (h:l[k]? =some x) (hp:gO by_ (l.take k)=true) (hx:oQ (x.By*by_)):gO by_ (l.take (k+1))=true:=by
 unfold gO at *;rw [yB h,cj,hp];simp [hx]
def Ja {l:List Mono} {x:Mono} (h:l[k]? =some x) (hx:¬oQ (x.By*by_)):gO by_ l=false:=by
 unfold gO;rw [fq];exact ⟨x,qD h,by simp [hx]⟩
def BL (by_:Int) (l:List Mono):pC by_ l=gO by_ l:=by unfold pC gO;congr 1;funext m;exact zk _ _
def NC {l:List Mono} (h:gO by_ l=true):nO by_ l=nC by_ l:=by
 unfold gO at h
 rw [rl] at h
 unfold nO nC
 refine dr λm hm=>?_
 rw [GO (by simpa using h m hm)]
variable {l:Lf}
def Rm (h1:bI l=true) (h2:¬by_=0) (h3:(fP l.K by_).2=true/\pC by_ l.L=true):fQ l by_=(⟨(fP l.K by_).1,nO by_ l.L⟩,0):=by
 rw [zk,aj,BL] at h3
 unfold fQ
 rw [ab h1,aa h2,ab h3,GO h3.1,NC h3.2]
def Rl (h1:bI l=true) (h2:¬by_=0) (h3:(fP l.K by_).2=false∨pC by_ l.L=false):fQ l by_=(zL,3):=by
 unfold fQ
 rw [ab h1,aa h2,aa λh=>?_]
 rw [zk,BL,al h.1,h.2] at h3
 rcases h3 with h3|h3<;>cases h3
def Jb (h1:bI l=true) (h2:by_=0):fQ l by_=(zL,0):=by unfold fQ;rw [ab h1,ab h2]
def ND (h1:bI l=false):fQ l by_=(zL,1):=by unfold fQ;rw [aa (by rw [h1];simp)]
def zFa (by_:Int):∀(n:Nat) (a b:List Mono),a.length+b.length<=n->bE a (nC by_ b)=mK by_ (bE a b)
 |_,[],[],_=>rfl
 |0,_::_,_,h=>by simp at h
 |0,[],_::_,h=>by simp at h
 |n+1,a::ar,[],h=>by
  have ih:=zFa by_ n ar [] Cb
  show bE (a::ar) []=_
  rw [S2]
  show _=(a.Name,a.By,0*by_)::mK by_ (bE ar [])
  rw [<-ih,kc];rfl
 |n+1,[],b::bs,h=>by
  have ih:=zFa by_ n [] bs Cb
  show bE [] (⟨b.Name,b.By*by_⟩::nC by_ bs)=_
  rw [S0,S0,ih];rfl
 |n+1,a::ar,b::bs,h=>by
  have h':ar.length+1+(bs.length+1)<=n+1:=by simpa using h
  have i1:=zFa by_ n ar (b::bs) uD
  have i2:=zFa by_ n (a::ar) bs uD
  have i3:=zFa by_ n ar bs zB
  have e:nC by_ (b::bs)=⟨b.Name,b.By*by_⟩::nC by_ bs:=rfl
  rw [e] at i1⊢
  rw [LX,LX,i1,i2,i3]
  cases bF a.Name b.Name<;>cases bF b.Name a.Name<;>simp [mK]
def zKu {l:List Mono} {x:Mono} (h:l[k]? =some x):bO (l.take (k+1)) s=if x.Name=s then x.By else bO (l.take k) s:=by
 unfold bO;rw [yB h,du];rfl
def zQl {l:List Mono} {x:Mono} (h:l[k]? =some x):(l.take (k+1)).filter (λm=> !decide (m.Name=s))=(l.take k).filter (λm=> !decide (m.Name=s))++(if x.Name=s then [] else [x]):=by
 rw [yB h,ml];by_cases e:x.Name=s<;>simp [e]
def zHr:∀{p:Option nq} {l:List Mono},bN p l=true->∀m,m∈l->m.By≠0/\bB m.Name=true
 |_,[],_,m,hm=>by cases hm
 |p,x::r,h,m,hm=>by
  simp only [bN,ae,aA,ao] at h
  rcases ag.1 hm with rfl|hm
  ·exact ⟨h.1.1.2,h.1.1.1⟩
  ·exact zHr h.2 m hm
def MM {l:List Mono} (h:∀m,m∈l->m.Name≠s):bO l s=0/\l.filter (λm=> !decide (m.Name=s))=l:=by
 constructor
 ·have:∀(l:List Mono) (b:Int),(∀m,m∈l->m.Name≠s)->l.foldl (λby_ m=>if m.Name=s then m.By else by_) b=b:=by
   intro l
   induction l with
   |nil=>intro b _;rfl
   |cons x r ih=>intro b hl;rw [cp,aa (hl x uF),ih b λm hm=>hl m Sl]
  exact this l 0 h
 ·rw [List.filter_eq_self];intro m hm;simp [h m hm]
def zQy {p:Option nq} {l:List Mono} (h:bN p l=true) (hz:bO l s=0):∀m,m∈l->m.Name≠s:=by
 have key:∀(l:List Mono) (b:Int),(∀m,m∈l->m.By≠0)->l.foldl (λby_ m=>if m.Name=s then m.By else by_) b=0->∀m,m∈l->m.Name≠s:=by
  intro l
  induction l with
  |nil=>intro b _ _ m hm;cases hm
  |cons x r ih=>
   intro b hl h m hm
   rw [cp] at h
   rcases ag.1 hm with rfl|hm
   ·intro e
    rw [ab e] at h
    by_cases c:∀y,y∈r->y.Name≠s
    ·have:r.foldl (λby_ m=>if m.Name=s then m.By else by_) m.By=m.By:=by
      clear ih h hl hm
      generalize m.By=z
      induction r generalizing z with
      |nil=>rfl
      |cons y r ih2=>rw [cp,aa (c y uF),ih2 (λq hq=>c q (by simp [hq]))]
     rw [this] at h
     exact hl m uF h
    ·exact c (ih _ (λy hy=>hl y Ac) h)
   ·exact ih _ (λy hy=>hl y Ac) h m hm
 exact key l 0 (λm hm=>(zHr h m hm).1) hz
def Lf.rng (l:Lf):Prop:=oQ l.K/\∀m,m∈l.L->oQ m.By
def zKp:∀{l:List Mono},(∀m,m∈l->oQ m.By/\m.By≠0)->(bE l []).all sR=true/\lP (bE l [])=l
 |[],_=>⟨rfl,rfl⟩
 |a::ar,h=>by
  obtain ⟨h1,h2⟩:=zKp (l:=ar) λm hm=>h m Sl
  obtain ⟨h3,h4⟩:=h a uF
  rw [S2]
  have e:ti (a.Name,a.By,0)=a.By:=by simp [ti]
  constructor
  ·rw [bm,h1,sR,e,al h3];rfl
  ·show List.filterMap _ _=_
   rw [dt]
   simp only [e,Om h3,aa h4]
   exact ai (a:: ·) h2
def zQz (h:l.rng) (s:nq):oQ (bO l.L s):=by
 have key:∀(l:List Mono) (b:Int),(∀m,m∈l->oQ m.By)->oQ b->oQ (l.foldl (λby_ m=>if m.Name=s then m.By else by_) b):=by
  intro l
  induction l with
  |nil=>intro b _ h;exact h
  |cons x r ih=>
   intro b hl hb
   rw [cp]
   refine ih _ (λm hm=>hl m Sl) ?_
   split
   ·exact hl x uF
   ·exact hb
 exact key l.L 0 h.2 Sk
def Xh:zL.rng:=⟨by show oQ 0;unfold oQ;omega,λm hm=>by cases hm⟩
def NE (l:Lf) (b:Int):(fQ l b).1.rng/\(fQ l b).1.L.length<=l.L.length:=by
 unfold fQ
 split
 ·split
  ·exact ⟨Xh,by simp [zL]⟩
  ·split
   ·rename_i h
    refine ⟨⟨h.1,λm hm=>?_⟩,by simp [nC]⟩
    obtain ⟨x,hx,rfl⟩:=aY.1 hm
    have:=h.2
    unfold gO at this
    rw [rl] at this
    simpa using this x hx
   ·exact ⟨Xh,by simp [zL]⟩
 ·exact ⟨Xh,by simp [zL]⟩
def Gl (h:l.rng) (s:nq):(lZ l s).rng/\(lZ l s).L.length<=l.L.length:=
 ⟨⟨h.1,λm hm=>h.2 m (dg.1 hm).1⟩,dw _ _⟩
variable {to_:Lf}
def RI (c:(¬dM l=0∨bB s=false)∨¬dM to_=0):bX l s to_=(zL,1):=by
 unfold bX
 refine aa λh=>?_
 rcases c with (c|c)|c
 ·have:=zNa c;rw [h.1] at this;cases this
 ·rw [h.2.1] at c;cases c
 ·have:=zNa c;rw [h.2.2] at this;cases this
def RJ (c:(dM l=0/\bB s=true)/\dM to_=0) (c4:¬(fQ to_ (bO l.L s)).2=0):bX l s to_=(zL,(fQ to_ (bO l.L s)).2):=by
 unfold bX
 rw [ab ⟨zNb c.1.1,c.1.2,zNb c.2⟩,aa c4]
def RK (c:(dM l=0/\bB s=true)/\dM to_=0) (c4:(fQ to_ (bO l.L s)).2=0):bX l s to_=gS (lZ l s) (fQ to_ (bO l.L s)).1:=by
 unfold bX
 rw [ab ⟨zNb c.1.1,c.1.2,zNb c.2⟩,ab c4]
def DQ {a b c:nq} (h:bF a b=true) (k:bF b c=true):bF a c=true:=Oh h k
def yc {p q:Option nq} {l:List Mono} (h:bN p l=true) (hpq:∀n,Wo p n=true->Wo q n=true):bN q l=true:=by
 cases l with
 |nil=>rfl
 |cons x r=>
  simp only [bN,ae] at h⊢
  exact ⟨⟨h.1.1,hpq _ h.1.2⟩,h.2⟩
def zMr (f:Mono->Bool):∀{p:Option nq} {l:List Mono},bN p l=true->bN p (l.filter f)=true
 |_,[],_=>rfl
 |p,x::r,h=>by
  simp only [bN,ae] at h
  have ih:=zMr f h.2
  rw [kh]
  by_cases c:f x=true
  ·rw [ab c];simp only [bN,ae];exact ⟨h.1,ih⟩
  ·rw [aa c]
   refine yc ih λn hn=>?_
   cases p with
   |none=>rfl
   |some q=>exact DQ h.1.2 hn
def zYo {b:Int} (hb:b≠0):∀{p:Option nq} {l:List Mono},bN p l=true->bN p (nC b l)=true
 |_,[],_=>rfl
 |p,x::r,h=>by
  simp only [bN,ae,aA,ao] at h
  have ih:=zYo hb h.2
  show bN p (⟨x.Name,x.By*b⟩::nC b r)=true
  simp only [bN,ae,aA,ao]
  exact ⟨⟨⟨h.1.1.1,Int.mul_ne_zero h.1.1.2 hb⟩,h.1.2⟩,ih⟩
def zKh (hl:l.rng):bX l s to_=bS l s to_:=by
 unfold bX bS
 by_cases h:bI l=true/\bB s=true/\bI to_=true
 ·obtain ⟨h1,h2,h3⟩:=h
  rw [ab (⟨h1,h2,h3⟩:bI l=true/\bB s=true/\bI to_=true),ab (⟨h1,h3,h2⟩:bI l=true/\bI to_=true/\bB s=true)]
  by_cases c:bO l.L s=0
  ·rw [ab c]
   have hn:=zQy h1 c
   have e:fQ to_ (bO l.L s)=(zL,0):=by unfold fQ;rw [ab h3,ab c]
   rw [e,ab rfl]
   have er:lZ l s=l:=by unfold lZ;rw [(MM hn).2]
   rw [er]
   unfold gS
   rw [ab ⟨h1,rfl⟩]
   obtain ⟨g1,g2⟩:=zKp (l:=l.L) λm hm=>⟨hl.2 m hm,(zHr h1 m hm).1⟩
   show mV (l.K+0) (bE l.L [])=_
   unfold mV
   rw [ke,ab ⟨hl.1,g1⟩,g2]
  ·rw [aa c]
   by_cases d:oQ (to_.K*bO l.L s)/\gO (bO l.L s) to_.L=true
   ·rw [ab d]
    have e:fQ to_ (bO l.L s)=(⟨to_.K*bO l.L s,nC (bO l.L s) to_.L⟩,0):=by unfold fQ;rw [ab h3,aa c,ab d]
    rw [e,ab rfl]
    unfold gS
    rw [ab ⟨zMr _ h1,zYo c h3⟩]
    show mV (l.K+to_.K*bO l.L s) (bE (lZ l s).L (nC (bO l.L s) to_.L))=_
    rw [zFa _ _ _ _ (aC _)]
   ·rw [aa d]
    have e:fQ to_ (bO l.L s)=(zL,3):=by unfold fQ;rw [ab h3,aa c,aa d]
    rw [e,aa uA]
 ·rw [aa h,aa λk=>h ⟨k.1,k.2.2,k.2.1⟩]
variable {n:Nat}
def RL {a b:List Mono} {x y:Mono} (hx:a[i]? =some x) (hy:b[n]? =some y) (h:y.Name=x.Name):bE (a.drop i) (b.drop n)=(x.Name,x.By,y.By)::bE (a.drop (i+1)) (b.drop (n+1)):=by
 rw [qN hx,qN hy,LX,h,OA,aw,aw]
def NW {a b:List Mono} {x:Mono} (hx:a[i]? =some x) (hn:¬n<b.length):bE (a.drop i) (b.drop n)=(x.Name,x.By,0)::bE (a.drop (i+1)) (b.drop n):=by
 rw [qN hx,kN hn,S2]
def NX {a b:List Mono} {x y:Mono} (hx:a[i]? =some x) (hy:b[n]? =some y) (h:bF y.Name x.Name=false) (hne:¬y.Name=x.Name):bE (a.drop i) (b.drop n)=(x.Name,x.By,0)::bE (a.drop (i+1)) (b.drop n):=by
 rw [qN hx,qN hy,LX]
 have:bF x.Name y.Name=true:=by
  cases h2:bF x.Name y.Name with
  |true=>rfl
  |false=>exact absurd (Oi h h2) hne
 rw [this,aB]
def Jj {a b:List Mono} {y:Mono} (hi:¬i<a.length) (hy:b[n]? =some y):bE (a.drop i) (b.drop n)=(y.Name,0,y.By)::bE (a.drop i) (b.drop (n+1)):=by
 rw [kN hi,qN hy,S0]
def Jk {a b:List Mono} {x y:Mono} (hx:a[i]? =some x) (hy:b[n]? =some y) (h:bF y.Name x.Name=true):bE (a.drop i) (b.drop n)=(y.Name,0,y.By)::bE (a.drop i) (b.drop (n+1)):=by
 rw [qN hx,qN hy,LX]
 have:bF x.Name y.Name=false:=by
  cases h2:bF x.Name y.Name with
  |false=>rfl
  |true=>have:=Oh h h2;rw [OA] at this;cases this
 rw [this,aw,h,aB]
def LG {a b:List Mono} (hi:¬i<a.length) (hn:¬n<b.length):bE (a.drop i) (b.drop n)=[]:=by
 rw [kN hi,kN hn,zHt]
/-! the tests of the reference's loop -/
def qi (l:List Mono) (k:Nat):Mono:=l.getD k ⟨bs [],0⟩
def Ea {l:List Mono} (h:k<l.length):l[k]? =some (qi l k):=by
 unfold qi;rw [dc,ak h];rfl
def Xn {l:List Mono} (h:k<l.length):qi l k∈l:=qD (Ea h)
def Wx (a b:List Mono) (i n:Nat):Bool:=decide ((n:Int)=b.length)||(decide ((i:Int)<a.length)&&(bF (qi a i).Name (qi b n).Name||decide ((qi a i).Name=(qi b n).Name)))
def sC3 (b:List Mono) (n:Nat) (s:nq):Bool:=decide ((n:Int)<b.length)&&decide ((qi b n).Name=s)
def le_t {x y:nq} (h:(bF x y||decide (x=y))=true):bF y x=false:=by
 rw [aD,aj] at h
 rcases h with h|rfl
 ·cases k:bF y x with
  |false=>rfl
  |true=>have:=Oh h k;rw [OA] at this;cases this
 ·exact OA _
def le_f {x y:nq} (h:(bF x y||decide (x=y))=false):bF y x=true:=by
 rw [ax,ao] at h
 cases k:bF y x with
 |true=>rfl
 |false=>exact absurd (Oi h.1 k) h.2
def sum_t {a b:List Mono} (h:i<a.length∨n<b.length) (hn:n<=b.length) (c2:Wx a b i n=true):i<a.length:=by
 unfold Wx at c2
 rw [aD,ae,aj,aj] at c2
 rcases c2 with c2|⟨c2,_⟩<;>omega
def Zq {a b:List Mono} (hi:i<a.length) (c3:sC3 b n (qi a i).Name=true):n<b.length/\bE (a.drop i) (b.drop n)=((qi a i).Name,(qi a i).By,(qi b n).By)::bE (a.drop (i+1)) (b.drop (n+1)):=by
 unfold sC3 at c3
 simp only [ae,aj] at c3
 have hn:n<b.length:=by omega
 exact ⟨hn,RL (Ea hi) (Ea hn) c3.2⟩
def Zp {a b:List Mono} (hi:i<a.length) (hn:n<=b.length) (c2:Wx a b i n=true) (c3:sC3 b n (qi a i).Name=false):bE (a.drop i) (b.drop n)=((qi a i).Name,(qi a i).By,0)::bE (a.drop (i+1)) (b.drop n):=by
 by_cases h:n<b.length
 ·unfold Wx at c2
  unfold sC3 at c3
  rw [aD,ae,aj] at c2
  simp only [bk,ao] at c3
  have h2:bF (qi b n).Name (qi a i).Name=false:=by
   rcases c2 with c2|c2
   ·omega
   ·exact le_t c2.2
  have h3:¬(qi b n).Name=(qi a i).Name:=by
   rcases c3 with c3|c3
   ·omega
   ·exact c3
  exact NX (Ea hi) (Ea h) h2 h3
 ·exact NW (Ea hi) h
def sum_f {a b:List Mono} (hn:n<=b.length) (c2:Wx a b i n=false):n<b.length:=by
 unfold Wx at c2
 rw [ax,ao] at c2
 omega
def Zo {a b:List Mono} (hn:n<b.length) (c2:Wx a b i n=false):bE (a.drop i) (b.drop n)=((qi b n).Name,0,(qi b n).By)::bE (a.drop i) (b.drop (n+1))/\sC3 b n (qi b n).Name=true:=by
 refine ⟨?_,by unfold sC3;rw [al (by omega:(n:Int)<b.length),al rfl];rfl⟩
 unfold Wx at c2
 rw [ax,bk,ao] at c2
 by_cases h:i<a.length
 ·have h2:bF (qi b n).Name (qi a i).Name=true:=by
   rcases c2.2 with k|k
   ·rw [ao] at k;omega
   ·exact le_f k
  exact Jk (Ea h) (Ea hn) h2
 ·exact Jj h (Ea hn)
def Tg {k:Int} {ts:List Tr} (h:IC (decide (oQ k)) ts=false):mV k ts=(zL,3):=by
 rw [uY,bk,ao] at h
 unfold mV
 refine aa λhh=>?_
 rcases h with h|h
 ·exact h hh.1
 ·rw [hh.2] at h;cases h
def Th {k:Int} {ts:List Tr} (h:IC (decide (oQ k)) ts=true):mV k ts=(⟨rh k,lP ts⟩,0):=by
 rw [uY,ae,aj] at h
 unfold mV
 rw [ab h,Om h.1]
def Z1 (by_:Int) (d:List Tr) (t:Tr):mK by_ (d++[t])=mK by_ d++[(t.1,t.2.1,t.2.2*by_)]:=by simp [mK]
def zKg (by_:Int) (d:List Tr):(lP (mK by_ d)).length<=d.length:=by
 have:=zVn (mK by_ d);simpa [mK] using this
def Jh (c:(bI l=false∨bI to_=false)∨bB s=false):bS l s to_=(zL,1):=by
 unfold bS
 refine aa λh=>?_
 rcases c with (c|c)|c
 ·rw [h.1] at c;cases c
 ·rw [h.2.1] at c;cases c
 ·rw [h.2.2] at c;cases c
def NU (c:(bI l=true/\bI to_=true)/\bB s=true):bI l=true/\bI to_=true/\bB s=true:=⟨c.1.1,c.1.2,c.2⟩
def GK (c:bI l=true/\bI to_=true/\bB s=true) (c4:bO l.L s=0):bS l s to_=(l,0):=by
 unfold bS;rw [ab c,ab c4]
def NV (c:bI l=true/\bI to_=true/\bB s=true) (c4:¬bO l.L s=0) (c5:¬oQ (to_.K*bO l.L s)∨gO (bO l.L s) to_.L=false):bS l s to_=(zL,3):=by
 unfold bS;rw [ab c,aa c4,aa λh=>by rcases c5 with c5|c5;exact c5 h.1;rw [h.2] at c5;cases c5]
def Ji (c:bI l=true/\bI to_=true/\bB s=true) (c4:¬bO l.L s=0) (c5:oQ (to_.K*bO l.L s)/\gO (bO l.L s) to_.L=true):bS l s to_=mV (l.K+to_.K*bO l.L s) (mK (bO l.L s) (bE (lZ l s).L to_.L)):=by
 unfold bS;rw [ab c,aa c4,ab c5]
def zI:Ix:=⟨zL,bs [],[]⟩
def iT:Except Int Ix->Ix
 |.ok e=>e
 |.error _=>zI
variable {f:Lf->Lf×Int}
def Io {l:List Ix} {x:Ix} {done:List Ix} (h:l[k]? =some x) (hp:dR f l=bY done (dR f (l.drop k))) (hx:gM (sq f x)=0):dR f l=bY (done++[iT (sq f x)]) (dR f (l.drop (k+1))):=by
 obtain ⟨y,hy⟩:=zZz hx Qp
 rw [hy];exact zYu h hp hy
def Qs {l:List Ix} {x:Ix} {done:List Ix} (h:l[k]? =some x) (hp:dR f l=bY done (dR f (l.drop k))) (hx:¬gM (sq f x)=0):dR f l=.error (gM (sq f x)):=by
 cases hm:sq f x with
 |error y=>exact zYt h hp hm
 |ok y=>rw [hm] at hx;exact absurd rfl hx
variable {g:Lf->Lf×Int}
/-! ## What mapping keeps -/
def wv (h:f l=g l):fE f l=fE g l:=by unfold fE;rw [h]
def zYs {f g:Lf->Lf×Int}:∀{l:List Lf},(∀x,x∈l->f x=g x)->dQ f l=dQ g l
 |[],_=>rfl
 |x::r,h=>by rw [dQ,dQ,wv (h x uF),zYs λy hy=>h y Ac]
def MX {x:Ix} (h1:f x.Lin=g x.Lin) (h2:∀l,l∈x.At->f l=g l):sq f x=sq g x:=by
 rw [sq,sq,wv h1,zYs h2]
def x6 {f g:Lf->Lf×Int}:∀{l:List Ix},(∀x,x∈l->f x.Lin=g x.Lin/\∀y,y∈x.At->f y=g y)->dR f l=dR g l
 |[],_=>rfl
 |x::r,h=>by rw [dR,dR,MX (h x uF).1 (h x uF).2,x6 λy hy=>h y Ac]
def x4 {f g:Lf->Lf×Int}:∀{l:List Ex},(∀a,a∈l->pj f a=pj g a)->gH f l=gH g l
 |[],_=>by rw [gH,gH]
 |x::r,h=>by rw [gH,gH,h x uF,x4 λy hy=>h y Ac]
variable {P:Lf->Prop}
def MW (hfg:∀l,P l->f l=g l) (e:Ex) (h:e.allF P):pj f e=pj g e:=by
 induction e using Ex.ind with
 |_ e ih=>
  rw [zYw,zYw,wv (hfg _ (Ex.allF_lin h)),x6 λx hx=>⟨hfg _ (Ex.allF_ix h hx),λy hy=>hfg _ (Ex.allF_at h hx hy)⟩,x4 λa ha=>ih a ha (Ex.allF_arg h ha)]
/-! ## Ascending triples -/
def mM:Option nq->List Tr->Bool
 |_,[]=>true
 |p,t::r=>bB t.1&&Wo p t.1&&mM (some t.1) r
def MV {p:Option nq} {a b:nq} (h:Wo p a=true) (k:bF a b=true):Wo p b=true:=by
 cases p with
 |none=>rfl
 |some q=>exact Oh h k
def OB:∀(n:Nat) (p:Option nq) (a b:List Mono),a.length+b.length<=n->bN p a=true->bN p b=true->mM p (bE a b)=true
 |_,p,[],[],_,_,_=>rfl
 |0,_,_::_,_,h,_,_=>by simp at h
 |0,_,[],_::_,h,_,_=>by simp at h
 |n+1,p,x::r,[],h,ha,hb=>by
  simp only [bN,ae] at ha
  rw [S2,mM,ae,ae]
  exact ⟨⟨ha.1.1.1,ha.1.2⟩,OB n _ r [] Cb ha.2 rfl⟩
 |n+1,p,[],y::s,h,ha,hb=>by
  simp only [bN,ae] at hb
  rw [S0,mM,ae,ae]
  exact ⟨⟨hb.1.1.1,hb.1.2⟩,OB n _ [] s Cb rfl hb.2⟩
 |n+1,p,x::r,y::s,h,ha,hb=>by
  have ha0:=ha
  have hb0:=hb
  simp only [bN,ae] at ha hb
  rw [LX]
  cases h1:bF x.Name y.Name with
  |true=>
   rw [aB,mM,ae,ae]
   refine ⟨⟨ha.1.1.1,ha.1.2⟩,OB n _ r (y::s) Cb ha.2 ?_⟩
   simp only [bN,ae]
   exact ⟨⟨hb.1.1,h1⟩,hb.2⟩
  |false=>
   rw [aw]
   cases h2:bF y.Name x.Name with
   |true=>
    rw [aB,mM,ae,ae]
    refine ⟨⟨hb.1.1.1,hb.1.2⟩,OB n _ (x::r) s Cb ?_ hb.2⟩
    simp only [bN,ae]
    exact ⟨⟨ha.1.1,h2⟩,ha.2⟩
   |false=>
    rw [aw,mM,ae,ae]
    have e:x.Name=y.Name:=Oi h1 h2
    refine ⟨⟨ha.1.1.1,ha.1.2⟩,OB n _ r s Cb ha.2 ?_⟩
    show bN (some x.Name) s=true
    rw [e];exact hb.2
def KZ (b:Int):∀{p:Option nq} {l:List Tr},mM p l=true->mM p (mK b l)=true
 |_,[],_=>rfl
 |p,t::r,h=>by
  simp only [mM,ae] at h
  show mM p ((t.1,t.2.1,t.2.2*b)::mK b r)=true
  simp only [mM,ae]
  exact ⟨h.1,KZ b h.2⟩
def LF:∀{p:Option nq} {l:List Tr},mM p l=true->bN p (lP l)=true
 |_,[],_=>rfl
 |p,t::r,h=>by
  simp only [mM,ae] at h
  have ih:=LF h.2
  unfold lP at ih⊢
  rw [dt]
  by_cases c:rh (ti t)=0
  ·rw [ab c]
   exact yc ih λn hn=>MV h.1.2 hn
  ·rw [aa c]
   simp only [bN,ae,aA,ao]
   exact ⟨⟨⟨h.1.1,c⟩,h.1.2⟩,ih⟩
def zFz:∀(n:Nat) (a b:List Mono),a.length+b.length<=n->∀t,t∈bE a b->(∃m,m∈a/\m.Name=t.1)∨∃m,m∈b/\m.Name=t.1
 |_,[],[],_,t,ht=>by rw [zHt] at ht;cases ht
 |0,_::_,_,h,_,_=>by simp at h
 |0,[],_::_,h,_,_=>by simp at h
 |n+1,x::r,[],h,t,ht=>by
  rw [S2] at ht
  rcases ag.1 ht with rfl|ht
  ·exact .inl ⟨x,uF,rfl⟩
  ·rcases zFz n r [] Cb t ht with ⟨m,hm,e⟩|k
   ·exact .inl ⟨m,by simp [hm],e⟩
   ·exact .inr k
 |n+1,[],y::s,h,t,ht=>by
  rw [S0] at ht
  rcases ag.1 ht with rfl|ht
  ·exact .inr ⟨y,uF,rfl⟩
  ·rcases zFz n [] s Cb t ht with k|⟨m,hm,e⟩
   ·exact .inl k
   ·exact .inr ⟨m,by simp [hm],e⟩
 |n+1,x::r,y::s,h,t,ht=>by
  rw [LX] at ht
  have up:∀(a b:List Mono),(∀m,m∈a->m∈x::r)->(∀m,m∈b->m∈y::s)->((∃m,m∈a/\m.Name=t.1)∨∃m,m∈b/\m.Name=t.1)->(∃m,m∈x::r/\m.Name=t.1)∨∃m,m∈y::s/\m.Name=t.1:=by
   intro a b h1 h2 k
   rcases k with ⟨m,hm,e⟩|⟨m,hm,e⟩
   ·exact .inl ⟨m,h1 m hm,e⟩
   ·exact .inr ⟨m,h2 m hm,e⟩
  have self1:∀m,m∈x::r->m∈x::r:=λ_ h=>h
  have self2:∀m,m∈y::s->m∈y::s:=λ_ h=>h
  have tl1:∀m,m∈r->m∈x::r:=λm hm=>by simp [hm]
  have tl2:∀m,m∈s->m∈y::s:=λm hm=>by simp [hm]
  cases h1:bF x.Name y.Name with
  |true=>
   rw [h1,aB] at ht
   rcases ag.1 ht with rfl|ht
   ·exact .inl ⟨x,uF,rfl⟩
   ·exact up r (y::s) tl1 self2 (zFz n r (y::s) Cb t ht)
  |false=>
   rw [h1,aw] at ht
   cases h2:bF y.Name x.Name with
   |true=>
    rw [h2,aB] at ht
    rcases ag.1 ht with rfl|ht
    ·exact .inr ⟨y,uF,rfl⟩
    ·exact up (x::r) s self1 tl2 (zFz n (x::r) s Cb t ht)
   |false=>
    rw [h2,aw] at ht
    rcases ag.1 ht with rfl|ht
    ·exact .inl ⟨x,uF,rfl⟩
    ·exact up r s tl1 tl2 (zFz n r s Cb t ht)
def DS {l:List Tr} {m:Mono} (h:m∈lP l):oQ m.By:=by
 unfold lP at h
 obtain ⟨t,ht,e⟩:=iw.1 h
 by_cases c:rh (ti t)=0
 ·rw [ab c] at e;cases e
 ·rw [aa c] at e;injection e with e;subst e;exact w64_r _
/-! ## One form -/
def eE (l:Lf) (s:nq):Prop:=∃m,m∈l.L/\m.Name=s
def zf (l to_:Lf) (s:nq):(bS l s to_).1.L.length<=l.L.length+to_.L.length:=by
 unfold bS
 split
 ·split
  ·exact i8 _ _
  ·split
   ·unfold mV
    split
    ·show (lP (mK _ _)).length<=_
     have h1:=zKg (bO l.L s) (bE (lZ l s).L to_.L)
     have h2:=VH (lZ l s).L to_.L
     have h3:(lZ l s).L.length<=l.L.length:=dw _ _
     omega
    ·exact cb _
   ·exact cb _
 ·exact cb _
def zSf (s:nq) (hl:l.rng):(bS l s to_).1.rng:=by
 unfold bS
 split
 ·split
  ·exact hl
  ·split
   ·unfold mV
    split
    ·rename_i h;exact ⟨h.1,λm hm=>DS hm⟩
    ·exact Xh
   ·exact Xh
 ·exact Xh
def BT (h1:bI l=true) (h2:bI to_=true) (h3:bB s=true) (h:(bS l s to_).2=0):bI (bS l s to_).1=true:=by
 unfold bS at h⊢
 rw [ab ⟨h1,h2,h3⟩] at h⊢
 by_cases c:bO l.L s=0
 ·rw [ab c] at h⊢;exact h1
 ·rw [aa c] at h⊢
  by_cases d:oQ (to_.K*bO l.L s)/\gO (bO l.L s) to_.L=true
  ·rw [ab d] at h⊢
   unfold mV at h⊢
   split
   ·exact LF (KZ _ (OB _ none _ _ (aC _) (zMr _ h1) h2))
   ·rfl
  ·rw [aa d] at h⊢;rfl
def zIf:∀{q:nq} {l:List Mono},bN (some q) l=true->∀m,m∈l->bF q m.Name=true
 |_,[],_,m,hm=>by cases hm
 |q,x::r,h,m,hm=>by
  simp only [bN,ae] at h
  rcases ag.1 hm with rfl|hm
  ·exact h.1.2
  ·exact Oh h.1.2 (zIf h.2 m hm)
def H6 {l:List Mono} (h:bO l s≠0):∃m,m∈l/\m.Name=s/\m.By=bO l s:=by
 have key:∀(l:List Mono) (b:Int),l.foldl (λby_ m=>if m.Name=s then m.By else by_) b=b∨∃m,m∈l/\m.Name=s/\m.By=l.foldl (λby_ m=>if m.Name=s then m.By else by_) b:=by
  intro l
  induction l with
  |nil=>intro b;exact .inl rfl
  |cons x r ih=>
   intro b
   rw [cp]
   by_cases c:x.Name=s
   ·rw [ab c]
    rcases ih x.By with e|⟨m,hm,e1,e2⟩
    ·exact .inr ⟨x,uF,c,e.symm⟩
    ·exact .inr ⟨m,by simp [hm],e1,e2⟩
   ·rw [aa c]
    rcases ih b with e|⟨m,hm,e1,e2⟩
    ·exact .inl e
    ·exact .inr ⟨m,by simp [hm],e1,e2⟩
 rcases key l 0 with e|h2
 ·exact absurd e h
 ·exact h2
def xc (g:Lf->Lf) (x:Ix):Ix:=⟨g x.Lin,x.From,x.At.map g⟩
mutual
def qh (g:Lf->Lf):Ex->Ex
 |.mk o n v t l i arg_=>.mk o n v t (g l) (i.map (xc g)) (rP g arg_)
def rP (g:Lf->Lf):List Ex->List Ex
 |[]=>[]
 |a::r=>qh g a::rP g r
end
def E3 (g:Lf->Lf) (l:List Ex):rP g l=l.map (qh g):=by
 induction l with
 |nil=>rfl
 |cons a r ih=>rw [rP,ih];rfl
def Xj (g:Lf->Lf) (e:Ex):qh g e=.mk e.Op e.Name e.Val e.Ty (g e.Lin) (e.Idx.map (xc g)) (e.Args.map (qh g)):=by
 cases e;rw [qh,E3];rfl
def KS {f:Lf->Lf×Int}:∀{l r:List Lf},dQ f l=.ok r->r=l.map (λx=>(f x).1)/\∀x,x∈l->(f x).2=0
 |[],r,h=>by rw [dQ] at h;injection h with h;subst h;exact ⟨rfl,λx hx=>by cases hx⟩
 |a::t,r,h=>by
  rw [dQ] at h
  by_cases c:(f a).2=0
  ·rw [JG c] at h
   cases hm:dQ f t with
   |error y=>rw [hm] at h;cases h
   |ok u=>
    rw [hm] at h
    injection h with h
    subst h
    obtain ⟨h1,h2⟩:=KS hm
    exact ⟨by rw [h1];rfl,λx hx=>by rcases ag.1 hx with rfl|hx;exact c;exact h2 x hx⟩
  ·rw [VX c] at h;cases h
def mIx_g {x y:Ix} (h:sq f x=.ok y):y=xc (λl=>(f l).1) x/\(f x.Lin).2=0/\∀l,l∈x.At->(f l).2=0:=by
 rw [sq] at h
 by_cases c:(f x.Lin).2=0
 ·rw [JG c] at h
  cases hm:dQ f x.At with
  |error y=>rw [hm] at h;cases h
  |ok u=>
   rw [hm] at h
   injection h with h
   subst h
   obtain ⟨h1,h2⟩:=KS hm
   exact ⟨by rw [h1];rfl,c,h2⟩
 ·rw [VX c] at h;cases h
def Qr {f:Lf->Lf×Int}:∀{l r:List Ix},dR f l=.ok r->r=l.map (xc λx=>(f x).1)/\∀x,x∈l->(f x.Lin).2=0/\∀y,y∈x.At->(f y).2=0
 |[],r,h=>by rw [dR] at h;injection h with h;subst h;exact ⟨rfl,λx hx=>by cases hx⟩
 |a::t,r,h=>by
  rw [dR] at h
  cases h1:sq f a with
  |error y=>rw [h1] at h;cases h
  |ok a'=>
   rw [h1] at h
   cases hm:dR f t with
   |error y=>rw [hm] at h;cases h
   |ok u=>
    rw [hm] at h
    injection h with h
    subst h
    obtain ⟨k1,k2⟩:=mIx_g h1
    obtain ⟨k3,k4⟩:=Qr hm
    exact ⟨by rw [k1,k3];rfl,λx hx=>by rcases ag.1 hx with rfl|hx;exact k2;exact k4 x hx⟩
def yk (h1:∀l,l∈dH e->P l) (h2:∀a,a∈e.Args->a.allF P):e.allF P:=by
 exact v15
mutual
def Ft {f:Lf->Lf×Int}:∀{e e':Ex},pj f e=.ok e'->e'=qh (λl=>(f l).1) e/\e.allF λl=>(f l).2=0
 |.mk o n v t l i arg_,e',h=>by
  rw [pj] at h
  by_cases c:(f l).2=0
  ·rw [JG c] at h
   cases h1:dR f i with
   |error y=>rw [h1] at h;cases h
   |ok i'=>
    rw [h1] at h
    cases h2:gH f arg_ with
    |error y=>rw [h2] at h;cases h
    |ok as'=>
     rw [h2] at h
     injection h with h
     subst h
     obtain ⟨k1,k2⟩:=Qr h1
     obtain ⟨k3,k4⟩:=Qo h2
     refine ⟨by rw [qh,k1,k3,E3],yk ?_ k4⟩
     intro y hy
     unfold dH at hy
     rcases ag.1 hy with rfl|hy
     ·exact c
     ·obtain ⟨x,hx,hy⟩:=dm.1 hy
      rcases ag.1 hy with rfl|hy
      ·exact (k2 x hx).1
      ·exact (k2 x hx).2 y hy
  ·rw [VX c] at h;cases h
def Qo {f:Lf->Lf×Int}:∀{l r:List Ex},gH f l=.ok r->r=l.map (qh λl=>(f l).1)/\∀a,a∈l->a.allF λl=>(f l).2=0
 |[],r,h=>by rw [gH] at h;injection h with h;subst h;exact ⟨rfl,λx hx=>by cases hx⟩
 |a::t,r,h=>by
  rw [gH] at h
  cases h1:pj f a with
  |error y=>rw [h1] at h;cases h
  |ok a'=>
   rw [h1] at h
   cases hm:gH f t with
   |error y=>rw [hm] at h;cases h
   |ok u=>
    rw [hm] at h
    injection h with h
    subst h
    obtain ⟨k1,k2⟩:=Ft h1
    obtain ⟨k3,k4⟩:=Qo hm
    exact ⟨by rw [k1,k3];rfl,λx hx=>by rcases ag.1 hx with rfl|hx;exact k2;exact k4 x hx⟩
end
def Fu {f:Lf->Lf×Int} {c:Int}:∀{l:List Lf},dQ f l=.error c->∃x,x∈l/\(f x).2=c
 |[],h=>by rw [dQ] at h;cases h
 |a::t,h=>by
  rw [dQ] at h
  by_cases k:(f a).2=0
  ·rw [JG k] at h
   cases hm:dQ f t with
   |error y=>rw [hm] at h;injection h with h;subst h;obtain ⟨x,hx,e⟩:=Fu hm;exact ⟨x,by simp [hx],e⟩
   |ok u=>rw [hm] at h;cases h
  ·rw [VX k] at h;injection h with h;exact ⟨a,uF,h⟩
def YE {c:Int} {x:Ix} (h:sq f x=.error c):∃l,l∈sr x/\(f l).2=c:=by
 rw [sq] at h
 by_cases k:(f x.Lin).2=0
 ·rw [JG k] at h
  cases hm:dQ f x.At with
  |error y=>rw [hm] at h;injection h with h;subst h;obtain ⟨l,hl,e⟩:=Fu hm;exact ⟨l,by simp [sr,hl],e⟩
  |ok u=>rw [hm] at h;cases h
 ·rw [VX k] at h;injection h with h;exact ⟨x.Lin,by simp [sr],h⟩
def KR {f:Lf->Lf×Int} {c:Int}:∀{l:List Ix},dR f l=.error c->∃x,x∈l.flatMap sr/\(f x).2=c
 |[],h=>by rw [dR] at h;cases h
 |a::t,h=>by
  rw [dR] at h
  cases k:sq f a with
  |error y=>rw [k] at h;injection h with h;subst h;obtain ⟨l,hl,e⟩:=YE k;exact ⟨l,by rw [cc];exact d7 _ hl,e⟩
  |ok a'=>
   rw [k] at h
   cases hm:dR f t with
   |error y=>rw [hm] at h;injection h with h;subst h;obtain ⟨x,hx,e⟩:=KR hm;exact ⟨x,by rw [cc];exact dp _ hx,e⟩
   |ok u=>rw [hm] at h;cases h
def YD {P:Int->Prop} (e:Ex) (hP:e.allF λl=>P (f l).2):∀c,pj f e=.error c->P c:=by
 induction e using Ex.ind with
 |_ e ih=>
  intro c h
  rw [zYw] at h
  by_cases k:(f e.Lin).2=0
  ·rw [JG k] at h
   cases h1:dR f e.Idx with
   |error y=>
    rw [h1] at h;injection h with h;subst h
    obtain ⟨x,hx,e2⟩:=KR h1
    have:=hP e ZM x (by unfold dH;exact aH _ hx)
    have this:P (f x).2:=this
    rw [e2] at this;exact this
   |ok i'=>
    rw [h1] at h
    cases h2:gH f e.Args with
    |error y=>
     rw [h2] at h;injection h with h;subst h
     have key:∀l:List Ex,(∀a,a∈l->a∈e.Args)->gH f l=.error y->P y:=by
      intro l
      induction l with
      |nil=>intro _ h;rw [gH] at h;cases h
      |cons a t iht=>
       intro hl h
       rw [gH] at h
       cases k2:pj f a with
       |error z=>rw [k2] at h;injection h with h;subst h;exact ih a (hl a uF) (Ex.allF_arg hP (hl a uF)) _ k2
       |ok a'=>
        rw [k2] at h
        cases hm:gH f t with
        |error z=>rw [hm] at h;injection h with h;subst h;exact iht (λb hb=>hl b Vx) hm
        |ok u=>rw [hm] at h;cases h
     exact key e.Args (λa h=>h) h2
    |ok as'=>rw [h2] at h;cases h
  ·rw [VX k] at h;injection h with h;subst h
   exact hP e ZM _ (by unfold dH;simp)
/-! ## What stays -/
def TZ (g:Lf->Lf) (e:Ex):dH (qh g e)=(dH e).map g:=by
 rw [Xj]
 show g e.Lin::(e.Idx.map (xc g)).flatMap (λx=>x.Lin::x.At)=(e.Lin::e.Idx.flatMap λx=>x.Lin::x.At).map g
 rw [aG]
 congr 1
 induction e.Idx with
 |nil=>rfl
 |cons x r ih=>rw [aG,cc,cc,ah,ih];rfl
mutual
def K6 (g:Lf->Lf):∀e:Ex,dE (qh g e)=(dE e).map (qh g)
 |.mk o n v t l i arg_=>by rw [qh,dE,dE,FH g arg_,aG,qh]
def FH (g:Lf->Lf):∀l:List Ex,bT (rP g l)=(bT l).map (qh g)
 |[]=>by rw [rP,bT];rfl
 |a::r=>by rw [rP,bT,bT,K6 g a,FH g r,ah]
end
def Y5 {g:Lf->Lf} (h:e.allF λl=>P (g l)):(qh g e).allF P:=by
 intro x hx l hl
 rw [K6] at hx
 obtain ⟨y,hy,rfl⟩:=aY.1 hx
 rw [TZ] at hl
 obtain ⟨k,hk,rfl⟩:=aY.1 hl
 exact h y hy k hk
def B4 (h:dT e=0):e.allF λl=>bI l=true:=by
 intro x hx l hl
 have:=(zNx (zRk (VG h) x hx)).2.2.2.2
 unfold mD at this
 rw [ae] at this
 exact aT.1 this.2 l hl
/-! ## Weights -/
structure PO {α:Type} (f:α->α->Int) (a:α):Prop where
 anti:∀b,f b a= -f a b
 rng:∀b,-1<=f a b/\f a b<=1
 cong:∀b,f a b=0->∀c,f a c=f b c
 cong':∀b c,f b c=0->f a b=f a c
 trans:∀b c,f a b<0->f b c<0->f a c<0
variable {α:Type}
def PO.zero (a:α):PO (λ_ _=>0) a:=
 ⟨λ_=>rfl,λ_=>⟨by show (-1:Int)<=0;omega,by show (0:Int)<=1;omega⟩,λ_ _ _=>rfl,λ_ _ _=>rfl,λ_ _ h _=>h⟩
/-! ## Short names -/
def IB {x:Ex} (h:e.Args[k]? =some x):(bT (e.Args.take k)).length+(dE x).length+1<=(dE e).length:=by
 have:=ai List.length (yl h (x:=x) (pre:=[]) (suf:=bT x.Args) (by rw [G8];rfl))
 rw [G8 x]
 simp only [qp,pw,qw] at this⊢
 omega
/-! ## Replacing -/
def iV (l:Lf):List nq:=l.L.map Mono.Name
def iU (x:Ex):List nq:=(dH x).flatMap iV
def iW (l:List Ex):List nq:=l.flatMap iU
def nQ:List nq->nq->List nq
 |[],s=>[s]
 |x::r,s=>if bF x s=true then x::nQ r s else if x=s then x::r else s::x::r
def jC (l:List nq) (m:List nq):List nq:=m.foldl nQ l
def below (s:nq) (x:nq):Bool:=bF x s
def E9:∀{l:List nq} {s:nq},l.all (below s)=true->nQ l s=l++[s]
 |[],s,_=>rfl
 |x::r,s,h=>by
  simp only [bm,ae] at h
  rw [nQ,ab (show bF x s=true from h.1),E9 h.2];rfl
def Fc:∀{l:List nq} {s x:nq} {k:Nat},(l.take k).all (below s)=true->l[k]? =some x->bF x s=false->¬x=s->nQ l s=l.take k++s::l.drop k
 |[],s,x,k,_,h,_,_=>by simp at h
 |y::r,s,x,0,_,h,h2,h3=>by
  have hx:y=x:=by simpa using h
  subst hx
  rw [nQ,aa Ca,aa h3];rfl
 |y::r,s,x,k+1,h0,h,h2,h3=>by
  simp only [av,bm,ae] at h0
  rw [nQ,ab (show bF y s=true from h0.1),Fc h0.2 tk h2 h3];rfl
def zNe (x:nq) (r:List nq) (s:nq):bQ (x::r) s=(decide (x=s)||bQ r s):=rfl
def xj (t:nq):∀(l:List nq) (s:nq),bQ (nQ l s) t=(bQ l t||decide (s=t))
 |[],s=>by simp [nQ,bQ]
 |x::r,s=>by
  rw [nQ]
  split
  ·rw [zNe,zNe,xj t r s,Bool.or_assoc]
  ·split
   ·rename_i h;subst h;rw [zNe];cases decide (x=t)<;>simp
   ·rw [zNe s,Bool.or_comm]
def Bk (t:nq):∀(m l:List nq),bQ (jC l m) t=(bQ l t||bQ m t)
 |[],l=>by simp [jC,bQ]
 |x::m,l=>by
  have:=Bk t m (nQ l x)
  unfold jC at *
  rw [cp,this,xj,zNe,Bool.or_assoc]
def Fa:∀(l:List nq) (s:nq),(nQ l s).length<=l.length+1
 |[],s=>by simp [nQ]
 |x::r,s=>by
  rw [nQ]
  have:=Fa r s
  split
  ·simp;omega
  ·split<;>simp
def Bl:∀(m l:List nq),(jC l m).length<=l.length+m.length
 |[],l=>by simp [jC]
 |x::m,l=>by
  have h1:=Bl m (nQ l x)
  have h2:=Fa l x
  unfold jC at *
  rw [cp,pw];omega
def CW (l a b:List nq):jC l (a++b)=jC (jC l a) b:=by unfold jC;rw [du]
def Ti (l:List nq) (k:Nat):nq:=l.getD k (bs [])
def Cq {l:List nq} (h:k<l.length):l[k]? =some (Ti l k):=by
 rw [ak h];simp [Ti,List.getD,ak h]
def xm (m:List nq):(jC [] m).length<=m.length:=by have:=Bl m [];simpa using this
def LY {l:List nq}:bQ l s=true↔s∈l:=by
 unfold bQ;rw [cn]
 constructor
 ·rintro ⟨x,hx,h⟩;rw [aj] at h;rw [<-h];exact hx
 ·intro h;exact ⟨s,h,uF⟩
def oA (e:Ex):List nq:=jC [] (iW (dE e))
def Iy {N:Ex->List Ty->Ty×Int} (h:(bP N e).2=0):(bG N e.Args).2=0/\bP N e=N e (bG N e.Args).1:=by
 rw [zNy] at h⊢
 by_cases c:(bG N e.Args).2=0
 ·rw [ab c] at h⊢;exact ⟨c,rfl⟩
 ·rw [aa c] at h;exact absurd h c
def Iw {N:Ex->List Ty->Ty×Int} {a:Ex} {r:List Ex} (h:(bG N (a::r)).2=0):(bP N a).2=0/\(bG N r).2=0/\(bG N (a::r)).1=(bP N a).1::(bG N r).1:=by
 rw [bG] at h⊢
 by_cases c:(bP N a).2=0
 ·rw [ab c] at h⊢
  by_cases d:(bG N r).2=0
  ·rw [ab d];exact ⟨c,d,rfl⟩
  ·rw [aa d] at h;exact absurd h d
 ·rw [aa c] at h;exact absurd h c
section
variable {fr:Ex->Bool} {o_:List nq} {e a b c:Ex}
end
/-! ## Weights -/
section
variable {n:En} {o_:List nq} {e:Ex} {t:Ty×Int}
end
def zr (h:(bK p).2=0):∀d,d∈p.Defs->bB d.Name=true:=by
 rw [Sw] at h
 obtain ⟨a',h5,_⟩:=Z4 p p rfl p.Params _ _ (W4 h).2.2.2
 intro d hd
 obtain ⟨i,hi⟩:=bh hd
 have h1:=zLc p p.Defs _ _ _ h5 i d hi
 have h2:dJ d.Name ((p.Sizes++p.Params.map Pm.Name)++(p.Defs.take i).map Df.Name)=0:=ct λc=>by rw [wa c] at h1;exact c h1
 unfold dJ at h2
 by_cases g:bB d.Name=true
 ·exact g
 ·rw [aa g] at h2;exact absurd h2 uA
def zQu (h:bB s=true):s.size<=16:=by
 rcases bz 16 s.size with c|c
 ·rw [yd (by rw [aD,aD];exact .inl (.inr (al zB)))] at h;cases h
 ·exact c
section
variable {p:Pg} {o_:List nq} {R:List Df×List nq×Int}
end
section
variable {n:En} {d:Df} {A:List nq} {X:Ex×Int}
end
def V6 (d:Df):Nat:=d.Dims.length+d.Red.length+jA d.Body 1500
def Hh:List Df->Nat->Nat
 |[],n=>n
 |d::r,n=>if n<=1500 then Hh r (n+V6 d) else n
def Lx:List Pm->Nat->Nat
 |[],n=>n
 |x::r,n=>if n<=1500 then Lx r (n+x.Dims.length) else n
def xY (p:Pg):Bool:=((((!decide (40<p.Params.length)&& !decide (40<p.Defs.length))&& !decide (40<p.Outs.length))&& !decide (80<p.Sizes.length))&& !decide (80<p.Where.length))
def cH (p:Pg):Bool:=xY p&&decide (Lx p.Params (Hh p.Defs 0)<=1500)
def Ry:∀(l:List Df) (n:Nat),n<=Hh l n
 |[],n=>aC _
 |d::r,n=>by
  rw [Hh]
  split
  ·have:=Ry r (n+V6 d);omega
  ·exact aC _
def Jd:∀(l:List Pm) (n:Nat),n<=Lx l n
 |[],n=>aC _
 |d::r,n=>by
  rw [Lx]
  split
  ·have:=Jd r (n+d.Dims.length);omega
  ·exact aC _
def Lv:∀(l:List Df) (n:Nat),Hh l n<=1500->∀d,d∈l->V6 d<=1500
 |x::r,n,h,d,hd=>by
  rw [Hh] at h
  by_cases c:n<=1500
  ·rw [ab c] at h
   rcases ag.1 hd with rfl|hd
   ·have:=Ry r (n+V6 d);omega
   ·exact Lv r _ h d hd
  ·rw [aa c] at h;exact absurd h c
def Ly:∀(l:List Pm) (n:Nat),Lx l n<=1500->∀d,d∈l->d.Dims.length<=1500
 |x::r,n,h,d,hd=>by
  rw [Lx] at h
  by_cases c:n<=1500
  ·rw [ab c] at h
   rcases ag.1 hd with rfl|hd
   ·have:=Jd r (n+d.Dims.length);omega
   ·exact Ly r _ h d hd
  ·rw [aa c] at h;exact absurd h c
def Rz {l:List Df} {N:Nat} (h:l[k]? =some d) (hp:N=Hh (l.drop k) n) (c:n<=1500):N=Hh (l.drop (k+1)) (n+V6 d):=by
 rw [hp,qN h,Hh,ab c]
def Vb {l:List Df} {N:Nat} (hp:N=Hh (l.drop k) n) (c:¬(k<l.length/\n<=1500)):N=n:=by
 rw [hp]
 by_cases h:k<l.length
 ·obtain ⟨x,hx⟩:=qX l k h
  rw [qN hx,Hh,aa (λd=>c ⟨h,d⟩)]
 ·rw [kN h,Hh]
def RA {l:List Pm} {N:Nat} {d:Pm} (h:l[k]? =some d) (hp:N=Lx (l.drop k) n) (c:n<=1500):N=Lx (l.drop (k+1)) (n+d.Dims.length):=by
 rw [hp,qN h,Lx,ab c]
def Vc {l:List Pm} {N:Nat} (hp:N=Lx (l.drop k) n) (c:¬(k<l.length/\n<=1500)):N=n:=by
 rw [hp]
 by_cases h:k<l.length
 ·obtain ⟨x,hx⟩:=qX l k h
  rw [qN hx,Lx,aa (λd=>c ⟨h,d⟩)]
 ·rw [kN h,Lx]
structure Pg.Frm (p:Pg):Prop where
 whs:∀c,c∈p.Where->c.Lin.L.length<=5864062014805
 ps:∀x,x∈p.Params->∀l,l∈x.Dims->l.L.length<=5864062014805
 ds:∀d,d∈p.Defs->(∀a,a∈d.Dims->a.Size.L.length<=5864062014805)/\∀a,a∈d.Red->a.Size.L.length<=5864062014805
structure Pg.Sm (p:Pg):Prop where
 sizes:p.Sizes.length<=80
 wh:p.Where.length<=80
 params:p.Params.length<=40
 defs:p.Defs.length<=40
 outs:p.Outs.length<=40
 frm:p.Frm
 ps:∀x,x∈p.Params->x.Dims.length<=1500
 ds:∀d,d∈p.Defs->d.Dims.length<=1500/\d.Red.length<=1500/\d.Body.wt<=1500
def Zl (h:cH p=true) (hf:p.Frm):p.Sm:=by
 unfold cH xY at h
 simp only [ae,aA,ao,aj] at h
 obtain ⟨⟨⟨⟨⟨h1,h2⟩,h3⟩,h4⟩,h5⟩,h6⟩:=h
 refine ⟨zB,zB,zB,zB,zB,hf,Ly _ _ h6,λd hd=>?_⟩
 have h7:=Lv p.Defs 0 (aL (Jd _ _) h6) d hd
 unfold V6 at h7
 have:=zPx d.Body 1500 zB
 exact ⟨zB,zB,zB⟩
def Pg.Sm.ok (h:p.Sm):p.Ok:=
 ⟨aL h.sizes uA,aL h.wh uA,aL h.params uA,aL h.defs uA,aL h.outs uA,h.frm.whs,
  λx hx=>⟨aL (h.ps x hx) uA,h.frm.ps x hx⟩,
  λd hd=>⟨aL (h.ds d hd).1 uA,aL (h.ds d hd).2.1 uA,(h.frm.ds d hd).1,(h.frm.ds d hd).2,aL (h.ds d hd).2.2 uA⟩⟩
/-! ## What the loop over the definitions makes is small -/
def Pg.Sm.df (h:p.Sm) (hd:d∈p.Defs):d.Dims.length<=1500/\d.Red.length<=1500/\(∀a,a∈d.Dims->a.Size.L.length<=5864062014805)/\(∀a,a∈d.Red->a.Size.L.length<=5864062014805)/\d.Body.wt<=1500:=
 ⟨(h.ds d hd).1,(h.ds d hd).2.1,(h.frm.ds d hd).1,(h.frm.ds d hd).2,(h.ds d hd).2.2⟩
/-! ## Numerals -/
/-! ## Occurrences -/
def axsN (d:Df) (e:Ex):List Ax:=(d.Dims++d.Red).filter λa=>bQ (oA e) a.Name
structure Cl where
 e:Ex
 axes:List Ax
 first:Nat
 n:Nat
 deriving DecidableEq
structure Cl.Ok (c:Cl) (D:List Df):Prop where
 op:3<c.e.Op
 cond:bV c.e=false
 axes:c.axes.length<=6
 n:1<=c.n
 first:∃d,D[c.first]? =some d/\c.e∈dE d.Body/\c.axes=axsN d c.e
def Ex.ops (e:Ex):Prop:=∀x,x∈dE e->1<=x.Op
/-! ## A class begins with its first occurrence -/
/-! ## Ascending monomials -/
def xM (l:List Mono):Prop:=l.Pairwise λa b=>bF a.Name b.Name=true
def zYp:∀{p:Option nq} {l:List Mono},bN p l=true->xM l
 |_,[],_=>List.Pairwise.nil
 |p,x::r,h=>by
  simp only [bN,ae] at h
  exact List.Pairwise.cons (λm hm=>zIf h.2 m hm) (zYp h.2)
def Cp {x y:nq} (h:bF x y=true):x≠y:=by rintro rfl;rw [OA] at h;cases h
def JI {x y:nq} (h:bF x y=true):bF y x=false:=by
 cases k:bF y x with
 |false=>rfl
 |true=>have:=Oh h k;rw [OA] at this;cases this
def Co:∀{a b:List Mono},xM a->xM b->(∀m,m∈a↔m∈b)->a=b
 |[],[],_,_,_=>rfl
 |[],y::s,_,_,h=>by have:=(h y).2 uF;cases this
 |x::r,[],_,_,h=>by have:=(h x).1 uF;cases this
 |x::r,y::s,ha,hb,h=>by
  unfold xM at ha hb
  rw [ee] at ha hb
  have hxy:x=y:=by
   rcases ag.1 ((h x).1 uF) with e|e
   ·exact e
   ·rcases ag.1 ((h y).2 uF) with e2|e2
    ·exact e2.symm
    ·have h1:=hb.1 x e
     have h2:=ha.1 y e2
     rw [JI h1] at h2;cases h2
  subst hxy
  rw [Co (a:=r) (b:=s) ha.2 hb.2 λm=>?_]
  constructor
  ·intro hm
   rcases ag.1 ((h m).1 Sl) with e|e
   ·subst e;exact absurd rfl (Cp (ha.1 m hm))
   ·exact e
  ·intro hm
   rcases ag.1 ((h m).2 Sl) with e|e
   ·subst e;exact absurd rfl (Cp (hb.1 m hm))
   ·exact e
def L5 {l:List Mono} (h:xM l):(l.map Mono.Name).Nodup:=by
 unfold List.Nodup
 rw [e8]
 exact h.imp λh=>Cp h
def jS (l:List Mono):List Mono:=l.mergeSort λa b=> !bF b.Name a.Name
def zXh {l:List Mono} {m:Mono}:m∈jS l↔m∈l:=(jr l _).mem_iff
def zXi (l:List Mono):(jS l).length=l.length:=(jr l _).length_eq
def BQ {l:List Mono} (h:(l.map Mono.Name).Nodup):xM (jS l):=by
 have h1:(jS l).Pairwise λa b=>(!bF b.Name a.Name)=true:=by
  apply List.pairwise_mergeSort
  ·intro a b c hab hbc
   simp only [aA] at hab hbc⊢
   cases k:bF c.Name a.Name with
   |false=>rfl
   |true=>
    cases k2:bF c.Name b.Name with
    |true=>rw [k2] at hbc;cases hbc
    |false=>
     cases k3:bF b.Name c.Name with
     |true=>have:=Oh k3 k;rw [this] at hab;cases hab
     |false=>have e:=Oi k2 k3;rw [<-e,k] at hab;cases hab
  ·intro a b
   cases k:bF b.Name a.Name with
   |false=>simp
   |true=>simp [JI k]
 have h2:((jS l).map Mono.Name).Nodup:=((jr l _).map Mono.Name).nodup_iff.2 h
 unfold List.Nodup at h2
 rw [e8] at h2
 unfold xM
 refine (h1.and h2).imp fun {a b} hh=>?_
 cases k:bF a.Name b.Name with
 |true=>rfl
 |false=>exact absurd (Oi k (by simpa using hh.1)) hh.2
/-! ## Names exchanged -/
def ixB (A:List nq) (s:nq):Int:=fA (λx=>decide (x=s)) A
def mJ (A B:List nq) (s:nq):nq:=if 0<=ixB B s then A.getD (ixB B s).toNat (bs []) else s
variable {A:List nq}
def PX (h:s ∉ A):ixB A s= -1:=zDz (by rw [ek];intro x hx hh;exact h (by simpa using (show x=s by simpa using hh) ▸ hx))
def CX (hn:A.Nodup) (h:A[k]? =some s):ixB A s=(k:Nat):=by
 refine zGk h uF ?_
 rw [ek]
 intro x hx hh
 have e:x=s:=by simpa using hh
 subst e
 obtain ⟨j,hj,hj2⟩:=List.mem_iff_getElem.1 hx
 rw [ap] at hj
 have hk:k<A.length:=by
  rcases bz k A.length with h1|h1
  ·exact h1
  ·rw [cy h1] at h;cases h
 rw [mu] at hj2
 rw [ak hk] at h
 injection h with h
 exact (ix.1 hn) j k zB hk zB (by rw [hj2,h])
def YO (h:s∈A):∃k:Nat,A[k]? =some s:=bh h
variable {B:List nq}
def DI (h:s ∉ B):mJ A B s=s:=by unfold mJ;rw [PX h,aa uA]
def DH {t:nq} (hB:B.Nodup) (h:B[k]? =some s) (hA:A[k]? =some t):mJ A B s=t:=by
 unfold mJ
 rw [CX hB h,ab zB]
 simp [hA]
def uT {l:List α} {x:α} (h:l[k]? =some x):k<l.length:=by
 rcases bz k l.length with h1|h1
 ·exact h1
 ·rw [cy h1] at h;cases h
def Gj (hA:A.Nodup) (hB:B.Nodup) (hl:A.length=B.length) (h:s ∉ B->s ∉ A):mJ B A (mJ A B s)=s:=by
 by_cases c:s∈B
 ·obtain ⟨k,hk⟩:=YO c
  have hkl:=uT hk
  have ha:A[k]? =some (A[k]'zB):=ak zB
  rw [DH hB hk ha,DH hA ha hk]
 ·rw [DI c,DI (h c)]
def gP (A B:List nq) (l:Lf):Lf:=⟨l.K,jS (l.L.map λm=>⟨mJ A B m.Name,m.By⟩)⟩
section
variable {A B:List nq}
def sC (A B:List nq) (l:Lf):Prop:=bI l=true/\∀m,m∈l.L->m.Name ∉ B->m.Name ∉ A
end
/-! ## Definitions -/
def ye (d:Df):(bD d).length=d.Dims.length+d.Red.length:=by unfold bD;simp
structure twnOk (a b:Df):Prop where
 na:(bD a).Nodup
 nb:(bD b).Nodup
 fa:a.Body.allF λl=>bI l=true
 fb:b.Body.allF (sC (bD a) (bD b))
def BD (h:dJ s t=0):s ∉ t:=λhm=>by
 unfold dJ at h
 by_cases c:bB s=true
 ·rw [ab c,ab (LY.2 hm)] at h;cases h
 ·rw [aa c] at h;cases h
def Eg {sz:List nq}:∀(l:List Ax) (t:List nq),jU sz t l=0->(l.map Ax.Name).Nodup/\∀a,a∈l->a.Name ∉ t
 |[],t,_=>⟨iv,λa ha=>by cases ha⟩
 |x::r,t,h=>by
  rw [jU] at h
  by_cases c:dJ x.Name t=0
  ·rw [ab c] at h
   by_cases c2:jE x.Size sz=0
   ·rw [ab c2] at h
    obtain ⟨h1,h2⟩:=Eg r _ h
    refine ⟨?_,λa ha=>?_⟩
    ·rw [aG,co]
     refine ⟨λhm=>?_,h1⟩
     obtain ⟨a,ha,e⟩:=aY.1 hm
     exact h2 a ha (by rw [e];simp)
    ·rcases ag.1 ha with rfl|ha
     ·exact BD c
     ·exact λhm=>h2 a ha (d7 _ hm)
   ·rw [aa c2] at h;exact absurd h c2
  ·rw [aa c] at h;exact absurd h c
def AU {n:En} (h:nM n d t=0):jU n.sz n.sz (d.Dims++d.Red)=0:=by
 have h1:dJ d.Name t=0:=ct λc=>by rw [wa c] at h;exact c h
 have h2:dO d.T=true:=by
  cases c:dO d.T with
  |true=>rfl
  |false=>rw [uy h1 c] at h;cases h
 have h3:¬(6<d.Dims.length∨6<d.Red.length):=λc=>by rw [uz h1 h2 c] at h;cases h
 rw [Cw h1 h2 h3] at h
 exact ct λc=>by rw [aa c] at h;exact c h
def CY {k:nq->Bool} {l:List Mono} (h:rc k l=true):∀m,m∈l->k m.Name=true:=λm hm=>aT.1 h m hm
def E0 {k:nq->Bool} (h:nI k l=0):rc k l.L=true:=by
 unfold nI at h
 cases c:rc k l.L with
 |true=>rfl
 |false=>rw [c] at h;cases h
def Mn {k:nq->Bool} {l:List Lf} (h:mC k l=0):∀x,x∈l->rc k x.L=true:=by
 unfold mC at h
 cases c:l.all (λx=>rc k x.L) with
 |true=>exact aT.1 c
 |false=>rw [c] at h;cases h
def L4 (h:rC l=true):l.L=[]:=by
 unfold rC at h
 simp only [ae,aj] at h
 exact bi zB
def zZh {n:En} {k:nq->Bool}:∀l:List Ix,fS n k l=0->∀x,x∈l->dN n k x=0
 |[],_,x,hx=>by cases hx
 |y::r,h,x,hx=>by
  rw [fS] at h
  by_cases c:dN n k y=0
  ·rw [al c,aB] at h
   rcases ag.1 hx with rfl|hx
   ·exact c
   ·exact zZh r h x hx
  ·rw [am c,aw] at h;exact absurd h c
def MA {n:En} {k:nq->Bool} {x:Ix} (hw:lW x=true) (h:dN n k x=0):∀l,l∈x.Lin::x.At->∀m,m∈l.L->k m.Name=true:=by
 unfold lW at hw
 unfold dN at h
 by_cases c:x.From=bs []
 ·rw [al c,aB] at hw h
  have hA:x.At=[]:=bi (by have:=ca hw;omega)
  intro l hl
  rw [hA,aR] at hl
  subst hl
  exact CY (E0 h)
 ·rw [am c,aw] at hw h
  cases c1:(n.find x.From).ok with
  |false=>rw [c1] at h;cases h
  |true=>
   rw [c1,aU,aw] at h
   by_cases c2:(n.find x.From).ty.Kind=3
   ·rw [al c2,aU,aw] at h
    by_cases c3:x.At.length=(n.find x.From).dims.length
    ·rw [al c3,aU,aw] at h
     intro l hl m hm
     rcases ag.1 hl with rfl|hl
     ·rw [L4 hw] at hm;cases hm
     ·exact CY (Mn h l hl) m hm
    ·rw [am c3,cf,aB] at h;cases h
   ·rw [am c2,cf,aB] at h;cases h
def IA {n:En} {k:nq->Bool} {tys:List Ty} (hs:jX e=true) (h:(qd n k e tys).2=0):∀l,l∈dH e->∀m,m∈l.L->k m.Name=true:=by
 unfold jX at hs
 simp only [ae,aA,bk,ax,ey,aj,ao,rl] at hs
 obtain ⟨⟨⟨⟨⟨_,_⟩,_⟩,h4⟩,h5⟩,h6⟩:=hs
 intro l hl m hm
 unfold dH at hl
 rcases ag.1 hl with rfl|hl
 ·by_cases c:e.Op=2
  ·unfold qd at h
   rw [aa zB,ab c] at h
   exact CY (E0 h) m hm
  ·rcases h4 with h4|h4
   ·exact absurd h4 c
   ·rw [L4 h4] at hm;cases hm
 ·obtain ⟨x,hx,hlx⟩:=dm.1 hl
  have h3:e.Op=3:=by
   rcases h5 with h5|h5
   ·exact h5
   ·have:=je hx
    exact absurd (show (0:Int)<e.Idx.length by omega) (by simpa using h5.2)
  unfold qd at h
  rw [aa zB,aa zB,ab h3] at h
  exact MA (h6 x hx) (zZh _ (yv h).2.2 x hx) l hlx m hm
def yg {N:Ex->List Ty->Ty×Int}:∀l:List Ex,(bG N l).2=0->∀a,a∈l->(bP N a).2=0
 |[],_,a,ha=>by cases ha
 |x::r,h,a,ha=>by
  obtain ⟨h1,h2,_⟩:=Iw h
  rcases ag.1 ha with rfl|ha
  ·exact h1
  ·exact yg r h2 a ha
def Js {n:En} {k:nq->Bool} (e:Ex):(∀x,x∈dE e->dC x=0)->(bP (qd n k) e).2=0->e.allF λl=>∀m,m∈l.L->k m.Name=true:=by
 induction e using Ex.ind with
 |_ e ih=>
  intro hn h
  obtain ⟨h1,h2⟩:=Iy h
  rw [h2] at h
  exact yk (IA (zNx (hn e (by rw [G8];exact bp))).1 h) λa ha=>
   ih a ha (λx hx=>hn x (by rw [G8];exact aH _ (zYj ha hx))) (yg _ h1 a ha)
def zXe {n:En} (h:(jB n vars e).2=0):e.allF λl=>∀m,m∈l.L->qt n.sz vars m.Name=true:=by
 obtain ⟨h1,_,h3⟩:=zLx h
 exact Js e (zRk (VG h1)) h3
def zq (h:(bK p).2=0):∀d,d∈p.Defs->(bD d).Nodup/\∀s,s∈bD d->s ∉ p.Sizes:=by
 rw [Sw] at h
 obtain ⟨a',h5,_⟩:=Z4 p p rfl p.Params _ _ (W4 h).2.2.2
 intro d hd
 obtain ⟨i,hi⟩:=bh hd
 have h1:=AU (zLc p p.Defs _ _ _ h5 i d hi)
 obtain ⟨h2,h3⟩:=Eg _ _ h1
 have e:bD d=(d.Dims++d.Red).map Ax.Name:=by unfold bD;rw [ah]
 rw [e]
 refine ⟨h2,λs hs=>?_⟩
 obtain ⟨a,ha,rfl⟩:=aY.1 hs
 exact h3 a ha
abbrev Ed:Type:=List (nq×nq)
def Bz (m:Ed) (k s a:nq):fX (fR m k a) s=if k=s then some a else fX m s:=by
 induction m with
 |nil=>rfl
 |cons q r ih=>
  obtain ⟨k',b⟩:=q
  rw [fR]
  split
  ·next h=>subst h;simp only [fX];split<;>rfl
  ·next h=>
   simp only [fX]
   rw [ih]
   split
   ·next h2=>subst h2;rw [aa (λe=>h e.symm)]
   ·rfl
def cT (A B:List nq) (k:Nat):Ed:=((B.zip A).take k).foldl (λm q=>fR m q.1 q.2) []
def A6 (s:nq):∀(l:Ed) (m:Ed),(l.map Prod.fst).Nodup->fX (l.foldl (λm q=>fR m q.1 q.2) m) s=(match l.find? λq=>decide (q.1=s) with|some q=>some q.2|none=>fX m s)
 |[],m,_=>rfl
 |q::r,m,h=>by
  rw [cp,A6 s r _ (by rw [aG,co] at h;exact h.2),List.find?_cons]
  rw [aG,co] at h
  by_cases c:q.1=s
  ·have hn:r.find? (λq=>decide (q.1=s))=none:=by
    rw [mj]
    intro x hx hh
    exact h.1 (by rw [c,<-ca hh];exact gd hx)
   rw [hn,al c,Bz,ab c]
  ·rw [am c,Bz,aa c]
def MZ (hB:B.Nodup) (hl:A.length=B.length) (hk:¬k<B.length) (s:nq):(fX (cT A B k) s).getD s=mJ A B s:=by
 unfold cT
 rw [yG (by rw [ii];omega),A6 s _ _ (by rw [List.map_fst_zip zB];exact hB)]
 by_cases c:s∈B
 ·obtain ⟨i,hi⟩:=bh c
  have hiB:=uT hi
  have hA:A[i]? =some (A[i]'zB):=ak zB
  rw [DH hB hi hA]
  cases hf:(B.zip A).find? (λq=>decide (q.1=s)) with
  |none=>
   rw [mj] at hf
   exact absurd (by simp:decide (s=s)=true) (hf (s,A[i]'zB) (by rw [List.mem_iff_getElem?];exact ⟨i,by rw [gb];exact ⟨hi,hA⟩⟩))
  |some q=>
   have h1:=nl hf
   have h2:=ky hf
   obtain ⟨j,hj⟩:=bh h2
   rw [gb] at hj
   have e1:q.1=s:=ca h1
   have hjB:=uT hj.1
   have e2:j=i:=by
    have e3:=CX hB hi
    have e4:=CX (s:=s) hB (e1 ▸ hj.1)
    omega
   subst e2
   rw [hA] at hj
   exact (Option.some.inj hj.2).symm
 ·rw [DI c]
  cases hf:(B.zip A).find? (λq=>decide (q.1=s)) with
  |none=>rfl
  |some q=>
   have h1:=nl hf
   have h2:=ky hf
   exact absurd (by rw [<-ca h1];exact (List.of_mem_zip h2).1) c
def Nw (hA:A.Nodup) (hB:B.Nodup) (hl:A.length=B.length) (h:sC A B l):((l.L.map λx=>(⟨mJ A B x.Name,x.By⟩:Mono)).map Mono.Name).Nodup:=by
 have h1:=zYp (p:=none) (l:=l.L) (by have:=h.1;unfold bI at this;exact this)
 unfold List.Nodup
 rw [fx,e8]
 refine (List.Pairwise.and_mem.1 h1).imp fun {a b} hh e=>?_
 obtain ⟨ha,hb,hlt⟩:=hh
 have e:mJ A B a.Name=mJ A B b.Name:=e
 have e1:=Gj hA hB hl (h.2 a ha)
 have e2:=Gj hA hB hl (h.2 b hb)
 rw [e,e2] at e1
 exact Cp hlt e1.symm
def PN {p:α->Bool} {l:List α} (h:0<=fA p l):∃i x,fA p l=(i:Nat)/\l[i]? =some x/\p x=true/\(l.take i).any p=false:=by
 obtain ⟨i,hi⟩:∃i:Nat,fA p l=i:=⟨(fA p l).toNat,zB⟩
 rcases Bool.eq_false_or_eq_true (l.any p) with ha|ha
 ·obtain ⟨x,hx,hp⟩:=cn.1 ha
  have:∀l:List α,l.any p=true->∃i x,l[i]? =some x/\p x=true/\(l.take i).any p=false:=by
   intro l
   induction l with
   |nil=>intro h;cases h
   |cons y r ih=>
    exact v41
  obtain ⟨j,z,h1,h2,h3⟩:=this l ha
  exact ⟨j,z,zGk h1 h2 h3,h1,h2,h3⟩
 ·rw [zDz ha] at h;exact absurd h uA
def PP {p:α->Bool} {l:List α} (h:fA p l<0):l.any p=false:=by
 refine iz.2 λha=>?_
 obtain ⟨x,hx,hp⟩:=cn.1 ha
 have:∀l:List α,l.any p=true->∃i x,l[i]? =some x/\p x=true/\(l.take i).any p=false:=by
  intro l
  induction l with
  |nil=>intro h;cases h
  |cons y r ih=>
   exact v41
 obtain ⟨j,z,h1,h2,h3⟩:=this l ha
 rw [zGk h1 h2 h3] at h;omega
abbrev sV (t:nr) (b mb:Nat) (p:Pg):E:=.row b t [.sl 1 (p.Sizes.map λs=>[cS s]),.sl 3 (p.Where.map Cn.cells),.sl 7 (p.Params.map Pm.cells),.sl 22 (p.Defs.map Df.cells),.sl 1 (p.Outs.map λs=>[cS s]),.lit (.map (some mb))]
abbrev Ov (b mb:Nat) (p:Pg) (m:Kn):List E:=[sV 119 b mb p,.blk mb (MapR vI m)]
abbrev Ow (b mb:Nat) (p:Pg) (m:Kn):List E:=[sV 236 b mb p,.blk mb (MapR vI m)]
end Go.Br
end
