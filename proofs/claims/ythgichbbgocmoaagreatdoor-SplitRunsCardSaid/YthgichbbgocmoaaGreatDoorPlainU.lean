/-
  The guards that the program removes are those that the reference removes (36.4),in plain Lean.
  And what the laws need besides.
  Conditions: none.
-/
import Derived.Test.YthgichbbgocmoaaGreatDoorWalkS
import Derived.Test.YthgichbbgocmoaaGreatDoorPlain3
import Derived.Test.YthgichbbgocmoaaGreatDoorPlain2
import Derived.Test.YthgichbbgocmoaaGreatDoorPlainT
import Derived.Test.YthgichbbgocmoaaGreatDoorPlain
set_option linter.unusedSimpArgs false
set_option linter.unusedVariables false
set_option linter.defProp false
section
set_option maxRecDepth 10000
namespace Go.W
open Go Go.Eng Go.Proofs Go.L41 Go.Br
/-! The reference's removal of guards. -/
def eQ (A:List Bd) (s:lr):Int:=A.foldl (fun v d=>if d.Name=s then d.Val else v) 0
end Go.W
end
section
set_option maxRecDepth 10000
namespace Go.W
open Go Go.Eng Go.Proofs Go.L41 Go.Br
def scM (m:MM) (A:List Bd) (t:lr):Prop:=mE m t=some (eQ A t)/\1<=eQ A t/\eQ A t<=65536
variable {sc:List lr}
def inSc_mem {l:Lf} (h:gS sc l=true) {x:Mono} (hx:x∈l.L):bP sc x.Name=true:=by
  unfold gS at h;exact ax.1 h x hx
variable {B:List Bf} {s:St}
def stE_syn {U:List lr} (h:stE B U sc s=0):dW s=true:=by
  cases c:dW s with
  |true=>rfl
  |false=>rw [stE_5 c] at h;cases h
def stE_loop {U:List lr} (h:stE B U sc s=0) (ho:s.Op=1):bP U s.Name=false/\1<=s.Many/\s.Many<=65536:=by
  obtain ⟨_,_,h1,h2,_⟩:=zNb h ho
  rw [stE_l (stE_syn h) ho] at h
  unfold nH at h
  refine ⟨?_,h1,h2⟩
  cases k:bP U s.Name with
  |false=>rfl
  |true=>
    exfalso
    by_cases q:bB s.Name=true
    · rw [ab q,ab (.inr k)] at h;exact absurd h zB
    · rw [aa q] at h;exact absurd h zB
def stE_cond {U:List lr} (h:stE B U sc s=0) (ho:s.Op=4):gI s.E=0/\dL B sc (dI s.E)=0:=by
  have hs:=stE_syn h
  unfold stE at h
  rw [ab hs,aa zA,ab ho] at h
  unfold ifE at h
  split at h
  · next c=>
    by_cases h1:gI s.E=0
    · refine ⟨h1,?_⟩
      by_cases h2:dL B sc (dI s.E)=0
      · exact h2
      · rw [zYu h1 h2] at c;exact absurd c h2
    · rw [zYv h1] at c;exact absurd c h1
  · next c=>exact absurd h c
def zBd {U:List lr} {here:List Int} (h:(jB B U sc here s).E=0):stE B U sc s=0/\jB B U sc here s=dH B (fZ U s) (fZ sc s) here 0 s.Body:=by
  by_cases c:stE B U sc s=0
  · exact ⟨c,zZr c⟩
  · rw [zZq c] at h;exact absurd h c
def zCr {U:List lr} {way:List Int} {i:Int} {r:List St} (h:(dH B U sc way i (s::r)).E=0):(jB B U sc (way++[i]) s).E=0/\dH B U sc way i (s::r)=dH B (jB B U sc (way++[i]) s).U sc way (i+1) r:=by
  rw [dH] at h⊢
  by_cases c:(jB B U sc (way++[i]) s).E=0
  · rw [ab c];exact ⟨c,rfl⟩
  · rw [aa c] at h;exact absurd h c
structure InvM (m:MM) (A:List Bd) (sc U:List lr):Prop where
  val:∀t,bP sc t=true->scM m A t
  sub:∀t,bP sc t=true->bP U t=true
def errs_all:∀{l:List Ex},jR l=0->∀x,x∈l->dE x=0
  |y::r,h,x,hx=>by
    rw [jR] at h
    by_cases c:dE y=0
    · rw [aw c,ay] at h
      rcases af.1 hx with rfl|hx
      · exact c
      · exact errs_all h x hx
    · rw [aB c,az] at h;exact absurd h c
end Go.W
end
section
set_option maxRecDepth 10000
namespace Go.W
open Go Go.Eng Go.Proofs Go.L41 Go.Br
/-! ## Bounds -/
def timesT_1 {x y:Int} (h:(fG x y).2=true):(fG x y).1=x*y:=by
  unfold fG at h⊢
  split at h
  · next c=>rw [ab c]
  · cases h
def runL_err {f:Int}:∀{l:List St} {env:List Bd} {s:Rs},¬s.E=0->lI f l env s=s
  |[],env,s,h=>by rw [lI]
  |x::r,env,s,h=>by rw [lI,ab h]
def step_ok {f:Int} {s:Rs} (h:(fA f s).E=0) (hs:s.E=0):fA f s=⟨s.Mem,s.N+1,0⟩/\s.N<f:=by
  unfold fA at h⊢
  by_cases c:f<=s.N
  · rw [ab c] at h;cases h
  · rw [aa c,hs];exact ⟨rfl,zA⟩
def store_eq (s:Rs) (env:List Bd) (x:St):fR s env x=⟨(fR ⟨s.Mem,0,0⟩ env x).Mem,s.N,(fR ⟨s.Mem,0,0⟩ env x).E⟩:=by
  unfold fR
  dsimp only
  split
  · rfl
  · split
    · rfl
    · split
      · split<;>rfl
      · rfl
def wO (t:lr) (n:lr) (k:Int) (env:List Bd):vlE (⟨n,k⟩::env) t=if n=t then k else vlE env t:=by
  unfold vlE;rw [jW];by_cases c:n=t
  · rw [ab c,ab c];rfl
  · rw [aa c,aa c]
def zVh {f:Int} {nm:lr} {env:List Bd} {g:List Bd->Rs->Rs}:∀(l:List Nat) {s:Rs},¬s.E=0->l.foldl (jN f nm env g) s=s
  |[],s,h=>rfl
  |k::r,s,h=>by
    have e:jN f nm env g s k=s:=by unfold jN;rw [ab h]
    rw [bi,e];exact zVh r h
end Go.W
end
section
namespace Go.Br
open Go Go.Eng Go.L41
abbrev vGt (g:Gt):V:=.agg [cI g.V.N,cI g.V.D,cI g.T.Kind,cI g.T.Bits,cI g.T.Frac,cI g.T.Round,cI g.T.Over,cI g.E]
abbrev vRs (s:Rs) (f:Int):V:=.agg [.sl 8 (s.Mem.map Nmd.cells),cI s.N,cI f,cI s.E]
variable {s:lr}
/-! ## Tensors for reading -/
def ten_9 {mem:List Nmd} (h:(dP mem s).isSome=false):fO mem s=(zTn,9):=by unfold fO;rw [fnd_none h]
variable {t:Tn}
def ten_1 {mem:List Nmd} (h:dP mem s=some t) (h1:¬jG t=0):fO mem s=(zTn,1):=by unfold fO;rw [h];exact aa h1
def ten_0 {mem:List Nmd} (h:dP mem s=some t) (h1:jG t=0):fO mem s=(t,0):=by unfold fO;rw [h];exact ab h1
def tn_dims (h:jG t=0):bX t.Dims=0:=by
  unfold jG at h
  split at h
  · split at h
    · next h2=>exact h2
    · next h2=>exact absurd h h2
  · cases h
def ten_ok {mem:List Nmd} (h:(fO mem s).2=0):jG (fO mem s).1=0/\∃x,x∈mem/\x.T=(fO mem s).1:=by
  cases e:dP mem s with
  |none=>rw [ten_9 (by rw [e];rfl)] at h;cases h
  |some t=>
    by_cases h1:jG t=0
    · rw [ten_0 e h1];exact ⟨h1,zQq e⟩
    · rw [ten_1 e h1] at h;cases h
variable {x:Int×Int} {i:Nat}
/-! ## Places -/
def plc_e {L:List (Int×Int)} {D:List Int} {a:Int} (h:L[i]? =some x) (he:¬x.2=0):lU a (L.drop i) D=(0,x.2):=by
  obtain ⟨n,e⟩:=x
  rw [qQ h,lU,ab he]
variable {m:Int}
def plc_b {L:List (Int×Int)} {D:List Int} {a:Int} (h:L[i]? =some x) (he:x.2=0) (hd:D[i]? =some m) (hb:x.1<0∨m<=x.1):lU a (L.drop i) (D.drop i)=(0,12):=by
  obtain ⟨n,e⟩:=x
  rw [qQ h,qQ hd,lU,aa (fun k=>k he),ab (by exact hb)]
def plc_n {L:List (Int×Int)} {D:List Int} {a:Int} (h:L[i]? =some x) (he:x.2=0) (hd:D[i]? =some m) (hb:¬(x.1<0∨m<=x.1)):lU a (L.drop i) (D.drop i)=lU (a*m+x.1) (L.drop (i+1)) (D.drop (i+1)):=by
  obtain ⟨n,e⟩:=x
  rw [qQ h,qQ hd,lU,aa (fun k=>k he),aa (by exact hb)];rfl
def plc_end {L:List (Int×Int)} {D:List Int} {a:Int} (h:L.length<=i):lU a (L.drop i) D=(a,0):=by rw [ci h,lU]
def plc_mul {a s n:Int} (h0:0<=a) (h1:a<s) (hn:0<=n) (hm:n<m):0<=a*m+n/\a*m+n<s*m/\a*m<s*m/\0<=a*m:=by
  have e1:0<=a*m:=Int.mul_nonneg h0 zA
  have e2:(a+1)*m<=s*m:=Int.mul_le_mul_of_nonneg_right zA zA
  rw [Int.add_mul,gu] at e2
  omega
def plc_bd:∀(L:List (Int×Int)) (D:List Int) (a s t:Int),D.all nN=true->bN s D=some t->1<=s->s<=4096->0<=a->a<s->L.length=D.length->(lU a L D).2=0->0<=(lU a L D).1/\(lU a L D).1<t
  |[],[],a,s,t,_,hs,_,_,h0,h1,_,_=>by
    rw [bN] at hs
    injection hs with hs
    rw [lU];exact ⟨h0,by dsimp only;omega⟩
  |[],m::r,a,s,t,_,_,_,_,_,_,hl,_=>by simp at hl
  |x::r,[],a,s,t,_,_,_,_,_,_,hl,_=>by simp at hl
  |(n,e)::L,m::D,a,s,t,hp,hs,h1,h4,h0,ha,hl,he=>by
    rw [aW,ae] at hp
    have hm:1<=m:=by simpa [nN] using hp.1
    rw [bN] at hs
    rw [lU] at he⊢
    by_cases c:e=0
    · rw [aa (fun k=>k c)] at he⊢
      by_cases b:n<0∨(m::D).headD 0<=n
      · rw [ab b] at he;cases he
      · rw [aa b] at he⊢
        split at hs
        · cases hs
        · next ho=>
          have b':¬(n<0∨m<=n):=b
          obtain ⟨q1,q2,_⟩:=plc_mul h0 ha (show 0<=n by omega) (show n<m by omega)
          have hms:=zCc h1 hm
          exact plc_bd L D (a*m+n) (s*m) t hp.2 hs zA zA q1 q2 (by simpa using hl) he
    · rw [ab c] at he;exact absurd he c
def ixv_at {mem:List Nmd} {env:List Bd}:∀{l:List Ix} {D:List Int} {i:Nat} {x:Ix} {m:Int},l[i]? =some x->D[i]? =some m->(sH mem env l D)[i]? =some (mJ mem env x m)
  |y::r,d::D,0,x,m,h,hd=>by
    injection h with h;injection hd with hd;subst h hd;rfl
  |y::r,d::D,i+1,x,m,h,hd=>by
    rw [sH];exact ixv_at (l:=r) (D:=D) h hd
def ixv_len {mem:List Nmd} {env:List Bd}:∀(l:List Ix) (D:List Int),(sH mem env l D).length=l.length
  |[],D=>rfl
  |x::r,D=>by rw [sH,lLc,ixv_len,lLc]
variable {env:List Bd} {l:List Ix}
def plcV_bd {mem:List Nmd} (hd:bX t.Dims=0) (h:(gR mem env t l).2=0):0<=(gR mem env t l).1/\(gR mem env t l).1<fJ t.Dims:=by
  obtain ⟨_,hp,s,hs,h1,h2⟩:=zFm hd
  unfold gR at h⊢
  split at h
  · next c=>
    rw [ab c,zEp hd hs]
    exact plc_bd _ _ 0 1 s hp hs zB zB zB zB (by rw [ixv_len];exact c) h
  · cases h
def plcA_bd {l:List Lf} (hd:bX t.Dims=0) (hl:l.length=t.Dims.length) (h:(lU 0 (l.map fun f=>bY f env) t.Dims).2=0):0<=(lU 0 (l.map fun f=>bY f env) t.Dims).1/\(lU 0 (l.map fun f=>bY f env) t.Dims).1<fJ t.Dims:=by
  obtain ⟨_,hp,s,hs,h1,h2⟩:=zFm hd
  rw [zEp hd hs]
  exact plc_bd _ _ 0 1 s hp hs zB zB zB zB (by rw [lLm];exact hl) h
def atT_some {k:Int} (h0:0<=k) (h:k<t.Vals.length):t.Vals[k.toNat]? =some (t.Vals.getD k.toNat zVl):=by
  rw [aT,ak (show k.toNat<t.Vals.length by omega)];rfl
variable {d:Int}
/-! ## Indices -/
def idx_l {mem:List Nmd} {x:Ix} (h:x.From=bs []):mJ mem env x d=bY x.Lin env:=by unfold mJ;rw [ab h]
def idx_t {mem:List Nmd} {x:Ix} (h:¬x.From=bs []) (h1:¬(fO mem x.From).2=0):mJ mem env x d=(0,(fO mem x.From).2):=by unfold mJ;rw [aa h,ab h1]
def idx_10 {mem:List Nmd} {x:Ix} (h:¬x.From=bs []) (h1:(fO mem x.From).2=0) (h2:¬(fO mem x.From).1.T.Kind=3):mJ mem env x d=(0,10):=by
  unfold mJ;rw [aa h,aa (fun k=>k h1),ab h2]
def idx_11 {mem:List Nmd} {x:Ix} (h:¬x.From=bs []) (h1:(fO mem x.From).2=0) (h2:(fO mem x.From).1.T.Kind=3) (h3:¬x.At.length=(fO mem x.From).1.Dims.length):mJ mem env x d=(0,11):=by
  unfold mJ;rw [aa h,aa (fun k=>k h1),aa (fun k=>k h2),ab h3]
def idx_p {mem:List Nmd} {x:Ix} (h:¬x.From=bs []) (h1:(fO mem x.From).2=0) (h2:(fO mem x.From).1.T.Kind=3) (h3:x.At.length=(fO mem x.From).1.Dims.length) {q:Int×Int} (h4:lU 0 (x.At.map fun f=>bY f env) (fO mem x.From).1.Dims=q) (h5:¬q.2=0):mJ mem env x d=(0,q.2):=by
  unfold mJ;rw [aa h,aa (fun k=>k h1),aa (fun k=>k h2),aa (fun k=>k h3),h4,ab h5]
def idx_0 {mem:List Nmd} {x:Ix} (h:¬x.From=bs []) (h1:(fO mem x.From).2=0) (h2:(fO mem x.From).1.T.Kind=3) (h3:x.At.length=(fO mem x.From).1.Dims.length) {a:Int} (h4:lU 0 (x.At.map fun f=>bY f env) (fO mem x.From).1.Dims=(a,0)):mJ mem env x d=(max 0 (min (d-1) ((fO mem x.From).1.Vals.getD a.toNat zVl).N),0):=by
  unfold mJ;rw [aa h,aa (fun k=>k h1),aa (fun k=>k h2),aa (fun k=>k h3),h4,aa (fun k=>k rfl)]
variable {e:Ex}
/-! ## Values -/
def val_leaf {mem:List Nmd} (h:e.Op<=3):(evE mem env e).v=lR mem env e:=by rw [evE_eq];show rB mem env e _=_;unfold rB;rw [ab h]
def conds_at {op:Int}:∀{l:List Ex} {i:Int},gL op i l=true->∀(k:Nat) (a:Ex),l[k]? =some a->bJ a=gD op (i+k)
  |b::r,i,h,0,a,ha=>by
    injection ha with ha;subst ha
    rw [gL,ae] at h
    have:=h.1
    rw [ff] at this
    rw [this];simp
  |b::r,i,h,k+1,a,ha=>by
    rw [gL,ae] at h
    have:=conds_at h.2 k a ha
    rw [this];congr 1;omega
variable {a:Ex} {k:Nat}
def arg_cond (h:dN e=0) (ha:e.Args[k]? =some a):bJ a=gD e.Op k:=by
  have ht:=(zHn (zBv h)).2.2.2.1
  unfold lF at ht
  rw [ae] at ht
  have:=conds_at ht.2 k a ha
  rw [this];congr 1;omega
def op_rng (h:dN e=0):1<=e.Op/\e.Op<=18:=by
  have hs:=(zHn (zBv h)).1
  unfold lK at hs
  simp only [ae,ao,al,aj] at hs
  omega
structure MmOk (B:List Bf) (mem:List Nmd):Prop where
  len:mem.length<=4294967296
  fit:∀x,x∈mem->x.T.Dims.length<=17592186044416/\x.T.Vals.length<=1048576
  has:∀s,dU B s=true->∃t,dP mem s=some t/\bX t.Dims=0/\(t.Vals.length:Int)=fJ t.Dims
  uni:∀x,x∈mem->dP mem x.Name=some x.T
def xA (n s:lr) (k:Nat) (v:Vl) (t:Tn):Tn:=if s=n then ⟨t.T,t.Dims,t.Vals.set k v⟩ else t
def fnd_wr {n s:lr} {k:Nat} {v:Vl}:∀mem:List Nmd,dP (gF mem n k v) s=(dP mem s).map (xA n s k v)
  |[]=>rfl
  |x::r=>by
    have ih:=fnd_wr (n:=n) (s:=s) (k:=k) (v:=v) r
    show dP ((if x.Name=n then ⟨x.Name,⟨x.T.T,x.T.Dims,x.T.Vals.set k v⟩⟩ else x)::gF r n k v) s=Option.map _ (if x.Name=s then some x.T else dP r s)
    by_cases d:x.Name=n
    · rw [ab d]
      show (if x.Name=s then some (⟨x.T.T,x.T.Dims,x.T.Vals.set k v⟩:Tn) else dP (gF r n k v) s)=_
      by_cases c:x.Name=s
      · rw [ab c,ab c,cw,xA,ab (c.symm.trans d)]
      · rw [aa c,aa c,ih]
    · rw [aa d]
      show (if x.Name=s then some x.T else dP (gF r n k v) s)=_
      by_cases c:x.Name=s
      · rw [ab c,ab c,cw,xA,aa (fun e=>d (c.trans e))]
      · rw [aa c,aa c,ih]
def MmOk.write {B:List Bf} {mem:List Nmd} (h:MmOk B mem) (n:lr) (k:Nat) (v:Vl):MmOk B (gF mem n k v):=by
  refine ⟨by unfold gF;rw [lLm];exact h.len,fun x hx=>?_,fun s hs=>?_,fun x hx=>?_⟩
  · unfold gF at hx
    obtain ⟨y,hy,rfl⟩:=bq.1 hx
    have:=h.fit y hy
    split
    · exact ⟨this.1,by rw [ed];exact this.2⟩
    · exact this
  · obtain ⟨t,h1,h2,h3⟩:=h.has s hs
    refine ⟨xA n s k v t,by rw [fnd_wr,h1];rfl,?_,?_⟩
    · unfold xA;split
      · exact h2
      · exact h2
    · unfold xA;split
      · show ((t.Vals.set k v).length:Int)=_;rw [ed];exact h3
      · exact h3
  · unfold gF at hx
    obtain ⟨y,hy,rfl⟩:=bq.1 hx
    have hu:=h.uni y hy
    by_cases c:y.Name=n
    · rw [ab c]
      show dP (gF mem n k v) y.Name=_
      rw [fnd_wr,hu,cw];unfold xA;rw [ab c]
    · rw [aa c,fnd_wr,hu,cw];unfold xA;rw [aa c]
def atV_row {l:List Vl} {k:Int} (h0:0<=k) (h:k<l.length):([]++l.map Vl.cells)[k.toNat]? =some (l.getD k.toNat zVl).cells:=by
  rw [lNa,bu,aT,ak (show k.toNat<l.length by omega)];rfl
def write_next {mem:List Nmd} {n:lr} {a:Nat} {v:Vl} {x:Nmd} (h:mem[k]? =some x):(gF (mem.take (k+1)) n a v).map Nmd.cells=(gF (mem.take k) n a v).map Nmd.cells++[(if x.Name=n then (⟨x.Name,⟨x.T.T,x.T.Dims,x.T.Vals.set a v⟩⟩:Nmd) else x).cells]:=by
  unfold gF;rw [yR h,aC,aC,cy,cy]
/-! ## Bounds of what is evaluated -/
def FB (f:Lf):Prop:=f.L.length<=5864062014805/\f.rng
def IxB (x:Ix):Prop:=FB x.Lin/\(∀f,f∈x.At->FB f)/\x.At.length<=17592186044416
def ExB (e:Ex):Prop:=FB e.Lin/\(∀x,x∈e.Idx->IxB x)/\e.Idx.length<=17592186044416
def ExA (e:Ex):Prop:=∀x,x∈dI e->ExB x
def ExA.self (h:ExA e):ExB e:=h e (by rw [wC];simp)
def ExA.arg (h:ExA e) (ha:a∈e.Args):ExA a:=fun x hx=>h x (by rw [wC];exact au _ (zPz ha hx))
/-! ## Places and leaves,case by case -/
def plcV_11 {mem:List Nmd} (h:¬(l.length:Int)=t.Dims.length):gR mem env t l=(0,11):=by unfold gR;rw [aa zA]
def plcV_is {mem:List Nmd} (h:(l.length:Int)=t.Dims.length):gR mem env t l=lU 0 (sH mem env l t.Dims) t.Dims:=by unfold gR;rw [ab zA]
def leaf_1 {mem:List Nmd} (h:e.Op=1):lR mem env e=⟨e.Val,e.Ty,0⟩:=by unfold lR;rw [ab h]
def leaf_2e {mem:List Nmd} (h:e.Op=2) (h2:¬(bY e.Lin env).2=0):lR mem env e=pT (bY e.Lin env).2:=by unfold lR;rw [aa zA,ab h,ab h2]
def leaf_2r {mem:List Nmd} (h:e.Op=2) (h2:(bY e.Lin env).2=0) (h3:2147483647<(bY e.Lin env).1∨(bY e.Lin env).1< -2147483647):lR mem env e=pT 3:=by
  unfold lR;rw [aa zA,ab h,aa (fun k=>k h2),ab h3]
def leaf_2 {mem:List Nmd} (h:e.Op=2) (h2:(bY e.Lin env).2=0) (h3:¬(2147483647<(bY e.Lin env).1∨(bY e.Lin env).1< -2147483647)):lR mem env e=⟨⟨(bY e.Lin env).1,1⟩,iTy,0⟩:=by
  unfold lR;rw [aa zA,ab h,aa (fun k=>k h2),aa h3]
def leaf_3t {mem:List Nmd} (h:¬e.Op=1) (h':¬e.Op=2) (h2:¬(fO mem e.Name).2=0):lR mem env e=pT (fO mem e.Name).2:=by unfold lR;rw [aa h,aa h',ab h2]
def leaf_3p {mem:List Nmd} (h:¬e.Op=1) (h':¬e.Op=2) (h2:(fO mem e.Name).2=0) (h3:¬(gR mem env (fO mem e.Name).1 e.Idx).2=0):lR mem env e=pT (gR mem env (fO mem e.Name).1 e.Idx).2:=by
  unfold lR;rw [aa h,aa h',aa (fun k=>k h2),ab h3]
def leaf_3 {mem:List Nmd} (h:¬e.Op=1) (h':¬e.Op=2) (h2:(fO mem e.Name).2=0) (h3:(gR mem env (fO mem e.Name).1 e.Idx).2=0):lR mem env e=⟨(fO mem e.Name).1.Vals.getD (gR mem env (fO mem e.Name).1 e.Idx).1.toNat zVl,(fO mem e.Name).1.T,0⟩:=by
  unfold lR;rw [aa h,aa h',aa (fun k=>k h2),aa (fun k=>k h3)]
/-! ## Values,case by case -/
def zBh {mem:List Nmd} {l:List Ex} (h:l[k]? =some a):(l.map (evE mem env)).getD k zVH=evE mem env a:=by rw [aT,bu,h];rfl
def zTj (mem:List Nmd) (env:List Bd) (e:Ex):(evE mem env e).v=rB mem env e (e.Args.map (evE mem env)):=by rw [evE_eq]
def zYi (mem:List Nmd) (env:List Bd) (e:Ex):(evE mem env e).h=sI e (e.Args.map (evE mem env)):=by rw [evE_eq]
def val_a {mem:List Nmd} (h1:¬e.Op<=3) (h2:¬e.Op=11) (ha:e.Args[0]? =some a) (h3:¬(evE mem env a).v.E=0):(evE mem env e).v=(evE mem env a).v:=by
  rw [zTj];unfold rB;rw [aa h1,aa h2,zBh ha,ab h3]
def val_ce {mem:List Nmd} (h2:e.Op=12) (ha:e.Args[0]? =some a) (h3:(evE mem env a).v.E=0) (h4:¬(pF (evE mem env a).v.T e.Ty (evE mem env a).v.V).2=0):(evE mem env e).v=pT (pF (evE mem env a).v.T e.Ty (evE mem env a).v.V).2:=by
  rw [zTj];unfold rB;rw [aa zA,aa zA,zBh ha,aa (fun k=>k h3),ab h2,ab h4]
def val_c {mem:List Nmd} (h2:e.Op=12) (ha:e.Args[0]? =some a) (h3:(evE mem env a).v.E=0) (h4:(pF (evE mem env a).v.T e.Ty (evE mem env a).v.V).2=0):(evE mem env e).v=⟨(pF (evE mem env a).v.T e.Ty (evE mem env a).v.V).1,e.Ty,0⟩:=by
  rw [zTj];unfold rB;rw [aa zA,aa zA,zBh ha,aa (fun k=>k h3),ab h2,aa (fun k=>k h4)]
variable {b:Ex}
def val_b {mem:List Nmd} (h1:¬e.Op<=3) (h2:¬e.Op=11) (h5:¬e.Op=12) (ha:e.Args[0]? =some a) (h3:(evE mem env a).v.E=0) (hb:e.Args[if e.Op=8 then 0 else 1]? =some b) (h4:¬(evE mem env b).v.E=0):(evE mem env e).v=(evE mem env b).v:=by
  rw [zTj];unfold rB;rw [aa h1,aa h2,zBh ha,aa (fun k=>k h3),aa h5,zBh hb,ab h4]
def val_t {mem:List Nmd} (h1:¬e.Op<=3) (h2:¬e.Op=11) (h5:¬e.Op=12) (ha:e.Args[0]? =some a) (h3:(evE mem env a).v.E=0) (hb:e.Args[if e.Op=8 then 0 else 1]? =some b) (h4:(evE mem env b).v.E=0) (h6:¬(evE mem env a).v.T=(evE mem env b).v.T):(evE mem env e).v=pT 10:=by
  rw [zTj];unfold rB;rw [aa h1,aa h2,zBh ha,aa (fun k=>k h3),aa h5,zBh hb,aa (fun k=>k h4),ab h6]
def val_oe {mem:List Nmd} (h1:¬e.Op<=3) (h2:¬e.Op=11) (h5:¬e.Op=12) (ha:e.Args[0]? =some a) (h3:(evE mem env a).v.E=0) (hb:e.Args[if e.Op=8 then 0 else 1]? =some b) (h4:(evE mem env b).v.E=0) (h6:(evE mem env a).v.T=(evE mem env b).v.T) (h7:¬(mO e.Op (evE mem env a).v.T (evE mem env a).v.V (evE mem env b).v.V).2=0):(evE mem env e).v=pT (mO e.Op (evE mem env a).v.T (evE mem env a).v.V (evE mem env b).v.V).2:=by
  rw [zTj];unfold rB;rw [aa h1,aa h2,zBh ha,aa (fun k=>k h3),aa h5,zBh hb,aa (fun k=>k h4),aa (fun k=>k h6),ab h7]
def val_o {mem:List Nmd} (h1:¬e.Op<=3) (h2:¬e.Op=11) (h5:¬e.Op=12) (ha:e.Args[0]? =some a) (h3:(evE mem env a).v.E=0) (hb:e.Args[if e.Op=8 then 0 else 1]? =some b) (h4:(evE mem env b).v.E=0) (h6:(evE mem env a).v.T=(evE mem env b).v.T) (h7:(mO e.Op (evE mem env a).v.T (evE mem env a).v.V (evE mem env b).v.V).2=0):(evE mem env e).v=⟨(mO e.Op (evE mem env a).v.T (evE mem env a).v.V (evE mem env b).v.V).1,(evE mem env a).v.T,0⟩:=by
  rw [zTj];unfold rB;rw [aa h1,aa h2,zBh ha,aa (fun k=>k h3),aa h5,zBh hb,aa (fun k=>k h4),aa (fun k=>k h6),aa (fun k=>k h7)]
def hld_n {mem:List Nmd} (h1:16<=e.Op) (ha:e.Args[0]? =some a) (h:¬(evE mem env a).h.2=0∨e.Op=18):(evE mem env e).h=(decide ((evE mem env a).h.2=0)&& !(evE mem env a).h.1,(evE mem env a).h.2):=by
  rw [zYi];unfold sI;rw [ab h1,zBh ha,ab h]
def hld_b {mem:List Nmd} (h1:16<=e.Op) (ha:e.Args[0]? =some a) (h:¬(¬(evE mem env a).h.2=0∨e.Op=18)) (hb:e.Args[1]? =some b) (h2:¬(evE mem env b).h.2=0):(evE mem env e).h=(false,(evE mem env b).h.2):=by
  rw [zYi];unfold sI;rw [ab h1,zBh ha,aa h,zBh hb,ab h2]
def hld_o {mem:List Nmd} (h1:16<=e.Op) (ha:e.Args[0]? =some a) (h:¬(¬(evE mem env a).h.2=0∨e.Op=18)) (hb:e.Args[1]? =some b) (h2:(evE mem env b).h.2=0):
    (evE mem env e).h=((decide (e.Op=16)&&(evE mem env a).h.1&&(evE mem env b).h.1)||(decide (e.Op=17)&&((evE mem env a).h.1||(evE mem env b).h.1)),0):=by
  rw [zYi];unfold sI;rw [ab h1,zBh ha,aa h,zBh hb,aa (fun k=>k h2)]
def hld_c {mem:List Nmd} (h1:¬16<=e.Op) (ha:e.Args[0]? =some a) (h:¬(evE mem env a).v.E=0):(evE mem env e).h=(false,(evE mem env a).v.E):=by
  rw [zYi];unfold sI;rw [aa h1,zBh ha,ab h]
def hld_d {mem:List Nmd} (h1:¬16<=e.Op) (ha:e.Args[0]? =some a) (h:(evE mem env a).v.E=0) (hb:e.Args[1]? =some b) (h2:¬(evE mem env b).v.E=0):(evE mem env e).h=(false,(evE mem env b).v.E):=by
  rw [zYi];unfold sI;rw [aa h1,zBh ha,aa (fun k=>k h),zBh hb,ab h2]
def hld_t {mem:List Nmd} (h1:¬16<=e.Op) (ha:e.Args[0]? =some a) (h:(evE mem env a).v.E=0) (hb:e.Args[1]? =some b) (h2:(evE mem env b).v.E=0) (h3:¬(evE mem env a).v.T=(evE mem env b).v.T):(evE mem env e).h=(false,10):=by
  rw [zYi];unfold sI;rw [aa h1,zBh ha,aa (fun k=>k h),zBh hb,aa (fun k=>k h2),ab h3]
def hld_v {mem:List Nmd} (h1:¬16<=e.Op) (ha:e.Args[0]? =some a) (h:(evE mem env a).v.E=0) (hb:e.Args[1]? =some b) (h2:(evE mem env b).v.E=0) (h3:(evE mem env a).v.T=(evE mem env b).v.T):
    (evE mem env e).h=((decide (sC (evE mem env a).v.T (evE mem env a).v.V (evE mem env b).v.V<0)&& !decide (e.Op=15))||(decide (sC (evE mem env a).v.T (evE mem env a).v.V (evE mem env b).v.V=0)&& !decide (e.Op=13)),0):=by
  rw [zYi];unfold sI;rw [aa h1,zBh ha,aa (fun k=>k h),zBh hb,aa (fun k=>k h2),aa (fun k=>k h3)]
/-! ## Operands -/
def arg_0 (h:dN e=0) (h4:4<=e.Op):∃a,e.Args[((0:Int)).toNat]? =some a/\e.Args[0]? =some a/\a∈e.Args/\dN a=0/\bJ a=gD e.Op 0:=by
  have hr:=op_rng h
  have hl:=zXo (zBv h)
  have hn:1<=bR e.Op:=by unfold bR;split;omega;split;omega;split<;>omega
  have hlt:0<e.Args.length:=by omega
  have hg:e.Args[0]? =some e.Args[0]:=ak hlt
  exact ⟨e.Args[0],hg,hg,dw hlt,zIj h (dw hlt),arg_cond h hg⟩
def arg_1 (h:dN e=0) (hn:2<=bR e.Op):∃a,e.Args[((1:Int)).toNat]? =some a/\e.Args[1]? =some a/\a∈e.Args/\dN a=0/\bJ a=gD e.Op 1:=by
  have hl:=zXo (zBv h)
  have hlt:1<e.Args.length:=by omega
  have hg:e.Args[1]? =some e.Args[1]:=ak hlt
  exact ⟨e.Args[1],hg,hg,dw hlt,zIj h (dw hlt),arg_cond h hg⟩
def arg_2 (h:dN e=0) (ho:e.Op=11):∃a,e.Args[((2:Int)).toNat]? =some a/\e.Args[2]? =some a/\a∈e.Args/\dN a=0/\bJ a=gD e.Op 2:=by
  have hl:=zXo (zBv h)
  rw [ho,show bR 11=3 from rfl] at hl
  have hlt:2<e.Args.length:=by omega
  have hg:e.Args[2]? =some e.Args[2]:=ak hlt
  exact ⟨e.Args[2],hg,hg,dw hlt,zIj h (dw hlt),arg_cond h hg⟩
def val_i {mem:List Nmd} {c:Ex} (h:e.Op=11) (ha:e.Args[0]? =some a) (hb:e.Args[1]? =some b) (hc:e.Args[2]? =some c):(evE mem env e).v=if ¬(evE mem env a).h.2=0 then pT (evE mem env a).h.2 else if (evE mem env a).h.1=true then (evE mem env b).v else (evE mem env c).v:=by
  rw [zTj];unfold rB;rw [aa zA,ab h,zBh ha,zBh hb,zBh hc]
variable {o:Int}
def nArgs_2 (h1:¬o<=3) (h2:¬o=8) (h3:¬o=12) (h4:¬o=18):2<=bR o:=by
  unfold bR;rw [aa zA,aa zA];split<;>omega
def want_v {k:Int} (h1:¬o=11) (h2:o<=15):gD o k=false:=by
  unfold gD;rw [aB h1,aB (show ¬o=16 by omega),aB (show ¬o=17 by omega),aB (show ¬o=18 by omega)];rfl
def want_c {k:Int} (h:16<=o) (h2:o<=18):gD o k=true:=by
  unfold gD
  rcases (by omega:o=16∨o=17∨o=18) with rfl|rfl|rfl<;>simp
def cond_no (h:bJ e=false) (hp:dN e=0):e.Op<=12:=by
  have:=op_rng hp
  unfold bJ at h
  rw [bm,aj,aj] at h
  omega
def cond_yes (h:bJ e=true):13<=e.Op/\e.Op<=18:=by
  unfold bJ at h
  rw [ae,ah,ah] at h
  exact h
/-! ## Runs,as the reference makes them -/
def reduce_is {fold:Int} {t:Ty} {a b:Vl} (h:¬(fold<1∨5<fold)) (h2:dD t=true) (h3:bQ t a=true) (h4:bQ t b=true):sE fold t a b=mO (sQ fold) t a b:=by
  unfold sE;rw [aa h,aa (by rw [h2];simp),aa (by rw [h3,h4];simp)]
def lP (mem:List Nmd):List Bf->Int
  |[]=>0
  |b::r=>if jH mem b=0 then lP mem r else jH mem b
def pA (mem:List Nmd) (b:Bf):Nmd:=⟨b.Name,(dP mem b.Name).getD zTn⟩
def prv_next {mem:List Nmd} {l:List Bf} {b:Bf} (h:l[k]? =some b) (hp:lP mem l=lP mem (l.drop k)) (he:jH mem b=0):lP mem l=lP mem (l.drop (k+1)):=by rw [hp,qQ h,lP,ab he]
def prv_bad {mem:List Nmd} {l:List Bf} {b:Bf} (h:l[k]? =some b) (hp:lP mem l=lP mem (l.drop k)) (he:¬jH mem b=0):lP mem l=jH mem b:=by rw [hp,qQ h,lP,aa he]
def prv_end {mem:List Nmd} {l:List Bf} (h:l.length<=k) (hp:lP mem l=lP mem (l.drop k)):lP mem l=0:=by rw [hp,ci h];rfl
def prv_mem {mem:List Nmd}:∀{l:List Bf},lP mem l=0->∀b,b∈l->jH mem b=0
  |a::r,h,b,hb=>by
    rw [lP] at h
    by_cases c:jH mem a=0
    · rw [ab c] at h
      rcases af.1 hb with rfl|hb
      · exact c
      · exact prv_mem h b hb
    · rw [aa c] at h;exact absurd h c
def nV (n:Ns) (mem:List Nmd) (f:Int):Rs:=lI f n.Body [] ⟨n.Bufs.map (pA mem),0,0⟩
def rnN (n:Ns) (mem:List Nmd) (f:Int):List Nmd×Int×Int:=
  if ¬(bL n).2=0 then ([],0,(bL n).2) else if f<0∨1048576<f then ([],0,1) else if ¬lP mem n.Bufs=0 then ([],0,lP mem n.Bufs) else
  if ¬(nV n mem f).E=0 then ([],0,(nV n mem f).E) else ((nV n mem f).Mem,(nV n mem f).N,0)
variable {f:Int} {n:Ns}
def run_1 {mem:List Nmd} (h:¬(bL n).2=0):rnN n mem f=([],0,(bL n).2):=by unfold rnN;rw [ab h]
def run_2 {mem:List Nmd} (h:(bL n).2=0) (h2:f<0∨1048576<f):rnN n mem f=([],0,1):=by unfold rnN;rw [aa (fun k=>k h),ab h2]
def run_3 {mem:List Nmd} (h:(bL n).2=0) (h2:¬(f<0∨1048576<f)) (h3:¬lP mem n.Bufs=0):rnN n mem f=([],0,lP mem n.Bufs):=by unfold rnN;rw [aa (fun k=>k h),aa h2,ab h3]
def run_4 {mem:List Nmd} (h:(bL n).2=0) (h2:¬(f<0∨1048576<f)) (h3:lP mem n.Bufs=0) (h4:¬(nV n mem f).E=0):rnN n mem f=([],0,(nV n mem f).E):=by
  unfold rnN;rw [aa (fun k=>k h),aa h2,aa (fun k=>k h3),ab h4]
def run_0 {mem:List Nmd} (h:(bL n).2=0) (h2:¬(f<0∨1048576<f)) (h3:lP mem n.Bufs=0) (h4:(nV n mem f).E=0):rnN n mem f=((nV n mem f).Mem,(nV n mem f).N,0):=by
  unfold rnN;rw [aa (fun k=>k h),aa h2,aa (fun k=>k h3),aa (fun k=>k h4)]
structure StC (B:List Bf) (s:St):Prop where
  loop:s.Op=1->1<=s.Many/\s.Many<=65536
  cond:s.Op=4->dN s.E=0/\bJ s.E=true
  sto:¬s.Op=1->¬s.Op=4->dN s.E=0/\bJ s.E=false/\dU B s.Name=true
  ex:ExA s.E
  ix:∀x,x∈s.Idx->IxB x
  len:s.Idx.length<=17592186044416
end Go.Br
end
section
namespace Go.W
open Go Go.Eng Go.Proofs Go.L41 Go.Br
variable {env:List Bd} {x:St} {s:Rs}
/-! ## Stores -/
def sto_e (h:¬(evE s.Mem env x.E).v.E=0):fR s env x=⟨s.Mem,s.N,(evE s.Mem env x.E).v.E⟩:=by unfold fR;rw [ab h]
def sto_p {t:Tn} (h0:(evE s.Mem env x.E).v.E=0) (ht:dP s.Mem x.Name=some t) (h:¬(gR s.Mem env t x.Idx).2=0):fR s env x=⟨s.Mem,s.N,(gR s.Mem env t x.Idx).2⟩:=by
  unfold fR;rw [ht];simp only [cd];rw [aa (fun k=>k h0),ab h]
variable {r:Vl×Int}
def sto_f {t:Tn} (h0:(evE s.Mem env x.E).v.E=0) (ht:dP s.Mem x.Name=some t) (h:(gR s.Mem env t x.Idx).2=0) (h3:x.Op=3) (hr:sE x.Fold t.T (t.Vals.getD (gR s.Mem env t x.Idx).1.toNat zVl) (evE s.Mem env x.E).v.V=r) (h4:¬r.2=0):fR s env x=⟨s.Mem,s.N,r.2⟩:=by
  subst hr
  unfold fR;rw [ht];simp only [cd];rw [aa (fun k=>k h0),aa (fun k=>k h),ab h3,ab h4]
def sto_r {t:Tn} (h0:(evE s.Mem env x.E).v.E=0) (ht:dP s.Mem x.Name=some t) (h:(gR s.Mem env t x.Idx).2=0) (h3:x.Op=3) (hr:sE x.Fold t.T (t.Vals.getD (gR s.Mem env t x.Idx).1.toNat zVl) (evE s.Mem env x.E).v.V=r) (h4:r.2=0):fR s env x=⟨gF s.Mem x.Name (gR s.Mem env t x.Idx).1.toNat r.1,s.N,0⟩:=by
  subst hr
  unfold fR;rw [ht];simp only [cd];rw [aa (fun k=>k h0),aa (fun k=>k h),ab h3,aa (fun k=>k h4)]
def sto_s {t:Tn} (h0:(evE s.Mem env x.E).v.E=0) (ht:dP s.Mem x.Name=some t) (h:(gR s.Mem env t x.Idx).2=0) (h3:¬x.Op=3):fR s env x=⟨gF s.Mem x.Name (gR s.Mem env t x.Idx).1.toNat (evE s.Mem env x.E).v.V,s.N,0⟩:=by
  unfold fR;rw [ht];simp only [cd];rw [aa (fun k=>k h0),aa (fun k=>k h),aa h3]
variable {f:Int} {t:Rs}
/-! ## Statements -/
def run_loop (ho:x.Op=1):jT f x env t=(List.range x.Many.toNat).foldl (jN f x.Name env (lI f x.Body)) t:=by rw [zSd,ab ho]
def run_stop (ho:¬x.Op=1) (h:¬(fA f t).E=0):jT f x env t=fA f t:=by rw [zSd,aa ho,ab h]
def run_ife (ho:x.Op=4) (hs:fA f t=⟨t.Mem,t.N+1,0⟩) (h:¬(evE t.Mem env x.E).h.2=0):jT f x env t=⟨t.Mem,t.N+1,(evE t.Mem env x.E).h.2⟩:=by
  rw [zSd,aa zA,hs,aa (show ¬ ¬((⟨t.Mem,t.N+1,0⟩:Rs).E=0) from fun k=>k rfl),ab ho,ab h]
def run_ift (ho:x.Op=4) (hs:fA f t=⟨t.Mem,t.N+1,0⟩) (h:(evE t.Mem env x.E).h.2=0) (h2:(evE t.Mem env x.E).h.1=true):jT f x env t=lI f x.Body env ⟨t.Mem,t.N+1,0⟩:=by
  rw [zSd,aa zA,hs,aa (show ¬ ¬((⟨t.Mem,t.N+1,0⟩:Rs).E=0) from fun k=>k rfl),ab ho,aa (fun k=>k h),ab h2]
def run_iff (ho:x.Op=4) (hs:fA f t=⟨t.Mem,t.N+1,0⟩) (h2:(evE t.Mem env x.E).h.1=false):jT f x env t=⟨t.Mem,t.N+1,(evE t.Mem env x.E).h.2⟩:=by
  by_cases h:(evE t.Mem env x.E).h.2=0
  · rw [zSd,aa zA,hs,aa (show ¬ ¬((⟨t.Mem,t.N+1,0⟩:Rs).E=0) from fun k=>k rfl),ab ho,aa (fun k=>k h),aa (by rw [h2];simp),h]
  · exact run_ife ho hs h
def run_sto (ho:¬x.Op=1) (ho4:¬x.Op=4) (hs:fA f t=⟨t.Mem,t.N+1,0⟩):jT f x env t=fR ⟨t.Mem,t.N+1,0⟩ env x:=by
  rw [zSd,aa ho,hs,aa (show ¬ ¬((⟨t.Mem,t.N+1,0⟩:Rs).E=0) from fun k=>k rfl),aa ho4]
variable {l:List St}
def zPq {k:Nat} (hx:l[k]? =some x) (h:t.E=0):lI f (l.drop k) env t=lI f (l.drop (k+1)) env (jT f x env t):=by
  rw [qQ hx,lI,aa (fun q=>q h)]
def run_end {k:Nat} (h:l.length<=k∨¬t.E=0):lI f (l.drop k) env t=t:=by
  rcases h with h|h
  · rw [ci h,lI]
  · exact runL_err h
def fold_nx {α:Type} {F:α->Nat->α} {s:α} (j:Nat):(List.range (j+1)).foldl F s=F ((List.range j).foldl F s) j:=by rw [ey,dm];rfl
variable {g:List Bd->Rs->Rs} {nm:lr} {j:Nat}
def fold_stop {m:Nat} (hj:j<=m) (h:m<=j∨¬((List.range j).foldl (jN f nm env g) t).E=0):(List.range m).foldl (jN f nm env g) t=(List.range j).foldl (jN f nm env g) t:=by
  obtain ⟨d,rfl⟩:∃d,m=j+d:=⟨m-j,zA⟩
  rcases h with h|h
  · obtain rfl:d=0:=by omega
    rfl
  · rw [List.range_add,dm,zVh _ h]
def turn_go {r:Rs} (h:r.E=0) (hs:fA f r=⟨r.Mem,r.N+1,0⟩):jN f nm env g r j=g (⟨nm,(j:Int)⟩::env) ⟨r.Mem,r.N+1,0⟩:=by
  unfold jN;rw [aa (fun q=>q h),hs,aa (show ¬ ¬((⟨r.Mem,r.N+1,0⟩:Rs).E=0) from fun k=>k rfl)]
def turn_no {r:Rs} (h:r.E=0) (hs:¬(fA f r).E=0):jN f nm env g r j=fA f r:=by
  unfold jN;rw [aa (fun q=>q h),ab hs]
/-! ## What stays true -/
structure RI (B:List Bf) (f:Int) (s:Rs):Prop where
  mem:MmOk B s.Mem
  n0:0<=s.N
  n1:s.N<=f
variable {B:List Bf}
def RI.step (h:RI B f s):RI B f (fA f s):=by
  unfold fA
  split
  · exact ⟨h.mem,h.n0,h.n1⟩
  · exact ⟨h.mem,by have:=h.n0;dsimp only;omega,by dsimp only;omega⟩
def RI.sto (h:RI B f s) (env:List Bd) (x:St):RI B f (fR s env x):=by
  unfold fR
  split
  · exact ⟨h.mem,h.n0,h.n1⟩
  · split
    · exact ⟨h.mem,h.n0,h.n1⟩
    · split
      · split
        · exact ⟨h.mem,h.n0,h.n1⟩
        · exact ⟨h.mem.write _ _ _,h.n0,h.n1⟩
      · exact ⟨h.mem.write _ _ _,h.n0,h.n1⟩
def RI.fold {B:List Bf} {f:Int} {nm:lr} {env:List Bd} {g:List Bd->Rs->Rs} (hg:∀env s,RI B f s->RI B f (g env s)):∀(l:List Nat) {s:Rs},RI B f s->RI B f (l.foldl (jN f nm env g) s)
  |[],s,h=>h
  |k::r,s,h=>by
    rw [bi]
    refine RI.fold hg r ?_
    unfold jN
    split
    · exact h
    · split
      · exact h.step
      · exact hg _ _ h.step
mutual
def zMr {B:List Bf} {f:Int}:∀(x:St) (env:List Bd) (s:Rs),RI B f s->RI B f (jT f x env s)
  |.mk o nm mn mk fo i e b,env,s,h=>by
    rw [jT]
    split
    · exact RI.fold (fun env s h=>zPs b env s h) _ h
    · split
      · exact h.step
      · split
        · split
          · exact ⟨h.mem,h.step.n0,h.step.n1⟩
          · split
            · exact zPs b env _ h.step
            · exact h.step
        · exact h.step.sto _ _
def zPs {B:List Bf} {f:Int}:∀(l:List St) (env:List Bd) (s:Rs),RI B f s->RI B f (lI f l env s)
  |[],env,s,h=>by rw [lI];exact h
  |x::r,env,s,h=>by
    rw [lI]
    split
    · exact h
    · exact zPs r env _ (zMr x env s h)
end
variable {n:Ns}
/-! ## What a valid nest gives -/
def prv_ok {mem:List Nmd} (hn:n.Ok) (h:lP mem n.Bufs=0):MmOk n.Bufs (n.Bufs.map (pA mem)) where
  len:=by rw [lLm];exact hn.bufs
  fit:=fun x hx=>by
    obtain ⟨b,hb,rfl⟩:=bq.1 hx
    obtain ⟨t,e1,e2,e3,e4⟩:=must_inv (prv_mem h b hb)
    have hv:=tn_len e2
    have hd:=zMf t.Dims
    have h6:=(zFm (tn_dims e2)).1
    unfold pA
    rw [e1]
    exact ⟨by show t.Dims.length<=_;omega,by show t.Vals.length<=_;omega⟩
  has:=fun s hs=>by
    have key:∀l:List Bf,(∀b,b∈l->jH mem b=0)->dU l s=true->∃t,dP (l.map (pA mem)) s=some t/\bX t.Dims=0/\(t.Vals.length:Int)=fJ t.Dims:=by
      intro l
      induction l with
      |nil=>intro _ q;cases q
      |cons b r ih=>
        intro hb hs
        obtain ⟨t,e1,e2,e3,e4⟩:=must_inv (hb b uD)
        rw [aK,dP]
        by_cases c:b.Name=s
        · rw [ab (show (pA mem b).Name=s from c)]
          refine ⟨t,?_,tn_dims e2,tn_len e2⟩
          unfold pA;rw [e1];rfl
        · rw [aa (show ¬(pA mem b).Name=s from c)]
          refine ih (fun y hy=>hb y (au _ hy)) ?_
          unfold dU at hs⊢
          rw [ep,aB c,eu] at hs
          exact hs
    exact key n.Bufs (prv_mem h) hs
  uni:=fun x hx=>by
    have key:∀(l:List Bf) (b:Bf),b∈l->dP (l.map (pA mem)) b.Name=some ((dP mem b.Name).getD zTn):=by
      intro l
      induction l with
      |nil=>intro b hb;cases hb
      |cons a r ih=>
        intro b hb
        rw [aK,dP]
        by_cases c:a.Name=b.Name
        · rw [ab (show (pA mem a).Name=b.Name from c)]
          show some ((dP mem a.Name).getD zTn)=_
          rw [c]
        · rw [aa (show ¬(pA mem a).Name=b.Name from c)]
          rcases af.1 hb with rfl|hb
          · exact absurd rfl c
          · exact ih b hb
    obtain ⟨b,hb,rfl⟩:=bq.1 hx
    exact key n.Bufs b hb
def FB_zero:FB ⟨0,[]⟩:=⟨bn _,zrng⟩
def exA_zero:ExA zEx:=fun x hx=>by
  rw [wC] at hx
  obtain rfl:x=zEx:=by simpa [zEx,Ex.Args,bU] using hx
  exact ⟨FB_zero,fun y hy=>(by cases hy),bn _⟩
def zJn {e:Ex} (h:dE e=0):e.Idx.length<=6/\∀x,x∈e.Idx->x.At.length<=6:=by
  have hr:=(zHn h).2.2.1
  unfold nT at hr
  rw [ae,ao,al,aj] at hr
  have h2:¬(6:Int)<e.Idx.length:=hr.1.2
  refine ⟨zA,fun x hx=>?_⟩
  have h3:=ax.1 hr.2 x hx
  unfold tS at h3
  rw [ao] at h3
  have h4:=ie h3
  omega
def exA_of {e:Ex} (hp:dN e=0) (hf:e.allF FB):ExA e:=fun x hx=>by
  obtain ⟨r1,r2⟩:=zJn (errs_all hp x hx)
  have hx':∀l,l∈dC x->FB l:=fun l hl=>hf x hx l hl
  exact ⟨hx' _ (by unfold dC;simp),fun y hy=>⟨hx' _ (by unfold dC;exact au _ (cf.2 ⟨y,hy,uD⟩)),fun f hf=>hx' _ (by unfold dC;exact au _ (cf.2 ⟨y,hy,by simp [hf]⟩)),by have:=r2 y hy;omega⟩,zA⟩
def stC_of {U sc:List lr} {s:St} (h:stE B U sc s=0) (hi:gK FB s.Idx) (he:s.E.allF FB):StC B s:=by
  have hs:dW s=true:=stE_syn h
  obtain ⟨s1,s2⟩:=zPf hs
  by_cases h1:s.Op=1
  · have hI:s.Idx=[]:=s1 (by unfold hY;rw [aB zA,aB zA];rfl)
    exact ⟨fun _=>(stE_loop h h1).2,fun k=>by omega,fun k=>absurd h1 k,by rw [s2 h1];exact exA_zero,fun x hx=>(by rw [hI] at hx;cases hx),by rw [hI];exact bn _⟩
  · by_cases h4:s.Op=4
    · have hI:s.Idx=[]:=s1 (by unfold hY;rw [aB zA,aB zA];rfl)
      have hc:=stE_cond h h4
      have hic:bJ s.E=true:=by
        rw [stE_i hs h4] at h
        cases c:bJ s.E with
        |true=>rfl
        |false=>
          by_cases k1:(bT B sc s.E).2=0
          · rw [ifE_10 k1 c] at h;cases h
          · rw [ifE_x k1] at h;exact absurd h k1
      exact ⟨fun k=>absurd k h1,fun _=>⟨zDn hc.1,hic⟩,fun _ k=>absurd h4 k,exA_of (zDn hc.1) he,fun x hx=>(by rw [hI] at hx;cases hx),by rw [hI];exact bn _⟩
    · rw [stE_s hs h1 h4] at h
      have k1:(bT B sc (rdE s)).2=0:=by
        by_cases c:(bT B sc (rdE s)).2=0
        · exact c
        · rw [zMq c] at h;exact absurd h c
      have k2:¬((jA B s.Name).Use=1∨(s.Op=3/\(s.Fold<1∨4<s.Fold))):=fun c=>by rw [zJd k1 c] at h;cases h
      have k3:(bT B sc s.E).2=0:=by
        by_cases c:(bT B sc s.E).2=0
        · exact c
        · rw [zMp k1 k2 c] at h;exact absurd h c
      have k4:¬(bJ s.E=true∨¬(bT B sc s.E).1=(jA B s.Name).T):=fun c=>by rw [zWh k1 k2 k3 c] at h;cases h
      have hp:=zDn (zAv k3).1
      have hr:=zDn (zAv k1).1
      have hself:rdE s∈dI (rdE s):=by rw [wC];simp
      have hn:=zMx.1 (zAv k1).2 (rdE s) hself
      have hB:dU B s.Name=true:=by
        cases c:dU B s.Name with
        |true=>rfl
        |false=>
          cases d:lQ sc (rdE s) with
          |true=>rw [nodeN_n d rfl c] at hn;cases hn
          |false=>rw [nodeN_9 d] at hn;cases hn
      obtain ⟨r1,r2⟩:=zJn (errs_all hr (rdE s) hself)
      have r1':s.Idx.length<=6:=r1
      have hcn:bJ s.E=false:=by
        cases c:bJ s.E with
        |true=>exact absurd (.inl c) k4
        |false=>rfl
      exact ⟨fun k=>absurd k h1,fun k=>absurd k h4,fun _ _=>⟨hp,hcn,hB⟩,exA_of hp he,fun x hx=>⟨(hi x hx).1,(hi x hx).2,by have:=r2 x hx;omega⟩,zA⟩
mutual
def stAll_C {B:List Bf}:∀s:St,pG (fun s=>∃U sc,stE B U sc s=0) s->s.allF FB->pG (StC B) s
  |.mk o nm mn mk fo i e b,h,hf=>by
    rw [pG] at h⊢
    rw [St.allF] at hf
    obtain ⟨⟨U,sc,h1⟩,h2⟩:=h
    exact ⟨stC_of h1 hf.1 hf.2.1,stsAll_C b h2 hf.2.2⟩
def stsAll_C {B:List Bf}:∀l:List St,gM (fun s=>∃U sc,stE B U sc s=0) l->bE FB l->gM (StC B) l
  |[],_,_=>by rw [gM];trivial
  |s::r,h,hf=>by
    rw [gM] at h⊢
    rw [bE] at hf
    exact ⟨stAll_C s h.1 hf.1,stsAll_C r h.2 hf.2⟩
end
def allSs_impR {P Q:Lf->Prop} (hPQ:∀l,P l->Q l) (h:bE P l):bE Q l:=by
  exact m7
def zRs (h:(bL n).2=0) (hr:bE Lf.rng n.Body) (hw:bD n.Body<=1000000):gM (StC n.Bufs) n.Body:=by
  have hf:bE FB n.Body:=allSs_impR (fun l hl=>⟨cc hl.1 zB,hl.2⟩) (zHd n.Body (zKw hw) hr)
  exact stsAll_C n.Body (zPb h) hf
/-! ## The law on redundant guards -/
def run_fit {mem:List Nmd} (hn:n.Ok):(rnN n mem f).1.length<=140737488355328/\∀x,x∈(rnN n mem f).1->x.T.Dims.length<=17592186044416/\x.T.Vals.length<=140737488355328:=by
  unfold rnN
  split
  · exact ⟨bn _,fun x hx=>(by cases hx)⟩
  · split
    · exact ⟨bn _,fun x hx=>(by cases hx)⟩
    · next hf=>
      split
      · exact ⟨bn _,fun x hx=>(by cases hx)⟩
      · next hp=>
        split
        · exact ⟨bn _,fun x hx=>(by cases hx)⟩
        · have hR:RI n.Bufs f (nV n mem f):=zPs n.Body [] _ ⟨prv_ok hn (Decidable.not_not.1 hp),Int.le_refl _,by show (0:Int)<=f;omega⟩
          exact ⟨cc hR.mem.len zB,fun x hx=>⟨(hR.mem.fit x hx).1,cc (hR.mem.fit x hx).2 zB⟩⟩
end Go.W
end
