/-
  Numbers of 192 bits,as lin.Eval adds them up; the value of a form,in plain Lean.
  And what the laws need besides.
  Conditions: none.
-/
import Derived.Test.YtgfomfnjionbeaaGreatDoorPlain2
import Derived.Test.YtgfomfnjionbeaaGreatDoorPlain3
import Derived.KernelRfl
set_option linter.unusedSimpArgs false
set_option linter.unusedVariables false
set_option linter.defProp false
section
set_option maxRecDepth 100000
namespace Go.Br
open Go Go.Eng Go.L41
structure W3 where
 h:Nat
 m:Nat
 l:Nat
def W3.ok (w:W3):Prop:=w.h<18446744073709551616/\w.m<18446744073709551616/\w.l<18446744073709551616
def W3.v (w:W3):Nat:=w.h*340282366920938463463374607431768211456+w.m*18446744073709551616+w.l
def R9 (hi lo:Nat):W3:=
 if (18446744073709551615-lo+1)%18446744073709551616=0 then
  (if (18446744073709551615-hi+1)%18446744073709551616=0 then ⟨0,0,0⟩ else ⟨18446744073709551615,(18446744073709551615-hi+1)%18446744073709551616,0⟩)
 else ⟨18446744073709551615,18446744073709551615-hi,(18446744073709551615-lo+1)%18446744073709551616⟩
def w3n_v {hi lo:Nat} (h1:hi<18446744073709551616) (h2:lo<18446744073709551616):(R9 hi lo).ok/\((R9 hi lo).v+(hi*18446744073709551616+lo))%6277101735386680763835789423207666416102355444464034512896=0:=by
 have key:∀a b c:Nat,a<18446744073709551616->b<18446744073709551616->c<18446744073709551616->(a*340282366920938463463374607431768211456+b*18446744073709551616+c+(hi*18446744073709551616+lo))%6277101735386680763835789423207666416102355444464034512896=0->
   (⟨a,b,c⟩:W3).ok/\((⟨a,b,c⟩:W3).v+(hi*18446744073709551616+lo))%6277101735386680763835789423207666416102355444464034512896=0:=λa b c q1 q2 q3 q4=>⟨⟨q1,q2,q3⟩,q4⟩
 unfold R9
 split
 ·split
  ·have e1:hi=0:=by omega
   have e2:lo=0:=by omega
   subst e1 e2
   exact ⟨⟨uA,uA,uA⟩,uA⟩
  ·exact key _ _ _ zB zB zB zB
 ·exact key _ _ _ zB zB zB zB
def GZ (a b:Nat):Nat:=if (a+b)%18446744073709551616<b then 1 else 0
def R8 {a b:Nat} (h1:a<18446744073709551616) (h2:b<18446744073709551616):(a+b)%18446744073709551616+GZ a b*18446744073709551616=a+b/\GZ a b<=1:=by
 unfold GZ;split<;>omega
def LM (w x:W3):W3:=
 ⟨(w.h+(x.h+(GZ w.m x.m+GZ (GZ w.l x.l) ((w.m+x.m)%18446744073709551616))))%18446744073709551616,((w.m+x.m)%18446744073709551616+GZ w.l x.l)%18446744073709551616,(w.l+x.l)%18446744073709551616⟩
def w3a_v {w x:W3} (h1:w.ok) (h2:x.ok):(LM w x).ok/\(LM w x).v=(w.v+x.v)%6277101735386680763835789423207666416102355444464034512896:=by
 obtain ⟨a1,a2,a3⟩:=h1
 obtain ⟨b1,b2,b3⟩:=h2
 obtain ⟨c1,c2⟩:=R8 a3 b3
 obtain ⟨d1,d2⟩:=R8 a2 b2
 obtain ⟨e1,e2⟩:=R8 (a:=GZ w.l x.l) (b:=(w.m+x.m)%18446744073709551616) zB zB
 have hm:((w.m+x.m)%18446744073709551616+GZ w.l x.l)=(GZ w.l x.l+(w.m+x.m)%18446744073709551616):=lp _ _
 unfold LM W3.ok W3.v
 dsimp only
 rw [hm]
 generalize GZ (GZ w.l x.l) ((w.m+x.m)%18446744073709551616)=k3 at *
 generalize GZ w.l x.l=k1 at *
 generalize GZ w.m x.m=k2 at *
 generalize (w.m+x.m)%18446744073709551616=M at *
 have q1:(k1+M)%18446744073709551616<18446744073709551616:=g7 _ zB
 have q2:(w.l+x.l)%18446744073709551616<18446744073709551616:=g7 _ zB
 generalize (k1+M)%18446744073709551616=M2 at *
 generalize (w.l+x.l)%18446744073709551616=L at *
 constructor
 ·omega
 ·omega
def Vs (l:Nat):Nat:=if l<9223372036854775808 then 0 else 18446744073709551615
def ZH {w:W3} (hw:w.ok) {S:Int} (hS: -(1569275433846670190958947355801916604025588861116008628224:Int)<=S/\S<=1569275433846670190958947355801916604025588861116008628224) (h:((w.v:Int)-S)%6277101735386680763835789423207666416102355444464034512896=0):
  (w.m=Vs w.l/\w.h=Vs w.l↔ -(9223372036854775808:Int)<=S/\S<=9223372036854775807)/\(-(9223372036854775808:Int)<=S/\S<=9223372036854775807->S=if w.l<9223372036854775808 then (w.l:Int) else (w.l:Int)-18446744073709551616):=by
 obtain ⟨a1,a2,a3⟩:=hw
 unfold W3.v at h
 unfold Vs
 by_cases c:w.l<9223372036854775808
 ·rw [ab c,ab c]
  constructor
  ·constructor
   ·intro q;omega
   ·intro q;omega
  ·intro q;omega
 ·rw [aa c,aa c]
  constructor
  ·constructor
   ·intro q;omega
   ·intro q;omega
  ·intro q;omega
/-! ## The value of a form -/
def lU:List Bd->nq->Option Int
 |[],_=>none
 |x::r,s=>if x.Name=s then some x.Val else lU r s
def CD (env:List Bd):List Mono->Option Int
 |[]=>some 0
 |m::r=>match lU env m.Name with
  |none=>none
  |some v=>(CD env r).map λz=>m.By*v+z
def dV (l:Lf) (env:List Bd):Int×Int:=
 if dM l=0 then (match CD env l.L with
  |none=>(0,9)
  |some z=>if-(9223372036854775808:Int)<=l.K+z/\l.K+z<=9223372036854775807 then (l.K+z,0) else (0,3)) else (0,1)
def CE (env:List Bd):∀(a b:List Mono),CD env (a++b)=match CD env a with|none=>none|some x=>(CD env b).map λy=>x+y
 |[],b=>by rw [D6,CD];cases CD env b<;>simp
 |m::r,b=>by
  have ih:=CE env r b
  rw [xn,CD,CD,ih]
  cases lU env m.Name with
  |none=>rfl
  |some v=>
   dsimp only
   cases CD env r with
   |none=>rfl
   |some x=>
    dsimp only [Option.map]
    cases CD env b with
    |none=>rfl
    |some y=>simp only [Option.map];rw [ld]
def wq {env:List Bd} {l:List Mono} {k:Nat} {m:Mono} {x v:Int} (h:l[k]? =some m) (hx:CD env (l.take k)=some x) (hv:lU env m.Name=some v):CD env (l.take (k+1))=some (x+m.By*v):=by
 rw [yB h,CE,hx]
 dsimp only [CD]
 rw [hv]
 simp
def Pu {env:List Bd} {l:List Mono} {k:Nat} {m:Mono} (h:l[k]? =some m) (hv:lU env m.Name=none):CD env l=none:=by
 have hl:=(af.1 h).1
 have e:l=l.take k++m::l.drop (k+1):=by rw [<-qN h,aZ]
 rw [e,CE]
 cases CD env (l.take k) with
 |none=>rfl
 |some x=>dsimp only [CD];rw [hv];rfl
end Go.Br
end
section
namespace Go.Br
open Go Go.Eng Go.L41
/-! ## Sizes (19.1) -/
def gI (env:List Bd) (s:nq):Int:=(lU env s).getD 0
def nB (env:List Bd) (s:nq):Bool:=(lU env s).isSome&&decide (1<=gI env s)&&decide (gI env s<=4096)
def eT (c:Cn) (n:Int):Bool:=decide (n=0)||(decide (0<n)&& !c.Eq)
def zz (env:List Bd):List Cn->Int
 |[]=>0
 |c::r=>if ¬(dV c.Lin env).2=0 then (dV c.Lin env).2 else if eT c (dV c.Lin env).1=true then zz env r else 16
def mF (p:Pg) (env:List Bd):Int:=if env.length=p.Sizes.length then (if p.Sizes.all (nB env)=true then zz env p.Where else 15) else 15
variable {env:List Bd} {k:Nat} {c:Cn}
def LO {l:List Cn} (h:l[k]? =some c) (hp:zz env l=zz env (l.drop k)) (h1:(dV c.Lin env).2=0) (h2:eT c (dV c.Lin env).1=true):zz env l=zz env (l.drop (k+1)):=by
 rw [hp,qN h,zz,aa (λq=>q h1),ab h2]
def Sc {l:List Cn} (h:l[k]? =some c) (hp:zz env l=zz env (l.drop k)) (h1:¬(dV c.Lin env).2=0):zz env l=(dV c.Lin env).2:=by
 rw [hp,qN h,zz,ab h1]
def WM {l:List Cn} (h:l[k]? =some c) (hp:zz env l=zz env (l.drop k)) (h1:(dV c.Lin env).2=0) (h2:eT c (dV c.Lin env).1=false):zz env l=16:=by
 rw [hp,qN h,zz,aa (λq=>q h1),aa Ca]
def Sb {l:List Cn} (h:l.length<=k) (hp:zz env l=zz env (l.drop k)):zz env l=0:=by rw [hp,bn h];rfl
/-! ## Extents -/
def fO (env:List Bd):List Lf->Int
 |[]=>0
 |f::r=>if ¬(dV f env).2=0 then (dV f env).2 else if (dV f env).1<1∨4096<(dV f env).1 then 15 else fO env r
def fB (env:List Bd) (l:List Lf):List Int:=l.map λf=>(dV f env).1
def zWe {l:List Lf} {f:Lf} (h:l[k]? =some f) (hp:fO env l=fO env (l.drop k)) (h1:(dV f env).2=0) (h2:¬((dV f env).1<1∨4096<(dV f env).1)):fO env l=fO env (l.drop (k+1)):=by
 rw [hp,qN h,fO,aa (λq=>q h1),aa h2]
def uP {l:List Lf} {f:Lf} (h:l[k]? =some f) (hp:fO env l=fO env (l.drop k)) (h1:¬(dV f env).2=0):fO env l=(dV f env).2:=by
 rw [hp,qN h,fO,ab h1]
def uN {l:List Lf} {f:Lf} (h:l[k]? =some f) (hp:fO env l=fO env (l.drop k)) (h1:(dV f env).2=0) (h2:(dV f env).1<1∨4096<(dV f env).1):fO env l=15:=by
 rw [hp,qN h,fO,aa (λq=>q h1),ab h2]
def uO {l:List Lf} (h:l.length<=k) (hp:fO env l=fO env (l.drop k)):fO env l=0:=by rw [hp,bn h];rfl
def jQ (p:Pg) (env:List Bd) (s:nq):Int:=
 if (p.en.find s).ok=true then (if fO env (p.en.find s).dims=0 then (if (bM 1 (fB env (p.en.find s).dims)).isSome=true then 0 else 15) else fO env (p.en.find s).dims) else 9
def mT (p:Pg) (env:List Bd) (s:nq):List Int×Int:=if jQ p env s=0 then (fB env (p.en.find s).dims,0) else ([],jQ p env s)
def rR (p:Pg) (env:List Bd) (s:nq):List Int×Int:=
 if (bK p).2=0 then (if mF p env=0 then mT p env s else ([],mF p env)) else ([],(bK p).2)
/-! ## A definition -/
def pi (d a:nq):nq:=if bB (d++bs [95]++a)=true then d++bs [95]++a else bs []
def lI (d:nq) (l:List Ax):Int:=if l.any (λx=>decide (pi d x.Name=bs []))=true then 7 else 0
def gU (d:nq) (l:List Ax) (ext:List Int):List Bd:=(l.zip ext).map λx=>⟨pi d x.1.Name,x.2⟩
def rO (x:Bd) (b:List St):St:=.mk 1 x.Name x.Val 0 0 [] zEx b
def fH (l:List Bd) (b:List St):List St:=l.foldr (λx b=>[rO x b]) b
def lR (d:Df) (at_:List Ix) (e:Ex):St:=.mk 2 d.Name 0 0 0 at_ e []
def gE (d:Df) (at_:List Ix) (f:Int) (e:Ex):St:=.mk 3 d.Name 0 0 f at_ e []
def ul (e:Ex) (b:List St):St:=.mk 4 (bs []) 0 0 0 [] e b
def iC (l:Lf):Ex:=.mk 2 (bs []) ⟨0,0⟩ px l [] []
def nL (l:Lf):Ex:=.mk 13 (bs []) ⟨0,0⟩ px ⟨0,[]⟩ [] [iC ⟨0,[]⟩,iC l]
def SN (e:Ex) (s:nq) (u:Lf):Except Int Ex:=pj (λl=>bX l s u) e
def dD (u:nq->Lf):List nq->Ex->Except Int Ex
 |[],e=>.ok e
 |s::r,e=>match SN e s (u s) with
  |.error x=>.error x
  |.ok e'=>dD u r e'
def vG (t:Ty):Vl:=if t.Kind=2 then ⟨2^t.Frac.toNat,1⟩ else ⟨1,1⟩
def fW (t:Ty):Vl×Int:=if dO t=true then (if jR t (vG t)=true then (vG t,0) else (⟨0,0⟩,3)) else (⟨0,0⟩,10)
def sg (f:Int) (t:Ty):Vl×Bool:=
 if dO t=true/\(f=1∨f=5) then (⟨0,1⟩,true) else if f=2 then ((fW t).1,decide ((fW t).2=0)) else (⟨0,0⟩,false)
/-! ## Def and Prog -/
def sU:List Bd->Lf->Lf
 |[],a=>a
 |x::r,a=>sU r (gS a (dK x.Name)).1
def pI (d:Df) (at_:List Ix) (red:List Bd) (body:Ex):Except Int (List St):=
 if d.Fold=0 then .ok [lR d at_ body] else
 if d.Fold=5 then .ok [lR d at_ body,ul (nL (at_.getD (at_.length-1) ⟨⟨0,[]⟩,bs [],[]⟩).Lin)
  [gE d at_ 1 (.mk 3 d.Name ⟨0,0⟩ px ⟨0,[]⟩ (at_.set (at_.length-1) ⟨(gS (at_.getD (at_.length-1) ⟨⟨0,[]⟩,bs [],[]⟩).Lin ⟨-1,[]⟩).1,bs [],[]⟩) [])]] else
 if (sg d.Fold d.T).2=true then .ok (lR d at_ (.mk 1 (bs []) (sg d.Fold d.T).1 d.T ⟨0,[]⟩ [] [])::fH red [gE d at_ d.Fold body]) else
 match dD (λ_=>⟨0,[]⟩) (red.map Bd.Name) body with
 |.error x=>.error x
 |.ok first=>.ok (lR d at_ first::fH red [ul (nL (sU red ⟨0,[]⟩)) [gE d at_ d.Fold body]])
def lJ (p:Pg) (env:List Bd) (d:Df):List Bd:=gU d.Name d.Dims (fB env (p.en.find d.Name).dims)
def tQ (env:List Bd) (d:Df):List Bd:=gU d.Name d.Red (fB env (d.Red.map Ax.Size))
def pG (p:Pg) (env:List Bd) (d:Df):Except Int (List St):=
 match dD (λs=>⟨gI env s,[]⟩) p.Sizes d.Body with
 |.error x=>.error x
 |.ok b=>match pI d ((lJ p env d).map λx=>⟨dK x.Name,bs [],[]⟩) (tQ env d) (qh (gP ((bD d).map (pi d.Name)) (bD d)) b) with
  |.error x=>.error x
  |.ok l=>.ok (fH (lJ p env d) l)
def gL (p:Pg) (env:List Bd) (d:Df):Except Int (List St):=
 if ¬jQ p env d.Name=0 then .error (jQ p env d.Name) else
 if ¬fO env (d.Red.map Ax.Size)=0 then .error (fO env (d.Red.map Ax.Size)) else
 if ¬lI d.Name d.Dims=0 then .error 7 else if ¬lI d.Name d.Red=0 then .error 7 else pG p env d
def mS:Except Int (List St)->List St
 |.error _=>[]
 |.ok l=>l
def tP (p:Pg) (env:List Bd) (i:Int):Except Int (List St):=
 if ¬(bK p).2=0 then .error (bK p).2 else if ¬mF p env=0 then .error (mF p env) else
 if i<0∨(p.Defs.length:Int)<=i then .error 9 else
 match p.Defs[i.toNat]? with
 |none=>.error 9
 |some d=>gL p env d
def pH (p:Pg) (env:List Bd) (x:Pm):Bf:=⟨x.Name,x.T,fB env (p.en.find x.Name).dims,1⟩
def mG (p:Pg) (env:List Bd) (d:Df):Bf:=⟨d.Name,d.T,fB env (p.en.find d.Name).dims,if bQ p.Outs d.Name=true then 2 else 3⟩
def nK (p:Pg) (env:List Bd):List Pm->Int
 |[]=>0
 |x::r=>if jQ p env x.Name=0 then nK p env r else jQ p env x.Name
def mZ (p:Pg) (env:List Bd):List Df->Int
 |[]=>0
 |d::r=>match gL p env d with
  |.error x=>x
  |.ok _=>mZ p env r
def rF (p:Pg) (env:List Bd):Ns:=⟨p.Params.map (pH p env)++p.Defs.map (mG p env),p.Defs.flatMap λd=>mS (gL p env d)⟩
def jM (p:Pg) (env:List Bd):Ns×Int:=
 if ¬(bK p).2=0 then (⟨[],[]⟩,(bK p).2) else if ¬mF p env=0 then (⟨[],[]⟩,mF p env) else
 if p.Outs.any (λs=>p.Params.any λx=>decide (x.Name=s))=true then (⟨[],[]⟩,1) else
 if ¬nK p env p.Params=0 then (⟨[],[]⟩,nK p env p.Params) else
 if ¬mZ p env p.Defs=0 then (⟨[],[]⟩,mZ p env p.Defs) else
 if ¬(jF (rF p env)).2=0 then (⟨[],[]⟩,(jF (rF p env)).2) else (rF p env,0)
variable {p:Pg}
def MT:((jM p env).2=0->(jF (jM p env).1).2=0/\(jM p env).1.Bufs.length=p.Params.length+p.Defs.length)/\(¬(jM p env).2=0->(jM p env).1=⟨[],[]⟩):=by
 unfold jM
 split
 ·rename_i c;exact ⟨λh=>absurd h c,λ_=>rfl⟩
 ·split
  ·rename_i c;exact ⟨λh=>absurd h c,λ_=>rfl⟩
  ·split
   ·exact ⟨(λh=>by cases h),λ_=>rfl⟩
   ·split
    ·rename_i c;exact ⟨λh=>absurd h c,λ_=>rfl⟩
    ·split
     ·rename_i c;exact ⟨λh=>absurd h c,λ_=>rfl⟩
     ·split
      ·rename_i c;exact ⟨λh=>absurd h c,λ_=>rfl⟩
      ·rename_i c
       exact ⟨λ_=>⟨Decidable.of_not_not c,by simp [rF]⟩,λh=>absurd rfl h⟩
def xS (ln:nq->nq):List nq->Lf->Lf
 |[],l=>l
 |s::r,l=>xS ln r (nH s (ln s) l)
noncomputable def pD (ln:nq->nq) (P:List nq) (a:nq):nq:= @ite _ (a∈P) (Classical.propDecidable _) (ln a) a
structure SqI (ln:nq->nq) (P:List nq) (l c:Lf):Prop where
 k:c.K=l.K
 ok:bI c=true
 rng:c.rng
 mem:∀m,m∈c.L↔∃m0,m0∈l.L/\m=⟨pD ln P m0.Name,m0.By⟩
variable {s:nq} {ln:nq->nq}
def sq_no {P:List nq} {l c:Lf} (h:SqI ln P l c) (h1:∀m,m∈l.L->m.Name∈P->ln m.Name≠ln s) (h2:∀m,m∈l.L->m.Name ∉ P->m.Name≠ln s):¬eE c (ln s):=by
 rintro ⟨m,hm,e⟩
 obtain ⟨m0,hm0,rfl⟩:=(h.mem m).1 hm
 unfold pD at e
 dsimp only at e
 split at e
 ·rename_i q;exact h1 m0 hm0 q e
 ·rename_i q;exact h2 m0 hm0 q e
def LC {P:List nq} {l c:Lf} (h:SqI ln P l c) (hs:bB s=true) (ht:bB (ln s)=true) (hsP:s ∉ P) (h1:∀m,m∈l.L->m.Name∈P->ln m.Name≠ln s/\ln m.Name≠s) (h2:∀m,m∈l.L->m.Name ∉ P->m.Name≠ln s):SqI ln (P++[s]) l (nH s (ln s) c):=by
 have hn:¬eE c (ln s):=by
  rintro ⟨m,hm,e⟩
  obtain ⟨m0,hm0,rfl⟩:=(h.mem m).1 hm
  unfold pD at e
  dsimp only at e
  split at e
  ·rename_i q;exact (h1 m0 hm0 q).1 e
  ·rename_i q;exact h2 m0 hm0 q e
 obtain ⟨a1,a2,a3,a4⟩:=Je h.ok hs ht h.rng hn
 refine ⟨a1.trans h.k,a2,a3,λm=>?_⟩
 rw [a4 m,h.mem m]
 constructor
 ·rintro (⟨⟨m0,hm0,rfl⟩,hne⟩|⟨e,hm⟩)
  ·refine ⟨m0,hm0,?_⟩
   unfold pD at hne⊢
   dsimp only at hne
   by_cases q:m0.Name∈P
   ·rw [ab q,ab (d7 _ q)]
   ·rw [aa q] at hne
    rw [aa q,aa (by rw [aq,aR];rintro (k|k);exact q k;exact hne k)]
  ·obtain ⟨m0,hm0,e2⟩:=(h.mem _).1 hm
   have e3:s=pD ln P m0.Name:=by have:=ai Mono.Name e2;exact this
   have e4:m.By=m0.By:=by have:=ai Mono.By e2;exact this
   unfold pD at e3
   split at e3
   ·rename_i q;exact absurd e3.symm (h1 m0 hm0 q).2
   ·refine ⟨m0,hm0,?_⟩
    unfold pD
    rw [ab (dp _ (by rw [<-e3];simp)),<-e3]
    cases m;simp only at e e4;rw [e,e4]
 ·rintro ⟨m0,hm0,rfl⟩
  by_cases q:m0.Name∈P
  ·left
   unfold pD
   rw [ab (d7 _ q)]
   exact ⟨⟨m0,hm0,by rw [ab q]⟩,(h1 m0 hm0 q).2⟩
  ·by_cases q2:m0.Name=s
   ·right
    unfold pD
    rw [ab (dp _ (by rw [q2];simp))]
    refine ⟨by rw [q2],(h.mem _).2 ⟨m0,hm0,?_⟩⟩
    unfold pD
    rw [aa q,q2]
   ·left
    unfold pD
    rw [aa (by rw [aq,aR];rintro (k|k);exact q k;exact q2 k)]
    exact ⟨⟨m0,hm0,by rw [aa q]⟩,q2⟩
def xW (ln:nq->nq):List nq->Prop
 |[]=>True
 |s::r=>(∀a,a∈s::r->a≠ln s)/\xW ln r
def RC {ln:nq->nq} (hinj:∀a b,ln a=ln b->a=b) {l:Lf}:∀(O P:List nq) (c:Lf),SqI ln P l c->(∀s,s∈O->bB s=true/\bB (ln s)=true)->(P++O).Nodup->(∀a,a∈P->∀s,s∈O->ln a≠s)->xW ln O->
  (∀m,m∈l.L->m.Name ∉ P->m.Name∈O∨∀s,s∈O->m.Name≠ln s)->SqI ln (P++O) l (xS ln O c)
 |[],P,c,h,_,_,_,_,_=>by rw [rk];exact h
 |s::r,P,c,h,hO,hnd,hPO,ho,hm=>by
  rw [xS,show P++s::r=(P++[s])++r by simp]
  have hsP:s ∉ P:=λk=>(d9.1 hnd).2.2 s k s uF rfl
  refine RC hinj r (P++[s]) _ (LC h (hO s uF).1 (hO s uF).2 hsP (λm hml hmP=>⟨λe=>hsP (by rw [<-hinj _ _ e];exact hmP),hPO _ hmP s uF⟩) λm hml hmP=>?_) (λt ht=>hO t Oy) (by simpa using hnd) (λa ha t ht=>?_) ho.2 λm hml hmP=>?_
  ·rcases hm m hml hmP with k|k
   ·exact ho.1 _ k
   ·exact k s uF
  ·rcases aq.1 ha with ha|ha
   ·exact hPO a ha t Oy
   ·rw [aR.1 ha];exact λe=>ho.1 t Oy e.symm
  ·have h1:m.Name ∉ P:=λk=>hmP (by simp [k])
   have h2:m.Name≠s:=λk=>hmP (by simp [k])
   rcases hm m hml h1 with k|k
   ·rcases ag.1 k with k|k
    ·exact absurd k h2
    ·exact .inl k
   ·exact .inr λt ht=>k t Oy
def KE {l:Lf} (h:bI l=true):xM l.L:=by
 have h2:=h
 simp only [bI,ae] at h2
 exact zYp (p:=none) (by first|exact h2.1.1|exact h2.1.2|exact h2.2|exact h2.1|exact h)
variable {A:List nq}
def Jm (hA:A.Nodup) (a:nq):mJ (A.map ln) A a=pD ln A a:=by
 unfold pD mJ
 by_cases h:a∈A
 ·obtain ⟨k,hk⟩:=bh h
  have hi:=CX hA hk
  rw [ab h,hi,ab zB,bu,dc,cg,hk];rfl
 ·rw [aa h,PX h,aa zB]
def Q9 (hinj:∀a b,ln a=ln b->a=b) {l:Lf} (hm:∀m,m∈l.L->m.Name ∉ A->∀s,s∈A->m.Name≠ln s) {x y:Mono} (hx:x∈l.L) (hy:y∈l.L) (h:pD ln A x.Name=pD ln A y.Name):x.Name=y.Name:=by
 unfold pD at h
 split at h
 ·rename_i q
  split at h
  ·exact hinj _ _ h
  ·rename_i q2;exact absurd h.symm (hm y hy q2 _ q)
 ·rename_i q
  split at h
  ·rename_i q2;exact absurd h (hm x hx q _ q2)
  ·exact h
def Ve (hA:A.Nodup) (hinj:∀a b,ln a=ln b->a=b) {l c:Lf} (hl:bI l=true) (hm:∀m,m∈l.L->m.Name ∉ A->∀s,s∈A->m.Name≠ln s) (h:SqI ln A l c):c=gP (A.map ln) A l:=by
 have hnd:((l.L.map λm=>(⟨mJ (A.map ln) A m.Name,m.By⟩:Mono)).map Mono.Name).Nodup:=by
  rw [fx]
  have h0:=L5 (KE hl)
  have h1:l.L.Pairwise λa b=>a.Name≠b.Name:=by rw [kr,e8] at h0;exact h0
  rw [kr,e8]
  refine List.Pairwise.imp_of_mem (λha hb hab e=>hab ?_) h1
  simp only [Function.comp,Jm hA] at e
  exact Q9 hinj hm ha hb e
 have hL:c.L=jS (l.L.map λm=>⟨mJ (A.map ln) A m.Name,m.By⟩):=by
  refine Co (KE h.ok) (BQ hnd) λm=>?_
  rw [h.mem m,zXh,aY]
  constructor
  ·rintro ⟨m0,h1,rfl⟩;exact ⟨m0,h1,by rw [Jm hA]⟩
  ·rintro ⟨m0,h1,rfl⟩;exact ⟨m0,h1,by rw [Jm hA]⟩
 cases c with
 |mk K L=>
  have hk:K=l.K:=h.k
  simp only at hL
  unfold gP
  rw [hk,hL]
variable {t:nq}
/-! ## Expressions -/
def Vd {l:Lf} {f:nq} (h1:bI l=true) (hf:bB f=true) (ht:bB t=true) (hr:l.rng) (hn:¬eE l t):bS l f (N7 t)=(nH f t l,0):=by
 have h2:=R6 ht
 have key:(bS l f (N7 t)).2=0:=by
  by_cases c:bO l.L f=0
  ·have e:bS l f (N7 t)=(l,0):=by unfold bS;rw [ab ⟨h1,h2,hf⟩,ab c]
   rw [e]
  ·have hb:=zQz hr f
   obtain ⟨g1,g2⟩:=Lm (a:=(lZ l f).L) (t:=t) (b:=bO l.L f) (λm hm=>by
    have hm':=dg.1 hm
    exact ⟨λe=>hn ⟨m,hm'.1,e⟩,(zHr h1 m hm'.1).1,hr.2 m hm'.1⟩) c hb
   have e:bS l f (N7 t)=(⟨l.K,lP (mK (bO l.L f) (bE (lZ l f).L [⟨t,1⟩]))⟩,0):=by
    exact v27
   rw [e]
 unfold nH
 rw [ab key]
 exact Prod.ext rfl key
variable {e:Ex}
def VQ {P Q:Lf->Prop} (h:e.allF P) (k:∀l,P l->Q l):e.allF Q:=λx hx l hl=>k l (h x hx l hl)
variable {g:Lf->Lf}
def Ba {g':Lf->Lf}:∀{e:Ex},e.allF (λl=>g l=g' l)->qh g e=qh g' e:=by
 intro e
 induction e using Ex.ind with
 |_ e ih=>
  intro h
  rw [Xj,Xj g',Ex.allF_lin h,dr (g:=qh g') (λa ha=>ih a ha (Ex.allF_arg h ha)),dr (l:=e.Idx) (g:=xc g') (λx hx=>by
   unfold xc
   rw [Ex.allF_ix h hx,dr (g:=g') (λl hl=>Ex.allF_at h hx hl)])]
def ZE (ht:bB t=true):dK t=N7 t:=by unfold dK N7;rw [ht];rfl
def Rj {f:nq} (hf:bB f=true) (ht:bB t=true) (hP:e.allF λl=>bI l=true/\l.rng/\¬eE l t):SN e f (dK t)=.ok (qh (nH f t) e):=by
 unfold SN
 rw [ZE ht]
 have hS:∀l:Lf,bI l=true/\l.rng/\¬eE l t->bX l f (N7 t)=(nH f t l,0):=λl h=>by rw [zKh h.2.1];exact Vd h.1 hf ht h.2.1 h.2.2
 cases h:pj (λl=>bX l f (N7 t)) e with
 |error c=>
  have h0:c=0:=YD (P:=λc=>c=0) e (VQ hP λl hl=>by rw [hS l hl]) c h
  rw [h0] at h
  exact absurd h (tv e)
 |ok e'=>
  rw [(Ft h).1]
  exact ai Except.ok (Ba (VQ hP λl hl=>by rw [hS l hl]))
def Rk {ln:nq->nq} (hinj:∀a b,ln a=ln b->a=b) {F:Lf->Prop} {e0:Ex} (hF:e0.allF F):∀(O P:List nq) (g:Lf->Lf),(∀l,F l->SqI ln P l (g l))->(∀s,s∈O->bB s=true/\bB (ln s)=true)->(P++O).Nodup->(∀a,a∈P->∀s,s∈O->ln a≠s)->xW ln O->
  (∀l,F l->∀m,m∈l.L->m.Name ∉ P->m.Name∈O∨∀s,s∈O->m.Name≠ln s)->dD (λs=>dK (ln s)) O (qh g e0)=.ok (qh (λl=>xS ln O (g l)) e0)
 |[],P,g,_,_,_,_,_,_=>rfl
 |s::r,P,g,h,hO,hnd,hPO,ho,hm=>by
  have hsP:s ∉ P:=λk=>(d9.1 hnd).2.2 s k s uF rfl
  have hA:∀l,F l->∀m,m∈l.L->m.Name∈P->ln m.Name≠ln s/\ln m.Name≠s:=λl hl m hml hmP=>⟨λe=>hsP (by rw [<-hinj _ _ e];exact hmP),hPO _ hmP s uF⟩
  have hB:∀l,F l->∀m,m∈l.L->m.Name ∉ P->m.Name≠ln s:=λl hl m hml hmP=>by
   rcases hm l hl m hml hmP with k|k
   ·exact ho.1 _ k
   ·exact k s uF
  have hstep:SN (qh g e0) s (dK (ln s))=.ok (qh (nH s (ln s)) (qh g e0)):=
   Rj (hO s uF).1 (hO s uF).2 (Y5 (VQ hF λl hl=>⟨(h l hl).ok,(h l hl).rng,sq_no (h l hl) (λm hml hmP=>(hA l hl m hml hmP).1) (hB l hl)⟩))
  rw [dD,hstep,Kt]
  refine Rk hinj hF r (P++[s]) (λl=>nH s (ln s) (g l)) (λl hl=>LC (h l hl) (hO s uF).1 (hO s uF).2 hsP (hA l hl) (hB l hl)) (λt ht=>hO t Oy) (by simpa using hnd) (λa ha t ht=>?_) ho.2 λl hl m hml hmP=>?_
  ·rcases aq.1 ha with ha|ha
   ·exact hPO a ha t Oy
   ·rw [aR.1 ha];exact λe=>ho.1 t Oy e.symm
  ·have h1:m.Name ∉ P:=λk=>hmP (by simp [k])
   have h2:m.Name≠s:=λk=>hmP (by simp [k])
   rcases hm l hl m hml h1 with k|k
   ·rcases ag.1 k with k|k
    ·exact absurd k h2
    ·exact .inl k
   ·exact .inr λt ht=>k t Oy
def PI (e:Ex):qh (λl=>l) e=e:=Yg e λ_ _ _ _=>rfl
def U4 (hinj:∀a b,ln a=ln b->a=b) {O:List nq} (hA:A.Nodup) (hO:O.Nodup) (hAO:∀a,a∈O↔a∈A) (hv:∀s,s∈A->bB s=true/\bB (ln s)=true) (ho:xW ln O) (hF:e.allF λl=>bI l=true/\l.rng/\∀m,m∈l.L->m.Name∈A):dD (λs=>dK (ln s)) O e=.ok (qh (gP (A.map ln) A) e):=by
 have h0:∀l:Lf,(bI l=true/\l.rng/\∀m,m∈l.L->m.Name∈A)->SqI ln [] l l:=λl hl=>⟨rfl,hl.1,hl.2.1,λm=>⟨λh=>⟨m,h,by cases m;simp [pD]⟩,λ⟨m0,h,e⟩=>by rw [e];cases m0;simpa [pD] using h⟩⟩
 have hv':∀s,s∈O->bB s=true/\bB (ln s)=true:=λs hs=>hv s ((hAO s).1 hs)
 have h:=Rk hinj hF O [] (λl=>l) h0 hv' (by simpa using hO) (λa ha=>by cases ha) ho (λl hl m hml _=>.inl ((hAO _).2 (hl.2.2 m hml)))
 rw [PI] at h
 rw [h]
 refine ai Except.ok (Ba (VQ hF λl hl=>?_))
 have q:=RC hinj O [] l (h0 l hl) hv' (by simpa using hO) (λa ha=>by cases ha) ho λm hml _=>.inl ((hAO _).2 (hl.2.2 m hml))
 rw [D6] at q
 have q2:SqI ln A l (xS ln O l):=⟨q.k,q.ok,q.rng,λm=>by
  rw [q.mem m]
  have e:∀a,pD ln O a=pD ln A a:=λa=>by
   unfold pD
   by_cases k:a∈A
   ·rw [ab k,ab ((hAO a).2 k)]
   ·rw [aa k,aa λk2=>k ((hAO a).1 k2)]
  simp only [e]⟩
 exact Ve hA hinj hl.1 (λm hml hmA=>absurd (hl.2.2 m hml) hmA) q2
/-! ## The order of the names -/
def Bu (d a:nq):nq:=d++bs [95]++a
def KF (d:nq):∀a b,Bu d a=Bu d b->a=b:=λa b h=>by
 have h2:=ai (λx:nq=>x.data.toList) h
 simp only [Bu,ByteArray.data_append,ma] at h2
 have h3:=List.append_cancel_left h2
 exact i5 (fz.1 h3)
def Fm (d a:nq):a.size<(Bu d a).size:=by
 unfold Bu
 rw [gy,gy]
 have:(bs [95]).size=1:=rfl
 omega
def QS {ln:nq->nq} (hl:∀a,a.size<(ln a).size):∀{O:List nq},O.Pairwise (λs a=>a.size<=s.size)->xW ln O
 |[],_=>trivial
 |s::r,h=>by
  rw [ee] at h
  refine ⟨λa ha e=>?_,QS hl h.2⟩
  have h1:=hl s
  rcases ag.1 ha with rfl|ha
  ·rw [<-e] at h1;omega
  ·have:=h.1 a ha;rw [e] at this;omega
def pZ (A:List nq):Nat->List nq
 |0=>[]
 |n+1=>A.filter (λs=>decide (s.size=n+1))++pZ A n
def zQp {A:List nq} {a:nq}:∀{n:Nat},a∈pZ A n↔a∈A/\1<=a.size/\a.size<=n
 |0=>⟨(λh=>by cases h),(λh=>by omega)⟩
 |n+1=>by
  rw [pZ,aq,dg,zQp,aj]
  constructor
  ·rintro (⟨h1,h2⟩|⟨h1,h2,h3⟩)
   ·exact ⟨h1,zB,zB⟩
   ·exact ⟨h1,h2,zB⟩
  ·rintro ⟨h1,h2,h3⟩
   by_cases c:a.size=n+1
   ·exact .inl ⟨h1,c⟩
   ·exact .inr ⟨h1,h2,zB⟩
def yp {α:Type} {R:α->α->Prop}:∀{l:List α},(∀a,a∈l->∀b,b∈l->R a b)->l.Pairwise R
 |[],_=>List.Pairwise.nil
 |x::r,h=>List.Pairwise.cons (λb hb=>h x uF b Vx) (yp λa ha b hb=>h a (by simp [ha]) b Vx)
def BH (A:List nq):∀n:Nat,(pZ A n).Pairwise λs a=>a.size<=s.size
 |0=>List.Pairwise.nil
 |n+1=>by
  rw [pZ,List.pairwise_append]
  refine ⟨yp λa ha b hb=>?_,BH A n,λa ha b hb=>?_⟩
  ·have h1:=ca (dg.1 ha).2
   have h2:=ca (dg.1 hb).2
   omega
  ·have h1:=ca (dg.1 ha).2
   have h2:=(zQp.1 hb).2.2
   omega
def yo {A:List nq} (hA:A.Nodup):∀n:Nat,(pZ A n).Nodup
 |0=>iv
 |n+1=>by
  rw [pZ,d9]
  refine ⟨hA.filter _,yo hA n,λa ha b hb e=>?_⟩
  have h1:=ca (dg.1 ha).2
  have h2:=(zQp.1 hb).2.2
  rw [e] at h1;omega
def Bx:∀(a b:List Mono) (t:Tr),t∈bE a b->(∃m,m∈a/\m.Name=t.1)∨∃m,m∈b/\m.Name=t.1
 |[],[],t,h=>by rw [zHt] at h;cases h
 |a::ar,[],t,h=>by
  rw [S2] at h
  rcases ag.1 h with rfl|h
  ·exact .inl ⟨a,uF,rfl⟩
  ·rcases Bx ar [] t h with ⟨m,hm,e⟩|⟨m,hm,e⟩
   ·exact .inl ⟨m,by simp [hm],e⟩
   ·cases hm
 |[],b::br,t,h=>by
  rw [S0] at h
  rcases ag.1 h with rfl|h
  ·exact .inr ⟨b,uF,rfl⟩
  ·rcases Bx [] br t h with ⟨m,hm,e⟩|⟨m,hm,e⟩
   ·cases hm
   ·exact .inr ⟨m,by simp [hm],e⟩
 |a::ar,b::br,t,h=>by
  rw [LX] at h
  cases c:bF a.Name b.Name with
  |true=>
   rw [c,aB] at h
   rcases ag.1 h with rfl|h
   ·exact .inl ⟨a,uF,rfl⟩
   ·rcases Bx ar (b::br) t h with ⟨m,hm,e⟩|h
    ·exact .inl ⟨m,by simp [hm],e⟩
    ·exact .inr h
  |false=>
   rw [c,aw] at h
   cases c2:bF b.Name a.Name with
   |true=>
    rw [c2,aB] at h
    rcases ag.1 h with rfl|h
    ·exact .inr ⟨b,uF,rfl⟩
    ·rcases Bx (a::ar) br t h with h|⟨m,hm,e⟩
     ·exact .inl h
     ·exact .inr ⟨m,by simp [hm],e⟩
   |false=>
    rw [c2,aw] at h
    rcases ag.1 h with rfl|h
    ·exact .inl ⟨a,uF,rfl⟩
    ·rcases Bx ar br t h with ⟨m,hm,e⟩|⟨m,hm,e⟩
     ·exact .inl ⟨m,by simp [hm],e⟩
     ·exact .inr ⟨m,by simp [hm],e⟩
termination_by a b=>a.length+b.length
def lwAdd {k:Int} {ts:List Tr} {m:Mono} (h:m∈(mV k ts).1.L):∃t,t∈ts/\t.1=m.Name:=by
 unfold mV at h
 split at h
 ·have h:m∈lP ts:=h
  unfold lP at h
  obtain ⟨t,ht,e⟩:=iw.1 h
  split at e
  ·cases e
  ·injection e with e;exact ⟨t,ht,by rw [<-e]⟩
 ·cases h
def lwSub {l tt:Lf} (hs:bO l.L s=0->∀m,m∈l.L->m.Name≠s) {m:Mono} (h:m∈(bS l s tt).1.L):(∃x,x∈l.L/\x.Name=m.Name/\x.Name≠s)∨∃x,x∈tt.L/\x.Name=m.Name:=by
 unfold bS at h
 split at h
 ·split at h
  ·next c=>exact .inl ⟨m,h,rfl,hs c m h⟩
  ·split at h
   ·obtain ⟨t,ht,e⟩:=lwAdd h
    unfold mK at ht
    obtain ⟨u,hu,rfl⟩:=aY.1 ht
    rcases Bx _ _ u hu with ⟨x,hx,e2⟩|⟨x,hx,e2⟩
    ·have h3:=dg.1 hx
     exact .inl ⟨x,h3.1,by rw [e2];exact e,by simpa using h3.2⟩
    ·exact .inr ⟨x,hx,by rw [e2];exact e⟩
   ·cases h
 ·cases h
def szF (S A:List nq) (l:Lf):Prop:=bI l=true/\l.rng/\∀m,m∈l.L->m.Name∈S∨m.Name∈A
def Jp {A:List nq} {u:nq->Lf} (hu:∀s,(u s).L=[]/\bI (u s)=true):∀(S:List nq) (e e':Ex),(∀s,s∈S->bB s=true)->e.allF (szF S A)->dD u S e=.ok e'->e'.allF (szF [] A)
 |[],e,e',_,hF,h=>by
  rw [dD,fk] at h
  rw [<-h];exact hF
 |s::r,e,e',hS,hF,h=>by
  rw [dD] at h
  cases h1:SN e s (u s) with
  |error c=>rw [h1] at h;cases h
  |ok e1=>
   rw [h1] at h
   obtain ⟨q1,q2⟩:=Ft (show pj (λl=>bX l s (u s)) e=.ok e1 from h1)
   refine Jp hu r e1 e' (λt ht=>hS t Oy) ?_ h
   rw [q1]
   refine Y5 λx hx l hl=>?_
   have h2:=hF x hx l hl
   have h3:=q2 x hx l hl
   dsimp only at h3⊢
   rw [zKh h2.2.1] at h3⊢
   refine ⟨BT h2.1 (hu s).2 (hS s uF) h3,zSf s h2.2.1,λm hm=>?_⟩
   rcases lwSub (l:=l) (tt:=u s) (s:=s) (λh0=>zQy h2.1 h0) hm with ⟨y,hy,e2,e3⟩|⟨y,hy,_⟩
   ·rcases h2.2.2 y hy with k|k
    ·rcases ag.1 k with k|k
     ·exact absurd k e3
     ·rw [<-e2];exact .inl k
    ·rw [<-e2];exact .inr k
   ·rw [(hu s).1] at hy;cases hy
def zPi:∀(l t:List nq),jG t l=0->∀s,s∈l->bB s=true
 |[],_,_,s,hs=>by cases hs
 |a::r,t,h,s,hs=>by
  rw [jG] at h
  by_cases c:dJ a t=0
  ·rw [ab c] at h
   rcases ag.1 hs with rfl|hs
   ·unfold dJ at c
    split at c
    ·assumption
    ·cases c
   ·exact zPi r _ h s hs
  ·rw [aa c] at h;exact absurd h c
def vl {sz:List nq}:∀(l:List Ax) (t:List nq),jU sz t l=0->∀a,a∈l->bB a.Name=true
 |[],_,_,s,hs=>by cases hs
 |a::r,t,h,s,hs=>by
  rw [jU] at h
  by_cases c:dJ a.Name t=0
  ·rw [ab c] at h
   by_cases c2:jE a.Size sz=0
   ·rw [ab c2] at h
    rcases ag.1 hs with rfl|hs
    ·unfold dJ at c
     split at c
     ·assumption
     ·cases c
    ·exact vl r _ h s hs
   ·rw [aa c2] at h;exact absurd h c2
  ·rw [aa c] at h;exact absurd h c
def QE (h:bB s=true):1<=s.size:=by
 rcases jt s.size with c|c
 ·have e:s=bs []:=by
   apply i5
   exact ki c
  rw [e] at h
  exact absurd h uA
 ·exact c
def zPz (h:(bK p).2=0):∀d,d∈p.Defs->∀s,s∈bD d->bB s=true:=by
 rw [Sw] at h
 obtain ⟨a',h5,_⟩:=Z4 p p rfl p.Params _ _ (W4 h).2.2.2
 intro d hd
 obtain ⟨i,hi⟩:=bh hd
 have h1:=AU (zLc p p.Defs _ _ _ h5 i d hi)
 have e:bD d=(d.Dims++d.Red).map Ax.Name:=by unfold bD;rw [ah]
 rw [e]
 intro s hs
 obtain ⟨a,ha,rfl⟩:=aY.1 hs
 exact vl _ _ h1 a ha
variable {d:Df} {b:Ex}
def Ud (hv:(bK p).2=0) (hd:d∈p.Defs) (hR:d.Body.allF Lf.rng) (hn:∀s,s∈bD d->bB (Bu d.Name s)=true) (h:dD (λs=>⟨gI env s,[]⟩) p.Sizes d.Body=.ok b):
  dD (λs=>dK (Bu d.Name s)) (pZ (bD d) 16) b=.ok (qh (gP ((bD d).map (Bu d.Name)) (bD d)) b):=by
 have hA:=zq hv d hd
 have hN:=zPz hv d hd
 have td:=(Lh hv (bh hd).choose_spec).1
 have vd:=B4 (zLx (by rw [td])).1
 have kd:=zXe (n:=p.en) (vars:=bD d) (e:=d.Body) (by rw [td])
 have hS:=zPi _ _ (by have h2:=hv;rw [Sw] at h2;exact (W4 h2).2.1)
 have hF:d.Body.allF (szF p.Sizes (bD d)):=λx hx l hl=>⟨vd x hx l hl,hR x hx l hl,λm hm=>by
  have hk:=kd x hx l hl m hm
  unfold qt at hk
  rw [aD] at hk
  rcases hk with hk|hk
  ·exact .inr (LY.1 hk)
  ·exact .inl (LY.1 hk)⟩
 have hb:=Jp (A:=bD d) (u:=λs=>⟨gI env s,[]⟩) (λs=>⟨rfl,rfl⟩) p.Sizes d.Body b hS hF h
 refine U4 (KF d.Name) hA.1 (yo hA.1 16) (λa=>?_) (λs hs=>⟨hN s hs,hn s hs⟩) (QS (Fm d.Name) (BH _ 16)) (VQ hb λl hl=>⟨hl.1,hl.2.1,λm hm=>by
  rcases hl.2.2 m hm with k|k
  ·cases k
  ·exact k⟩)
 rw [zQp]
 exact ⟨λq=>q.1,λq=>⟨q,QE (hN a q),zQu (hN a q)⟩⟩
def KO {g:Lf->Lf}:∀l:List Lf,(∀x,x∈l->(g x).L.length<=x.L.length)->fY (l.map g)<=fY l
 |[],_=>aC _
 |x::r,h=>by
  rw [aG,fY,fY]
  have h1:=h x uF
  have h2:=KO r λy hy=>h y Ac
  omega
def lw_ix {x:Ix} (h1:(g x.Lin).L.length<=x.Lin.L.length) (h2:∀y,y∈x.At->(g y).L.length<=y.L.length):(xc g x).wt<=x.wt:=by
 have h3:=KO x.At h2
 unfold Ix.wt xc
 simp only [pc]
 omega
def Qk {g:Ix->Ix}:∀l:List Ix,(∀x,x∈l->(g x).wt<=x.wt)->dI (l.map g)<=dI l
 |[],_=>aC _
 |x::r,h=>by
  rw [aG,dI,dI]
  have h1:=h x uF
  have h2:=Qk r λy hy=>h y Ac
  omega
def KN {g:Ex->Ex}:∀l:List Ex,(∀x,x∈l->(g x).wt<=x.wt)->dX (l.map g)<=dX l
 |[],_=>aC _
 |x::r,h=>by
  rw [aG,dX,dX]
  have h1:=h x uF
  have h2:=KN r λy hy=>h y Ac
  omega
def Wp:∀{e:Ex},e.allF (λl=>(g l).L.length<=l.L.length)->(qh g e).wt<=e.wt:=by
 intro e
 induction e using Ex.ind with
 |_ e ih=>
  intro h
  have h1:=Ex.allF_lin h
  have h2:=Qk (g:=xc g) e.Idx λx hx=>lw_ix (Ex.allF_ix h hx) λy hy=>Ex.allF_at h hx hy
  have h3:=KN (g:=qh g) e.Args λa ha=>ih a ha (Ex.allF_arg h ha)
  rw [Xj,Ex.wt,Ex.wt_eq e,pc]
  omega
def Gq {u:nq->Lf} (hu:∀s,(u s).L=[]):∀(S:List nq) (e e':Ex),e.allF Lf.rng->dD u S e=.ok e'->e'.wt<=e.wt/\e'.allF Lf.rng
 |[],e,e',hF,h=>by
  rw [dD,fk] at h
  rw [<-h];exact ⟨aC _,hF⟩
 |s::r,e,e',hF,h=>by
  rw [dD] at h
  cases h1:SN e s (u s) with
  |error c=>rw [h1] at h;cases h
  |ok e1=>
   rw [h1] at h
   obtain ⟨q1,q2⟩:=Ft (show pj (λl=>bX l s (u s)) e=.ok e1 from h1)
   have hw:e1.wt<=e.wt:=by
    rw [q1]
    refine Wp λx hx l hl=>?_
    have:=zf l (u s) s
    dsimp only
    rw [zKh (hF x hx l hl)]
    rw [hu s,qw] at this;exact this
   have hr:e1.allF Lf.rng:=by
    rw [q1]
    refine Y5 λx hx l hl=>?_
    dsimp only
    rw [zKh (hF x hx l hl)]
    exact zSf s (hF x hx l hl)
   obtain ⟨g1,g2⟩:=Gq hu r e1 e' hr h
   exact ⟨zB,g2⟩
def Ih {B:List nq} (e:Ex):(qh (gP A B) e).wt<=e.wt:=Wp λx hx l hl=>by
 show (jS _).length<=_
 rw [zXi,pc]
 exact aC _
def yZ {B:List nq} {l:Lf} (h:l.rng):(gP A B l).rng:=⟨h.1,λm hm=>by
 obtain ⟨m',hm',rfl⟩:=aY.1 (zXh.1 hm)
 exact h.2 m' hm'⟩
/-! ## Statements -/
def xy (l:List Bd) (b:List St):bR (fH l b)<=bR b+l.length*2:=by
 induction l with
 |nil=>exact i8 _ _
 |cons x r ih=>
  show bR [rO x (fH r b)]<=_
  have e:bR [rO x (fH r b)]=(rO x (fH r b)).wt+0:=by rw [bR,bR]
  have e2:(rO x (fH r b)).wt=1+zEx.wt+0+0+bR (fH r b):=by rw [St.wt_eq];rfl
  have hz:zEx.wt=1:=rfl
  rw [pw,e,e2]
  omega
def vg (a b:Lf):(gS a b).1.L.length<=a.L.length+b.L.length:=by
 unfold gS
 split
 ·unfold mV
  split
  ·have h1:=zVn (bE a.L b.L)
   have h2:=VH a.L b.L
   show (lP _).length<=_
   omega
  ·show (zL.L).length<=_;simp [zL]
 ·show (zL.L).length<=_;simp [zL]
def GL:∀(l:List Bd) (a:Lf),(sU l a).L.length<=a.L.length+l.length
 |[],a=>by rw [sU];exact i8 _ _
 |x::r,a=>by
  rw [sU,pw]
  have h1:=GL r (gS a (dK x.Name)).1
  have h2:=vg a (dK x.Name)
  have h3:(dK x.Name).L.length<=1:=by unfold dK;cases bB x.Name<;>simp
  omega
def tw (s:St):bR [s]=s.wt:=by rw [bR,bR];rfl
def Zy (s t:St):bR [s,t]=s.wt+t.wt:=by rw [bR,tw]
def DN (d:Df) (at_:List Ix) (e:Ex):(lR d at_ e).wt=1+e.wt+at_.length+dI at_:=by rw [St.wt_eq];rfl
def HX (d:Df) (at_:List Ix) (f:Int) (e:Ex):(gE d at_ f e).wt=1+e.wt+at_.length+dI at_:=by rw [St.wt_eq];rfl
def Wj (e:Ex) (b:List St):(ul e b).wt=1+e.wt+bR b:=by rw [St.wt_eq];rfl
def Q0 (l:Lf):(nL l).wt=3+l.L.length:=by
 rw [Ex.wt_eq]
 show 1+0+0+0+dX [iC ⟨0,[]⟩,iC l]=_
 rw [dX,dX,dX,Ex.wt_eq,Ex.wt_eq]
 show 1+0+0+0+((1+0+0+0+0)+((1+l.L.length+0+0+0)+0))=_
 omega
def V0:∀l:List Bd,dI (l.map λx=>(⟨dK x.Name,bs [],[]⟩:Ix))<=l.length
 |[]=>aC _
 |x::r=>by
  rw [aG,dI,pw]
  have h1:=V0 r
  have h3:(dK x.Name).L.length<=1:=by unfold dK;cases bB x.Name<;>simp
  have h4:(⟨dK x.Name,bs [],[]⟩:Ix).wt=(dK x.Name).L.length:=rfl
  omega
def Kv:∀(l:List Ix) (k:Nat) (x:Ix),dI (l.set k x)<=dI l+x.wt
 |[],_,_=>by simp [dI]
 |y::r,0,x=>by rw [jv,dI,dI];omega
 |y::r,k+1,x=>by
  have:=Kv r k x
  rw [gj,dI,dI];omega
def E6:∀(l:List Ix) (k:Nat),(l.getD k ⟨⟨0,[]⟩,bs [],[]⟩).wt<=dI l
 |[],k=>by simp [Ix.wt,fY]
 |y::r,0=>by rw [dI];show y.wt<=_;omega
 |y::r,k+1=>by
  have:=E6 r k
  rw [List.getD_cons_succ,dI];omega
variable {red:List Bd} {body:Ex}
def Yn {at_:List Ix} {l:List St} (hR:body.allF Lf.rng) (hI:dI at_<=at_.length) (h:pI d at_ red body=.ok l):bR l<=2*body.wt+10*at_.length+8*red.length+40:=by
 have hb:=Ex.wt_eq body
 unfold pI at h
 split at h
 ·rw [fk] at h
  rw [<-h,tw,DN];omega
 ·split at h
  ·rw [fk] at h
   have h1:=E6 at_ (at_.length-1)
   have h2:=vg (at_.getD (at_.length-1) ⟨⟨0,[]⟩,bs [],[]⟩).Lin ⟨-1,[]⟩
   have h3:=Kv at_ (at_.length-1) ⟨(gS (at_.getD (at_.length-1) ⟨⟨0,[]⟩,bs [],[]⟩).Lin ⟨-1,[]⟩).1,bs [],[]⟩
   have h4:(at_.getD (at_.length-1) ⟨⟨0,[]⟩,bs [],[]⟩).Lin.L.length<=(at_.getD (at_.length-1) ⟨⟨0,[]⟩,bs [],[]⟩).wt:=by unfold Ix.wt;omega
   have h5:(⟨(gS (at_.getD (at_.length-1) ⟨⟨0,[]⟩,bs [],[]⟩).Lin ⟨-1,[]⟩).1,bs [],[]⟩:Ix).wt=(gS (at_.getD (at_.length-1) ⟨⟨0,[]⟩,bs [],[]⟩).Lin ⟨-1,[]⟩).1.L.length:=rfl
   have h6:∀i:List Ix,(Ex.mk 3 d.Name ⟨0,0⟩ px ⟨0,[]⟩ i []).wt=1+0+i.length+dI i+0:=λi=>by rw [Ex.wt_eq];rfl
   rw [<-h,Zy,DN,Wj,tw,HX,Q0,h6,ep]
   simp only [qw] at h2
   omega
  ·split at h
   ·rw [fk] at h
    have h6:(Ex.mk 1 (bs []) (sg d.Fold d.T).1 d.T ⟨0,[]⟩ [] []).wt=1:=by rw [Ex.wt_eq];rfl
    have h7:=xy red [gE d at_ d.Fold body]
    rw [tw,HX] at h7
    rw [<-h,bR,DN,h6];omega
   ·split at h
    ·cases h
    ·rename_i first hf
     rw [fk] at h
     have h6:=(Gq (u:=λ_=>⟨0,[]⟩) (λ_=>rfl) _ _ _ hR hf).1
     have h7:=xy red [ul (nL (sU red ⟨0,[]⟩)) [gE d at_ d.Fold body]]
     have h8:=GL red ⟨0,[]⟩
     rw [tw,Wj,tw,HX,Q0] at h7
     simp only [qw] at h8
     rw [<-h,bR,DN];omega
def Do (d:nq) (l:List Ax) (ext:List Int):(gU d l ext).length<=l.length:=by
 unfold gU;rw [pc,ii];omega
def Ig {l:List St} (hR:d.Body.allF Lf.rng) (h:pG p env d=.ok l):bR l<=2*d.Body.wt+12*d.Dims.length+8*d.Red.length+40:=by
 unfold pG at h
 split at h
 ·cases h
 ·rename_i b hb
  obtain ⟨g1,g2⟩:=Gq (u:=λs=>⟨gI env s,[]⟩) (λ_=>rfl) _ _ _ hR hb
  split at h
  ·cases h
  ·rename_i l' hl
   rw [fk] at h
   have hw:=Ih (A:=(bD d).map (pi d.Name)) (B:=bD d) b
   have hD:=Do d.Name d.Dims (fB env (p.en.find d.Name).dims)
   have hE:=Do d.Name d.Red (fB env (d.Red.map Ax.Size))
   have h1:=Yn (Y5 (g:=gP ((bD d).map (pi d.Name)) (bD d)) (VQ g2 λl hl=>yZ hl)) (by rw [pc];exact V0 (lJ p env d)) hl
   have h2:=xy (lJ p env d) l'
   rw [pc] at h1
   rw [<-h]
   have e1:(lJ p env d).length<=d.Dims.length:=hD
   have e2:(tQ env d).length<=d.Red.length:=hE
   omega
/-! ## The whole nest -/
def zLw (h:(bK p).2=0):∀d,d∈p.Defs->d.Dims.length<=6/\d.Red.length<=6:=by
 rw [Sw] at h
 obtain ⟨a',h5,_⟩:=Z4 p p rfl p.Params _ _ (W4 h).2.2.2
 intro d hd
 obtain ⟨i,hi⟩:=bh hd
 have h0:=zLc p p.Defs _ _ _ h5 i d hi
 have h1:dJ d.Name _=0:=ct λc=>by rw [wa c] at h0;exact c h0
 have h2:dO d.T=true:=by
  cases c:dO d.T with
  |true=>rfl
  |false=>rw [uy h1 c] at h0;cases h0
 have h3:¬(6<d.Dims.length∨6<d.Red.length):=λc=>by rw [uz h1 h2 c] at h0;cases h0
 omega
def KM {f:Df->List St} {K:Nat}:∀l:List Df,(∀d,d∈l->bR (f d)<=K)->bR (l.flatMap f)<=l.length*K
 |[],_=>by simp [bR]
 |d::r,h=>by
  have h1:=h d uF
  have h2:=KM r λx hx=>h x G7
  rw [cc,zLy,pw,dx]
  omega
def PA:∀(l:List Df) (s:nq) (k:Nat),(∀d,d∈l->d.Dims.length<=k)->(fI s l).dims.length<=k
 |[],_,_,_=>cb _
 |d::r,s,k,h=>by
  rw [fI]
  cases decide (d.Name=s) with
  |true=>rw [aB,pc];exact h d uF
  |false=>rw [aw];exact PA r s k λx hx=>h x G7
def PB:∀(l:List Pm) (ds:List Df) (s:nq) (k:Nat),(∀d,d∈ds->d.Dims.length<=k)->(∀x,x∈l->x.Dims.length<=k)->(gC s ds l).dims.length<=k
 |[],ds,s,k,h,_=>PA ds s k h
 |x::r,ds,s,k,h,h2=>by
  rw [gC]
  cases decide (x.Name=s) with
  |true=>rw [aB];exact h2 x uF
  |false=>rw [aw];exact PB r ds s k h λy hy=>h2 y Ac
def Wn {l:List St} (h:gL p env d=.ok l):pG p env d=.ok l:=by
 unfold gL at h
 split at h
 ·cases h
 ·split at h
  ·cases h
  ·split at h
   ·cases h
   ·split at h
    ·cases h
    ·exact h
def If (hS:p.Sm) (hv:(bK p).2=0) (hR:∀d,d∈p.Defs->d.Body.allF Lf.rng):(rF p env).Ok/\bR (rF p env).Body<=900000:=by
 have hw:bR (rF p env).Body<=p.Defs.length*3200:=KM p.Defs λd hd=>by
  cases h:gL p env d with
  |error x=>exact cb _
  |ok l=>
   have h1:=Ig (hR d hd) (Wn h)
   have h2:=(hS.ds d hd).2.2
   have h3:=zLw hv d hd
   show bR l<=_
   omega
 have h1:=hS.defs
 have h2:=hS.params
 have h3:bR (rF p env).Body<=900000:=aL hw (aL (dd 3200 h1) zB)
 refine ⟨⟨?_,λb hb=>?_,zB⟩,h3⟩
 ·show (p.Params.map _++p.Defs.map _).length<=_
  rw [qp,pc,pc];omega
 ·have hl:∀s,(fB env (p.en.find s).dims).length<=1500:=λs=>by
   unfold fB;rw [pc]
   exact PB p.Params p.Defs s 1500 (λd hd=>(hS.ds d hd).1) hS.ps
  rcases aq.1 hb with hb|hb
  ·obtain ⟨x,_,rfl⟩:=aY.1 hb
   exact aL (hl x.Name) zB
  ·obtain ⟨x,_,rfl⟩:=aY.1 hb
   exact aL (hl x.Name) zB
def xT:Ty:=⟨1,0,0,0,0⟩
def xBody:Ex:=.mk 3 (bs [97]) ⟨0,0⟩ px ⟨0,[]⟩ [⟨⟨0,[⟨bs [106],1⟩]⟩,bs [],[]⟩] []
def xD (f:Int):Df:=⟨bs [115],xT,[],[⟨bs [106],⟨0,[⟨bs [110],1⟩]⟩⟩],f,xBody⟩
def xP (f:Int):Pg:=⟨[bs [110]],[],[⟨bs [97],xT,[⟨0,[⟨bs [110],1⟩]⟩]⟩],[xD f],[bs [115]]⟩
def xV:List Bd:=[⟨bs [110],3⟩]
def sj:nq:=bs [115,95,106]
def lV:Ex:=.mk 3 (bs [97]) ⟨0,0⟩ px ⟨0,[]⟩ [⟨⟨0,[⟨sj,1⟩]⟩,bs [],[]⟩] []
def x_sb (f:Int):dD (λs=>⟨gI xV s,[]⟩) [bs [110]] xBody=.ok xBody:=by kernel_rfl
def WS:qh (gP [sj] [bs [106]]) xBody=lV:=by
 have h0:gP [sj] [bs [106]] ⟨0,[]⟩=⟨0,[]⟩:=by simp [gP,jS]
 have h1:gP [sj] [bs [106]] ⟨0,[⟨bs [106],1⟩]⟩=⟨0,[⟨sj,1⟩]⟩:=by
  simp only [gP,jS,aG,bt,List.mergeSort_singleton]
  have:mJ [sj] [bs [106]] (bs [106])=sj:=by decide+kernel
  rw [this]
 rw [Xj]
 show Ex.mk 3 (bs [97]) ⟨0,0⟩ px (gP [sj] [bs [106]] ⟨0,[]⟩) [⟨gP [sj] [bs [106]] ⟨0,[⟨bs [106],1⟩]⟩,bs [],[]⟩] []=_
 rw [h0,h1];rfl
def xL1:List St:=[lR (xD 1) [] (.mk 1 (bs []) ⟨0,1⟩ xT ⟨0,[]⟩ [] []),rO ⟨sj,3⟩ [gE (xD 1) [] 1 lV]]
def xL4:List St:=[lR (xD 4) [] (.mk 3 (bs [97]) ⟨0,0⟩ px ⟨0,[]⟩ [⟨⟨0,[]⟩,bs [],[]⟩] []),rO ⟨sj,3⟩ [ul (nL ⟨0,[⟨sj,1⟩]⟩) [gE (xD 4) [] 4 lV]]]
def LQ (f:Int):(bD (xD f)).map (pi (xD f).Name)=[sj]:=by show [pi (bs [115]) (bs [106])]=_;decide+kernel
def ZN:pG (xP 1) xV (xD 1)=.ok xL1:=by
 unfold pG
 rw [show dD (λs=>(⟨gI xV s,[]⟩:Lf)) (xP 1).Sizes (xD 1).Body=.ok xBody from x_sb 1]
 dsimp only
 rw [LQ,show qh (gP [sj] (bD (xD 1))) xBody=lV from WS]
 kernel_rfl
def ZO:pG (xP 4) xV (xD 4)=.ok xL4:=by
 unfold pG
 rw [show dD (λs=>(⟨gI xV s,[]⟩:Lf)) (xP 4).Sizes (xD 4).Body=.ok xBody from x_sb 4]
 dsimp only
 rw [LQ,show qh (gP [sj] (bD (xD 4))) xBody=lV from WS]
 kernel_rfl
variable {f:Int}
def x_e {l:List St} (h:pG (xP f) xV (xD f)=.ok l):gL (xP f) xV (xD f)=.ok l:=by
 unfold gL
 rw [aa (by rw [show jQ (xP f) xV (xD f).Name=0 by kernel_rfl];simp),aa (by rw [show fO xV ((xD f).Red.map Ax.Size)=0 by kernel_rfl];simp),
  aa (by rw [show lI (xD f).Name (xD f).Dims=0 by kernel_rfl];simp),aa (by rw [show lI (xD f).Name (xD f).Red=0 by kernel_rfl];simp)]
 exact h
def xN (l:List St):Ns:=⟨[⟨bs [97],xT,[3],1⟩,⟨bs [115],xT,[],2⟩],l⟩
def x_n {l:List St} (h:pG (xP f) xV (xD f)=.ok l):rF (xP f) xV=xN l:=by
 have e:rF (xP f) xV=⟨[pH (xP f) xV ⟨bs [97],xT,[⟨0,[⟨bs [110],1⟩]⟩]⟩,mG (xP f) xV (xD f)],mS (gL (xP f) xV (xD f))++[]⟩:=rfl
 rw [e,x_e h,rk]
 have e1:pH (xP f) xV ⟨bs [97],xT,[⟨0,[⟨bs [110],1⟩]⟩]⟩=⟨bs [97],xT,[3],1⟩:=by kernel_rfl
 have e2:mG (xP f) xV (xD f)=⟨bs [115],xT,[],2⟩:=by kernel_rfl
 rw [e1,e2];rfl
def x_P {l:List St} (h:pG (xP f) xV (xD f)=.ok l) (hv:(bK (xP f)).2=0) (hn:(jF (xN l)).2=0):jM (xP f) xV=(xN l,0):=by
 unfold jM
 rw [aa (by rw [hv];simp),aa (by rw [show mF (xP f) xV=0 by kernel_rfl];simp),aa (by rw [show ((xP f).Outs.any λs=>(xP f).Params.any λx=>decide (x.Name=s))=false by kernel_rfl];simp),
  aa (by rw [show nK (xP f) xV (xP f).Params=0 by kernel_rfl];simp),
  aa (by rw [show mZ (xP f) xV (xP f).Defs=mZ (xP f) xV [xD f] from rfl,mZ,x_e h];simp [mZ]),x_n h,aa (by rw [hn];simp)]
def x_P1:jM (xP 1) xV=(xN xL1,0):=x_P ZN uB uB
def x_P4:jM (xP 4) xV=(xN xL4,0):=x_P ZO uB uB
/-! ## Sums of 192 bits -/
abbrev ZG (w:W3):List C:=[.lit (.int .u64 (w.h:Int)),.lit (.int .u64 (w.m:Int)),.lit (.int .u64 (w.l:Int))]
def LN (hi lo:Nat) (neg:Bool):W3:=if neg=true then R9 hi lo else ⟨0,hi,lo⟩
variable {hi lo:Nat} {w:W3}
def R7 {S P:Int} (hw:w.ok) (h1:hi<18446744073709551616) (h2:lo<18446744073709551616) (neg:Bool) (hS:((w.v:Int)-S)%6277101735386680763835789423207666416102355444464034512896=0) (hP:P=if neg=true then-((hi*18446744073709551616+lo:Nat):Int) else ((hi*18446744073709551616+lo:Nat):Int)):
  (LM w (LN hi lo neg)).ok/\(((LM w (LN hi lo neg)).v:Int)-(S+P))%6277101735386680763835789423207666416102355444464034512896=0:=by
 have hx:(LN hi lo neg).ok/\(((LN hi lo neg).v:Int)-P)%6277101735386680763835789423207666416102355444464034512896=0:=by
  unfold LN
  cases neg with
  |true=>
   obtain ⟨a,b⟩:=w3n_v h1 h2
   rw [ab rfl] at hP⊢
   generalize R9 hi lo=q at *
   exact ⟨a,by rw [hP];omega⟩
  |false=>
   rw [aa uF] at hP⊢
   exact ⟨⟨show 0<18446744073709551616 by decide,h1,h2⟩,by rw [hP];unfold W3.v;dsimp only;omega⟩
 obtain ⟨a,b⟩:=w3a_v hw hx.1
 refine ⟨a,?_⟩
 generalize (LM w (LN hi lo neg)).v=q at *
 generalize (LN hi lo neg).v=r at *
 generalize w.v=s at *
 have h3:=hx.2
 omega
variable {x:Int}
def Dj {y:Int}:x*y=if (decide (x<0) !=decide (y<0))=true then-((x.natAbs*y.natAbs:Nat):Int) else ((x.natAbs*y.natAbs:Nat):Int):=by
 have h:=OC x y
 split
 ·rename_i c
  have:=Dl (x:=x) (y:=y) (by cases h1:decide (x<0)<;>cases h2:decide (y<0)<;>rw [h1,h2] at c<;>simp_all)
  omega
 ·rename_i c
  have:=u2 (x:=x) (y:=y) (by cases h1:decide (x<0)<;>cases h2:decide (y<0)<;>rw [h1,h2] at c<;>simp_all)
  omega
def Ci {y:Int} (hx:oQ x) (hy:oQ y):(x*y).natAbs<=85070591730234615865843651857942052864:=by
 rw [OC]
 exact aL (gp (Cd hx) (Cd hy)) uA
structure EvJ (l:Lf) (env:List Bd) (k:Nat) (w:W3) (z:Int):Prop where
 ok:w.ok
 ev:CD env (l.L.take k)=some z
 md:((w.v:Int)-(l.K+z))%6277101735386680763835789423207666416102355444464034512896=0
 bd:(l.K+z).natAbs<=9223372036854775808+k*85070591730234615865843651857942052864
def Px {l:Lf} (hk:oQ l.K):EvJ l env 0 (LM ⟨0,0,0⟩ (LN 0 l.K.natAbs (decide (l.K<0)))) 0:=by
 have hm:=Cd hk
 obtain ⟨a,b⟩:=R7 (w:=⟨0,0,0⟩) (hi:=0) (lo:=l.K.natAbs) (S:=0) (P:=l.K) ⟨uA,uA,uA⟩ uA zB (decide (l.K<0)) uA (by
  split
  ·rename_i c;have:=ca c;omega
  ·rename_i c;have:¬l.K<0:=λh=>c (al h);omega)
 exact ⟨a,rfl,by rw [ke];rw [jf] at b;exact b,zB⟩
def TL {l:Lf} {z v:Int} {m:Mono} (hl:l.rng) (hm:l.L[k]? =some m) (hv:lU env m.Name=some v) (hr:oQ v) (h:EvJ l env k w z):
  EvJ l env (k+1) (LM w (LN (CU m.By.natAbs v.natAbs) (m.By.natAbs*v.natAbs%18446744073709551616) (decide (m.By<0) !=decide (v<0)))) (z+m.By*v):=by
 have hb:=hl.2 m (qD hm)
 have h1:=Cd hb
 have h2:=Cd hr
 have h3:=We h1 h2
 have h4:=Ku m.By.natAbs v.natAbs
 have h5:=Ci hb hr
 obtain ⟨a,b⟩:=R7 (hi:=CU m.By.natAbs v.natAbs) (lo:=m.By.natAbs*v.natAbs%18446744073709551616) (S:=l.K+z) (P:=m.By*v) h.ok zB zB (decide (m.By<0) !=decide (v<0)) h.md (by rw [h4];exact Dj)
 refine ⟨a,wq hm h.ev hv,by rw [<-ld];exact b,?_⟩
 have h6:=h.bd
 rw [dx,<-ld]
 omega
def XR {l:Lf} {z:Int} (hk:l.L.length<=k) (hk2:k<=5864062014805) (hl:dM l=0) (h:EvJ l env k w z):
  dV l env=if (decide (w.m=Vs w.l)&&decide (w.h=Vs w.l))=true then (rh (w.l:Int),0) else (0,3):=by
 have hz:=h.ev
 rw [yG zB] at hz
 have hb:=h.bd
 obtain ⟨q1,q2⟩:=ZH h.ok (S:=l.K+z) zB h.md
 unfold dV
 rw [ab hl,hz]
 dsimp only
 by_cases c: -(9223372036854775808:Int)<=l.K+z/\l.K+z<=9223372036854775807
 ·have hq:=q1.2 c
  have hl3:=h.ok.2.2
  rw [ab c,ab (by rw [al hq.1,al hq.2];rfl),q2 c,L0]
  refine Prod.ext ?_ rfl
  dsimp only
  split<;>omega
 ·rw [aa c,aa (λhh=>c (q1.1 (by simpa using hh)))]
def Km {l:Lf} {m:Mono} (hl:dM l=0) (h:l.L[k]? =some m) (hv:lU env m.Name=none):dV l env=(0,9):=by
 unfold dV
 rw [ab hl,Pu h hv]
def Pv {l:Lf} (hl:¬dM l=0):dV l env=(0,1):=aa hl
def wn:∀{env:List Bd} {s:nq} {i:Nat} {x:Bd},env[i]? =some x->x.Name=s->(env.take i).any (λy=>decide (y.Name=s))=false->lU env s=some x.Val
 |[],_,_,_,h,_,_=>by cases h
 |y::r,s,0,x,h,hs,_=>by
  rw [gm,ay] at h
  subst h
  rw [lU,ab hs]
 |y::r,s,i+1,x,h,hs,hn=>by
  rw [av,ef,ax] at hn
  rw [lU,aa (ir hn.1)]
  exact wn tk hs hn.2
def wo:∀{env:List Bd} {s:nq},env.any (λy=>decide (y.Name=s))=false->lU env s=none
 |[],_,_=>rfl
 |y::r,s,hn=>by
  rw [ef,ax] at hn
  rw [lU,aa (ir hn.1)]
  exact wo hn.2
/-! ## Small Wc for the walks -/
def w3x_t (hi lo:Nat) {neg:Bool} (c:neg=true):LN hi lo neg=R9 hi lo:=ab c
def w3x_f (hi lo:Nat) {neg:Bool} (c:neg=false):LN hi lo neg=⟨0,hi,lo⟩:=aa xJ4
def zBg {b:Nat} {t:nr} {h m l:Nat} (e1:h=w.h) (e2:m=w.m) (e3:l=w.l):[E.row b t [.lit (.int .u64 (h:Int)),.lit (.int .u64 (m:Int)),.lit (.int .u64 (l:Int))]]=[E.row b t (ZG w)]:=by rw [e1,e2,e3]
def w3n_0 (h:¬((((18446744073709551615-lo+1)%18446744073709551616:Nat):Int)=0)):R9 hi lo=⟨18446744073709551615,18446744073709551615-hi,(18446744073709551615-lo+1)%18446744073709551616⟩:=aa zB
def w3n_1 (h:(((18446744073709551615-lo+1)%18446744073709551616:Nat):Int)=0) (h2:¬((((18446744073709551615-hi+1)%18446744073709551616:Nat):Int)=0)):R9 hi lo=⟨18446744073709551615,(18446744073709551615-hi+1)%18446744073709551616,0⟩:=by
 unfold R9;rw [ab zB,aa zB]
def w3n_2 (h:(((18446744073709551615-lo+1)%18446744073709551616:Nat):Int)=0) (h2:(((18446744073709551615-hi+1)%18446744073709551616:Nat):Int)=0):R9 hi lo=⟨0,0,0⟩:=by
 unfold R9;rw [ab zB,ab zB]
def ZJ {l:Nat} (h:l<18446744073709551616):(rh (l:Int)).fdiv (2^(min (63:Int).toNat IntKind.i64.bits))=if l<9223372036854775808 then 0 else-1:=by
 rw [show (2:Int)^(min (63:Int).toNat IntKind.i64.bits)=9223372036854775808 by decide,L0,kw _ uA]
 split<;>omega
def ZI {l:Nat} (h:l<18446744073709551616):IntKind.u64.wrap (if l<9223372036854775808 then 0 else-1)=((Vs l:Nat):Int):=by
 unfold Vs
 rw [VT]
 split<;>decide
def TK {a b c:Nat} (h:(!(decide ((a:Int)=(c:Nat))&&decide ((b:Int)=(c:Nat))))=true):¬(decide (a=c)&&decide (b=c))=true:=by
 intro k
 simp only [ae,aj] at k
 rw [k.1,k.2] at h
 simp at h
def Pw {a b c:Nat} (h:(!(decide ((a:Int)=(c:Nat))&&decide ((b:Int)=(c:Nat))))=false):(decide (a=c)&&decide (b=c))=true:=by
 simp only [ey,ae,aj] at h⊢
 omega
def YT {b:Bool} (h:(!b)=true):b=false:=by cases b with|true=>cases h|false=>rfl
def YS {b:Bool} (h:(!b)=false):b=true:=by cases b with|true=>rfl|false=>cases h
structure Pg.Rng (p:Pg):Prop where
 wh:∀c,c∈p.Where->c.Lin.rng
 ps:∀x,x∈p.Params->∀l,l∈x.Dims->l.rng
 ds:∀d,d∈p.Defs->(∀a,a∈d.Dims->a.Size.rng)/\(∀a,a∈d.Red->a.Size.rng)/\d.Body.allF Lf.rng
def sz_at (env:List Bd) (s:nq):∃x:Bd,(0<=fA (λy:Bd=>decide (y.Name=s)) env->env[(fA (λy:Bd=>decide (y.Name=s)) env).toNat]? =some x)/\
  ((decide (fA (λy:Bd=>decide (y.Name=s)) env<0)||decide (x.Val<1))||decide (4096<x.Val))= !nB env s:=by
 by_cases h:0<=fA (λy:Bd=>decide (y.Name=s)) env
 ·obtain ⟨i,x,hi,hci,hhit,hbef⟩:=PN h
  have hv:=wn hci (ca hhit) hbef
  refine ⟨x,λ_=>by rw [hi];exact hci,?_⟩
  unfold nB gI
  rw [hv,hi,am (show ¬((i:Nat):Int)<0 by omega)]
  by_cases a:x.Val<1<;>by_cases b:4096<x.Val<;>simp [a,b]<;>omega
 ·refine ⟨⟨bs [],0⟩,λk=>absurd k h,?_⟩
  have hv:=wo (PP (show fA (λy:Bd=>decide (y.Name=s)) env<0 by omega))
  unfold nB
  rw [hv,al (show fA (λy:Bd=>decide (y.Name=s)) env<0 by omega)]
  rfl
def JU (h:¬env.length=p.Sizes.length):mF p env=15:=aa h
def JT (hl:env.length=p.Sizes.length) (hs:p.Sizes[k]? =some s) (hG:nB env s=false):mF p env=15:=by
 unfold mF
 rw [ab hl,aa (by rw [rl];exact λh=>by rw [h s (qD hs)] at hG;cases hG)]
def O4 (hl:env.length=p.Sizes.length) (ha:p.Sizes.all (nB env)=true):mF p env=zz env p.Where:=by
 unfold mF
 rw [ab hl,ab ha]
variable {α:Type}
def AJ {f:α->Bool} {l:List α} {x:α} (h:l[k]? =some x) (hp:(l.take k).all f=true) (hx:f x=true):(l.take (k+1)).all f=true:=by
 rw [yB h,cj,hp];simp [hx]
def xH (env:List Bd) (l:List Lf):List Int:=if fO env l=0 then fB env l else []
def zZs {l:List Lf} (h:¬fO env l=0):xH env l=[]:=aa h
def zUp {l:List Lf} (h:fO env l=0):xH env l=fB env l:=ab h
def zZt {env:List Bd}:∀{l:List Lf},fO env l=0->∀n,n∈fB env l->1<=n/\n<=4096
 |[],_,n,h=>by cases h
 |f::r,h0,n,hn=>by
  rw [fO] at h0
  split at h0
  ·rename_i c;exact absurd h0 c
  ·split at h0
   ·cases h0
   ·rename_i c
    rcases ag.1 hn with rfl|hn
    ·exact ⟨by dsimp only;omega,by dsimp only;omega⟩
    ·exact zZt h0 n hn
def A0 {P:Lf->Prop}:∀(l:List Df) (s:nq) (k:Nat),(∀d,d∈l->d.Dims.length<=k/\∀a,a∈d.Dims->P a.Size)->(fI s l).dims.length<=k/\∀f,f∈(fI s l).dims->P f
 |[],_,_,_=>⟨cb _,λf hf=>by cases hf⟩
 |d::r,s,k,h=>by
  rw [fI]
  cases decide (d.Name=s) with
  |true=>
   rw [aB,pc]
   refine ⟨(h d uF).1,λf hf=>?_⟩
   obtain ⟨a,ha,rfl⟩:=aY.1 hf
   exact (h d uF).2 a ha
  |false=>rw [aw];exact A0 r s k λx hx=>h x G7
def A3 {P:Lf->Prop}:∀(l:List Pm) (ds:List Df) (s:nq) (k:Nat),(∀d,d∈ds->d.Dims.length<=k/\∀a,a∈d.Dims->P a.Size)->(∀x,x∈l->x.Dims.length<=k/\∀f,f∈x.Dims->P f)->(gC s ds l).dims.length<=k/\∀f,f∈(gC s ds l).dims->P f
 |[],ds,s,k,h,_=>A0 ds s k h
 |x::r,ds,s,k,h,h2=>by
  rw [gC]
  cases decide (x.Name=s) with
  |true=>rw [aB];exact h2 x uF
  |false=>rw [aw];exact A3 r ds s k h λy hy=>h2 y Ac
def EV (hP:p.Ok) (hR:p.Rng) (s:nq):(p.en.find s).dims.length<=4294967296/\∀f,f∈(p.en.find s).dims->f.L.length<=5864062014805/\f.rng:=
 A3 (P:=λf=>f.L.length<=5864062014805/\f.rng) p.Params p.Defs s 4294967296 (λd hd=>⟨aL (hP.ds d hd).1 uA,λa ha=>⟨(hP.ds d hd).2.2.1 a ha,(hR.ds d hd).1 a ha⟩⟩) λx hx=>⟨(hP.ps x hx).1,λf hf=>⟨(hP.ps x hx).2 f hf,hR.ps x hx f hf⟩⟩
def Pk (c:(p.en.find s).ok=false):mT p env s=([],9):=by
 have:jQ p env s=9:=by unfold jQ;rw [aa xJ4]
 unfold mT;rw [this];rfl
def V8 (c:(p.en.find s).ok=true) (h:¬fO env (p.en.find s).dims=0):mT p env s=([],fO env (p.en.find s).dims):=by
 have:jQ p env s=fO env (p.en.find s).dims:=by unfold jQ;rw [ab c,aa h]
 unfold mT;rw [this,aa h]
def V7 (c:(p.en.find s).ok=true) (h:fO env (p.en.find s).dims=0) (h2:(bM 1 (fB env (p.en.find s).dims)).isSome=false):mT p env s=([],15):=by
 have:jQ p env s=15:=by unfold jQ;rw [ab c,ab h,aa Ca]
 unfold mT;rw [this];rfl
def Pl (c:(p.en.find s).ok=true) (h:fO env (p.en.find s).dims=0) (h2:(bM 1 (fB env (p.en.find s).dims)).isSome=true):mT p env s=(fB env (p.en.find s).dims,0):=by
 have:jQ p env s=0:=by unfold jQ;rw [ab c,ab h,ab h2]
 unfold mT;rw [this];rfl
def Lu:∀{l:List Int} {s v:Int},s<=4096->bM s l=some v->v<=4096
 |[],s,v,h,e=>by simp only [bM,ay] at e;omega
 |n::r,s,v,h,e=>by
  rw [bM] at e
  split at e
  ·cases e
  ·exact Lu zB e
def Tw {l:List Int} (h:4096<(bM 1 l).getD 4097):(bM 1 l).isSome=false:=by
 cases e:bM 1 l with
 |none=>rfl
 |some v=>rw [e] at h;have:=Lu uA e;simp only [Option.getD] at h;omega
def Tx {l:List Int} (h:¬4096<(bM 1 l).getD 4097):(bM 1 l).isSome=true:=by
 cases e:bM 1 l with
 |none=>rw [e] at h;simp [Option.getD] at h
 |some v=>rfl
def Pn (h:¬(if (bK p).2=0 then mF p env else (bK p).2)=0):rR p env s=([],if (bK p).2=0 then mF p env else (bK p).2):=by
 unfold rR
 split
 ·rename_i c
  rw [ab c] at h
  rw [aa h]
 ·rfl
def Po (h:(if (bK p).2=0 then mF p env else (bK p).2)=0):rR p env s=mT p env s:=by
 unfold rR
 split
 ·rename_i c
  rw [ab c] at h
  rw [ab h]
 ·rename_i c;rw [aa c] at h;exact absurd h c
/-! ## Neutral numbers -/
def QO {t:Ty} (c:¬bZ t=0):fW t=(⟨0,0⟩,10):=by unfold fW;rw [aa (by rw [zNr c];simp)]
def QN {t:Ty} (c:bZ t=0) (h:¬t.Kind=2):jR t ⟨1,1⟩=true:=by
 have h1:=JF c
 unfold dO at h1
 simp only [aD,ae,aj] at h1
 unfold jR
 rw [am h,aw]
 rcases h1 with h1|h1
 ·rcases h1.1.1.1.1 with k|k
  ·rw [k];decide
  ·rw [k];decide
 ·exact absurd h1.1.1.1.1.1.1.1 h
def one_p {t:Ty} (c:bZ t=0) (h:¬t.Kind=2):fW t=(⟨1,1⟩,0):=by
 unfold fW vG
 rw [ab (JF c),aa h,ab (QN c h)]
def Dv {t:Ty} (c:bZ t=0) (h:t.Kind=2):0<=t.Frac/\IntKind.i64.wrap (1*2^(min t.Frac.toNat IntKind.i64.bits))=2^t.Frac.toNat:=by
 have h1:=JF c
 rw [ZV h] at h1
 unfold gQ at h1
 simp only [ae,aj] at h1
 have h2:0<=t.Frac:=h1.1.1.1.1.2
 have h3:t.Frac<=30:=h1.1.1.1.2
 refine ⟨h2,?_⟩
 rw [bg (show t.Frac.toNat<=IntKind.i64.bits by show t.Frac.toNat<=64;omega),lx]
 have h4:(2:Nat)^t.Frac.toNat<=2^30:=jl uA zB
 have h5:((2^t.Frac.toNat:Nat):Int)=(2:Int)^t.Frac.toNat:=by rw [Int.natCast_pow];rfl
 rw [<-h5]
 generalize (2:Nat)^t.Frac.toNat=q at *
 exact Om Sk
def Lb {t:Ty} (c:bZ t=0) (h:t.Kind=2) (v:Vl):(gQ t&&(decide (v.D=1)&&decide (-mY t.Bits<=v.N)&&decide (v.N<mY t.Bits)))=jR t v:=by
 have h1:=JF c
 rw [ZV h] at h1
 rw [h1,aM]
 unfold jR
 rw [al h,aB]
def one_r {t:Ty} (c:bZ t=0) (h:t.Kind=2) (k:(gQ t&&(decide ((1:Int)=1)&&decide (-mY t.Bits<=2^t.Frac.toNat)&&decide ((2:Int)^t.Frac.toNat<mY t.Bits)))=false):fW t=(⟨0,0⟩,3):=by
 have e:=Lb c h ⟨2^t.Frac.toNat,1⟩
 dsimp only at e
 rw [e] at k
 unfold fW vG
 rw [ab (JF c),ab h,aa (by rw [k];simp)]
def YY {t:Ty} (c:bZ t=0) (h:t.Kind=2) (k:(gQ t&&(decide ((1:Int)=1)&&decide (-mY t.Bits<=2^t.Frac.toNat)&&decide ((2:Int)^t.Frac.toNat<mY t.Bits)))=true):fW t=(⟨2^t.Frac.toNat,1⟩,0):=by
 have e:=Lb c h ⟨2^t.Frac.toNat,1⟩
 dsimp only at e
 rw [e] at k
 unfold fW vG
 rw [ab (JF c),ab h,ab k]
def id_1 {t:Ty} (c:¬bZ t=0):sg f t=(⟨0,0⟩,false):=by
 unfold sg
 rw [aa (by rw [zNr c];simp),QO c]
 split<;>rfl
def id_2 {t:Ty} (c:bZ t=0) (h:f=1∨f=5):sg f t=(rZ t,true):=by
 unfold sg rZ
 rw [ab ⟨JF c,h⟩,JF c];rfl
def id_3 {t:Ty} (h:¬(f=1∨f=5)) (h2:f=2):sg f t=((fW t).1,decide ((fW t).2=0)):=by
 unfold sg
 rw [aa (λk=>h k.2),ab h2]
def id_4 {t:Ty} (h:¬(f=1∨f=5)) (h2:¬f=2):sg f t=(⟨0,0⟩,false):=by
 unfold sg
 rw [aa (λk=>h k.2),aa h2]
/-! ## Tables of loop names -/
def xX (d:nq) (l:List Ax) (m:Ed):Ed:=l.foldl (λm x=>fR m x.Name (pi d x.Name)) m
def Qw (d:nq) (a b:List Ax) (m:Ed):xX d (a++b) m=xX d b (xX d a m):=du
def zTb (d:Df):bD d=(d.Dims++d.Red).map Ax.Name:=by
 unfold bD;simp
def Uh (d:nq) (l:List Ax):xX d l []=cT ((l.map Ax.Name).map (pi d)) (l.map Ax.Name) l.length:=by
 unfold xX cT
 rw [yG (by rw [ii,pc,pc,pc];omega)]
 have:∀(l:List Ax) (m:Ed),l.foldl (λm x=>fR m x.Name (pi d x.Name)) m=((l.map Ax.Name).zip ((l.map Ax.Name).map (pi d))).foldl (λm q=>fR m q.1 q.2) m:=by
  intro l
  induction l with
  |nil=>intro m;rfl
  |cons x r ih=>intro m;rw [cp,ih];rfl
 exact this l []
def Ui (h:(bD d).Nodup) (s:nq):(fX (xX d.Name d.Red (xX d.Name d.Dims [])) s).getD s=mJ ((bD d).map (pi d.Name)) (bD d) s:=by
 rw [<-Qw,Uh,<-zTb]
 exact MZ h (by rw [pc]) (k:=(d.Dims++d.Red).length) (by rw [zTb,pc];omega) s
/-! ## Names of loops -/
def Fo {d a:nq} (h:bB (d++bs [95]++a)=true):pi d a=d++bs [95]++a:=ab h
def P7 {d a:nq} (h:¬bB (d++bs [95]++a)=true):pi d a=bs []:=aa h
variable {l:List Ax}
def QG {d:nq} {x:Ax} (h:l[k]? =some x) (h2:pi d x.Name=bs []):lI d l=7:=by
 unfold lI
 rw [ab (cn.2 ⟨x,qD h,al h2⟩)]
def YQ {d:nq} {x:Ax} (h:l[k]? =some x) (hp:(l.take k).any (λx=>decide (pi d x.Name=bs []))=false) (h2:¬pi d x.Name=bs []):(l.take (k+1)).any (λx=>decide (pi d x.Name=bs []))=false:=by
 rw [yB h,fj,hp]
 simp [h2]
def uX {d:nq} (hp:l.any (λx=>decide (pi d x.Name=bs []))=false):lI d l=0:=by
 unfold lI;rw [hp];rfl
variable {ext:List Int}
def M7 {d:nq} {x:Ax} {n:Int} (h:l[k]? =some x) (h2:ext[k]? =some n):gU d (l.take (k+1)) ext=gU d (l.take k) ext++[⟨pi d x.Name,n⟩]:=by
 have hz:(l.zip ext)[k]? =some (x,n):=by rw [gb];exact ⟨h,h2⟩
 have e:∀(j:Nat) (l:List Ax) (ext:List Int),j<=ext.length->(l.take j).zip ext=(l.zip ext).take j:=by
  intro j
  induction j with
  |zero=>intro l ext _;simp
  |succ j ih=>
   intro l ext hj
   cases l with
   |nil=>simp
   |cons a r=>
    cases ext with
    |nil=>simp at hj
    |cons b t=>
     rw [av,ju,ju,av,ih r t xJ8]
 have hk:=(af.1 h2).1
 unfold gU
 rw [e (k+1) l ext zB,e k l ext zB,yB hz,ah];rfl
/-! ## Loops -/
def H8 {l:List Bd} {x:Bd} {b:List St} (h:l[k]? =some x):fH (l.drop k) b=[rO x (fH (l.drop (k+1)) b)]:=by
 rw [qN h];rfl
/-! ## The maker -/
def mkS (d:Df) (dims red:List Bd) (b:Ex) (c:C):List C:=
  [cS d.Name,cI d.T.Kind,cI d.T.Bits,cI d.T.Frac,cI d.T.Round,cI d.T.Over,.sl 3 (d.Dims.map Ax.cells),.sl 3 (d.Red.map Ax.cells),cI d.Fold,
   cI d.Body.Op,cS d.Body.Name,cI d.Body.Val.N,cI d.Body.Val.D,cI d.Body.Ty.Kind,cI d.Body.Ty.Bits,cI d.Body.Ty.Frac,cI d.Body.Ty.Round,cI d.Body.Ty.Over,cI d.Body.Lin.K,.sl 2 (d.Body.Lin.L.map Mono.cells),.sl 4 (d.Body.Idx.map Ix.cells),.sl 13 (d.Body.Args.map Ex.cells),
   .sl 2 (dims.map Bd.cells),.sl 2 (red.map Bd.cells),
   cI b.Op,cS b.Name,cI b.Val.N,cI b.Val.D,cI b.Ty.Kind,cI b.Ty.Bits,cI b.Ty.Frac,cI b.Ty.Round,cI b.Ty.Over,cI b.Lin.K,.sl 2 (b.Lin.L.map Mono.cells),.sl 4 (b.Idx.map Ix.cells),.sl 13 (b.Args.map Ex.cells),
   c]
abbrev QB (d:Df) (dims red:List Bd) (b:Ex) (at_:List Ix):List C:=mkS d dims red b (.sl 4 (at_.map Ix.cells))
def xI:Except Int α->Int
 |.error x=>x
 |.ok _=>0
def qf (l:List Bd):List Ix:=l.map λx=>⟨dK x.Name,bs [],[]⟩
def cJ (d:Df) (at_:List Ix) (body:Ex):List St:=
 [lR d at_ body,ul (nL (at_.getD (at_.length-1) ⟨⟨0,[]⟩,bs [],[]⟩).Lin)
  [gE d at_ 1 (.mk 3 d.Name ⟨0,0⟩ px ⟨0,[]⟩ (at_.set (at_.length-1) ⟨(gS (at_.getD (at_.length-1) ⟨⟨0,[]⟩,bs [],[]⟩).Lin ⟨-1,[]⟩).1,bs [],[]⟩) [])]]
def vD (d:Df) (at_:List Ix) (red:List Bd) (body:Ex):Except Int (List St):=
 if (sg d.Fold d.T).2=true then .ok (lR d at_ (.mk 1 (bs []) (sg d.Fold d.T).1 d.T ⟨0,[]⟩ [] [])::fH red [gE d at_ d.Fold body]) else
 match dD (λ_=>⟨0,[]⟩) (red.map Bd.Name) body with
 |.error x=>.error x
 |.ok first=>.ok (lR d at_ first::fH red [ul (nL (sU red ⟨0,[]⟩)) [gE d at_ d.Fold body]])
def PU {at_:List Ix} (h:d.Fold=0):pI d at_ red body=.ok [lR d at_ body]:=ab h
def PV {at_:List Ix} (h:d.Fold=5):pI d at_ red body=.ok (cJ d at_ body):=by
 unfold pI;rw [aa zB,ab h];rfl
def E8 {at_:List Ix} (h:¬d.Fold=0) (h5:¬d.Fold=5):pI d at_ red body=vD d at_ red body:=by
 unfold pI;rw [aa h,aa h5];rfl
def SO (d:Df) (dims red:List Bd) (body:Ex):Except Int (List St):=
 match pI d (qf dims) red body with
 |.error x=>.error x
 |.ok l=>.ok (fH dims l)
variable {dims:List Bd}
def RF {l:List St} (h:pI d (qf dims) red body=.ok l):SO d dims red body=.ok (fH dims l):=by unfold SO;rw [h]
def st_e (h:pI d (qf dims) red body=.error x):SO d dims red body=.error x:=by unfold SO;rw [h]
variable {r:Except Int α}
def wp (h:∀x,r=.error x->x≠0) (h0:xI r=0):∃l,r=.ok l:=by
 cases r with
 |error x=>exact absurd h0 (h x rfl)
 |ok l=>exact ⟨l,rfl⟩
def zZy (h:¬xI r=0):∃x,r=.error x:=by
 cases r with
 |error x=>exact ⟨x,rfl⟩
 |ok l=>exact absurd rfl h
/-! ## Names replaced by numbers -/
def OM {a b:Lf}:(gS a b).1.rng:=by
 unfold gS
 split
 ·unfold mV
  split
  ·rename_i h;exact ⟨h.1,λm hm=>DS hm⟩
  ·exact Xh
 ·exact Xh
structure SbJ (u:nq->Lf) (S:List nq) (body:Ex) (k:Nat) (e:Ex):Prop where
 sb:dD u S body=dD u (S.drop k) e
 wt:e.wt<=body.wt
 rg:e.allF Lf.rng
variable {u:nq->Lf}
def zQj {S:List nq} (h:body.allF Lf.rng):SbJ u S body 0 body:=⟨rfl,aC _,h⟩
def zVr (hu:∀s,(u s).L=[]) {S:List nq} (h:SbJ u S body k e) (hs:S[k]? =some s) (he:gM (pj (λl=>bX l s (u s)) e)=0):SbJ u S body (k+1) (lG (pj (λl=>bX l s (u s)) e)):=by
 obtain ⟨e1,h1⟩:=Ql he
 have h2:SN e s (u s)=.ok e1:=h1
 rw [h1]
 obtain ⟨q1,q2⟩:=Gq hu [s] e e1 h.rg (by rw [dD,h2];rfl)
 refine ⟨?_,aL q1 h.wt,q2⟩
 rw [h.sb,qN hs,dD,h2];rfl
def u5 {S:List nq} (h:SbJ u S body k e) (hs:S[k]? =some s) (he:¬gM (pj (λl=>bX l s (u s)) e)=0):dD u S body=.error (gM (pj (λl=>bX l s (u s)) e)):=by
 rw [h.sb,qN hs,dD]
 show (match pj (λl=>bX l s (u s)) e with|.error x=>Except.error x|.ok e'=>dD u (S.drop (k+1)) e')=_
 cases h1:pj (λl=>bX l s (u s)) e with
 |error x=>rfl
 |ok e'=>rw [h1] at he;exact absurd rfl he
def u4 {S:List nq} (h:SbJ u S body k e) (hk:S.length<=k):dD u S body=.ok e:=by
 rw [h.sb,bn hk];rfl
def Xf {β:Type} {f:α->β} {l:List α} {x:α} (h:l[k]? =some x):(l.map f)[k]? =some (f x):=by rw [cg,h];rfl
structure SmJ (red:List Bd) (k:Nat) (s:Lf):Prop where
 sm:sU red ⟨0,[]⟩=sU (red.drop k) s
 ln:s.L.length<=k
 rg:s.rng
def zQh (red:List Bd):SmJ red 0 ⟨0,[]⟩:=⟨rfl,aC _,by unfold Lf.rng oQ;exact ⟨uA,λm hm=>by cases hm⟩⟩
def Gz {s:Lf} {x:Bd} (h:SmJ red k s) (hx:red[k]? =some x):SmJ red (k+1) (gS s (dK x.Name)).1:=by
 refine ⟨by rw [h.sm,qN hx,sU],?_,OM⟩
 have h2:=vg s (dK x.Name)
 have h3:(dK x.Name).L.length<=1:=by unfold dK;cases bB x.Name<;>simp
 have:=h.ln
 omega
def Lw {s:Lf} (h:SmJ red k s) (hk:red.length<=k):sU red ⟨0,[]⟩=s:=by
 rw [h.sm,bn hk];rfl
def zVi (s:nq):(dK s).rng:=by
 unfold dK Lf.rng oQ
 cases bB s with
 |true=>exact ⟨show-9223372036854775808<=(0:Int)/\(0:Int)<=9223372036854775807 by decide,λm hm=>by rw [aR.1 hm];exact show-9223372036854775808<=(1:Int)/\(1:Int)<=9223372036854775807 by decide⟩
 |false=>exact ⟨show-9223372036854775808<=(0:Int)/\(0:Int)<=9223372036854775807 by decide,λm hm=>by cases hm⟩
def zPy (s:nq):(dK s).L.length<=1:=by unfold dK;cases bB s<;>simp
def Q5 {at_:List Ix} (c:(sg d.Fold d.T).2=true):vD d at_ red body=.ok (lR d at_ (.mk 1 (bs []) (sg d.Fold d.T).1 d.T ⟨0,[]⟩ [] [])::fH red [gE d at_ d.Fold body]):=ab c
def Ww {at_:List Ix} (c:(sg d.Fold d.T).2=false) (h:dD (λ_=>⟨0,[]⟩) (red.map Bd.Name) body=.error x):vD d at_ red body=.error x:=by
 unfold vD;rw [aa xJ4,h]
def Q6 {at_:List Ix} {s:Lf} (c:(sg d.Fold d.T).2=false) (h:dD (λ_=>⟨0,[]⟩) (red.map Bd.Name) body=.ok e) (h2:sU red ⟨0,[]⟩=s):vD d at_ red body=.ok (lR d at_ e::fH red [ul (nL s) [gE d at_ d.Fold body]]):=by
 unfold vD;rw [aa xJ4,h,h2]
/-! ## Statements,cell by cell -/
def Du (s:St):([s]:List St).map St.cells=[s.cs]:=by simp [St.cells_eq]
def iD (p:Ex) (f:St):List C:=[cI 4,cS (bs []),cI 0,cI 0,cI 0,.sl 4 [],cI p.Op,cS p.Name,cI p.Val.N,cI p.Val.D,cI p.Ty.Kind,cI p.Ty.Bits,cI p.Ty.Frac,cI p.Ty.Round,cI p.Ty.Over,cI p.Lin.K,.sl 2 (p.Lin.L.map Mono.cells),.sl 4 (p.Idx.map Ix.cells),.sl 13 (p.Args.map Ex.cells),.sl 20 [f.cs]]
def Wi (p:Ex) (f:St):iD p f=(ul p [f]).cs:=by
 unfold iD;rw [<-Du];rfl
def Kw (p:Ex) (f:St):V.c (.sl 20 [iD p f])=fL [ul p [f]]:=by rw [Wi,<-Du]
def zNw (s:St):V.c (.sl 20 [s.cs])=fL [s]:=by rw [<-Du]
def WT (s:St) (l:List St):V.c (.sl 20 ([s.cs]++l.map St.cells))=fL (s::l):=by
 show _=V.c (.sl 20 (s.cells::l.map St.cells))
 rw [St.cells_eq];rfl
def zKk (s f:St) (p:Ex):V.c (.sl 20 [s.cs,iD p f])=fL [s,ul p [f]]:=by
 rw [Wi]
 show _=V.c (.sl 20 [s.cells,(ul p [f]).cells])
 rw [St.cells_eq,St.cells_eq]
/-! ## Prefix sums -/
def YC:(⟨-1,[]⟩:Lf).rng:=by unfold Lf.rng oQ;exact ⟨uA,λm hm=>by cases hm⟩
def ix_at {x:Bd} (h:dims[dims.length-1]? =some x):(qf dims)[(qf dims).length-1]? =some ⟨dK x.Name,bs [],[]⟩:=by
 unfold qf;rw [pc];exact Xf h
def zVy {f:α->List C} {l:List α} {y:α} (h:l[l.length-1]? =some y):(l.map f)[((l.length:Int)-1).toNat]? =some (f y):=by
 rw [show ((l.length:Int)-1).toNat=l.length-1 by omega]
 exact oI h
def Zc {x:Bd} (h:(qf dims)[(qf dims).length-1]? =some ⟨dK x.Name,bs [],[]⟩):cJ d (qf dims) body=
  [lR d (qf dims) body,ul (nL (dK x.Name)) [gE d (qf dims) 1 (.mk 3 d.Name ⟨0,0⟩ px ⟨0,[]⟩ ((qf dims).set ((qf dims).length-1) ⟨(gS (dK x.Name) ⟨-1,[]⟩).1,bs [],[]⟩) [])]]:=by
 unfold cJ
 rw [dc,h];rfl
def Rn {y:Ix}:((qf dims).map Ix.cells).set (((qf dims).length:Int)-1).toNat y.cells=((qf dims).set ((qf dims).length-1) y).map Ix.cells:=by
 rw [show (((qf dims).length:Int)-1).toNat=(qf dims).length-1 by omega,List.map_set]
def Gp {u:nq->Lf}:∀{S:List nq} {e:Ex} {x:Int},dD u S e=.error x->x≠0
 |[],e,x,h=>by cases h
 |s::r,e,x,h=>by
  rw [dD] at h
  cases h1:SN e s (u s) with
  |error y=>
   rw [h1] at h
   injection h with h
   intro h0
   rw [<-h,] at h0
   rw [h0] at h1
   exact tv e h1
  |ok e'=>rw [h1] at h;exact Gp h
def II {at_:List Ix} (h:vD d at_ red body=.error x):x≠0:=by
 unfold vD at h
 split at h
 ·cases h
 ·split at h
  ·rename_i y hy
   injection h with h
   rw [<-h];exact Gp hy
  ·cases h
def WC (h:SO d dims red body=.error x):x≠0:=by
 unfold SO pI at h
 split at h
 ·rename_i y hy
  injection h with h
  rw [<-h]
  split at hy
  ·cases hy
  ·split at hy
   ·cases hy
   ·exact II (d:=d) (at_:=qf dims) (red:=red) (body:=body) hy
 ·cases h
variable {j:Nat}
/-! ## Loops -/
def xx {l:List Bd} {x:Bd} {b:List St} (h:l[j]? =some x):fH (l.drop j) b=[rO x (fH (l.drop (j+1)) b)]:=H8 h
def W8 (l:List Bd) (b:List St):(fH l b).length<=b.length+1:=by
 cases l with
 |nil=>exact Nat.le_succ _
 |cons x r=>show ([rO x _]:List St).length<=_;simp
def Bw (l:List Bd) (b:List St):fH (l.drop l.length) b=b:=by rw [ib];rfl
/-! ## Names -/
def pE (d:nq):List Ax->Ed->Ed
 |[],m=>m
 |x::r,m=>if pi d x.Name=bs [] then m else pE d r (fR m x.Name (pi d x.Name))
def eZ (d:nq) (l:List Ax) (ext:List Int):List Bd:=if lI d l=0 then gU d l ext else []
def Dn {d:nq}:∀{l:List Ax} {m:Ed},lI d l=0->pE d l m=xX d l m
 |[],_,_=>rfl
 |x::r,m,h=>by
  have h2:(x::r).any (λx=>decide (pi d x.Name=bs []))=false:=by
   unfold lI at h
   cases c:(x::r).any (λx=>decide (pi d x.Name=bs [])) with
   |false=>rfl
   |true=>rw [c] at h;cases h
  rw [ef,ax] at h2
  rw [pE,aa (ir h2.1),Dn (uX h2.2)];rfl
variable {m q:Ed}
def M8 {d:nq} {x:Ax} (h:l[k]? =some x) (hp:pE d l m=pE d (l.drop k) q) (h2:¬pi d x.Name=bs []):pE d l m=pE d (l.drop (k+1)) (fR q x.Name (pi d x.Name)):=by
 rw [hp,qN h,pE,aa h2]
def M9 {d:nq} {x:Ax} (h:l[k]? =some x) (hp:pE d l m=pE d (l.drop k) q) (h2:pi d x.Name=bs []):pE d l m=q:=by
 rw [hp,qN h,pE,ab h2]
def QF {d:nq} (hp:pE d l m=pE d (l.drop k) q) (hk:l.length<=k):pE d l m=q:=by
 rw [hp,bn hk];rfl
def Uw {d:nq} (h:lI d l=7):eZ d l ext=[]:=by unfold eZ;rw [aa (by rw [h];decide)]
def Dm {d:nq} (h:lI d l=0):eZ d l ext=gU d l ext:=ab h
def FE {d:nq} (h:lI d l=0):∀x,x∈l->bB (Bu d x.Name)=true:=λx hx=>by
 unfold lI at h
 cases c:l.any (λx=>decide (pi d x.Name=bs [])) with
 |true=>rw [c] at h;cases h
 |false=>
  rw [ek] at c
  have h2:=c x hx
  cases k:bB (Bu d x.Name) with
  |true=>rfl
  |false=>exact absurd (al (P7 (d:=d) (a:=x.Name) (by show ¬bB (Bu d x.Name)=true;rw [k];simp))) (by simpa using h2)
def xe (h1:lI d.Name d.Dims=0) (h2:lI d.Name d.Red=0):∀s,s∈bD d->bB (Bu d.Name s)=true:=λs hs=>by
 rw [zTb] at hs
 obtain ⟨a,ha,rfl⟩:=aY.1 hs
 rcases aq.1 ha with k|k
 ·exact FE h1 a k
 ·exact FE h2 a k
def Wm (h:∀s,s∈bD d->bB (Bu d.Name s)=true):(bD d).map (pi d.Name)=(bD d).map (Bu d.Name):=
 dr λs hs=>Fo (h s hs)
def MS (hn:(bD d).Nodup) (h:∀s,s∈bD d->bB (Bu d.Name s)=true):((bD d).map (pi d.Name)).Nodup:=by
 rw [Wm h]
 unfold List.Nodup at *
 rw [e8]
 exact hn.imp λk e=>k (KF d.Name _ _ e)
def OX (hv:(bK p).2=0) (hd:d∈p.Defs) (hR:d.Body.allF Lf.rng) (h:dD (λs=>⟨gI env s,[]⟩) p.Sizes d.Body=.ok b):b.allF (szF [] (bD d)):=by
 have td:=(Lh hv (bh hd).choose_spec).1
 have vd:=B4 (zLx (by rw [td])).1
 have kd:=zXe (n:=p.en) (vars:=bD d) (e:=d.Body) (by rw [td])
 have hS:=zPi _ _ (by have h2:=hv;rw [Sw] at h2;exact (W4 h2).2.1)
 have hF:d.Body.allF (szF p.Sizes (bD d)):=λx hx l hl=>⟨vd x hx l hl,hR x hx l hl,λm hm=>by
  have hk:=kd x hx l hl m hm
  unfold qt at hk
  rw [aD] at hk
  rcases hk with hk|hk
  ·exact .inr (LY.1 hk)
  ·exact .inl (LY.1 hk)⟩
 exact Jp (A:=bD d) (u:=λs=>⟨gI env s,[]⟩) (λs=>⟨rfl,rfl⟩) p.Sizes d.Body b hS hF h
def OV (A:List nq) (h:b.allF (szF [] (bD d))):b.allF (sC A (bD d)):=VQ h λl hl=>⟨hl.1,λm hm k=>by
 rcases hl.2.2 m hm with q|q
 ·cases q
 ·exact absurd q k⟩
def Kl (h:∀x,x∈env->oQ x.Val) (s:nq):oQ (gI env s):=by
 unfold gI
 have:∀env:List Bd,(∀x,x∈env->oQ x.Val)->oQ ((lU env s).getD 0):=by
  intro env
  induction env with
  |nil=>intro _;rw [lU];unfold oQ;decide
  |cons y r ih=>
   intro h
   rw [lU]
   split
   ·exact h y uF
   ·exact ih λx hx=>h x G7
 exact this env h
def Kj {x:Bd} (h:env[k]? =some x) (hs:x.Name=s) (hn:(env.take k).any (λy=>decide (y.Name=s))=false):gI env s=x.Val:=by
 unfold gI;rw [wn h hs hn];rfl
def Kk (hn:env.any (λy=>decide (y.Name=s))=false):gI env s=0:=by
 unfold gI;rw [wo hn];rfl
def vm (hv:(bK p).2=0) (hd:d∈p.Defs):∀x,x∈d.Dims++d.Red->x.Name.size<=16:=λx hx=>
 zQu (zPz hv d hd x.Name (by rw [zTb];exact gd hx))
/-! ## What a valid program's definitions are -/
def AV {n:En} {t:List nq} (h:nM n d t=0):pJ d=0/\dJ d.Name t=0:=by
 unfold nM at h
 split at h
 ·rename_i h1
  split at h
  ·split at h
   ·cases h
   ·split at h
    ·split at h
     ·rename_i h2;exact ⟨h2,h1⟩
     ·rename_i h2;exact absurd h h2
    ·rename_i h2;exact absurd h h2
  ·cases h
 ·rename_i h1;exact absurd h h1
def A1 {s:nq}:∀(l:List Df) (i:Nat) (d:Df),l[i]? =some d->d.Name=s->(∀y,y∈l.take i->y.Name≠s)->fI s l=⟨d.T,d.Dims.map Ax.Size,true⟩
 |[],i,d,h,_,_=>by simp at h
 |x::r,0,d,h,hs,_=>by
  rw [gm,ay] at h
  subst h
  rw [fI,al hs];rfl
 |x::r,i+1,d,h,hs,hn=>by
  rw [fI,am (hn x uF),aw]
  exact A1 r i d tk hs λy hy=>hn y (by rw [av];simp [hy])
def ET {s:nq} {ds:List Df}:∀(l:List Pm),(∀x,x∈l->x.Name≠s)->gC s ds l=fI s ds
 |[],_=>rfl
 |x::r,h=>by rw [gC,am (h x uF),aw];exact ET r λy hy=>h y Ac
variable {i:Nat}
def GW (h:(bK p).2=0) (hd:p.Defs[i]? =some d):nM ⟨p.Sizes,p.Params,p.Defs.take i⟩ d (p.Sizes++p.Params.map Pm.Name++(p.Defs.take i).map Df.Name)=0:=by
 rw [Sw] at h
 obtain ⟨a',h5,_⟩:=Z4 p p rfl p.Params _ _ (W4 h).2.2.2
 have:=zLc p p.Defs _ _ _ h5 i d hd
 simpa using this
def zNq (h:(bK p).2=0) (hd:p.Defs[i]? =some d):p.en.find d.Name=⟨d.T,d.Dims.map Ax.Size,true⟩:=by
 have hn:=BD (AV (GW h hd)).2
 show gC d.Name p.Defs p.Params=_
 rw [ET p.Params λx hx e=>hn (by rw [<-e];simp;exact .inr (.inl ⟨x,hx,rfl⟩))]
 exact A1 p.Defs i d hd rfl λy hy e=>hn (by rw [<-e,aq];exact .inr (gd hy))
def zt (h:(bK p).2=0) (hd:d∈p.Defs) (h5:d.Fold=5):0<d.Dims.length:=by
 obtain ⟨i,hi⟩:=bh hd
 have hf:=(AV (GW h hi)).1
 unfold pJ at hf
 split at hf
 ·cases hf
 ·split at hf
  ·cases hf
  ·rename_i c;exact Nat.pos_of_ne_zero λe=>c (.inr ⟨h5,e⟩)
def Wl {k:Int} (h:oQ k):(⟨k,[]⟩:Lf).rng:=⟨h,λm hm=>by cases hm⟩
/-! ## Def,branch by branch -/
def XH (p:Pg) (env:List Bd) (s:nq):(mT p env s).2=jQ p env s:=by
 unfold mT;split
 ·rename_i c;rw [c]
 ·rfl
def Xm (h:jQ p env s=0):(mT p env s).1=fB env (p.en.find s).dims:=by unfold mT;rw [ab h]
def zOf (h1:(bK p).2=0) (h2:mF p env=0):rR p env s=((mT p env s).1,jQ p env s):=by
 rw [<-XH];unfold rR;rw [ab h1,ab h2]
def P9 {i:Int} (h:¬(bK p).2=0):tP p env i=.error (bK p).2:=ab h
def Qa {i:Int} (h:(bK p).2=0) (h2:¬mF p env=0):tP p env i=.error (mF p env):=by
 unfold tP;rw [aa (λq=>q h),ab h2]
def P8 {i:Int} (h:(bK p).2=0) (h2:mF p env=0) (h3:i<0∨(p.Defs.length:Int)<=i):tP p env i=.error 9:=by
 unfold tP;rw [aa (λq=>q h),aa (λq=>q h2),ab h3]
def uU (h:(bK p).2=0) (h2:mF p env=0) (h3:p.Defs[i]? =some d):tP p env (i:Int)=gL p env d:=by
 have:=(af.1 h3).1
 unfold tP;rw [aa (λq=>q h),aa (λq=>q h2),aa zB,bu,h3]
def C3 (h:¬jQ p env d.Name=0):gL p env d=.error (jQ p env d.Name):=ab h
def C4 (h:jQ p env d.Name=0) (h2:¬fO env (d.Red.map Ax.Size)=0):gL p env d=.error (fO env (d.Red.map Ax.Size)):=by
 unfold gL;rw [aa (λq=>q h),ab h2]
def Wt {d:nq} (h:¬lI d l=0):lI d l=7:=by
 unfold lI at h⊢;split at h
 ·rename_i c;rw [ab c]
 ·exact absurd rfl h
def Ib (h:jQ p env d.Name=0) (h2:fO env (d.Red.map Ax.Size)=0) (h3:¬lI d.Name d.Dims=0):gL p env d=.error 7:=by
 unfold gL;rw [aa (λq=>q h),aa (λq=>q h2),ab h3]
def Ic (h:jQ p env d.Name=0) (h2:fO env (d.Red.map Ax.Size)=0) (h3:lI d.Name d.Dims=0) (h4:¬lI d.Name d.Red=0):gL p env d=.error 7:=by
 unfold gL;rw [aa (λq=>q h),aa (λq=>q h2),aa (λq=>q h3),ab h4]
def Ie (h:jQ p env d.Name=0) (h2:fO env (d.Red.map Ax.Size)=0) (h3:lI d.Name d.Dims=0) (h4:lI d.Name d.Red=0):gL p env d=pG p env d:=by
 unfold gL;rw [aa (λq=>q h),aa (λq=>q h2),aa (λq=>q h3),aa (λq=>q h4)]
def H9 (h:dD (λs=>⟨gI env s,[]⟩) p.Sizes d.Body=.error x):pG p env d=.error x:=by unfold pG;rw [h]
def Ia (h:dD (λs=>⟨gI env s,[]⟩) p.Sizes d.Body=.ok b):pG p env d=SO d (lJ p env d) (tQ env d) (qh (gP ((bD d).map (pi d.Name)) (bD d)) b):=by unfold pG;rw [h];rfl
def MI (h:(bK p).2=0) (hd:d∈p.Defs):(lJ p env d).length=d.Dims.length:=by
 obtain ⟨i,hi⟩:=bh hd
 unfold lJ gU fB;rw [zNq h hi,pc,ii,pc,pc];omega
def P1:(tQ env d).length<=d.Red.length:=Do _ _ _
def Nf {l:List St} (hS:p.Sm) (hd:d∈p.Defs) (hv:(bK p).2=0) (hR:d.Body.allF Lf.rng) (h:pG p env d=.ok l):Ns.Ok ⟨[],l⟩:=by
 have h1:=Ig hR h
 have h2:=(hS.ds d hd).2.2
 have h3:=zLw hv d hd
 exact ⟨cb _,(λb hb=>by cases hb),show bR l<=_ by omega⟩
/-! ## Prog,branch by branch -/
def Qh (h:¬(bK p).2=0):jM p env=(⟨[],[]⟩,(bK p).2):=ab h
def Qi (h:(bK p).2=0) (h2:¬mF p env=0):jM p env=(⟨[],[]⟩,mF p env):=by
 unfold jM;rw [aa (λq=>q h),ab h2]
def Qc (h:(bK p).2=0) (h2:mF p env=0) (hs:p.Outs[k]? =some s) (h3:(p.Params.any λx=>decide (x.Name=s))=true):jM p env=(⟨[],[]⟩,1):=by
 unfold jM;rw [aa (λq=>q h),aa (λq=>q h2),ab (cn.2 ⟨s,qD hs,h3⟩)]
section
variable {p:Pg} {env:List Bd} (h:(bK p).2=0) (h2:mF p env=0) (h3:(p.Outs.any λs=>p.Params.any λx=>decide (x.Name=s))=false)
include h h2 h3
def Qg {x:Int} (h4:nK p env p.Params=x) (hx:¬x=0):jM p env=(⟨[],[]⟩,x):=by
 unfold jM;rw [aa (λq=>q h),aa (λq=>q h2),aa xJ3,ab (by rw [h4];exact hx),h4]
def Qd {x:Int} (h4:nK p env p.Params=0) (h5:mZ p env p.Defs=x) (hx:x≠0):jM p env=(⟨[],[]⟩,x):=by
 unfold jM;rw [aa (λq=>q h),aa (λq=>q h2),aa xJ3,aa (λq=>q h4),ab (by rw [h5];exact hx),h5]
def YA (h4:nK p env p.Params=0) (h5:mZ p env p.Defs=0) (h6:¬(jF (rF p env)).2=0):jM p env=(⟨[],[]⟩,(jF (rF p env)).2):=by
 unfold jM;rw [aa (λq=>q h),aa (λq=>q h2),aa xJ3,aa (λq=>q h4),aa (λq=>q h5),ab h6]
def KL (h4:nK p env p.Params=0) (h5:mZ p env p.Defs=0) (h6:(jF (rF p env)).2=0):jM p env=(rF p env,0):=by
 unfold jM;rw [aa (λq=>q h),aa (λq=>q h2),aa xJ3,aa (λq=>q h4),aa (λq=>q h5),aa (λq=>q h6)]
end
def FV {l:List Pm} {x:Pm} (hx:l[k]? =some x) (h:nK p env l=nK p env (l.drop k)) (c:jQ p env x.Name=0):nK p env l=nK p env (l.drop (k+1)):=by
 rw [h,qN hx,nK,ab c]
def Lj {l:List Pm} {x:Pm} (hx:l[k]? =some x) (h:nK p env l=nK p env (l.drop k)) (c:¬jQ p env x.Name=0):nK p env l=jQ p env x.Name:=by
 rw [h,qN hx,nK,aa c]
def Li {l:List Pm} (h:nK p env l=nK p env (l.drop k)) (hk:l.length<=k):nK p env l=0:=by rw [h,bn hk];rfl
def zWl {l:List Df} {x:List St} (hx:l[k]? =some d) (h:mZ p env l=mZ p env (l.drop k)) (c:gL p env d=.ok x):mZ p env l=mZ p env (l.drop (k+1)):=by
 rw [h,qN hx,mZ,c]
def J2 {l:List Df} (hx:l[k]? =some d) (h:mZ p env l=mZ p env (l.drop k)) (c:gL p env d=.error x):mZ p env l=x:=by
 rw [h,qN hx,mZ,c]
def J1 {l:List Df} (h:mZ p env l=mZ p env (l.drop k)) (hk:l.length<=k):mZ p env l=0:=by rw [h,bn hk];rfl
def uV (h:gL p env d=.error x):x≠0:=by
 by_cases c1:jQ p env d.Name=0
 ·by_cases c2:fO env (d.Red.map Ax.Size)=0
  ·by_cases c3:lI d.Name d.Dims=0
   ·by_cases c4:lI d.Name d.Red=0
    ·rw [Ie c1 c2 c3 c4] at h
     cases hb:dD (λs=>(⟨gI env s,[]⟩:Lf)) p.Sizes d.Body with
     |error y=>rw [H9 hb] at h;injection h with h;rw [<-h];exact Gp hb
     |ok b=>rw [Ia hb] at h;exact WC h
    ·rw [Ic c1 c2 c3 c4] at h;injection h with h;rw [<-h];decide
   ·rw [Ib c1 c2 c3] at h;injection h with h;rw [<-h];decide
  ·rw [C4 c1 c2] at h;injection h with h;rw [<-h];exact c2
 ·rw [C3 c1] at h;injection h with h;rw [<-h];exact c1
def Fr {x:List St} (h:gL p env d=.ok x):jQ p env d.Name=0:=by
 by_cases c1:jQ p env d.Name=0
 ·exact c1
 ·rw [C3 c1] at h;cases h
def V3 (c:bQ p.Outs d.Name=true):mG p env d=⟨d.Name,d.T,fB env (p.en.find d.Name).dims,2⟩:=by unfold mG;rw [ab c]
def V4 (c:bQ p.Outs d.Name=false):mG p env d=⟨d.Name,d.T,fB env (p.en.find d.Name).dims,3⟩:=by unfold mG;rw [aa xJ4]
def DR {x:List St} (hS:p.Sm) (hv:(bK p).2=0) (hR:∀d,d∈p.Defs->d.Body.allF Lf.rng) (hd:d∈p.Defs) (hx:gL p env d=.ok x):bR x<=3200:=by
 have h1:=Ig (hR d hd) (Wn hx)
 have h2:=(hS.ds d hd).2.2
 have h3:=zLw hv d hd
 omega
def GJ {x:List St} (hS:p.Sm) (hv:(bK p).2=0) (hR:∀d,d∈p.Defs->d.Body.allF Lf.rng) (h9:bR ((p.Defs.take j).flatMap λd=>mS (gL p env d))<=j*3200) (hd:p.Defs[j]? =some d) (hx:gL p env d=.ok x):
  bR ((p.Defs.take (j+1)).flatMap λd=>mS (gL p env d))<=(j+1)*3200:=by
 have h1:=DR hS hv hR (qD hd) hx
 rw [yB hd,dn,lr,hx,zLy]
 show _+bR x<=_
 omega
def C5 {x:List St} (hd:p.Defs[j]? =some d) (hx:gL p env d=.ok x):((p.Defs.take (j+1)).flatMap λd=>mS (gL p env d)).map St.cells=((p.Defs.take j).flatMap λd=>mS (gL p env d)).map St.cells++x.map St.cells:=by
 rw [yB hd,dn,lr,hx,ah];rfl
def C6 {b:Bf} (hd:p.Defs[j]? =some d) (hb:mG p env d=b):(p.Params.map (pH p env)++(p.Defs.take (j+1)).map (mG p env)).map Bf.cells=(p.Params.map (pH p env)++(p.Defs.take j).map (mG p env)).map Bf.cells++[b.cells]:=by
 rw [yB hd,ah (f:=mG p env),mi,hb,<-tu,ah (l₂:=[b]),mi]
def KK (h:(jM p env).2=0):(bK p).2=0/\(jM p env).1=rF p env:=by
 unfold jM at h⊢
 split
 ·rename_i c;rw [ab c] at h;exact absurd h c
 ·rename_i c
  rw [aa c] at h
  refine ⟨Decidable.of_not_not c,?_⟩
  split
  ·rename_i c2;rw [ab c2] at h;exact absurd h c2
  ·rename_i c2
   rw [aa c2] at h
   split
   ·rename_i c3;rw [ab c3] at h;cases h
   ·rename_i c3
    rw [aa c3] at h
    split
    ·rename_i c4;rw [ab c4] at h;exact absurd h c4
    ·rename_i c4
     rw [aa c4] at h
     split
     ·rename_i c5;rw [ab c5] at h;exact absurd h c5
     ·rename_i c5
      rw [aa c5] at h
      split
      ·rename_i c6;rw [ab c6] at h;exact absurd h c6
      ·rfl
def Qe (hS:p.Sm) (hR:∀d,d∈p.Defs->d.Body.allF Lf.rng) (h:(jM p env).2=0):(jM p env).1.Ok/\bR (jM p env).1.Body<=900000:=by
 rw [(KK h).2]
 exact If hS (KK h).1 hR
instance (l:Lf):Decidable l.rng:=by unfold Lf.rng oQ;infer_instance
def WR:∀x,x∈xV->oQ x.Val:=λx hx=>by
 rw [aR.1 hx];exact show-9223372036854775808<=(3:Int)/\(3:Int)<=9223372036854775807 by decide
def x_sm1:(xP 1).Sm:=⟨uA,uA,uA,uA,uA,⟨(λc hc=>by cases hc),Oe,Oe⟩,Oe,Oe⟩
def x_sm4:(xP 4).Sm:=⟨uA,uA,uA,uA,uA,⟨(λc hc=>by cases hc),Oe,Oe⟩,Oe,Oe⟩
def Sn:xBody.allF Lf.rng:=(by decide+kernel:∀x,x∈dE xBody->∀l,l∈dH x->l.rng)
def ZP:(xP 1).Rng:=⟨(λc hc=>by cases hc),Oe,(λd hd=>by rw [aR.1 hd];exact ⟨(λa ha=>by cases ha),(by decide+kernel:∀a,a∈(xD 1).Red->a.Size.rng),Sn⟩)⟩
def ZQ:(xP 4).Rng:=⟨(λc hc=>by cases hc),Oe,(λd hd=>by rw [aR.1 hd];exact ⟨(λa ha=>by cases ha),(by decide+kernel:∀a,a∈(xD 1).Red->a.Size.rng),Sn⟩)⟩
def x_ln:pi (bs [115]) (bs [106])=sj:=by decide+kernel
end Go.Br
end
section
set_option maxRecDepth 100000
namespace Go.Br
open Go Go.Eng Go.L41
def pk:List Nat->Nat
 |[]=>0
 |d::r=>d+4294967296*pk r
def gX (l:List Nat):Prop:=∀d,d∈l->d<4294967296
def uM:∀(a b:List Nat),pk (a++b)=pk a+4294967296^a.length*pk b
 |[],b=>by simp [pk]
 |d::r,b=>by
  rw [xn,pk,pk,uM r b,pw,jd,km,i4,gq (4294967296^r.length) 4294967296,gg]
def CB:∀{l:List Nat},gX l->pk l<4294967296^l.length
 |[],_=>by simp [pk]
 |d::r,h=>by
  have h1:=h d uF
  have h2:=CB (l:=r) λx hx=>h x G7
  rw [pk,pw,jd,gq (4294967296^r.length)]
  omega
variable {l:List Nat} {i d:Nat}
def EG (h:l[i]? =some d):pk l=pk (l.take i)+4294967296^i*(d+4294967296*pk (l.drop (i+1))):=by
 have hl:=(af.1 h).1
 have e:l=l.take i++d::l.drop (i+1):=by rw [<-qN h,aZ]
 have e2:pk l=pk (l.take i++d::l.drop (i+1)):=ai pk e
 rw [e2,uM,ap,bg zB,pk]
variable {x:Nat}
def wi (h:gX l) (hx:x<4294967296):gX (l.set i x):=λd hd=>by
 rcases ga hd with k|k
 ·exact h d k
 ·rw [k];exact hx
/-! ## Adding a number -/
def mE:List Nat->Nat->Nat->List Nat
 |[],_,_=>[]
 |d::r,c,n=>(d+n%4294967296+c)%4294967296::mE r ((d+n%4294967296+c)/4294967296) (n/4294967296)
def uL:∀(l:List Nat) (c n:Nat),gX l->(∃q,pk (mE l c n)+q*4294967296^l.length=pk l+c+n)/\gX (mE l c n)/\(mE l c n).length=l.length
 |[],c,n,_=>⟨⟨c+n,by simp [pk,mE]⟩,(λd hd=>by cases hd),rfl⟩
 |d::r,c,n,h=>by
  obtain ⟨⟨q,hq⟩,h2,h3⟩:=uL r ((d+n%4294967296+c)/4294967296) (n/4294967296) λx hx=>h x G7
  refine ⟨⟨q,?_⟩,λx hx=>?_,by rw [mE,pw,h3,pw]⟩
  ·rw [mE,pk,pk,pw,jd,<-gg]
   generalize pk (mE r ((d+n%4294967296+c)/4294967296) (n/4294967296))=X at *
   generalize q*4294967296^r.length=Y at *
   omega
  ·rw [mE] at hx
   rcases ag.1 hx with rfl|hx
   ·exact g7 _ uA
   ·exact h2 x hx
def jJ (w:List Nat) (at_ N:Nat):List Nat:=w.take at_++mE (w.drop at_) 0 N
variable {w:List Nat}
def Ol {at_ N:Nat} (h:w.length=6) (hw:gX w):(jJ w at_ N).length=6:=by
 unfold jJ
 rw [qp,(uL _ 0 N λd hd=>hw d (Yt hd)).2.2,<-qp,aZ,h]
def z8 {at_ N:Nat} (hw:gX w):gX (jJ w at_ N):=λd hd=>by
 unfold jJ at hd
 rcases aq.1 hd with k|k
 ·exact hw d (e9 k)
 ·exact (uL _ 0 N λd hd=>hw d (Yt hd)).2.1 d k
def Ke {at_ N:Nat} (h:w.length=6) (hw:gX w) (ha:at_<=6) (hb:pk w+N*4294967296^at_<6277101735386680763835789423207666416102355444464034512896):pk (jJ w at_ N)=pk w+N*4294967296^at_:=by
 obtain ⟨⟨q,hq⟩,h2,h3⟩:=uL (w.drop at_) 0 N λd hd=>hw d (Yt hd)
 have e:pk w=pk (w.take at_)+4294967296^at_*pk (w.drop at_):=by
  have:=uM (w.take at_) (w.drop at_)
  rw [aZ,ap,bg zB] at this
  exact this
 have e2:pk (jJ w at_ N)=pk (w.take at_)+4294967296^at_*pk (mE (w.drop at_) 0 N):=by
  have:=uM (w.take at_) (mE (w.drop at_) 0 N)
  rw [ap,bg zB] at this
  exact this
 have e3:=ai (λx=>4294967296^at_*x) hq
 simp only [km,Nat.mul_zero,lm,cu,h] at e3
 have e4:4294967296^at_*(q*4294967296^(6-at_))=q*6277101735386680763835789423207666416102355444464034512896:=by
  rw [<-gg,gq (4294967296^at_) q,gg,<-Nat.pow_add,show at_+(6-at_)=6 by omega]
 rw [e4,gq (4294967296^at_) N] at e3
 rw [e2]
 generalize pk (jJ w at_ N)=A at *
 generalize 4294967296^at_*pk (mE (w.drop at_) 0 N)=X at *
 generalize 4294967296^at_*pk (w.drop at_)=Y at *
 generalize N*4294967296^at_=Z at *
 exact v54
variable {c:Nat} {ds:List Nat} {n:Nat}
def Pj {at_ N:Nat} (h:jJ w at_ N=ds.take i++mE (ds.drop i) c n) (hd:ds[i]? =some d):
  jJ w at_ N=(ds.set i ((d+n%4294967296+c)%4294967296)).take (i+1)++mE ((ds.set i ((d+n%4294967296+c)%4294967296)).drop (i+1)) ((d+n%4294967296+c)/4294967296) (n/4294967296):=by
 have hl:=(af.1 hd).1
 rw [h,qN hd,mE,js zB,yB (x:=(d+n%4294967296+c)%4294967296) (by rw [bc hl]),jq (aC i),tu];rfl
def TH {at_ N:Nat} (h:jJ w at_ N=ds.take i++mE (ds.drop i) c n) (hl:ds.length<=i):jJ w at_ N=ds:=by
 rw [h,aE hl,bn hl,mE,rk]
def vF (w:List Nat) (a b:Nat):List Nat:=jJ (jJ (jJ (jJ w 0 (a%4294967296*(b%4294967296))) 1 (a%4294967296*(b/4294967296))) 1 (a/4294967296*(b%4294967296))) 2 (a/4294967296*(b/4294967296))
def Hm {a b:Nat} (h:w.length=6) (hw:gX w):(vF w a b).length=6/\gX (vF w a b):=
 ⟨Ol (Ol (Ol (Ol h hw) (z8 hw)) (z8 (z8 hw))) (z8 (z8 (z8 hw))),z8 (z8 (z8 (z8 hw)))⟩
def QZ {a b:Nat} (h:w.length=6) (hw:gX w) (hb:pk w+a*b<6277101735386680763835789423207666416102355444464034512896):pk (vF w a b)=pk w+a*b:=by
 have hp:=zYn a b
 have h0:(4294967296:Nat)^0=1:=by decide
 have h1:(4294967296:Nat)^1=4294967296:=by decide
 have h2:(4294967296:Nat)^2=18446744073709551616:=by decide
 unfold vF
 have e1:=Ke (w:=w) (at_:=0) (N:=a%4294967296*(b%4294967296)) h hw uA (by rw [h0];omega)
 have e2:=Ke (w:=jJ w 0 (a%4294967296*(b%4294967296))) (at_:=1) (N:=a%4294967296*(b/4294967296)) (Ol h hw) (z8 hw) uA (by rw [e1,h0,h1];omega)
 have e3:=Ke (at_:=1) (N:=a/4294967296*(b%4294967296)) (Ol (at_:=1) (N:=a%4294967296*(b/4294967296)) (Ol (at_:=0) (N:=a%4294967296*(b%4294967296)) h hw) (z8 hw)) (z8 (z8 hw)) uA (by rw [e2,e1,h0,h1];omega)
 have e4:=Ke (at_:=2) (N:=a/4294967296*(b/4294967296)) (Ol (at_:=1) (N:=a/4294967296*(b%4294967296)) (Ol (at_:=1) (N:=a%4294967296*(b/4294967296)) (Ol (at_:=0) (N:=a%4294967296*(b%4294967296)) h hw) (z8 hw)) (z8 (z8 hw))) (z8 (z8 (z8 hw))) uA (by rw [e3,e2,e1,h0,h1,h2];omega)
 rw [e4,e3,e2,e1,h0,h1,h2]
 omega
variable {a b:List Nat}
/-! ## Comparing -/
def TE {y:Nat} (hl:a.length=b.length) (ha:gX a) (hb:gX b) (hx:a[i]? =some x) (hy:b[i]? =some y) (hne:¬x=y) (hd:a.drop (i+1)=b.drop (i+1)):decide (x<y)=decide (pk a<pk b):=by
 have h1:=EG hx
 have h2:=EG hy
 have hla:=(af.1 hx).1
 have t1:=CB (l:=a.take i) λd hd=>ha d (e9 hd)
 have t2:=CB (l:=b.take i) λd hd=>hb d (e9 hd)
 rw [ap,bg zB] at t1 t2
 rw [hd] at h1
 generalize pk (b.drop (i+1))=D at *
 generalize pk (a.take i)=p at *
 generalize pk (b.take i)=q at *
 generalize (4294967296:Nat)^i=B at *
 by_cases c:x<y
 ·have h3:B*(x+4294967296*D)+B<=B*(y+4294967296*D):=by
   rw [show B*(x+4294967296*D)+B=B*(x+4294967296*D+1) from (Nat.mul_succ B _).symm]
   exact jp _ zB
  rw [al c,al zB]
 ·have h3:B*(y+4294967296*D)+B<=B*(x+4294967296*D):=by
   rw [show B*(y+4294967296*D)+B=B*(y+4294967296*D+1) from (Nat.mul_succ B _).symm]
   exact jp _ zB
  rw [am c,am zB]
def TG (hx:a[i]? =some x) (hy:b[i]? =some x) (hd:a.drop (i+1)=b.drop (i+1)):a.drop i=b.drop i:=by rw [qN hx,qN hy,hd]
def TF (hd:a.drop 0=b.drop 0):decide (pk a<pk b)=false:=by
 rw [show a=b from hd];exact am (Nat.lt_irrefl _)
/-! ## Subtracting -/
def mO:List Nat->List Nat->Nat->List Nat
 |x::r,y::s,c=>(if x<y+c then x+4294967296-(y+c) else x-(y+c))::mO r s (if x<y+c then 1 else 0)
 |_,_,_=>[]
def Kb:∀(a b:List Nat) (c:Nat),a.length=b.length->gX a->gX b->c<=1->(∃q,pk (mO a b c)+pk b+c=pk a+q*4294967296^a.length)/\gX (mO a b c)/\(mO a b c).length=a.length
 |[],[],c,_,_,_,_=>⟨⟨c,by simp [pk,mO]⟩,(λd hd=>by simp [mO] at hd),rfl⟩
 |x::r,y::s,c,hl,ha,hb,hc=>by
  have hx:=ha x uF
  have hy:=hb y uF
  obtain ⟨⟨q,hq⟩,h2,h3⟩:=Kb r s (if x<y+c then 1 else 0) ZK (λd hd=>ha d (by simp [hd])) (λd hd=>hb d (by simp [hd])) (by split<;>omega)
  refine ⟨⟨q,?_⟩,λd hd=>?_,by rw [mO,pw,h3,pw]⟩
  ·rw [mO,pk,pk,pk,pw,jd,<-gg]
   generalize pk (mO r s (if x<y+c then 1 else 0))=X at *
   generalize q*4294967296^r.length=Y at *
   split at hq
   ·rename_i k;rw [ab k];omega
   ·rename_i k;rw [aa k];omega
  ·rw [mO] at hd
   rcases ag.1 hd with rfl|hd
   ·split<;>omega
   ·exact h2 d hd
def xA (a b:List Nat):List Nat:=mO a b 0
def Wr (h1:a.length=6) (h2:b.length=6) (ha:gX a) (hb:gX b) (hle:pk b<=pk a):pk (xA a b)=pk a-pk b/\gX (xA a b)/\(xA a b).length=6:=by
 obtain ⟨⟨q,hq⟩,h3,h4⟩:=Kb a b 0 (h1.trans h2.symm) ha hb uA
 have hlt:=CB h3
 rw [h4,h1] at hlt
 rw [h1,show (4294967296:Nat)^6=6277101735386680763835789423207666416102355444464034512896 by decide] at hq
 rw [show (4294967296:Nat)^6=6277101735386680763835789423207666416102355444464034512896 by decide] at hlt
 refine ⟨?_,h3,h4.trans h1⟩
 show pk (mO a b 0)=_
 exact v54
def FA {y x' c':Nat} (h:xA a b=ds.take i++mO (ds.drop i) (b.drop i) c) (hx:ds[i]? =some x) (hy:b[i]? =some y) (hx':x'=if x<y+c then x+4294967296-(y+c) else x-(y+c)) (hc':c'=if x<y+c then 1 else 0):
  xA a b=(ds.set i x').take (i+1)++mO ((ds.set i x').drop (i+1)) (b.drop (i+1)) c':=by
 have hl:=(af.1 hx).1
 rw [h,qN hx,qN hy,mO,<-hx',<-hc',js zB,yB (x:=x') (by rw [bc hl]),jq (aC i),tu];rfl
def Um (h:xA a b=ds.take i++mO (ds.drop i) (b.drop i) c) (hl:ds.length<=i):xA a b=ds:=by
 rw [h,aE hl,bn hl];simp [mO]
/-! ## Cells -/
abbrev cU (n:Nat):C:=.lit (.int .u64 (n:Int))
abbrev vW (l:List Nat):V:=.agg (l.map cU)
variable {k:Nat}
def S7 (h:l[k]? =some d):(l.map cU).drop (0+(k:Int).toNat*1)=cU d::(l.drop (k+1)).map cU:=by
 rw [cd,kl,bu,<-List.map_drop,qN h];rfl
def LA {new:C}:∀(l:List C) (k:Nat),k<l.length->GA l k [new]=l.set k new
 |[],k,h=>by simp at h
 |c::r,0,_=>rfl
 |c::r,k+1,h=>by rw [GA,gj,LA r k tk]
def CC (h:k<l.length):GA (l.map cU) (0+(k:Int).toNat*1) [cU x]=(l.set k x).map cU:=by
 rw [cd,kl,bu,LA _ _ (by rw [pc];exact h),List.map_set]
def Kc (h:k<l.length) (x:C):0+(k:Int).toNat*1+[x].length<=(l.map cU).length:=by
 rw [cd,kl,bu,pc];exact h
def OH (l:List Nat):(l.map cU).drop 0=l.map cU++[]:=by rw [rk];rfl
def Af (h:l.length=6):(l.map cU).length=6:=by rw [pc];exact h
def Y1 {cs:List C} (hc:cs.length=6) (h:l.length=6):GA cs 0 (l.map cU)=l.map cU:=by
 rw [show GA cs 0 (l.map cU)=l.map cU++cs.drop (l.map cU).length by cases cs<;>rfl]
 rw [bn (by rw [pc];omega),rk]
def Y3 (h:l.length=6):Nat.beq (l.map cU).length 6=true:=by rw [pc,h];rfl
def Y2 {cs:List C} (hc:cs.length=6) (h:l.length=6):0+(l.map cU).length<=cs.length:=by rw [pc];omega
/-! ## The value of a form -/
def wj (h:l.length=6):∃a b c d e f,l=[a,b,c,d,e,f]:=by
 match l,h with
 |[a,b,c,d,e,f],_=>exact ⟨a,b,c,d,e,f,rfl⟩
structure ErJ (l:Lf) (env:List Bd) (k:Nat) (p q:List Nat) (z:Int):Prop where
 pl:p.length=6
 ql:q.length=6
 po:gX p
 qo:gX q
 ev:CD env (l.L.take k)=some z
 v:(pk p:Int)-(pk q:Int)=l.K+z
 pb:pk p<=9223372036854775808+k*85070591730234615865843651857942052864
 qb:pk q<=9223372036854775808+k*85070591730234615865843651857942052864
def JK {a b:Nat} (h:a<=c+k*b):a<=c+(k+1)*b:=aL h (Nat.add_le_add_left (dd _ (Nat.le_succ k)) _)
def OR {a a' b:Nat} (h:a<=c+k*b) (e:a'=a+n) (hn:n<=b):a'<=c+(k+1)*b:=by
 rw [e,gl,Nat.one_mul,<-i4]
 exact Nat.add_le_add h hn
variable {z:Int}
def XQ {a b b':Nat} {K P:Int} (h:(a:Int)-(b:Int)=K+z) (h3:b'=b+n) (he:P= -((n:Nat):Int)):(a:Int)-(b':Int)=K+(z+P):=by omega
def XM {a b a':Nat} {K P:Int} (h:(a:Int)-(b:Int)=K+z) (h3:a'=a+n) (he:P=((n:Nat):Int)):(a':Int)-(b:Int)=K+(z+P):=by omega
variable {env:List Bd} {p q:List Nat}
def XO {l:Lf} {q':List Nat} {v:Int} {m:Mono} (hl:l.rng) (h:ErJ l env k p q z) (hm:l.L[k]? =some m) (hv:lU env m.Name=some v) (hr:oQ v) (hs:¬(decide (v<0)=decide (m.By<0))) (h1:q'.length=6) (h2:gX q') (h3:pk q'=pk q+v.natAbs*m.By.natAbs):ErJ l env (k+1) p q' (z+m.By*v):=by
 have hb:=Ci (hl.2 m (qD hm)) hr
 have he:=Dj (x:=m.By) (y:=v)
 rw [ab (by cases c1:decide (v<0)<;>cases c2:decide (m.By<0)<;>simp_all)] at he
 rw [OC] at hb
 rw [gq] at h3
 exact ⟨h.pl,h1,h.po,h2,wq hm h.ev hv,XQ h.v h3 he,JK h.pb,OR h.qb h3 hb⟩
def XP {l:Lf} {p':List Nat} {v:Int} {m:Mono} (hl:l.rng) (h:ErJ l env k p q z) (hm:l.L[k]? =some m) (hv:lU env m.Name=some v) (hr:oQ v) (hs:decide (v<0)=decide (m.By<0)) (h1:p'.length=6) (h2:gX p') (h3:pk p'=pk p+v.natAbs*m.By.natAbs):ErJ l env (k+1) p' q (z+m.By*v):=by
 have hb:=Ci (hl.2 m (qD hm)) hr
 have he:=Dj (x:=m.By) (y:=v)
 rw [aa (by cases c1:decide (v<0)<;>cases c2:decide (m.By<0)<;>simp_all)] at he
 rw [OC] at hb
 rw [gq] at h3
 exact ⟨h1,h.ql,h2,h.qo,wq hm h.ev hv,XM h.v h3 he,OR h.pb h3 hb,JK h.qb⟩
def EK {l:Lf} (hk:oQ l.K) (h1:p.length=6) (h2:gX p) (h3:q.length=6) (h4:gX q) (h5:(pk p:Int)-(pk q:Int)=l.K) (h6:pk p<=l.K.natAbs) (h7:pk q<=l.K.natAbs):ErJ l env 0 p q 0:=by
 have:=Cd hk
 exact ⟨h1,h3,h2,h4,rfl,zB,zB,zB⟩
def Ps {l:Lf} (h:ErJ l env k p q z) (hk:l.L.length<=k) (hl:dM l=0):dV l env=if oQ ((pk p:Int)-(pk q:Int)) then ((pk p:Int)-(pk q:Int),0) else (0,3):=by
 have hz:=h.ev
 rw [yG zB] at hz
 unfold dV
 rw [ab hl,hz,h.v]
 rfl
variable {e f:Nat}
def HL {a b:Nat} (ho:gX [a,b,c,d,e,f]):(c=0/\d=0/\e=0/\f=0->pk [a,b,c,d,e,f]=a+b*4294967296)/\(¬(c=0/\d=0/\e=0/\f=0)->18446744073709551616<=pk [a,b,c,d,e,f])/\a+b*4294967296<18446744073709551616:=by
 have h1:=ho a uF
 have h2:=ho b uF
 simp only [pk]
 refine ⟨λ⟨h3,h4,h5,h6⟩=>?_,λh=>?_,zB⟩
 ·subst h3 h4 h5 h6;omega
 ·omega
def dg0:List Nat:=[0,0,0,0,0,0]
def OJ:gX dg0:=λd hd=>by
 simp only [dg0,rp,aJ,cm] at hd
 omega
def Md:pk dg0=0:=by decide
def bne_t {a b:Bool} (h:(!(a==b))=true):¬(a=b):=by intro e;subst e;simp at h
def bne_f {a b:Bool} (h:(!(a==b))=false):a=b:=by simpa using h
def V9:∀{env:List Bd} {s:nq} {v:Int},(∀x,x∈env->oQ x.Val)->lU env s=some v->oQ v
 |[],_,_,_,h=>by cases h
 |y::r,s,v,hr,h=>by
  rw [lU] at h
  split at h
  ·rw [ay] at h;rw [<-h];exact hr y uF
  ·exact V9 (λx hx=>hr x G7) h
def erP (k:Int):List Nat:=if k<0 then dg0 else vF dg0 k.natAbs 1
def erQ (k:Int):List Nat:=if k<0 then vF dg0 k.natAbs 1 else dg0
def Pr {l:Lf} (hk:oQ l.K):ErJ l env 0 (erP l.K) (erQ l.K) 0:=by
 have hm:=Cd hk
 have hp:=Hm (w:=dg0) (a:=l.K.natAbs) (b:=1) rfl OJ
 have hv:=QZ (w:=dg0) (a:=l.K.natAbs) (b:=1) rfl OJ (by rw [Md];omega)
 rw [Md,cd,kl] at hv
 unfold erP erQ
 by_cases c:l.K<0
 ·rw [ab c,ab c]
  exact EK hk rfl OJ hp.1 hp.2 (by rw [hv,Md];omega) (by rw [Md];omega) (by rw [hv];omega)
 ·rw [aa c,aa c]
  exact EK hk hp.1 hp.2 rfl OJ (by rw [hv,Md];omega) (by rw [hv];omega) (by rw [Md];omega)
def Wa {P:List Nat} {l:Lf} {v b:Int} (hv:oQ v) (hb:oQ b) (hk:k<=5864062014805) (h:pk P<=9223372036854775808+k*85070591730234615865843651857942052864):pk P+v.natAbs*b.natAbs<6277101735386680763835789423207666416102355444464034512896:=by
 have:=Ci hv hb
 rw [OC] at this
 omega
variable {m:Nat}
def XN {a b:Nat} (ho:gX [a,b,c,d,e,f]) (hv:pk [a,b,c,d,e,f]=m) (h:¬(c=0/\d=0/\e=0/\f=0)∨9223372036854775808<a+b*4294967296):9223372036854775808<m:=by
 obtain ⟨h1,h2,h3⟩:=HL ho
 by_cases k:c=0/\d=0/\e=0/\f=0
 ·have:=h1 k;rcases h with h|h
  ·exact absurd k h
  ·omega
 ·have:=h2 k;omega
def TI {a b:Nat} (ho:gX [a,b,c,d,e,f]) (hv:pk [a,b,c,d,e,f]=m) (h:¬(c=0/\d=0/\e=0/\f=0)∨9223372036854775807<a+b*4294967296):9223372036854775807<m:=by
 obtain ⟨h1,h2,h3⟩:=HL ho
 by_cases k:c=0/\d=0/\e=0/\f=0
 ·have:=h1 k;rcases h with h|h
  ·exact absurd k h
  ·omega
 ·have:=h2 k;omega
def EL {a b:Nat} (ho:gX [a,b,c,d,e,f]) (hv:pk [a,b,c,d,e,f]=m) (h:c=0/\d=0/\e=0/\f=0):m=a+b*4294967296:=by
 rw [<-hv];exact (HL ho).1 h
def Pq {l:Lf} (h:ErJ l env k p q z) (hk:l.L.length<=k) (hl:dM l=0) (hr:¬oQ ((pk p:Int)-(pk q:Int))):dV l env=(0,3):=by
 rw [Ps h hk hl,aa hr]
def Wb {l:Lf} {n:Int} (h:ErJ l env k p q z) (hk:l.L.length<=k) (hl:dM l=0) (hn:(pk p:Int)-(pk q:Int)=n) (hr:oQ n):dV l env=(n,0):=by
 rw [Ps h hk hl,hn,ab hr]
end Go.Br
end
section
namespace Go.Br
open Go Go.Eng Go.L41
/-! ## Weights while names are replaced -/
def Ki {g:Lf->Lf}:∀l:List Lf,(∀x,x∈l->(g x).L.length<=x.L.length+1)->fY (l.map g)<=fY l+l.length
 |[],_=>aC _
 |x::r,h=>by
  rw [aG,fY,fY,pw]
  have h1:=h x uF
  have h2:=Ki r λy hy=>h y Ac
  omega
def dw_ix {g:Lf->Lf} {x:Ix} (h1:(g x.Lin).L.length<=x.Lin.L.length+1) (h2:∀y,y∈x.At->(g y).L.length<=y.L.length+1):(xc g x).wt<=2*x.wt+1:=by
 have h3:=Ki x.At h2
 unfold Ix.wt xc
 simp only [pc]
 omega
def Pp {g:Ix->Ix}:∀l:List Ix,(∀x,x∈l->(g x).wt<=2*x.wt+1)->dI (l.map g)<=2*dI l+l.length
 |[],_=>aC _
 |x::r,h=>by
  rw [aG,dI,dI,pw]
  have h1:=h x uF
  have h2:=Pp r λy hy=>h y Ac
  omega
def Kh {g:Ex->Ex}:∀l:List Ex,(∀x,x∈l->(g x).wt<=2*x.wt)->dX (l.map g)<=2*dX l
 |[],_=>aC _
 |x::r,h=>by
  rw [aG,dX,dX]
  have h1:=h x uF
  have h2:=Kh r λy hy=>h y Ac
  omega
def dw_ex {g:Lf->Lf}:∀{e:Ex},e.allF (λl=>(g l).L.length<=l.L.length+1)->(qh g e).wt<=2*e.wt:=by
 intro e
 induction e using Ex.ind with
 |_ e ih=>
  intro h
  have h1:=Ex.allF_lin h
  have h2:=Pp (g:=xc g) e.Idx λx hx=>dw_ix (Ex.allF_ix h hx) λy hy=>Ex.allF_at h hx hy
  have h3:=Kh (g:=qh g) e.Args λa ha=>ih a ha (Ex.allF_arg h ha)
  rw [Xj,Ex.wt,Ex.wt_eq e,pc]
  omega
structure VbJ (V:nq->Lf) (rest:List nq) (R:Except Int Ex) (W:Nat) (e:Ex):Prop where
 sb:R=dD V rest e
 wt:e.wt*2^rest.length<=W
 rg:e.allF Lf.rng
variable {R:Except Int Ex} {e:Ex}
def ZF {V:nq->Lf} {rest:List nq} {W:Nat} (h:VbJ V rest R W e):e.wt<=W:=
 aL (Nat.le_mul_of_pos_right _ (Nat.pow_pos uA)) h.wt
variable {s:nq}
def R5 {V:nq->Lf} {r:List nq} {W:Nat} (hV:(V s).L.length<=1) (h:VbJ V (s::r) R W e) (he:gM (pj (λl=>bX l s (V s)) e)=0):VbJ V r R W (lG (pj (λl=>bX l s (V s)) e)):=by
 obtain ⟨e1,h1⟩:=Ql he
 have h2:SN e s (V s)=.ok e1:=h1
 rw [h1]
 obtain ⟨q1,q2⟩:=Ft h1
 have hw:e1.wt<=2*e.wt:=by
  rw [q1]
  refine dw_ex λx hx l hl=>?_
  have:=zf l (V s) s
  dsimp only
  rw [zKh (h.rg x hx l hl)]
  omega
 refine ⟨by rw [h.sb,dD,h2];rfl,?_,?_⟩
 ·show e1.wt*_<=_
  have h3:=h.wt
  rw [pw,jd,gq (2^r.length) 2,<-gg] at h3
  exact aL (dd _ zB) h3
 ·show e1.allF _
  rw [q1]
  refine Y5 λx hx l hl=>?_
  dsimp only
  rw [zKh (h.rg x hx l hl)]
  exact zSf s (h.rg x hx l hl)
def Vr {V:nq->Lf} {r:List nq} {W:Nat} (h:VbJ V (s::r) R W e) (he:¬gM (pj (λl=>bX l s (V s)) e)=0):R=.error (gM (pj (λl=>bX l s (V s)) e)):=by
 rw [h.sb,dD]
 show (match pj (λl=>bX l s (V s)) e with|.error x=>Except.error x|.ok e'=>dD V r e')=_
 cases h1:pj (λl=>bX l s (V s)) e with
 |error x=>rfl
 |ok e'=>rw [h1] at he;exact absurd rfl he
def Vq {V:nq->Lf} {W:Nat} (h:VbJ V [] R W e):R=.ok e:=h.sb
def sbR {u:Lf} (h:e.allF Lf.rng):pj (λl=>bS l s u) e=pj (λl=>bX l s u) e:=(MW (P:=Lf.rng) (λl hl=>(zKh hl).symm) e h)
def vC (A:List nq) (n i:Nat):List nq:=(A.drop i).filter (λs=>decide (s.size=n+1))++pZ A n
variable {i:Nat} {A:List nq} {n:Nat}
def Rh (h:A[i]? =some s) (c:¬s.size=n+1):vC A n i=vC A n (i+1):=by
 unfold vC;rw [qN h,ei xJ0]
def U2 (h:A[i]? =some s) (c:s.size=n+1):vC A n i=s::vC A n (i+1):=by
 unfold vC;rw [qN h,ff xJ0];rfl
def U0 (h:A.length<=i):vC A n i=pZ A n:=by
 unfold vC;rw [bn h];rfl
def TQ (A:List nq) (n:Nat):(A.filter λs=>decide (s.size=n+1)).length+(A.filter λs=>decide (s.size<=n)).length<=(A.filter λs=>decide (s.size<=n+1)).length:=by
 induction A with
 |nil=>exact aC _
 |cons a r ih=>
  by_cases c1:a.size=n+1
  ·rw [ff (by simpa using c1),ei uD,ff uD]
   simp only [pw];omega
  ·by_cases c2:a.size<=n
   ·rw [ei (by simpa using c1),ff (by simpa using c2),ff uD]
    simp only [pw];omega
   ·rw [ei (by simpa using c1),ei (by simpa using c2),ei uD]
    exact ih
def FO (A:List nq):∀n,(pZ A n).length<=(A.filter λs=>decide (s.size<=n)).length
 |0=>cb _
 |n+1=>by
  have h1:=FO A n
  have h2:=TQ A n
  rw [pZ,qp]
  omega
variable {b:Ex}
def N6 {V:nq->Lf} (hb:b.allF Lf.rng) (hw:b.wt<=1500) (hA:A.length<=12):VbJ V (pZ A 16) (dD V (pZ A 16) b) 6144000 b:=by
 refine ⟨rfl,?_,hb⟩
 have h1:=aL (FO A 16) (dw _ _)
 have h2:2^(pZ A 16).length<=2^12:=jl uA zB
 exact aL (gp hw h2) uA
/-! ## The body -/
def vR (d:Df) (s:nq):Lf:=dK (pi d.Name s)
def pA (p:Pg) (env:List Bd) (d:Df):Except Int Ex:=
 match dD (λs=>⟨gI env s,[]⟩) p.Sizes d.Body with
 |.error x=>.error x
 |.ok b=>dD (vR d) (pZ (bD d) 16) b
variable {env:List Bd} {d:Df} {p:Pg} {x:Int}
def Ct (h:dD (λs=>⟨gI env s,[]⟩) p.Sizes d.Body=.error x):pA p env d=.error x:=by unfold pA;rw [h]
def JM (h:dD (λs=>⟨gI env s,[]⟩) p.Sizes d.Body=.ok b):pA p env d=dD (vR d) (pZ (bD d) 16) b:=by unfold pA;rw [h]
def zXp {u v:nq->Lf}:∀{S:List nq} {e:Ex},(∀s,s∈S->u s=v s)->dD u S e=dD v S e
 |[],_,_=>rfl
 |s::r,e,h=>by
  rw [dD,dD,h s uF]
  cases SN e s (v s) with
  |error x=>rfl
  |ok e'=>exact zXp λt ht=>h t Oy
def Ei (hv:(bK p).2=0) (hd:d∈p.Defs) (hR:d.Body.allF Lf.rng) (hn:∀s,s∈bD d->bB (Bu d.Name s)=true) (h:dD (λs=>⟨gI env s,[]⟩) p.Sizes d.Body=.ok b):pA p env d=.ok (qh (gP ((bD d).map (pi d.Name)) (bD d)) b):=by
 rw [JM h,Wm hn,<-Ud hv hd hR hn h]
 refine zXp λs hs=>?_
 show dK (pi d.Name s)=_
 rw [show pi d.Name s=Bu d.Name s from Fo (hn s (zQp.1 hs).1)]
def OU (h:pA p env d=.error x):x≠0:=by
 unfold pA at h
 split at h
 ·rename_i y hy;injection h with h;rw [<-h];exact Gp hy
 ·exact Gp h
def UF {r:Except Int Ex} (h:gM r=0) (hn:∀x,r=.error x->x≠0):∃e,r=.ok e:=by
 cases r with
 |error x=>exact absurd h (hn x rfl)
 |ok e=>exact ⟨e,rfl⟩
def Ut (hv:(bK p).2=0) (hd:d∈p.Defs):(bD d).length<=12:=by
 have:=zLw hv d hd
 rw [ye];omega
/-! ## Sizes -/
def Q8 (env:List Bd) (s:nq):((!(lU env s).isSome||decide ((lU env s).getD 0<1))||decide (4096<(lU env s).getD 0))= !nB env s:=by
 unfold nB gI
 cases lU env s with
 |none=>rfl
 |some v=>
  simp only [Option.isSome_some,dl,aU,dq,aM]
  by_cases a:v<1<;>by_cases b:4096<v<;>simp [a,b]<;>omega
def tO (l:List Int):Int:=l.foldl (λn d=>min (n*d) 65537) 1
def KU:∀(l:List Int) (n:Int),1<=n->(∀d,d∈l->1<=d/\d<=4096)->(4096<l.foldl (λn d=>min (n*d) 65537) n↔(4096<n∨bM n l=none))
 |[],n,h,_=>by simp [bM]
 |d::r,n,h,hd=>by
  have h1:=hd d uF
  have h2:=gv h h1.1 zB zB
  have h4:1<=min (n*d) 65537:=by omega
  rw [cp,KU r (min (n*d) 65537) h4 λx hx=>hd x G7,bM]
  by_cases c:4096<n*d
  ·rw [ab c]
   exact ⟨λ_=>.inr rfl,λ_=>.inl zB⟩
  ·rw [aa c,show min (n*d) 65537=n*d by omega]
   have h3:n<=n*d:=by
    have:=Int.mul_le_mul_of_nonneg_left h1.1 (show 0<=n by omega)
    omega
   constructor
   ·rintro (k|k)
    ·exact absurd k c
    ·exact .inr k
   ·rintro (k|k)
    ·omega
    ·exact .inr k
def KV {l:List Int} (h:∀d,d∈l->1<=d/\d<=4096):4096<tO l↔(bM 1 l).isSome=false:=by
 unfold tO
 rw [KU l 1 uA h]
 cases bM 1 l with
 |none=>simp
 |some v=>simp
def UV (c:(p.en.find s).ok=true) (h:fO env (p.en.find s).dims=0->tO (fB env (p.en.find s).dims)<=4096):mT p env s=(xH env (p.en.find s).dims,fO env (p.en.find s).dims):=by
 by_cases c2:fO env (p.en.find s).dims=0
 ·have h2:=h c2
  rw [zUp c2,c2]
  refine Pl c c2 ?_
  cases k:(bM 1 (fB env (p.en.find s).dims)).isSome with
  |true=>rfl
  |false=>have:=(KV (zZt c2)).2 k;omega
 ·rw [zZs c2];exact V8 c c2
/-! ## Neutral numbers -/
def PG {t:Ty} (c:dO t=true) (h:t.Kind=2):IntKind.u64.wrap t.Frac=t.Frac:=by
 have h1:=c
 rw [ZV h] at h1
 unfold gQ at h1
 simp only [ae,aj] at h1
 have h2:0<=t.Frac:=h1.1.1.1.1.2
 have h3:t.Frac<=30:=h1.1.1.1.2
 exact zKc ⟨zB,zB⟩
def UE {t:Ty} (c:dO t=false):fW t=(⟨0,0⟩,10):=by unfold fW;rw [aa xJ4]
def QM {t:Ty} (c:dO t=true) (k:jR t (vG t)=false):fW t=(⟨0,0⟩,3):=by unfold fW;rw [ab c,aa (by rw [k];simp)]
def La {t:Ty} (c:dO t=true) (k:jR t (vG t)=true):fW t=(vG t,0):=by unfold fW;rw [ab c,ab k]
def YW {t:Ty} (h:t.Kind=2):vG t=⟨2^t.Frac.toNat,1⟩:=ab h
def YX {t:Ty} (h:¬t.Kind=2):vG t=⟨1,1⟩:=aa h
def DX {t:Ty} (c:dO t=true):bZ t=0:=by unfold bZ;rw [c];rfl
variable {f:Int}
def idR_2 {t:Ty} (c:dO t=true) (h:f=1∨f=5):sg f t=(rZ t,true):=id_2 (DX c) h
def idR_3 {t:Ty} (h:¬(dO t=true/\(f=1∨f=5))) (h2:f=2):sg f t=((fW t).1,decide ((fW t).2=0)):=by
 unfold sg;rw [aa h,ab h2]
def idR_4 {t:Ty} (h:¬(dO t=true/\(f=1∨f=5))) (h2:¬f=2):sg f t=(⟨0,0⟩,false):=by
 unfold sg;rw [aa h,aa h2]
/-! ## Statements -/
def qc (d:Df):List Ix:=d.Dims.map λx=>⟨dK (pi d.Name x.Name),bs [],[]⟩
variable {k:Nat}
def K0 {d:nq} {l:List Ax} {ext:List Int} {x:Ax} {n:Int} (h:l[k]? =some x) (h2:ext[k]? =some n):(gU d l ext)[k]? =some ⟨pi d x.Name,n⟩:=by
 have hz:(l.zip ext)[k]? =some (x,n):=by rw [gb];exact ⟨h,h2⟩
 unfold gU
 rw [cg,hz];rfl
def FD {d:nq} {l:List Ax} {ext:List Int} (h:ext.length=l.length):(gU d l ext).length=l.length:=by
 unfold gU;rw [pc,ii];omega
def Ky (d:nq):∀{l:List Ax} {ext:List Int},ext.length=l.length->qf (gU d l ext)=l.map λx=>⟨dK (pi d x.Name),bs [],[]⟩
 |[],[],_=>rfl
 |x::r,n::t,h=>by
  have ih:=Ky d (l:=r) (ext:=t) tk
  unfold qf gU at ih⊢
  rw [ju,aG,aG,ih];rfl
def Xq (t:nq):(gS (dK t) ⟨-1,[]⟩).1=⟨-1,(dK t).L⟩:=by
 have h2:bI ⟨-1,[]⟩=true:=rfl
 have h1:bI (dK t)=true:=by
  unfold dK
  cases h:bB t with
  |false=>rfl
  |true=>
   show bN none [⟨t,1⟩]=true
   rw [bN,bN,h];rfl
 obtain ⟨m1,m2⟩:=zKp (l:=(dK t).L) λm hm=>by
  unfold dK at hm
  cases h:bB t with
  |false=>rw [h] at hm;cases hm
  |true=>rw [h] at hm;rw [aR.1 hm];exact ⟨show-9223372036854775808<=(1:Int)/\(1:Int)<=9223372036854775807 by decide,show (1:Int)≠0 by decide⟩
 have hk:(dK t).K=0:=by unfold dK;cases bB t<;>rfl
 unfold gS
 rw [ab ⟨h1,h2⟩,hk]
 unfold mV
 rw [ab ⟨show-9223372036854775808<=(0+ -1:Int)/\(0+ -1:Int)<=9223372036854775807 by decide,m1⟩,m2];rfl
variable {red:List Bd} {body:Ex}
def inn_i {at_:List Ix} (h:¬d.Fold=0) (h5:¬d.Fold=5) (c:(sg d.Fold d.T).2=true):pI d at_ red body=.ok (lR d at_ (.mk 1 (bs []) (sg d.Fold d.T).1 d.T ⟨0,[]⟩ [] [])::fH red [gE d at_ d.Fold body]):=(E8 h h5).trans (Q5 c)
def T7 {L:List Ix} {y:Ix} (h:L[L.length-1]? =some y):L.getD (L.length-1) ⟨⟨0,[]⟩,bs [],[]⟩=y:=by
 rw [dc,h];rfl
def ML {α:Type} {f:α->List C} {l:List α} {y:α} (h:l[l.length-1]? =some y):(l.map f)[(((l.map f).length:Int)-1).toNat]? =some (f y):=by rw [pc];exact zVy h
def NP {s:Lf} {x:Bd} {m:nq} (h:SmJ red k s) (hx:red[k]? =some x) (hn:x.Name=m):SmJ red (k+1) (gS s (dK m)).1:=by
 subst hn;exact Gz h hx
def U5 {x:Ax} (h:d.Dims[d.Dims.length-1]? =some x):cJ d (qc d) body=
  [lR d (qc d) body,ul (nL (dK (pi d.Name x.Name))) [gE d (qc d) 1 (.mk 3 d.Name ⟨0,0⟩ px ⟨0,[]⟩ ((qc d).take ((qc d).length-1)++[⟨⟨-1,(dK (pi d.Name x.Name)).L⟩,bs [],[]⟩]) [])]]:=by
 have hl:(qc d).length=d.Dims.length:=by unfold qc;rw [pc]
 have h2:(qc d)[(qc d).length-1]? =some ⟨dK (pi d.Name x.Name),bs [],[]⟩:=by
  rw [hl];exact Xf h
 have hpos:=(af.1 h).1
 unfold cJ
 rw [T7 h2]
 dsimp only
 rw [Xq,show (qc d).set ((qc d).length-1) ⟨⟨-1,(dK (pi d.Name x.Name)).L⟩,bs [],[]⟩=(qc d).take ((qc d).length-1)++[⟨⟨-1,(dK (pi d.Name x.Name)).L⟩,bs [],[]⟩] by
  rw [ez,ab zB,bn zB]]
def oE (d:Df) (at_:List Ix) (R:List (List C)):List C:=[cI 3,cS d.Name,cI 0,cI 0,cI 1,.sl 4 (at_.map Ix.cells),cI 3,cS d.Name,cI 0,cI 0,cI 0,cI 0,cI 0,cI 0,cI 0,cI 0,.sl 2 [],.sl 4 R,.sl 13 [],.sl 20 []]
def oD (p:Ex) (f:List C):List C:=[cI 4,cS (bs []),cI 0,cI 0,cI 0,.sl 4 [],cI p.Op,cS p.Name,cI p.Val.N,cI p.Val.D,cI p.Ty.Kind,cI p.Ty.Bits,cI p.Ty.Frac,cI p.Ty.Round,cI p.Ty.Over,cI p.Lin.K,.sl 2 (p.Lin.L.map Mono.cells),.sl 4 (p.Idx.map Ix.cells),.sl 13 (p.Args.map Ex.cells),.sl 20 [f]]
def NF {s:St} {p:Ex} {at_ L:List Ix} {R:List (List C)} (hR:R=L.map Ix.cells):V.c (.sl 20 [s.cs,oD p (oE d at_ R)])=fL [s,ul p [gE d at_ 1 (.mk 3 d.Name ⟨0,0⟩ px ⟨0,[]⟩ L [])]]:=by
 rw [hR];exact zKk s (gE d at_ 1 (.mk 3 d.Name ⟨0,0⟩ px ⟨0,[]⟩ L [])) p
/-! ## Def -/
def Qb (h:jQ p env d.Name=0) (h2:fO env (d.Red.map Ax.Size)=0) (hs:s∈bD d) (h3:pi d.Name s=bs []):gL p env d=.error 7:=by
 by_cases c1:lI d.Name d.Dims=0
 ·by_cases c2:lI d.Name d.Red=0
  ·have:=xe c1 c2 s hs
   rw [show pi d.Name s=Bu d.Name s from Fo this] at h3
   have h4:=Fm d.Name s
   rw [h3] at h4
   exact absurd h4 (Nat.not_lt_zero _)
  ·exact Ic h h2 c1 c2
 ·exact Ib h h2 c1
def Ux (h:(bD d).any (λs=>decide (pi d.Name s=bs []))=false):lI d.Name d.Dims=0/\lI d.Name d.Red=0:=by
 rw [zTb,List.any_map,fj,ax] at h
 exact ⟨uX h.1,uX h.2⟩
def Fq (hv:(bK p).2=0) (hd:p.Defs[i]? =some d) (h:dD (λs=>⟨gI env s,[]⟩) p.Sizes d.Body=.ok b):
  pG p env d=match pI d (qc d) (tQ env d) (qh (gP ((bD d).map (pi d.Name)) (bD d)) b) with
  |.error x=>.error x
  |.ok l=>.ok (fH (lJ p env d) l):=by
 rw [Ia h]
 unfold SO
 rw [show qf (lJ p env d)=qc d from Ky d.Name (by unfold fB;rw [zNq hv hd,pc,pc])]
 all_goals (cases pI d (qc d) (tQ env d) (qh (gP ((bD d).map (pi d.Name)) (bD d)) b)<;>rfl)
/-! ## Equality -/
noncomputable instance:DecidableEq St:=λ_ _=>Classical.propDecidable _
noncomputable instance:DecidableEq Ns:=λ_ _=>Classical.propDecidable _
def St.eq_iff {a b:St}:a=b↔a.Op=b.Op/\a.Name=b.Name/\a.Many=b.Many/\a.Mark=b.Mark/\a.Fold=b.Fold/\a.Idx=b.Idx/\a.E=b.E/\a.Body=b.Body:=by
 constructor
 ·rintro rfl;exact ⟨rfl,rfl,rfl,rfl,rfl,rfl,rfl,rfl⟩
 ·rintro ⟨h1,h2,h3,h4,h5,h6,h7,h8⟩
  rw [St.eta a,St.eta b,h1,h2,h3,h4,h5,h6,h7,h8]
def st_eq (a b:St):(((((((decide (a.Op=b.Op)&&decide (a.Name=b.Name))&&decide (a.Many=b.Many))&&decide (a.Mark=b.Mark))&&decide (a.Fold=b.Fold))&&decide (a.Idx=b.Idx))&&decide (a.E=b.E))&&decide (a.Body=b.Body))=decide (a=b):=by
 rw [cv]
 simp only [ae,aj,St.eq_iff]
 constructor
 ·rintro ⟨⟨⟨⟨⟨⟨⟨h1,h2⟩,h3⟩,h4⟩,h5⟩,h6⟩,h7⟩,h8⟩;exact ⟨h1,h2,h3,h4,h5,h6,h7,h8⟩
 ·rintro ⟨h1,h2,h3,h4,h5,h6,h7,h8⟩;exact ⟨⟨⟨⟨⟨⟨⟨h1,h2⟩,h3⟩,h4⟩,h5⟩,h6⟩,h7⟩,h8⟩
def V2 (x y:Bf):(((!decide (x.Name=y.Name)|| !dG [cI x.T.Kind,cI x.T.Bits,cI x.T.Frac,cI x.T.Round,cI x.T.Over] [cI y.T.Kind,cI y.T.Bits,cI y.T.Frac,cI y.T.Round,cI y.T.Over])|| !decide (x.Use=y.Use))|| !decide (x.Dims=y.Dims))= !decide (x=y):=by
 rw [Bt,<-Bool.not_and,<-Bool.not_and,<-Bool.not_and]
 congr 1
 rw [cv]
 simp only [ae,aj]
 cases x;cases y;simp only [Bf.mk.injEq]
 constructor
 ·rintro ⟨⟨⟨h1,h2⟩,h3⟩,h4⟩;exact ⟨h1,h2,h4,h3⟩
 ·rintro ⟨h1,h2,h3,h4⟩;exact ⟨⟨⟨h1,h2⟩,h4⟩,h3⟩
def Ns.eq_iff {a b:Ns}:a=b↔a.Bufs=b.Bufs/\a.Body=b.Body:=by
 constructor
 ·rintro rfl;exact ⟨rfl,rfl⟩
 ·rintro ⟨h1,h2⟩;cases a;cases b;simp_all
/-! ## A definition -/
def TJ {r:Except Int Ex} (h:¬gM r=0):∃x,r=.error x:=by
 cases r with
 |error x=>exact ⟨x,rfl⟩
 |ok e=>exact absurd rfl h
def HB (hv:(bK p).2=0) (hd:d∈p.Defs) (hR:d.Body.allF Lf.rng) (hn:∀s,s∈bD d->bB (Bu d.Name s)=true) (h:pA p env d=.error x):pG p env d=.error x:=by
 cases hs:dD (λs=>⟨gI env s,[]⟩) p.Sizes d.Body with
 |error y=>rw [Ct hs] at h;injection h with h;rw [H9 hs,h]
 |ok b=>rw [Ei hv hd hR hn hs] at h;cases h
def Tm (hv:(bK p).2=0) (hd:d∈p.Defs) (hR:d.Body.allF Lf.rng) (hn:∀s,s∈bD d->bB (Bu d.Name s)=true) (h:pA p env d=.ok e):
  ∃b,dD (λs=>⟨gI env s,[]⟩) p.Sizes d.Body=.ok b/\e=qh (gP ((bD d).map (pi d.Name)) (bD d)) b:=by
 cases hs:dD (λs=>⟨gI env s,[]⟩) p.Sizes d.Body with
 |error y=>rw [Ct hs] at h;cases h
 |ok b=>rw [Ei hv hd hR hn hs] at h;injection h with h;exact ⟨b,rfl,h.symm⟩
def Ym {at_:List Ix} (h:pI d at_ red body=.error x):x≠0:=by
 by_cases c:d.Fold=0
 ·rw [PU c] at h;cases h
 ·by_cases c5:d.Fold=5
  ·rw [PV c5] at h;cases h
  ·rw [E8 c c5] at h;exact II h
def Ub (hv:(bK p).2=0) (hd:p.Defs[i]? =some d) (h:dD (λs=>⟨gI env s,[]⟩) p.Sizes d.Body=.ok b) (hx:pI d (qc d) (gU d.Name d.Red (fB env (d.Red.map Ax.Size))) (qh (gP ((bD d).map (pi d.Name)) (bD d)) b)=.error x):pG p env d=.error x:=by
 rw [Fq hv hd h]
 rw [show tQ env d=gU d.Name d.Red (fB env (d.Red.map Ax.Size)) from rfl,hx]
def Uc {l:List St} (hv:(bK p).2=0) (hd:p.Defs[i]? =some d) (h:dD (λs=>⟨gI env s,[]⟩) p.Sizes d.Body=.ok b) (hx:pI d (qc d) (gU d.Name d.Red (fB env (d.Red.map Ax.Size))) (qh (gP ((bD d).map (pi d.Name)) (bD d)) b)=.ok l):pG p env d=.ok (fH (gU d.Name d.Dims (fB env (p.en.find d.Name).dims)) l):=by
 rw [Fq hv hd h]
 rw [show tQ env d=gU d.Name d.Red (fB env (d.Red.map Ax.Size)) from rfl,hx];rfl
def Ua (hw:d.Body.wt<=1500) (hR:d.Body.allF Lf.rng) (h:dD (λs=>⟨gI env s,[]⟩) p.Sizes d.Body=.ok b):
  (qh (gP ((bD d).map (pi d.Name)) (bD d)) b).wt<=1000000/\(qh (gP ((bD d).map (pi d.Name)) (bD d)) b).allF Lf.rng:=by
 obtain ⟨h1,h2⟩:=Gq (λ_=>rfl) _ _ _ hR h
 have h3:=Ih (A:=(bD d).map (pi d.Name)) (B:=bD d) b
 exact ⟨zB,Y5 (VQ h2 λl hl=>yZ hl)⟩
def Us (h:s∈bD d):∃x,x∈d.Dims++d.Red/\x.Name=s:=by
 rw [zTb] at h
 obtain ⟨x,hx,rfl⟩:=aY.1 h
 exact ⟨x,hx,rfl⟩
/-! ## A program -/
def Qf (hS:p.Sm) (hR:∀d,d∈p.Defs->d.Body.allF Lf.rng):(jM p env).1.Ok:=by
 by_cases h:(jM p env).2=0
 ·exact (Qe hS hR h).1
 ·rw [(MT (p:=p) (env:=env)).2 h]
  exact ⟨cb _,λb hb=>(by cases hb),cb _⟩
def T9 {x:Pm} (h:(bK p).2=0) (h2:mF p env=0) (hx:x∈p.Params) (c:bQ p.Outs x.Name=true):jM p env=(⟨[],[]⟩,1):=by
 obtain ⟨k,hk⟩:=bh (LY.1 c)
 exact Qc h h2 hk (cn.2 ⟨x,hx,al rfl⟩)
def Ng (h:p.Params.any (λx=>bQ p.Outs x.Name)=false):p.Outs.any (λs=>p.Params.any λx=>decide (x.Name=s))=false:=by
 cases k:p.Outs.any (λs=>p.Params.any λx=>decide (x.Name=s)) with
 |false=>rfl
 |true=>
  obtain ⟨s,hs,k2⟩:=cn.1 k
  obtain ⟨x,hx,k3⟩:=cn.1 k2
  have k3:x.Name=s:=ca k3
  rw [cn.2 ⟨x,hx,LY.2 (k3 ▸ hs)⟩] at h
  cases h
def jD (a b:Int):Int×Bool:=if oQ (a+b) then (a+b,true) else (0,false)
def zSu (a b:Int):(jD a b).2=decide (oQ (a+b)):=by unfold jD;by_cases h:oQ (a+b)<;>simp [h]
def Lg {a b:Int} (h:(jD a b).2=true):(jD a b).1=a+b:=by rw [zSu] at h;unfold jD;rw [ab tk]
/-! ## Ascending names -/
def tY (l:List nq):Prop:=l.Pairwise λx y=>bF x y=true
def zSi {a b:nq} (h:bF a b=true):bF b a=false:=by
 cases k:bF b a with
 |false=>rfl
 |true=>have:=Oh h k;rw [OA] at this;cases this
def zVp {a b:nq} (h:bF a b=true):a≠b:=by rintro rfl;rw [OA] at h;cases h
variable {l:List nq} {t:nq}
def Fb:t∈nQ l s↔t∈l∨t=s:=by
 rw [<-LY,xj,aD,LY,aj]
 constructor<;>(rintro (h|h);exact .inl h;exact .inr h.symm)
def xi:∀{l:List nq} (s:nq),tY l->tY (nQ l s)
 |[],s,_=>by rw [nQ];exact List.pairwise_singleton _ _
 |x::r,s,h=>by
  have h':=ee.1 h
  rw [nQ]
  split
  ·next c=>
   refine ee.2 ⟨λy hy=>?_,xi s h'.2⟩
   rcases Fb.1 hy with hy|rfl
   ·exact h'.1 y hy
   ·exact c
  ·next c=>
   split
   ·exact h
   ·next d=>
    have hsx:bF s x=true:=by
     cases k:bF s x with
     |true=>rfl
     |false=>exact absurd (Oi xJ0 k) d
    refine ee.2 ⟨λy hy=>?_,h⟩
    rcases ag.1 hy with rfl|hy
    ·exact hsx
    ·exact Oh hsx (h'.1 y hy)
def Bj:∀(m:List nq) {l:List nq},tY l->tY (jC l m)
 |[],_,h=>h
 |s::r,l,h=>Bj r (xi s h)
def xk (m:List nq):tY (jC [] m):=Bj m List.Pairwise.nil
def vi:∀{a b:List nq},tY a->tY b->(∀s,s∈a↔s∈b)->a=b
 |[],[],_,_,_=>rfl
 |[],y::s,_,_,h=>by have:=(h y).2 (bp ..);cases this
 |x::r,[],_,_,h=>by have:=(h x).1 (bp ..);cases this
 |x::r,y::s,ha,hb,h=>by
  have ha':=ee.1 ha
  have hb':=ee.1 hb
  have e:x=y:=by
   rcases ag.1 ((h x).1 (bp ..)) with e|h1
   ·exact e
   ·rcases ag.1 ((h y).2 (bp ..)) with e|h2
    ·exact e.symm
    ·have k1:=hb'.1 x h1
     have k2:=zSi (ha'.1 y h2)
     rw [k1] at k2;cases k2
  subst e
  rw [vi ha'.2 hb'.2 λt=>?_]
  constructor
  ·intro ht
   rcases ag.1 ((h t).1 (aH _ ht)) with e|h1
   ·exact absurd e.symm (zVp (ha'.1 t ht))
   ·exact h1
  ·intro ht
   rcases ag.1 ((h t).2 (aH _ ht)) with e|h1
   ·exact absurd e.symm (zVp (hb'.1 t ht))
   ·exact h1
def Yo (ha:tY l) (hi:i<=l.length) (hb:∀y,y∈l.drop i->bF s y=true) (hno:bQ l s=false) (c:∀y,0<i->l[i-1]? =some y->bF s y=false):nQ l s=l.take i++s::l.drop i:=by
 have hne:∀y,y∈l->¬y=s:=by
  rintro y hy rfl
  have:=LY.2 hy
  rw [hno] at this;cases this
 have hall:(l.take i).all (below s)=true:=by
  by_cases h0:i=0
  ·subst h0;rfl
  ·have hlt:i-1<l.length:=by omega
   have hg:l[i-1]? =some l[i-1]:=ak hlt
   have h1:=c _ zB hg
   have h2:bF l[i-1] s=true:=by
    cases k:bF l[i-1] s with
    |true=>rfl
    |false=>exact absurd (Oi k h1) (hne _ (jb hlt))
   refine aT.2 λy hy=>?_
   show bF y s=true
   obtain ⟨j,hj,rfl⟩:=List.getElem_of_mem hy
   rw [ap] at hj
   rw [mu]
   by_cases hji:j=i-1
   ·subst hji;exact h2
   ·exact Oh (ix.1 ha j (i-1) zB hlt zB) h2
 by_cases he:i=l.length
 ·subst he
  rw [aE (aC _)] at hall
  rw [E9 hall,aE (aC _),ib]
 ·have hlt:i<l.length:=by omega
  have hg:l[i]? =some l[i]:=ak hlt
  have hm:l[i]∈l.drop i:=by rw [ed hlt];exact bp ..
  exact Fc hall hg (zSi (hb _ hm)) (hne _ (jb hlt))
/-! ## Sums -/
def Es {q:nq} {l:List Mono} (h:∀m,m∈l->bF q m.Name=true):dL l q=0:=by
 induction l with
 |nil=>rfl
 |cons x r ih=>
  rw [dL,aa (λe=>zVp (h x (bp ..)) e.symm)]
  exact ih λm hm=>h m (aH _ hm)
def Z7:∀{q:nq} {l:List Tr},mM (some q) l=true->∀t,t∈l->bF q t.1=true
 |_,[],_,t,h=>by cases h
 |q,x::r,h,t,ht=>by
  simp only [mM,ae,Wo] at h
  rcases ag.1 ht with rfl|ht
  ·exact h.1.2
  ·exact Oh h.1.2 (Z7 h.2 t ht)
def LJ:∀{p:Option nq} {l:List Tr},mM p l=true->tY (l.map (·.1))
 |_,[],_=>List.Pairwise.nil
 |p,x::r,h=>by
  simp only [mM,ae] at h
  refine ee.2 ⟨λy hy=>?_,LJ h.2⟩
  obtain ⟨t,ht,rfl⟩:=aY.1 hy
  exact Z7 h.2 t ht
def Mt (x:Mono) (r:List Mono):dL (x::r) x.Name=x.By:=by rw [dL,ab rfl]
def N0 {x:Mono} {r:List Mono} (h:bF x.Name t=true):dL (x::r) t=dL r t:=by rw [dL,aa (zVp h)]
def KY {p:Option nq} {q:nq} {y:Mono} {s:List Mono} (h:bN p (y::s)=true) (k:bF q y.Name=true):bN (some q) (y::s)=true:=by
 simp only [bN,ae] at h⊢
 exact ⟨⟨h.1.1,k⟩,h.2⟩
def SD {p:Option nq} {y:Mono} {s:List Mono} (h:bN p (y::s)=true):bN (some y.Name) s=true:=by
 simp only [bN,ae] at h
 exact h.2
def zGa:∀(n:Nat) (p:Option nq) (a b:List Mono),a.length+b.length<=n->bN p a=true->bN p b=true->∀t,t∈bE a b->t.2.1=dL a t.1/\t.2.2=dL b t.1
 |_,p,[],[],_,_,_,t,ht=>by rw [zHt] at ht;cases ht
 |0,_,_::_,_,h,_,_,_,_=>by simp at h
 |0,_,[],_::_,h,_,_,_,_=>by simp at h
 |n+1,p,x::r,[],h,ha,hb,t,ht=>by
  have hn:r.length+([]:List Mono).length<=n:=by simp at h⊢;omega
  rw [S2] at ht
  rcases ag.1 ht with rfl|ht
  ·exact ⟨(Mt x r).symm,rfl⟩
  ·have h1:=Z7 (OB n (some x.Name) r [] hn (SD ha) rfl) t ht
   rw [N0 h1]
   exact zGa n (some x.Name) r [] hn (SD ha) rfl t ht
 |n+1,p,[],y::s,h,ha,hb,t,ht=>by
  have hn:([]:List Mono).length+s.length<=n:=by simp at h⊢;omega
  rw [S0] at ht
  rcases ag.1 ht with rfl|ht
  ·exact ⟨rfl,(Mt y s).symm⟩
  ·have h1:=Z7 (OB n (some y.Name) [] s hn rfl (SD hb)) t ht
   rw [N0 h1]
   exact zGa n (some y.Name) [] s hn rfl (SD hb) t ht
 |n+1,p,x::r,y::s,h,ha,hb,t,ht=>by
  have h':r.length+1+(s.length+1)<=n+1:=by simpa using h
  rw [LX] at ht
  cases c:bF x.Name y.Name with
  |true=>
   rw [c,aB] at ht
   have hw:=KY hb c
   have hn:r.length+(y::s).length<=n:=by simp;omega
   rcases ag.1 ht with rfl|ht
   ·exact ⟨(Mt x r).symm,(Es (zIf hw)).symm⟩
   ·have h1:=Z7 (OB n (some x.Name) r (y::s) hn (SD ha) hw) t ht
    rw [N0 h1]
    exact zGa n (some x.Name) r (y::s) hn (SD ha) hw t ht
  |false=>
   rw [c,aw] at ht
   cases d:bF y.Name x.Name with
   |true=>
    rw [d,aB] at ht
    have hw:=KY ha d
    have hn:(x::r).length+s.length<=n:=by simp;omega
    rcases ag.1 ht with rfl|ht
    ·exact ⟨(Es (zIf hw)).symm,(Mt y s).symm⟩
    ·have h1:=Z7 (OB n (some y.Name) (x::r) s hn hw (SD hb)) t ht
     rw [N0 (x:=y) h1]
     exact zGa n (some y.Name) (x::r) s hn hw (SD hb) t ht
   |false=>
    rw [d,aw] at ht
    have e:=Oi c d
    have hn:r.length+s.length<=n:=by omega
    rcases ag.1 ht with rfl|ht
    ·exact ⟨(Mt x r).symm,by show y.By=dL (y::s) x.Name;rw [e];exact (Mt y s).symm⟩
    ·have hs:bN (some x.Name) s=true:=by rw [e];exact SD hb
     have h1:=Z7 (OB n (some x.Name) r s hn (SD ha) hs) t ht
     rw [N0 h1,N0 (x:=y) (by rw [<-e];exact h1)]
     exact zGa n (some x.Name) r s hn (SD ha) hs t ht
def Z8:∀(n:Nat) (a b:List Mono),a.length+b.length<=n->∀m,m∈a∨m∈b->∃t,t∈bE a b/\t.1=m.Name
 |_,[],[],_,m,hm=>by rcases hm with hm|hm<;>cases hm
 |0,_::_,_,h,_,_=>by simp at h
 |0,[],_::_,h,_,_=>by simp at h
 |n+1,x::r,[],h,m,hm=>by
  rw [S2]
  rcases hm with hm|hm
  ·rcases ag.1 hm with rfl|hm
   ·exact ⟨_,bp ..,rfl⟩
   ·obtain ⟨t,h1,h2⟩:=Z8 n r [] Cb m (.inl hm)
    exact ⟨t,aH _ h1,h2⟩
  ·cases hm
 |n+1,[],y::s,h,m,hm=>by
  rw [S0]
  rcases hm with hm|hm
  ·cases hm
  ·rcases ag.1 hm with rfl|hm
   ·exact ⟨_,bp ..,rfl⟩
   ·obtain ⟨t,h1,h2⟩:=Z8 n [] s Cb m (.inr hm)
    exact ⟨t,aH _ h1,h2⟩
 |n+1,x::r,y::s,h,m,hm=>by
  have h':r.length+1+(s.length+1)<=n+1:=by simpa using h
  rw [LX]
  cases c:bF x.Name y.Name with
  |true=>
   rw [aB]
   have go:(m∈r∨m∈y::s)->∃t,t∈(x.Name,x.By,(0:Int))::bE r (y::s)/\t.1=m.Name:=λhq=>by
    obtain ⟨t,h1,h2⟩:=Z8 n r (y::s) uD m hq
    exact ⟨t,aH _ h1,h2⟩
   rcases hm with hm|hm
   ·rcases ag.1 hm with rfl|hm
    ·exact ⟨_,bp ..,rfl⟩
    ·exact go (.inl hm)
   ·exact go (.inr hm)
  |false=>
   rw [aw]
   cases d:bF y.Name x.Name with
   |true=>
    rw [aB]
    have go:(m∈x::r∨m∈s)->∃t,t∈(y.Name,(0:Int),y.By)::bE (x::r) s/\t.1=m.Name:=λhq=>by
     obtain ⟨t,h1,h2⟩:=Z8 n (x::r) s uD m hq
     exact ⟨t,aH _ h1,h2⟩
    rcases hm with hm|hm
    ·exact go (.inl hm)
    ·rcases ag.1 hm with rfl|hm
     ·exact ⟨_,bp ..,rfl⟩
     ·exact go (.inr hm)
   |false=>
    rw [aw]
    have e:=Oi c d
    have go:(m∈r∨m∈s)->∃t,t∈(x.Name,x.By,y.By)::bE r s/\t.1=m.Name:=λhq=>by
     obtain ⟨t,h1,h2⟩:=Z8 n r s zB m hq
     exact ⟨t,aH _ h1,h2⟩
    rcases hm with hm|hm
    ·rcases ag.1 hm with rfl|hm
     ·exact ⟨_,bp ..,rfl⟩
     ·exact go (.inl hm)
    ·rcases ag.1 hm with rfl|hm
     ·exact ⟨_,bp ..,e⟩
     ·exact go (.inr hm)
def ue (a b:List Mono):List nq:=jC [] (a.map Mono.Name++b.map Mono.Name)
def MB {m:List nq}:t∈jC l m↔t∈l∨t∈m:=by
 rw [<-LY,Bk,aD,LY,LY]
def Qy {a b:List Mono} (ha:bN none a=true) (hb:bN none b=true):(bE a b).map (·.1)=ue a b:=by
 refine vi (LJ (OB _ none a b (aC _) ha hb)) (xk _) λs=>?_
 unfold ue
 rw [MB,aq,aY]
 constructor
 ·rintro ⟨t,ht,rfl⟩
  rcases zFz _ a b (aC _) t ht with ⟨m,hm,e⟩|⟨m,hm,e⟩
  ·exact .inr (.inl (aY.2 ⟨m,hm,e⟩))
  ·exact .inr (.inr (aY.2 ⟨m,hm,e⟩))
 ·rintro (h|h|h)
  ·cases h
  ·obtain ⟨m,hm,rfl⟩:=aY.1 h
   exact Z8 _ a b (aC _) m (.inl hm)
  ·obtain ⟨m,hm,rfl⟩:=aY.1 h
   exact Z8 _ a b (aC _) m (.inr hm)
def tV (a b:List Mono) (n:nq):Int:=dL a n+dL b n
def sT (a b:List Mono) (N:List nq):List Mono:=N.filterMap λn=>if tV a b n=0 then none else some ⟨n,tV a b n⟩
def SM (a b:List Mono) (N:List nq):Bool:=N.all λn=>decide (oQ (tV a b n))
def QL {a b:List Mono}:∀{M:List Tr},(∀t,t∈M->t.2.1=dL a t.1/\t.2.2=dL b t.1)->SM a b (M.map (·.1))=M.all sR
 |[],_=>rfl
 |t::r,h=>by
  have h1:=h t (bp ..)
  have ih:=QL (M:=r) λu hu=>h u (aH _ hu)
  unfold SM at ih⊢
  rw [aG,bm,bm,ih]
  unfold sR ti tV
  rw [h1.1,h1.2]
def LE {a b:List Mono}:∀{M:List Tr},(∀t,t∈M->t.2.1=dL a t.1/\t.2.2=dL b t.1)->M.all sR=true->sT a b (M.map (·.1))=lP M
 |[],_,_=>rfl
 |t::r,h,hk=>by
  have h1:=h t (bp ..)
  rw [bm,ae] at hk
  have ih:=LE (M:=r) (λu hu=>h u (aH _ hu)) hk.2
  have hr:oQ (ti t):=by simpa [sR] using hk.1
  have e:tV a b t.1=ti t:=by unfold tV ti;rw [h1.1,h1.2]
  unfold sT lP at ih⊢
  rw [aG,dt,dt,ih,e,Om hr]
def Cj {a b:Lf} (ha:bI a=true) (hb:bI b=true):gS a b=if oQ (a.K+b.K) then (if SM a.L b.L (ue a.L b.L)=true then (⟨a.K+b.K,sT a.L b.L (ue a.L b.L)⟩,0) else (zL,3)) else (zL,3):=by
 have hm:=zGa _ none a.L b.L (aC _) ha hb
 have hn:=Qy ha hb
 unfold gS
 rw [ab ⟨ha,hb⟩]
 unfold mV
 rw [<-hn,QL hm]
 by_cases h1:oQ (a.K+b.K)
 ·rw [ab h1]
  by_cases h2:(bE a.L b.L).all sR=true
  ·rw [ab ⟨h1,h2⟩,ab h2,LE hm h2]
  ·rw [aa (λh=>h2 h.2),aa h2]
 ·rw [aa (λh=>h1 h.1),aa h1]
def OL {a b:Lf} (h:¬(bI a=true/\bI b=true)):gS a b=(zL,1):=aa h
def BU {a b:List Mono} {N:List nq} {n:nq} (h:N[k]? =some n):sT a b (N.take (k+1))=sT a b (N.take k)++(if tV a b n=0 then [] else [⟨n,tV a b n⟩]):=by
 unfold sT;rw [yB h,jj];congr 1
 by_cases h:tV a b n=0<;>simp [h]
def Uu (a b:List Mono):(ue a b).length<=a.length+b.length:=by
 have:=xm (a.map Mono.Name++b.map Mono.Name)
 unfold ue;simpa using this
def zg (a b:List Mono) (N:List nq):(sT a b N).length<=N.length:=lb _ _
end Go.Br
end
