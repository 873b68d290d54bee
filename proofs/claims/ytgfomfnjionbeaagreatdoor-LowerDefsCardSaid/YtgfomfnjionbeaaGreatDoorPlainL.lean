/-
  Numbers of 192 bits,as lin.Eval adds them up; the value of a form,in plain Lean.
  And what the laws need besides.
  Conditions: none.
-/
import Derived.Test.YtgfomfnjionbeaaGreatDoorPlain2
import Derived.Test.YtgfomfnjionbeaaGreatDoorPlain3
import Derived.KernelRfl
set_option linter.unusedSimpArgs false
set_option linter.unusedVariables false
set_option linter.defProp false
section
set_option maxRecDepth 100000
namespace Go.Br
open Go Go.Eng Go.L41
structure W3 where
 h:Nat
 m:Nat
 l:Nat
def W3.ok (w:W3):Prop:=w.h<18446744073709551616/\w.m<18446744073709551616/\w.l<18446744073709551616
def W3.v (w:W3):Nat:=w.h*340282366920938463463374607431768211456+w.m*18446744073709551616+w.l
def w3n (hi lo:Nat):W3:=
 if (18446744073709551615-lo+1)%18446744073709551616=0 then
  (if (18446744073709551615-hi+1)%18446744073709551616=0 then ⟨0,0,0⟩ else ⟨18446744073709551615,(18446744073709551615-hi+1)%18446744073709551616,0⟩)
 else ⟨18446744073709551615,18446744073709551615-hi,(18446744073709551615-lo+1)%18446744073709551616⟩
def w3n_v {hi lo:Nat} (h1:hi<18446744073709551616) (h2:lo<18446744073709551616):(w3n hi lo).ok/\((w3n hi lo).v+(hi*18446744073709551616+lo))%6277101735386680763835789423207666416102355444464034512896=0:=by
 have key:∀a b c:Nat,a<18446744073709551616->b<18446744073709551616->c<18446744073709551616->(a*340282366920938463463374607431768211456+b*18446744073709551616+c+(hi*18446744073709551616+lo))%6277101735386680763835789423207666416102355444464034512896=0->
   (⟨a,b,c⟩:W3).ok/\((⟨a,b,c⟩:W3).v+(hi*18446744073709551616+lo))%6277101735386680763835789423207666416102355444464034512896=0:=fun a b c q1 q2 q3 q4=>⟨⟨q1,q2,q3⟩,q4⟩
 unfold w3n
 split
 ·split
  ·have e1:hi=0:=by omega
   have e2:lo=0:=by omega
   subst e1 e2
   exact ⟨⟨uA,uA,uA⟩,uA⟩
  ·exact key _ _ _ zB zB zB zB
 ·exact key _ _ _ zB zB zB zB
def w3c (a b:Nat):Nat:=if (a+b)%18446744073709551616<b then 1 else 0
def w3c_v {a b:Nat} (h1:a<18446744073709551616) (h2:b<18446744073709551616):(a+b)%18446744073709551616+w3c a b*18446744073709551616=a+b/\w3c a b<=1:=by
 unfold w3c;split<;>omega
def w3a (w x:W3):W3:=
 ⟨(w.h+(x.h+(w3c w.m x.m+w3c (w3c w.l x.l) ((w.m+x.m)%18446744073709551616))))%18446744073709551616,((w.m+x.m)%18446744073709551616+w3c w.l x.l)%18446744073709551616,(w.l+x.l)%18446744073709551616⟩
def w3a_v {w x:W3} (h1:w.ok) (h2:x.ok):(w3a w x).ok/\(w3a w x).v=(w.v+x.v)%6277101735386680763835789423207666416102355444464034512896:=by
 obtain ⟨a1,a2,a3⟩:=h1
 obtain ⟨b1,b2,b3⟩:=h2
 obtain ⟨c1,c2⟩:=w3c_v a3 b3
 obtain ⟨d1,d2⟩:=w3c_v a2 b2
 obtain ⟨e1,e2⟩:=w3c_v (a:=w3c w.l x.l) (b:=(w.m+x.m)%18446744073709551616) zB zB
 have hm:((w.m+x.m)%18446744073709551616+w3c w.l x.l)=(w3c w.l x.l+(w.m+x.m)%18446744073709551616):=lk _ _
 unfold w3a W3.ok W3.v
 dsimp only
 rw [hm]
 generalize w3c (w3c w.l x.l) ((w.m+x.m)%18446744073709551616)=k3 at *
 generalize w3c w.l x.l=k1 at *
 generalize w3c w.m x.m=k2 at *
 generalize (w.m+x.m)%18446744073709551616=M at *
 have q1:(k1+M)%18446744073709551616<18446744073709551616:=gv _ zB
 have q2:(w.l+x.l)%18446744073709551616<18446744073709551616:=gv _ zB
 generalize (k1+M)%18446744073709551616=M2 at *
 generalize (w.l+x.l)%18446744073709551616=L at *
 constructor
 ·omega
 ·omega
def w3s (l:Nat):Nat:=if l<9223372036854775808 then 0 else 18446744073709551615
def w3_fit {w:W3} (hw:w.ok) {S:Int} (hS: -(1569275433846670190958947355801916604025588861116008628224:Int)<=S/\S<=1569275433846670190958947355801916604025588861116008628224) (h:((w.v:Int)-S)%6277101735386680763835789423207666416102355444464034512896=0):
  (w.m=w3s w.l/\w.h=w3s w.l↔ -(9223372036854775808:Int)<=S/\S<=9223372036854775807)/\(-(9223372036854775808:Int)<=S/\S<=9223372036854775807->S=if w.l<9223372036854775808 then (w.l:Int) else (w.l:Int)-18446744073709551616):=by
 obtain ⟨a1,a2,a3⟩:=hw
 unfold W3.v at h
 unfold w3s
 by_cases c:w.l<9223372036854775808
 ·rw [ab c,ab c]
  constructor
  ·constructor
   ·intro q;omega
   ·intro q;omega
  ·intro q;omega
 ·rw [aa c,aa c]
  constructor
  ·constructor
   ·intro q;omega
   ·intro q;omega
  ·intro q;omega
/-! ## The value of a form -/
def lM:List Bd->nn->Option Int
 |[],_=>none
 |x::r,s=>if x.Name=s then some x.Val else lM r s
def evM (env:List Bd):List Mono->Option Int
 |[]=>some 0
 |m::r=>match lM env m.Name with
  |none=>none
  |some v=>(evM env r).map fun z=>m.By*v+z
def dR (l:Lf) (env:List Bd):Int×Int:=
 if dH l=0 then (match evM env l.L with
  |none=>(0,9)
  |some z=>if-(9223372036854775808:Int)<=l.K+z/\l.K+z<=9223372036854775807 then (l.K+z,0) else (0,3)) else (0,1)
def evM_app (env:List Bd):∀(a b:List Mono),evM env (a++b)=match evM env a with|none=>none|some x=>(evM env b).map fun y=>x+y
 |[],b=>by rw [lNa,evM];cases evM env b<;>simp
 |m::r,b=>by
  have ih:=evM_app env r b
  rw [lCa,evM,evM,ih]
  cases lM env m.Name with
  |none=>rfl
  |some v=>
   dsimp only
   cases evM env r with
   |none=>rfl
   |some x=>
    dsimp only [Option.map]
    cases evM env b with
    |none=>rfl
    |some y=>simp only [Option.map];rw [la]
def evM_next {env:List Bd} {l:List Mono} {k:Nat} {m:Mono} {x v:Int} (h:l[k]? =some m) (hx:evM env (l.take k)=some x) (hv:lM env m.Name=some v):evM env (l.take (k+1))=some (x+m.By*v):=by
 rw [yA h,evM_app,hx]
 dsimp only [evM]
 rw [hv]
 simp
def evM_none {env:List Bd} {l:List Mono} {k:Nat} {m:Mono} (h:l[k]? =some m) (hv:lM env m.Name=none):evM env l=none:=by
 have hl:=(af.1 h).1
 have e:l=l.take k++m::l.drop (k+1):=by rw [←qJ h,aZ]
 rw [e,evM_app]
 cases evM env (l.take k) with
 |none=>rfl
 |some x=>dsimp only [evM];rw [hv];rfl
end Go.Br
end
section
namespace Go.Br
open Go Go.Eng Go.L41
/-! ## Sizes (19.1) -/
def gC (env:List Bd) (s:nn):Int:=(lM env s).getD 0
def mR (env:List Bd) (s:nn):Bool:=(lM env s).isSome&&decide (1<=gC env s)&&decide (gC env s<=4096)
def eR (c:Cn) (n:Int):Bool:=decide (n=0)||(decide (0<n)&& !c.Eq)
def whE (env:List Bd):List Cn->Int
 |[]=>0
 |c::r=>if ¬(dR c.Lin env).2=0 then (dR c.Lin env).2 else if eR c (dR c.Lin env).1=true then whE env r else 16
def lX (p:Pg) (env:List Bd):Int:=if env.length=p.Sizes.length then (if p.Sizes.all (mR env)=true then whE env p.Where else 15) else 15
variable {env:List Bd} {k:Nat} {c:Cn}
def wh_next {l:List Cn} (h:l[k]? =some c) (hp:whE env l=whE env (l.drop k)) (h1:(dR c.Lin env).2=0) (h2:eR c (dR c.Lin env).1=true):whE env l=whE env (l.drop (k+1)):=by
 rw [hp,qJ h,whE,aa (fun q=>q h1),ab h2]
def wh_err {l:List Cn} (h:l[k]? =some c) (hp:whE env l=whE env (l.drop k)) (h1:¬(dR c.Lin env).2=0):whE env l=(dR c.Lin env).2:=by
 rw [hp,qJ h,whE,ab h1]
def wh_no {l:List Cn} (h:l[k]? =some c) (hp:whE env l=whE env (l.drop k)) (h1:(dR c.Lin env).2=0) (h2:eR c (dR c.Lin env).1=false):whE env l=16:=by
 rw [hp,qJ h,whE,aa (fun q=>q h1),aa (by rw [h2];simp)]
def wh_end {l:List Cn} (h:l.length<=k) (hp:whE env l=whE env (l.drop k)):whE env l=0:=by rw [hp,bk h];rfl
/-! ## Extents -/
def fG (env:List Bd):List Lf->Int
 |[]=>0
 |f::r=>if ¬(dR f env).2=0 then (dR f env).2 else if (dR f env).1<1∨4096<(dR f env).1 then 15 else fG env r
def dU (env:List Bd) (l:List Lf):List Int:=l.map fun f=>(dR f env).1
def zUe {l:List Lf} {f:Lf} (h:l[k]? =some f) (hp:fG env l=fG env (l.drop k)) (h1:(dR f env).2=0) (h2:¬((dR f env).1<1∨4096<(dR f env).1)):fG env l=fG env (l.drop (k+1)):=by
 rw [hp,qJ h,fG,aa (fun q=>q h1),aa h2]
def ext_err {l:List Lf} {f:Lf} (h:l[k]? =some f) (hp:fG env l=fG env (l.drop k)) (h1:¬(dR f env).2=0):fG env l=(dR f env).2:=by
 rw [hp,qJ h,fG,ab h1]
def ext_bad {l:List Lf} {f:Lf} (h:l[k]? =some f) (hp:fG env l=fG env (l.drop k)) (h1:(dR f env).2=0) (h2:(dR f env).1<1∨4096<(dR f env).1):fG env l=15:=by
 rw [hp,qJ h,fG,aa (fun q=>q h1),ab h2]
def ext_end {l:List Lf} (h:l.length<=k) (hp:fG env l=fG env (l.drop k)):fG env l=0:=by rw [hp,bk h];rfl
def jQ (p:Pg) (env:List Bd) (s:nn):Int:=
 if (p.en.find s).ok=true then (if fG env (p.en.find s).dims=0 then (if (bP 1 (dU env (p.en.find s).dims)).isSome=true then 0 else 15) else fG env (p.en.find s).dims) else 9
def mU (p:Pg) (env:List Bd) (s:nn):List Int×Int:=if jQ p env s=0 then (dU env (p.en.find s).dims,0) else ([],jQ p env s)
def rM (p:Pg) (env:List Bd) (s:nn):List Int×Int:=
 if (bK p).2=0 then (if lX p env=0 then mU p env s else ([],lX p env)) else ([],(bK p).2)
/-! ## A definition -/
def lnT (d a:nn):nn:=if bB (d++bs [95]++a)=true then d++bs [95]++a else bs []
def lB (d:nn) (l:List Ax):Int:=if l.any (fun x=>decide (lnT d x.Name=bs []))=true then 7 else 0
def gR (d:nn) (l:List Ax) (ext:List Int):List Bd:=(l.zip ext).map fun x=>⟨lnT d x.1.Name,x.2⟩
def rH (x:Bd) (b:List St):St:=.mk 1 x.Name x.Val 0 0 [] zEx b
def dW (l:List Bd) (b:List St):List St:=l.foldr (fun x b=>[rH x b]) b
def lJ (d:Df) (at_:List Ix) (e:Ex):St:=.mk 2 d.Name 0 0 0 at_ e []
def fX (d:Df) (at_:List Ix) (f:Int) (e:Ex):St:=.mk 3 d.Name 0 0 f at_ e []
def lIf (e:Ex) (b:List St):St:=.mk 4 (bs []) 0 0 0 [] e b
def iA (l:Lf):Ex:=.mk 2 (bs []) ⟨0,0⟩ zTy l [] []
def nA (l:Lf):Ex:=.mk 13 (bs []) ⟨0,0⟩ zTy ⟨0,[]⟩ [] [iA ⟨0,[]⟩,iA l]
def sbX (e:Ex) (s:nn) (u:Lf):Except Int Ex:=mEx (fun l=>bU l s u) e
def dA (u:nn->Lf):List nn->Ex->Except Int Ex
 |[],e=>.ok e
 |s::r,e=>match sbX e s (u s) with
  |.error x=>.error x
  |.ok e'=>dA u r e'
def vD (t:Ty):Vl:=if t.Kind=2 then ⟨2^t.Frac.toNat,1⟩ else ⟨1,1⟩
def fP (t:Ty):Vl×Int:=if dJ t=true then (if jI t (vD t)=true then (vD t,0) else (⟨0,0⟩,3)) else (⟨0,0⟩,10)
def idT (f:Int) (t:Ty):Vl×Bool:=
 if dJ t=true/\(f=1∨f=5) then (⟨0,1⟩,true) else if f=2 then ((fP t).1,decide ((fP t).2=0)) else (⟨0,0⟩,false)
/-! ## Def and Prog -/
def sR:List Bd->Lf->Lf
 |[],a=>a
 |x::r,a=>sR r (gQ a (dF x.Name)).1
def pA (d:Df) (at_:List Ix) (red:List Bd) (body:Ex):Except Int (List St):=
 if d.Fold=0 then .ok [lJ d at_ body] else
 if d.Fold=5 then .ok [lJ d at_ body,lIf (nA (at_.getD (at_.length-1) ⟨⟨0,[]⟩,bs [],[]⟩).Lin)
  [fX d at_ 1 (.mk 3 d.Name ⟨0,0⟩ zTy ⟨0,[]⟩ (at_.set (at_.length-1) ⟨(gQ (at_.getD (at_.length-1) ⟨⟨0,[]⟩,bs [],[]⟩).Lin ⟨-1,[]⟩).1,bs [],[]⟩) [])]] else
 if (idT d.Fold d.T).2=true then .ok (lJ d at_ (.mk 1 (bs []) (idT d.Fold d.T).1 d.T ⟨0,[]⟩ [] [])::dW red [fX d at_ d.Fold body]) else
 match dA (fun _=>⟨0,[]⟩) (red.map Bd.Name) body with
 |.error x=>.error x
 |.ok first=>.ok (lJ d at_ first::dW red [lIf (nA (sR red ⟨0,[]⟩)) [fX d at_ d.Fold body]])
def lC (p:Pg) (env:List Bd) (d:Df):List Bd:=gR d.Name d.Dims (dU env (p.en.find d.Name).dims)
def tM (env:List Bd) (d:Df):List Bd:=gR d.Name d.Red (dU env (d.Red.map Ax.Size))
def nY (p:Pg) (env:List Bd) (d:Df):Except Int (List St):=
 match dA (fun s=>⟨gC env s,[]⟩) p.Sizes d.Body with
 |.error x=>.error x
 |.ok b=>match pA d ((lC p env d).map fun x=>⟨dF x.Name,bs [],[]⟩) (tM env d) (gEx (gK ((bD d).map (lnT d.Name)) (bD d)) b) with
  |.error x=>.error x
  |.ok l=>.ok (dW (lC p env d) l)
def gZ (p:Pg) (env:List Bd) (d:Df):Except Int (List St):=
 if ¬jQ p env d.Name=0 then .error (jQ p env d.Name) else
 if ¬fG env (d.Red.map Ax.Size)=0 then .error (fG env (d.Red.map Ax.Size)) else
 if ¬lB d.Name d.Dims=0 then .error 7 else if ¬lB d.Name d.Red=0 then .error 7 else nY p env d
def nL:Except Int (List St)->List St
 |.error _=>[]
 |.ok l=>l
def sE (p:Pg) (env:List Bd) (i:Int):Except Int (List St):=
 if ¬(bK p).2=0 then .error (bK p).2 else if ¬lX p env=0 then .error (lX p env) else
 if i<0∨(p.Defs.length:Int)<=i then .error 9 else
 match p.Defs[i.toNat]? with
 |none=>.error 9
 |some d=>gZ p env d
def sL (p:Pg) (env:List Bd) (x:Pm):Bf:=⟨x.Name,x.T,dU env (p.en.find x.Name).dims,1⟩
def nI (p:Pg) (env:List Bd) (d:Df):Bf:=⟨d.Name,d.T,dU env (p.en.find d.Name).dims,if bQ p.Outs d.Name=true then 2 else 3⟩
def nK (p:Pg) (env:List Bd):List Pm->Int
 |[]=>0
 |x::r=>if jQ p env x.Name=0 then nK p env r else jQ p env x.Name
def nC (p:Pg) (env:List Bd):List Df->Int
 |[]=>0
 |d::r=>match gZ p env d with
  |.error x=>x
  |.ok _=>nC p env r
def sD (p:Pg) (env:List Bd):Ns:=⟨p.Params.map (sL p env)++p.Defs.map (nI p env),p.Defs.flatMap fun d=>nL (gZ p env d)⟩
def pJ (p:Pg) (env:List Bd):Ns×Int:=
 if ¬(bK p).2=0 then (⟨[],[]⟩,(bK p).2) else if ¬lX p env=0 then (⟨[],[]⟩,lX p env) else
 if p.Outs.any (fun s=>p.Params.any fun x=>decide (x.Name=s))=true then (⟨[],[]⟩,1) else
 if ¬nK p env p.Params=0 then (⟨[],[]⟩,nK p env p.Params) else
 if ¬nC p env p.Defs=0 then (⟨[],[]⟩,nC p env p.Defs) else
 if ¬(jX (sD p env)).2=0 then (⟨[],[]⟩,(jX (sD p env)).2) else (sD p env,0)
def xO (ln:nn->nn):List nn->Lf->Lf
 |[],l=>l
 |s::r,l=>xO ln r (mW s (ln s) l)
noncomputable def nV (ln:nn->nn) (P:List nn) (a:nn):nn:= @ite _ (a∈P) (Classical.propDecidable _) (ln a) a
structure SqI (ln:nn->nn) (P:List nn) (l c:Lf):Prop where
 k:c.K=l.K
 ok:bG c=true
 rng:c.rng
 mem:∀m,m∈c.L↔∃m0,m0∈l.L/\m=⟨nV ln P m0.Name,m0.By⟩
variable {s:nn} {ln:nn->nn}
def sq_no {P:List nn} {l c:Lf} (h:SqI ln P l c) (h1:∀m,m∈l.L->m.Name∈P->ln m.Name≠ln s) (h2:∀m,m∈l.L->m.Name ∉ P->m.Name≠ln s):¬eC c (ln s):=by
 rintro ⟨m,hm,e⟩
 obtain ⟨m0,hm0,rfl⟩:=(h.mem m).1 hm
 unfold nV at e
 dsimp only at e
 split at e
 ·rename_i q;exact h1 m0 hm0 q e
 ·rename_i q;exact h2 m0 hm0 q e
def sq_step {P:List nn} {l c:Lf} (h:SqI ln P l c) (hs:bB s=true) (ht:bB (ln s)=true) (hsP:s ∉ P) (h1:∀m,m∈l.L->m.Name∈P->ln m.Name≠ln s/\ln m.Name≠s) (h2:∀m,m∈l.L->m.Name ∉ P->m.Name≠ln s):SqI ln (P++[s]) l (mW s (ln s) c):=by
 have hn:¬eC c (ln s):=by
  rintro ⟨m,hm,e⟩
  obtain ⟨m0,hm0,rfl⟩:=(h.mem m).1 hm
  unfold nV at e
  dsimp only at e
  split at e
  ·rename_i q;exact (h1 m0 hm0 q).1 e
  ·rename_i q;exact h2 m0 hm0 q e
 obtain ⟨a1,a2,a3,a4⟩:=softR_form h.ok hs ht h.rng hn
 refine ⟨a1.trans h.k,a2,a3,fun m=>?_⟩
 rw [a4 m,h.mem m]
 constructor
 ·rintro (⟨⟨m0,hm0,rfl⟩,hne⟩|⟨e,hm⟩)
  ·refine ⟨m0,hm0,?_⟩
   unfold nV at hne⊢
   dsimp only at hne
   by_cases q:m0.Name∈P
   ·rw [ab q,ab (dy _ q)]
   ·rw [aa q] at hne
    rw [aa q,aa (by rw [ao,aR];rintro (k|k);exact q k;exact hne k)]
  ·obtain ⟨m0,hm0,e2⟩:=(h.mem _).1 hm
   have e3:s=nV ln P m0.Name:=by have:=ai Mono.Name e2;exact this
   have e4:m.By=m0.By:=by have:=ai Mono.By e2;exact this
   unfold nV at e3
   split at e3
   ·rename_i q;exact absurd e3.symm (h1 m0 hm0 q).2
   ·refine ⟨m0,hm0,?_⟩
    unfold nV
    rw [ab (dh _ (by rw [←e3];simp)),←e3]
    cases m;simp only at e e4;rw [e,e4]
 ·rintro ⟨m0,hm0,rfl⟩
  by_cases q:m0.Name∈P
  ·left
   unfold nV
   rw [ab (dy _ q)]
   exact ⟨⟨m0,hm0,by rw [ab q]⟩,(h1 m0 hm0 q).2⟩
  ·by_cases q2:m0.Name=s
   ·right
    unfold nV
    rw [ab (dh _ (by rw [q2];simp))]
    refine ⟨by rw [q2],(h.mem _).2 ⟨m0,hm0,?_⟩⟩
    unfold nV
    rw [aa q,q2]
   ·left
    unfold nV
    rw [aa (by rw [ao,aR];rintro (k|k);exact q k;exact q2 k)]
    exact ⟨⟨m0,hm0,by rw [aa q]⟩,q2⟩
def xR (ln:nn->nn):List nn->Prop
 |[]=>True
 |s::r=>(∀a,a∈s::r->a≠ln s)/\xR ln r
def sq_all {ln:nn->nn} (hinj:∀a b,ln a=ln b->a=b) {l:Lf}:∀(O P:List nn) (c:Lf),SqI ln P l c->(∀s,s∈O->bB s=true/\bB (ln s)=true)->(P++O).Nodup->(∀a,a∈P->∀s,s∈O->ln a≠s)->xR ln O->
  (∀m,m∈l.L->m.Name ∉ P->m.Name∈O∨∀s,s∈O->m.Name≠ln s)->SqI ln (P++O) l (xO ln O c)
 |[],P,c,h,_,_,_,_,_=>by rw [lAn];exact h
 |s::r,P,c,h,hO,hnd,hPO,ho,hm=>by
  rw [xO,show P++s::r=(P++[s])++r by simp]
  have hsP:s ∉ P:=fun k=>(d6.1 hnd).2.2 s k s uF rfl
  refine sq_all hinj r (P++[s]) _ (sq_step h (hO s uF).1 (hO s uF).2 hsP (fun m hml hmP=>⟨fun e=>hsP (by rw [←hinj _ _ e];exact hmP),hPO _ hmP s uF⟩) fun m hml hmP=>?_) (fun t ht=>hO t (by simp [ht])) (by simpa using hnd) (fun a ha t ht=>?_) ho.2 fun m hml hmP=>?_
  ·rcases hm m hml hmP with k|k
   ·exact ho.1 _ k
   ·exact k s uF
  ·rcases ao.1 ha with ha|ha
   ·exact hPO a ha t (by simp [ht])
   ·rw [aR.1 ha];exact fun e=>ho.1 t (by simp [ht]) e.symm
  ·have h1:m.Name ∉ P:=fun k=>hmP (by simp [k])
   have h2:m.Name≠s:=fun k=>hmP (by simp [k])
   rcases hm m hml h1 with k|k
   ·rcases ag.1 k with k|k
    ·exact absurd k h2
    ·exact .inl k
   ·exact .inr fun t ht=>k t (by simp [ht])
def lin_asc {l:Lf} (h:bG l=true):xJ l.L:=by
 have h2:=h
 simp only [bG,ae] at h2
 exact zWe (p:=none) (by first|exact h2.1.1|exact h2.1.2|exact h2.2|exact h2.1|exact h)
variable {A:List nn}
def swp_is (hA:A.Nodup) (a:nn):mA (A.map ln) A a=nV ln A a:=by
 unfold nV mA
 by_cases h:a∈A
 ·obtain ⟨k,hk⟩:=bn h
  have hi:=ixB_at hA hk
  rw [ab h,hi,ab zB,bq,cz,cb,hk];rfl
 ·rw [aa h,ixB_no h,aa zB]
def repO_inj (hinj:∀a b,ln a=ln b->a=b) {l:Lf} (hm:∀m,m∈l.L->m.Name ∉ A->∀s,s∈A->m.Name≠ln s) {x y:Mono} (hx:x∈l.L) (hy:y∈l.L) (h:nV ln A x.Name=nV ln A y.Name):x.Name=y.Name:=by
 unfold nV at h
 split at h
 ·rename_i q
  split at h
  ·exact hinj _ _ h
  ·rename_i q2;exact absurd h.symm (hm y hy q2 _ q)
 ·rename_i q
  split at h
  ·rename_i q2;exact absurd h (hm x hx q _ q2)
  ·exact h
def sq_renF (hA:A.Nodup) (hinj:∀a b,ln a=ln b->a=b) {l c:Lf} (hl:bG l=true) (hm:∀m,m∈l.L->m.Name ∉ A->∀s,s∈A->m.Name≠ln s) (h:SqI ln A l c):c=gK (A.map ln) A l:=by
 have hnd:((l.L.map fun m=>(⟨mA (A.map ln) A m.Name,m.By⟩:Mono)).map Mono.Name).Nodup:=by
  rw [fq]
  have h0:=asc_nodup (lin_asc hl)
  have h1:l.L.Pairwise fun a b=>a.Name≠b.Name:=by rw [ko,ey] at h0;exact h0
  rw [ko,ey]
  refine List.Pairwise.imp_of_mem (fun ha hb hab e=>hab ?_) h1
  simp only [Function.comp,swp_is hA] at e
  exact repO_inj hinj hm ha hb e
 have hL:c.L=jJ (l.L.map fun m=>⟨mA (A.map ln) A m.Name,m.By⟩):=by
  refine asc_ext (lin_asc h.ok) (sortM_asc hnd) fun m=>?_
  rw [h.mem m,zVe,aX]
  constructor
  ·rintro ⟨m0,h1,rfl⟩;exact ⟨m0,h1,by rw [swp_is hA]⟩
  ·rintro ⟨m0,h1,rfl⟩;exact ⟨m0,h1,by rw [swp_is hA]⟩
 cases c with
 |mk K L=>
  have hk:K=l.K:=h.k
  simp only at hL
  unfold gK
  rw [hk,hL]
variable {t:nn}
/-! ## Expressions -/
def soft_ok {l:Lf} {f:nn} (h1:bG l=true) (hf:bB f=true) (ht:bB t=true) (hr:l.rng) (hn:¬eC l t):bO l f (vrL t)=(mW f t l,0):=by
 have h2:=vrL_ok ht
 have key:(bO l f (vrL t)).2=0:=by
  by_cases c:bN l.L f=0
  ·have e:bO l f (vrL t)=(l,0):=by unfold bO;rw [ab ⟨h1,h2,hf⟩,ab c]
   rw [e]
  ·have hb:=zPs hr f
   obtain ⟨g1,g2⟩:=ren_sum (a:=(lS l f).L) (t:=t) (b:=bN l.L f) (fun m hm=>by
    have hm':=da.1 hm
    exact ⟨fun e=>hn ⟨m,hm'.1,e⟩,(zGt h1 m hm'.1).1,hr.2 m hm'.1⟩) c hb
   have e:bO l f (vrL t)=(⟨l.K,lI (mB (bN l.L f) (bE (lS l f).L [⟨t,1⟩]))⟩,0):=by
    exact v18
   rw [e]
 unfold mW
 rw [ab key]
 exact Prod.ext rfl key
variable {e:Ex}
def zKm {P Q:Lf->Prop} (h:e.allF P) (k:∀l,P l->Q l):e.allF Q:=fun x hx l hl=>k l (h x hx l hl)
variable {g:Lf->Lf}
def gEx_congr {g':Lf->Lf}:∀{e:Ex},e.allF (fun l=>g l=g' l)->gEx g e=gEx g' e:=by
 intro e
 induction e using Ex.ind with
 |_ e ih=>
  intro h
  rw [zSv,zSv g',Ex.allF_lin h,dn (g:=gEx g') (fun a ha=>ih a ha (Ex.allF_arg h ha)),dn (l:=e.Idx) (g:=gIx g') (fun x hx=>by
   unfold gIx
   rw [Ex.allF_ix h hx,dn (g:=g') (fun l hl=>Ex.allF_at h hx hl)])]
def var_vr (ht:bB t=true):dF t=vrL t:=by unfold dF vrL;rw [ht];rfl
def sbX_soft {f:nn} (hf:bB f=true) (ht:bB t=true) (hP:e.allF fun l=>bG l=true/\l.rng/\¬eC l t):sbX e f (dF t)=.ok (gEx (mW f t) e):=by
 unfold sbX
 rw [var_vr ht]
 have hS:∀l:Lf,bG l=true/\l.rng/\¬eC l t->bU l f (vrL t)=(mW f t l,0):=fun l h=>by rw [zJl h.2.1];exact soft_ok h.1 hf ht h.2.1 h.2.2
 cases h:mEx (fun l=>bU l f (vrL t)) e with
 |error c=>
  have h0:c=0:=mEx_er (P:=fun c=>c=0) e (zKm hP fun l hl=>by rw [hS l hl]) c h
  rw [h0] at h
  exact absurd h (mEx_ne e)
 |ok e'=>
  rw [(mEx_g h).1]
  exact ai Except.ok (gEx_congr (zKm hP fun l hl=>by rw [hS l hl]))
def sb_seq {ln:nn->nn} (hinj:∀a b,ln a=ln b->a=b) {F:Lf->Prop} {e0:Ex} (hF:e0.allF F):∀(O P:List nn) (g:Lf->Lf),(∀l,F l->SqI ln P l (g l))->(∀s,s∈O->bB s=true/\bB (ln s)=true)->(P++O).Nodup->(∀a,a∈P->∀s,s∈O->ln a≠s)->xR ln O->
  (∀l,F l->∀m,m∈l.L->m.Name ∉ P->m.Name∈O∨∀s,s∈O->m.Name≠ln s)->dA (fun s=>dF (ln s)) O (gEx g e0)=.ok (gEx (fun l=>xO ln O (g l)) e0)
 |[],P,g,_,_,_,_,_,_=>rfl
 |s::r,P,g,h,hO,hnd,hPO,ho,hm=>by
  have hsP:s ∉ P:=fun k=>(d6.1 hnd).2.2 s k s uF rfl
  have hA:∀l,F l->∀m,m∈l.L->m.Name∈P->ln m.Name≠ln s/\ln m.Name≠s:=fun l hl m hml hmP=>⟨fun e=>hsP (by rw [←hinj _ _ e];exact hmP),hPO _ hmP s uF⟩
  have hB:∀l,F l->∀m,m∈l.L->m.Name ∉ P->m.Name≠ln s:=fun l hl m hml hmP=>by
   rcases hm l hl m hml hmP with k|k
   ·exact ho.1 _ k
   ·exact k s uF
  have hstep:sbX (gEx g e0) s (dF (ln s))=.ok (gEx (mW s (ln s)) (gEx g e0)):=
   sbX_soft (hO s uF).1 (hO s uF).2 (zYi (zKm hF fun l hl=>⟨(h l hl).ok,(h l hl).rng,sq_no (h l hl) (fun m hml hmP=>(hA l hl m hml hmP).1) (hB l hl)⟩))
  rw [dA,hstep,gEx_gEx]
  refine sb_seq hinj hF r (P++[s]) (fun l=>mW s (ln s) (g l)) (fun l hl=>sq_step (h l hl) (hO s uF).1 (hO s uF).2 hsP (hA l hl) (hB l hl)) (fun t ht=>hO t (by simp [ht])) (by simpa using hnd) (fun a ha t ht=>?_) ho.2 fun l hl m hml hmP=>?_
  ·rcases ao.1 ha with ha|ha
   ·exact hPO a ha t (by simp [ht])
   ·rw [aR.1 ha];exact fun e=>ho.1 t (by simp [ht]) e.symm
  ·have h1:m.Name ∉ P:=fun k=>hmP (by simp [k])
   have h2:m.Name≠s:=fun k=>hmP (by simp [k])
   rcases hm l hl m hml h1 with k|k
   ·rcases ag.1 k with k|k
    ·exact absurd k h2
    ·exact .inl k
   ·exact .inr fun t ht=>k t (by simp [ht])
def gEx_self (e:Ex):gEx (fun l=>l) e=e:=gEx_id e fun _ _ _ _=>rfl
def sb_renF (hinj:∀a b,ln a=ln b->a=b) {O:List nn} (hA:A.Nodup) (hO:O.Nodup) (hAO:∀a,a∈O↔a∈A) (hv:∀s,s∈A->bB s=true/\bB (ln s)=true) (ho:xR ln O) (hF:e.allF fun l=>bG l=true/\l.rng/\∀m,m∈l.L->m.Name∈A):dA (fun s=>dF (ln s)) O e=.ok (gEx (gK (A.map ln) A) e):=by
 have h0:∀l:Lf,(bG l=true/\l.rng/\∀m,m∈l.L->m.Name∈A)->SqI ln [] l l:=fun l hl=>⟨rfl,hl.1,hl.2.1,fun m=>⟨fun h=>⟨m,h,by cases m;simp [nV]⟩,fun ⟨m0,h,e⟩=>by rw [e];cases m0;simpa [nV] using h⟩⟩
 have hv':∀s,s∈O->bB s=true/\bB (ln s)=true:=fun s hs=>hv s ((hAO s).1 hs)
 have h:=sb_seq hinj hF O [] (fun l=>l) h0 hv' (by simpa using hO) (fun a ha=>by cases ha) ho (fun l hl m hml _=>.inl ((hAO _).2 (hl.2.2 m hml)))
 rw [gEx_self] at h
 rw [h]
 refine ai Except.ok (gEx_congr (zKm hF fun l hl=>?_))
 have q:=sq_all hinj O [] l (h0 l hl) hv' (by simpa using hO) (fun a ha=>by cases ha) ho fun m hml _=>.inl ((hAO _).2 (hl.2.2 m hml))
 rw [lNa] at q
 have q2:SqI ln A l (xO ln O l):=⟨q.k,q.ok,q.rng,fun m=>by
  rw [q.mem m]
  have e:∀a,nV ln O a=nV ln A a:=fun a=>by
   unfold nV
   by_cases k:a∈A
   ·rw [ab k,ab ((hAO a).2 k)]
   ·rw [aa k,aa fun k2=>k ((hAO a).1 k2)]
  simp only [e]⟩
 exact sq_renF hA hinj hl.1 (fun m hml hmA=>absurd (hl.2.2 m hml) hmA) q2
/-! ## The order of the names -/
def lnR (d a:nn):nn:=d++bs [95]++a
def lnR_inj (d:nn):∀a b,lnR d a=lnR d b->a=b:=fun a b h=>by
 have h2:=ai (fun x:nn=>x.data.toList) h
 simp only [lnR,ByteArray.data_append,lx] at h2
 have h3:=List.append_cancel_left h2
 exact iy (fv.1 h3)
def lnR_size (d a:nn):a.size<(lnR d a).size:=by
 unfold lnR
 rw [gt,gt]
 have:(bs [95]).size=1:=rfl
 omega
def ord_ok {ln:nn->nn} (hl:∀a,a.size<(ln a).size):∀{O:List nn},O.Pairwise (fun s a=>a.size<=s.size)->xR ln O
 |[],_=>trivial
 |s::r,h=>by
  rw [ec] at h
  refine ⟨fun a ha e=>?_,ord_ok hl h.2⟩
  have h1:=hl s
  rcases ag.1 ha with rfl|ha
  ·rw [←e] at h1;omega
  ·have:=h.1 a ha;rw [e] at this;omega
def pR (A:List nn):Nat->List nn
 |0=>[]
 |n+1=>A.filter (fun s=>decide (s.size=n+1))++pR A n
def zPh {A:List nn} {a:nn}:∀{n:Nat},a∈pR A n↔a∈A/\1<=a.size/\a.size<=n
 |0=>⟨(fun h=>by cases h),(fun h=>by omega)⟩
 |n+1=>by
  rw [pR,ao,da,zPh,aj]
  constructor
  ·rintro (⟨h1,h2⟩|⟨h1,h2,h3⟩)
   ·exact ⟨h1,zB,zB⟩
   ·exact ⟨h1,h2,zB⟩
  ·rintro ⟨h1,h2,h3⟩
   by_cases c:a.size=n+1
   ·exact .inl ⟨h1,c⟩
   ·exact .inr ⟨h1,h2,zB⟩
def pair_all {α:Type} {R:α->α->Prop}:∀{l:List α},(∀a,a∈l->∀b,b∈l->R a b)->l.Pairwise R
 |[],_=>List.Pairwise.nil
 |x::r,h=>List.Pairwise.cons (fun b hb=>h x uF b (by simp [hb])) (pair_all fun a ha b hb=>h a (by simp [ha]) b (by simp [hb]))
def ordR_pair (A:List nn):∀n:Nat,(pR A n).Pairwise fun s a=>a.size<=s.size
 |0=>List.Pairwise.nil
 |n+1=>by
  rw [pR,List.pairwise_append]
  refine ⟨pair_all fun a ha b hb=>?_,ordR_pair A n,fun a ha b hb=>?_⟩
  ·have h1:=ca (da.1 ha).2
   have h2:=ca (da.1 hb).2
   omega
  ·have h1:=ca (da.1 ha).2
   have h2:=(zPh.1 hb).2.2
   omega
def ordR_nodup {A:List nn} (hA:A.Nodup):∀n:Nat,(pR A n).Nodup
 |0=>io
 |n+1=>by
  rw [pR,d6]
  refine ⟨hA.filter _,ordR_nodup hA n,fun a ha b hb e=>?_⟩
  have h1:=ca (da.1 ha).2
  have h2:=(zPh.1 hb).2.2
  rw [e] at h1;omega
def lwMrg:∀(a b:List Mono) (t:Tr),t∈bE a b->(∃m,m∈a/\m.Name=t.1)∨∃m,m∈b/\m.Name=t.1
 |[],[],t,h=>by rw [zGv] at h;cases h
 |a::ar,[],t,h=>by
  rw [zFo] at h
  rcases ag.1 h with rfl|h
  ·exact .inl ⟨a,uF,rfl⟩
  ·rcases lwMrg ar [] t h with ⟨m,hm,e⟩|⟨m,hm,e⟩
   ·exact .inl ⟨m,by simp [hm],e⟩
   ·cases hm
 |[],b::br,t,h=>by
  rw [zFn] at h
  rcases ag.1 h with rfl|h
  ·exact .inr ⟨b,uF,rfl⟩
  ·rcases lwMrg [] br t h with ⟨m,hm,e⟩|⟨m,hm,e⟩
   ·cases hm
   ·exact .inr ⟨m,by simp [hm],e⟩
 |a::ar,b::br,t,h=>by
  rw [zCs] at h
  cases c:bF a.Name b.Name with
  |true=>
   rw [c,aD] at h
   rcases ag.1 h with rfl|h
   ·exact .inl ⟨a,uF,rfl⟩
   ·rcases lwMrg ar (b::br) t h with ⟨m,hm,e⟩|h
    ·exact .inl ⟨m,by simp [hm],e⟩
    ·exact .inr h
  |false=>
   rw [c,av] at h
   cases c2:bF b.Name a.Name with
   |true=>
    rw [c2,aD] at h
    rcases ag.1 h with rfl|h
    ·exact .inr ⟨b,uF,rfl⟩
    ·rcases lwMrg (a::ar) br t h with h|⟨m,hm,e⟩
     ·exact .inl h
     ·exact .inr ⟨m,by simp [hm],e⟩
   |false=>
    rw [c2,av] at h
    rcases ag.1 h with rfl|h
    ·exact .inl ⟨a,uF,rfl⟩
    ·rcases lwMrg ar br t h with ⟨m,hm,e⟩|⟨m,hm,e⟩
     ·exact .inl ⟨m,by simp [hm],e⟩
     ·exact .inr ⟨m,by simp [hm],e⟩
termination_by a b=>a.length+b.length
def lwAdd {k:Int} {ts:List Tr} {m:Mono} (h:m∈(mK k ts).1.L):∃t,t∈ts/\t.1=m.Name:=by
 unfold mK at h
 split at h
 ·have h:m∈lI ts:=h
  unfold lI at h
  obtain ⟨t,ht,e⟩:=ip.1 h
  split at e
  ·cases e
  ·injection e with e;exact ⟨t,ht,by rw [←e]⟩
 ·cases h
def lwSub {l tt:Lf} (hs:bN l.L s=0->∀m,m∈l.L->m.Name≠s) {m:Mono} (h:m∈(bO l s tt).1.L):(∃x,x∈l.L/\x.Name=m.Name/\x.Name≠s)∨∃x,x∈tt.L/\x.Name=m.Name:=by
 unfold bO at h
 split at h
 ·split at h
  ·next c=>exact .inl ⟨m,h,rfl,hs c m h⟩
  ·split at h
   ·obtain ⟨t,ht,e⟩:=lwAdd h
    unfold mB at ht
    obtain ⟨u,hu,rfl⟩:=aX.1 ht
    rcases lwMrg _ _ u hu with ⟨x,hx,e2⟩|⟨x,hx,e2⟩
    ·have h3:=da.1 hx
     exact .inl ⟨x,h3.1,by rw [e2];exact e,by simpa using h3.2⟩
    ·exact .inr ⟨x,hx,by rw [e2];exact e⟩
   ·cases h
 ·cases h
def szF (S A:List nn) (l:Lf):Prop:=bG l=true/\l.rng/\∀m,m∈l.L->m.Name∈S∨m.Name∈A
def sz_seq {A:List nn} {u:nn->Lf} (hu:∀s,(u s).L=[]/\bG (u s)=true):∀(S:List nn) (e e':Ex),(∀s,s∈S->bB s=true)->e.allF (szF S A)->dA u S e=.ok e'->e'.allF (szF [] A)
 |[],e,e',_,hF,h=>by
  rw [dA,fh] at h
  rw [←h];exact hF
 |s::r,e,e',hS,hF,h=>by
  rw [dA] at h
  cases h1:sbX e s (u s) with
  |error c=>rw [h1] at h;cases h
  |ok e1=>
   rw [h1] at h
   obtain ⟨q1,q2⟩:=mEx_g (show mEx (fun l=>bU l s (u s)) e=.ok e1 from h1)
   refine sz_seq hu r e1 e' (fun t ht=>hS t (by simp [ht])) ?_ h
   rw [q1]
   refine zYi fun x hx l hl=>?_
   have h2:=hF x hx l hl
   have h3:=q2 x hx l hl
   dsimp only at h3⊢
   rw [zJl h2.2.1] at h3⊢
   refine ⟨substR_ok h2.1 (hu s).2 (hS s uF) h3,zQv s h2.2.1,fun m hm=>?_⟩
   rcases lwSub (l:=l) (tt:=u s) (s:=s) (fun h0=>zPr h2.1 h0) hm with ⟨y,hy,e2,e3⟩|⟨y,hy,_⟩
   ·rcases h2.2.2 y hy with k|k
    ·rcases ag.1 k with k|k
     ·exact absurd k e3
     ·rw [←e2];exact .inl k
    ·rw [←e2];exact .inr k
   ·rw [(hu s).1] at hy;cases hy
def zOb:∀(l t:List nn),jB t l=0->∀s,s∈l->bB s=true
 |[],_,_,s,hs=>by cases hs
 |a::r,t,h,s,hs=>by
  rw [jB] at h
  by_cases c:dE a t=0
  ·rw [ab c] at h
   rcases ag.1 hs with rfl|hs
   ·unfold dE at c
    split at c
    ·assumption
    ·cases c
   ·exact zOb r _ h s hs
  ·rw [aa c] at h;exact absurd h c
def axes_names {sz:List nn}:∀(l:List Ax) (t:List nn),jL sz t l=0->∀a,a∈l->bB a.Name=true
 |[],_,_,s,hs=>by cases hs
 |a::r,t,h,s,hs=>by
  rw [jL] at h
  by_cases c:dE a.Name t=0
  ·rw [ab c] at h
   by_cases c2:jA a.Size sz=0
   ·rw [ab c2] at h
    rcases ag.1 hs with rfl|hs
    ·unfold dE at c
     split at c
     ·assumption
     ·cases c
    ·exact axes_names r _ h s hs
   ·rw [aa c2] at h;exact absurd h c2
  ·rw [aa c] at h;exact absurd h c
def name_pos (h:bB s=true):1<=s.size:=by
 rcases jq s.size with c|c
 ·have e:s=bs []:=by
   apply iy
   exact kf c
  rw [e] at h
  exact absurd h uA
 ·exact c
variable {p:Pg}
def zOr (h:(bK p).2=0):∀d,d∈p.Defs->∀s,s∈bD d->bB s=true:=by
 rw [zFm] at h
 obtain ⟨a',h5,_⟩:=zFe p p rfl p.Params _ _ (zFu h).2.2.2
 intro d hd
 obtain ⟨i,hi⟩:=bn hd
 have h1:=defR_axes (zKh p p.Defs _ _ _ h5 i d hi)
 have e:bD d=(d.Dims++d.Red).map Ax.Name:=by unfold bD;rw [ah]
 rw [e]
 intro s hs
 obtain ⟨a,ha,rfl⟩:=aX.1 hs
 exact axes_names _ _ h1 a ha
variable {d:Df} {b:Ex}
def low_ref (hv:(bK p).2=0) (hd:d∈p.Defs) (hR:d.Body.allF Lf.rng) (hn:∀s,s∈bD d->bB (lnR d.Name s)=true) (h:dA (fun s=>⟨gC env s,[]⟩) p.Sizes d.Body=.ok b):
  dA (fun s=>dF (lnR d.Name s)) (pR (bD d) 16) b=.ok (gEx (gK ((bD d).map (lnR d.Name)) (bD d)) b):=by
 have hA:=valid_axes hv d hd
 have hN:=zOr hv d hd
 have td:=(pre_def hv (bn hd).choose_spec).1
 have vd:=valid_lin (zLe (by rw [td])).1
 have kd:=zVb (n:=p.en) (vars:=bD d) (e:=d.Body) (by rw [td])
 have hS:=zOb _ _ (by have h2:=hv;rw [zFm] at h2;exact (zFu h2).2.1)
 have hF:d.Body.allF (szF p.Sizes (bD d)):=fun x hx l hl=>⟨vd x hx l hl,hR x hx l hl,fun m hm=>by
  have hk:=kd x hx l hl m hm
  unfold knB at hk
  rw [aE] at hk
  rcases hk with hk|hk
  ·exact .inr (zEb.1 hk)
  ·exact .inl (zEb.1 hk)⟩
 have hb:=sz_seq (A:=bD d) (u:=fun s=>⟨gC env s,[]⟩) (fun s=>⟨rfl,rfl⟩) p.Sizes d.Body b hS hF h
 refine sb_renF (lnR_inj d.Name) hA.1 (ordR_nodup hA.1 16) (fun a=>?_) (fun s hs=>⟨hN s hs,hn s hs⟩) (ord_ok (lnR_size d.Name) (ordR_pair _ 16)) (zKm hb fun l hl=>⟨hl.1,hl.2.1,fun m hm=>by
  rcases hl.2.2 m hm with k|k
  ·cases k
  ·exact k⟩)
 rw [zPh]
 exact ⟨fun q=>q.1,fun q=>⟨q,name_pos (hN a q),zPo (hN a q)⟩⟩
def lw_lins {g:Lf->Lf}:∀l:List Lf,(∀x,x∈l->(g x).L.length<=x.L.length)->fR (l.map g)<=fR l
 |[],_=>aA _
 |x::r,h=>by
  rw [aH,fR,fR]
  have h1:=h x uF
  have h2:=lw_lins r fun y hy=>h y (by simp [hy])
  omega
def lw_ix {x:Ix} (h1:(g x.Lin).L.length<=x.Lin.L.length) (h2:∀y,y∈x.At->(g y).L.length<=y.L.length):(gIx g x).wt<=x.wt:=by
 have h3:=lw_lins x.At h2
 unfold Ix.wt gIx
 simp only [lLm]
 omega
def lw_idx {g:Ix->Ix}:∀l:List Ix,(∀x,x∈l->(g x).wt<=x.wt)->fC (l.map g)<=fC l
 |[],_=>aA _
 |x::r,h=>by
  rw [aH,fC,fC]
  have h1:=h x uF
  have h2:=lw_idx r fun y hy=>h y (by simp [hy])
  omega
def lw_args {g:Ex->Ex}:∀l:List Ex,(∀x,x∈l->(g x).wt<=x.wt)->dX (l.map g)<=dX l
 |[],_=>aA _
 |x::r,h=>by
  rw [aH,dX,dX]
  have h1:=h x uF
  have h2:=lw_args r fun y hy=>h y (by simp [hy])
  omega
def lw_ex:∀{e:Ex},e.allF (fun l=>(g l).L.length<=l.L.length)->(gEx g e).wt<=e.wt:=by
 intro e
 induction e using Ex.ind with
 |_ e ih=>
  intro h
  have h1:=Ex.allF_lin h
  have h2:=lw_idx (g:=gIx g) e.Idx fun x hx=>lw_ix (Ex.allF_ix h hx) fun y hy=>Ex.allF_at h hx hy
  have h3:=lw_args (g:=gEx g) e.Args fun a ha=>ih a ha (Ex.allF_arg h ha)
  rw [zSv,Ex.wt,Ex.wt_eq e,lLm]
  omega
def sb_wt {u:nn->Lf} (hu:∀s,(u s).L=[]):∀(S:List nn) (e e':Ex),e.allF Lf.rng->dA u S e=.ok e'->e'.wt<=e.wt/\e'.allF Lf.rng
 |[],e,e',hF,h=>by
  rw [dA,fh] at h
  rw [←h];exact ⟨aA _,hF⟩
 |s::r,e,e',hF,h=>by
  rw [dA] at h
  cases h1:sbX e s (u s) with
  |error c=>rw [h1] at h;cases h
  |ok e1=>
   rw [h1] at h
   obtain ⟨q1,q2⟩:=mEx_g (show mEx (fun l=>bU l s (u s)) e=.ok e1 from h1)
   have hw:e1.wt<=e.wt:=by
    rw [q1]
    refine lw_ex fun x hx l hl=>?_
    have:=substR_len l (u s) s
    dsimp only
    rw [zJl (hF x hx l hl)]
    rw [hu s,lLn] at this;exact this
   have hr:e1.allF Lf.rng:=by
    rw [q1]
    refine zYi fun x hx l hl=>?_
    dsimp only
    rw [zJl (hF x hx l hl)]
    exact zQv s (hF x hx l hl)
   obtain ⟨g1,g2⟩:=sb_wt hu r e1 e' hr h
   exact ⟨zB,g2⟩
def lw_ren {B:List nn} (e:Ex):(gEx (gK A B) e).wt<=e.wt:=lw_ex fun x hx l hl=>by
 show (jJ _).length<=_
 rw [zVf,lLm]
 exact aA _
def renF_rng {B:List nn} {l:Lf} (h:l.rng):(gK A B l).rng:=⟨h.1,fun m hm=>by
 obtain ⟨m',hm',rfl⟩:=aX.1 (zVe.1 hm)
 exact h.2 m' hm'⟩
/-! ## Statements -/
def loops_wt (l:List Bd) (b:List St):bS (dW l b)<=bS b+l.length*2:=by
 induction l with
 |nil=>exact i5 _ _
 |cons x r ih=>
  show bS [rH x (dW r b)]<=_
  have e:bS [rH x (dW r b)]=(rH x (dW r b)).wt+0:=by rw [bS,bS]
  have e2:(rH x (dW r b)).wt=1+zEx.wt+0+0+bS (dW r b):=by rw [St.wt_eq];rfl
  have hz:zEx.wt=1:=rfl
  rw [lLc,e,e2]
  omega
def addL_len (a b:Lf):(gQ a b).1.L.length<=a.L.length+b.L.length:=by
 unfold gQ
 split
 ·unfold mK
  split
  ·have h1:=zTu (bE a.L b.L)
   have h2:=zDd a.L b.L
   show (lI _).length<=_
   omega
  ·show (zL.L).length<=_;simp [zL]
 ·show (zL.L).length<=_;simp [zL]
def sumL_len:∀(l:List Bd) (a:Lf),(sR l a).L.length<=a.L.length+l.length
 |[],a=>by rw [sR];exact i5 _ _
 |x::r,a=>by
  rw [sR,lLc]
  have h1:=sumL_len r (gQ a (dF x.Name)).1
  have h2:=addL_len a (dF x.Name)
  have h3:(dF x.Name).L.length<=1:=by unfold dF;cases bB x.Name<;>simp
  omega
def one_wt (s:St):bS [s]=s.wt:=by rw [bS,bS];rfl
def two_wt (s t:St):bS [s,t]=s.wt+t.wt:=by rw [bS,one_wt]
def set_wt (d:Df) (at_:List Ix) (e:Ex):(lJ d at_ e).wt=1+e.wt+at_.length+fC at_:=by rw [St.wt_eq];rfl
def fld_wt (d:Df) (at_:List Ix) (f:Int) (e:Ex):(fX d at_ f e).wt=1+e.wt+at_.length+fC at_:=by rw [St.wt_eq];rfl
def if_wt (e:Ex) (b:List St):(lIf e b).wt=1+e.wt+bS b:=by rw [St.wt_eq];rfl
def pos_wt (l:Lf):(nA l).wt=3+l.L.length:=by
 rw [Ex.wt_eq]
 show 1+0+0+0+dX [iA ⟨0,[]⟩,iA l]=_
 rw [dX,dX,dX,Ex.wt_eq,Ex.wt_eq]
 show 1+0+0+0+((1+0+0+0+0)+((1+l.L.length+0+0+0)+0))=_
 omega
def at_wt:∀l:List Bd,fC (l.map fun x=>(⟨dF x.Name,bs [],[]⟩:Ix))<=l.length
 |[]=>aA _
 |x::r=>by
  rw [aH,fC,lLc]
  have h1:=at_wt r
  have h3:(dF x.Name).L.length<=1:=by unfold dF;cases bB x.Name<;>simp
  have h4:(⟨dF x.Name,bs [],[]⟩:Ix).wt=(dF x.Name).L.length:=rfl
  omega
def idx_set:∀(l:List Ix) (k:Nat) (x:Ix),fC (l.set k x)<=fC l+x.wt
 |[],_,_=>by simp [fC]
 |y::r,0,x=>by rw [js,fC,fC];omega
 |y::r,k+1,x=>by
  have:=idx_set r k x
  rw [ge,fC,fC];omega
def idx_getD:∀(l:List Ix) (k:Nat),(l.getD k ⟨⟨0,[]⟩,bs [],[]⟩).wt<=fC l
 |[],k=>by simp [Ix.wt,fR]
 |y::r,0=>by rw [fC];show y.wt<=_;omega
 |y::r,k+1=>by
  have:=idx_getD r k
  rw [List.getD_cons_succ,fC];omega
variable {red:List Bd} {body:Ex}
def inn_wt {at_:List Ix} {l:List St} (hR:body.allF Lf.rng) (hI:fC at_<=at_.length) (h:pA d at_ red body=.ok l):bS l<=2*body.wt+10*at_.length+8*red.length+40:=by
 have hb:=Ex.wt_eq body
 unfold pA at h
 split at h
 ·rw [fh] at h
  rw [←h,one_wt,set_wt];omega
 ·split at h
  ·rw [fh] at h
   have h1:=idx_getD at_ (at_.length-1)
   have h2:=addL_len (at_.getD (at_.length-1) ⟨⟨0,[]⟩,bs [],[]⟩).Lin ⟨-1,[]⟩
   have h3:=idx_set at_ (at_.length-1) ⟨(gQ (at_.getD (at_.length-1) ⟨⟨0,[]⟩,bs [],[]⟩).Lin ⟨-1,[]⟩).1,bs [],[]⟩
   have h4:(at_.getD (at_.length-1) ⟨⟨0,[]⟩,bs [],[]⟩).Lin.L.length<=(at_.getD (at_.length-1) ⟨⟨0,[]⟩,bs [],[]⟩).wt:=by unfold Ix.wt;omega
   have h5:(⟨(gQ (at_.getD (at_.length-1) ⟨⟨0,[]⟩,bs [],[]⟩).Lin ⟨-1,[]⟩).1,bs [],[]⟩:Ix).wt=(gQ (at_.getD (at_.length-1) ⟨⟨0,[]⟩,bs [],[]⟩).Lin ⟨-1,[]⟩).1.L.length:=rfl
   have h6:∀i:List Ix,(Ex.mk 3 d.Name ⟨0,0⟩ zTy ⟨0,[]⟩ i []).wt=1+0+i.length+fC i+0:=fun i=>by rw [Ex.wt_eq];rfl
   rw [←h,two_wt,set_wt,if_wt,one_wt,fld_wt,pos_wt,h6,ej]
   simp only [lLn] at h2
   omega
  ·split at h
   ·rw [fh] at h
    have h6:(Ex.mk 1 (bs []) (idT d.Fold d.T).1 d.T ⟨0,[]⟩ [] []).wt=1:=by rw [Ex.wt_eq];rfl
    have h7:=loops_wt red [fX d at_ d.Fold body]
    rw [one_wt,fld_wt] at h7
    rw [←h,bS,set_wt,h6];omega
   ·split at h
    ·cases h
    ·rename_i first hf
     rw [fh] at h
     have h6:=(sb_wt (u:=fun _=>⟨0,[]⟩) (fun _=>rfl) _ _ _ hR hf).1
     have h7:=loops_wt red [lIf (nA (sR red ⟨0,[]⟩)) [fX d at_ d.Fold body]]
     have h8:=sumL_len red ⟨0,[]⟩
     rw [one_wt,if_wt,one_wt,fld_wt,pos_wt] at h7
     simp only [lLn] at h8
     rw [←h,bS,set_wt];omega
def nmd_len (d:nn) (l:List Ax) (ext:List Int):(gR d l ext).length<=l.length:=by
 unfold gR;rw [lLm,ia];omega
def low_wt {l:List St} (hR:d.Body.allF Lf.rng) (h:nY p env d=.ok l):bS l<=2*d.Body.wt+12*d.Dims.length+8*d.Red.length+40:=by
 unfold nY at h
 split at h
 ·cases h
 ·rename_i b hb
  obtain ⟨g1,g2⟩:=sb_wt (u:=fun s=>⟨gC env s,[]⟩) (fun _=>rfl) _ _ _ hR hb
  split at h
  ·cases h
  ·rename_i l' hl
   rw [fh] at h
   have hw:=lw_ren (A:=(bD d).map (lnT d.Name)) (B:=bD d) b
   have hD:=nmd_len d.Name d.Dims (dU env (p.en.find d.Name).dims)
   have hE:=nmd_len d.Name d.Red (dU env (d.Red.map Ax.Size))
   have h1:=inn_wt (zYi (g:=gK ((bD d).map (lnT d.Name)) (bD d)) (zKm g2 fun l hl=>renF_rng hl)) (by rw [lLm];exact at_wt (lC p env d)) hl
   have h2:=loops_wt (lC p env d) l'
   rw [lLm] at h1
   rw [←h]
   have e1:(lC p env d).length<=d.Dims.length:=hD
   have e2:(tM env d).length<=d.Red.length:=hE
   omega
/-! ## The whole nest -/
def zLd (h:(bK p).2=0):∀d,d∈p.Defs->d.Dims.length<=6/\d.Red.length<=6:=by
 rw [zFm] at h
 obtain ⟨a',h5,_⟩:=zFe p p rfl p.Params _ _ (zFu h).2.2.2
 intro d hd
 obtain ⟨i,hi⟩:=bn hd
 have h0:=zKh p p.Defs _ _ _ h5 i d hi
 have h1:dE d.Name _=0:=cp fun c=>by rw [defR_1 c] at h0;exact c h0
 have h2:dJ d.T=true:=by
  cases c:dJ d.T with
  |true=>rfl
  |false=>rw [defR_10 h1 c] at h0;cases h0
 have h3:¬(6<d.Dims.length∨6<d.Red.length):=fun c=>by rw [defR_11 h1 h2 c] at h0;cases h0
 omega
def low_sts {f:Df->List St} {K:Nat}:∀l:List Df,(∀d,d∈l->bS (f d)<=K)->bS (l.flatMap f)<=l.length*K
 |[],_=>by simp [bS]
 |d::r,h=>by
  have h1:=h d uF
  have h2:=low_sts r fun x hx=>h x (by simp [hx])
  rw [cc,zLf,lLc,du]
  omega
def find_d:∀(l:List Df) (s:nn) (k:Nat),(∀d,d∈l->d.Dims.length<=k)->(dY s l).dims.length<=k
 |[],_,_,_=>bu _
 |d::r,s,k,h=>by
  rw [dY]
  cases decide (d.Name=s) with
  |true=>rw [aD,lLm];exact h d uF
  |false=>rw [av];exact find_d r s k fun x hx=>h x (by simp [hx])
def find_p:∀(l:List Pm) (ds:List Df) (s:nn) (k:Nat),(∀d,d∈ds->d.Dims.length<=k)->(∀x,x∈l->x.Dims.length<=k)->(fV s ds l).dims.length<=k
 |[],ds,s,k,h,_=>find_d ds s k h
 |x::r,ds,s,k,h,h2=>by
  rw [fV]
  cases decide (x.Name=s) with
  |true=>rw [aD];exact h2 x uF
  |false=>rw [av];exact find_p r ds s k h fun y hy=>h2 y (by simp [hy])
def low_e {l:List St} (h:gZ p env d=.ok l):nY p env d=.ok l:=by
 unfold gZ at h
 split at h
 ·cases h
 ·split at h
  ·cases h
  ·split at h
   ·cases h
   ·split at h
    ·cases h
    ·exact h
def low_ok (hS:p.Sm) (hv:(bK p).2=0) (hR:∀d,d∈p.Defs->d.Body.allF Lf.rng):(sD p env).Ok/\bS (sD p env).Body<=900000:=by
 have hw:bS (sD p env).Body<=p.Defs.length*3200:=low_sts p.Defs fun d hd=>by
  cases h:gZ p env d with
  |error x=>exact bu _
  |ok l=>
   have h1:=low_wt (hR d hd) (low_e h)
   have h2:=(hS.ds d hd).2.2
   have h3:=zLd hv d hd
   show bS l<=_
   omega
 have h1:=hS.defs
 have h2:=hS.params
 have h3:bS (sD p env).Body<=900000:=aL hw (aL (c0 3200 h1) zB)
 refine ⟨⟨?_,fun b hb=>?_,zB⟩,h3⟩
 ·show (p.Params.map _++p.Defs.map _).length<=_
  rw [lLa,lLm,lLm];omega
 ·have hl:∀s,(dU env (p.en.find s).dims).length<=1500:=fun s=>by
   unfold dU;rw [lLm]
   exact find_p p.Params p.Defs s 1500 (fun d hd=>(hS.ds d hd).1) hS.ps
  rcases ao.1 hb with hb|hb
  ·obtain ⟨x,_,rfl⟩:=aX.1 hb
   exact aL (hl x.Name) zB
  ·obtain ⟨x,_,rfl⟩:=aX.1 hb
   exact aL (hl x.Name) zB
def xT:Ty:=⟨1,0,0,0,0⟩
def xBody:Ex:=.mk 3 (bs [97]) ⟨0,0⟩ zTy ⟨0,[]⟩ [⟨⟨0,[⟨bs [106],1⟩]⟩,bs [],[]⟩] []
def xD (f:Int):Df:=⟨bs [115],xT,[],[⟨bs [106],⟨0,[⟨bs [110],1⟩]⟩⟩],f,xBody⟩
def xP (f:Int):Pg:=⟨[bs [110]],[],[⟨bs [97],xT,[⟨0,[⟨bs [110],1⟩]⟩]⟩],[xD f],[bs [115]]⟩
def xV:List Bd:=[⟨bs [110],3⟩]
def sj:nn:=bs [115,95,106]
def lN:Ex:=.mk 3 (bs [97]) ⟨0,0⟩ zTy ⟨0,[]⟩ [⟨⟨0,[⟨sj,1⟩]⟩,bs [],[]⟩] []
def x_sb (f:Int):dA (fun s=>⟨gC xV s,[]⟩) [bs [110]] xBody=.ok xBody:=by kernel_rfl
def x_ren:gEx (gK [sj] [bs [106]]) xBody=lN:=by
 have h0:gK [sj] [bs [106]] ⟨0,[]⟩=⟨0,[]⟩:=by simp [gK,jJ]
 have h1:gK [sj] [bs [106]] ⟨0,[⟨bs [106],1⟩]⟩=⟨0,[⟨sj,1⟩]⟩:=by
  simp only [gK,jJ,aH,bp,List.mergeSort_singleton]
  have:mA [sj] [bs [106]] (bs [106])=sj:=by decide+kernel
  rw [this]
 rw [zSv]
 show Ex.mk 3 (bs [97]) ⟨0,0⟩ zTy (gK [sj] [bs [106]] ⟨0,[]⟩) [⟨gK [sj] [bs [106]] ⟨0,[⟨bs [106],1⟩]⟩,bs [],[]⟩] []=_
 rw [h0,h1];rfl
def xL1:List St:=[lJ (xD 1) [] (.mk 1 (bs []) ⟨0,1⟩ xT ⟨0,[]⟩ [] []),rH ⟨sj,3⟩ [fX (xD 1) [] 1 lN]]
def xL4:List St:=[lJ (xD 4) [] (.mk 3 (bs [97]) ⟨0,0⟩ zTy ⟨0,[]⟩ [⟨⟨0,[]⟩,bs [],[]⟩] []),rH ⟨sj,3⟩ [lIf (nA ⟨0,[⟨sj,1⟩]⟩) [fX (xD 4) [] 4 lN]]]
def x_names (f:Int):(bD (xD f)).map (lnT (xD f).Name)=[sj]:=by show [lnT (bs [115]) (bs [106])]=_;decide+kernel
def x_low1:nY (xP 1) xV (xD 1)=.ok xL1:=by
 unfold nY
 rw [show dA (fun s=>(⟨gC xV s,[]⟩:Lf)) (xP 1).Sizes (xD 1).Body=.ok xBody from x_sb 1]
 dsimp only
 rw [x_names,show gEx (gK [sj] (bD (xD 1))) xBody=lN from x_ren]
 kernel_rfl
def x_low4:nY (xP 4) xV (xD 4)=.ok xL4:=by
 unfold nY
 rw [show dA (fun s=>(⟨gC xV s,[]⟩:Lf)) (xP 4).Sizes (xD 4).Body=.ok xBody from x_sb 4]
 dsimp only
 rw [x_names,show gEx (gK [sj] (bD (xD 4))) xBody=lN from x_ren]
 kernel_rfl
variable {f:Int}
def x_e {l:List St} (h:nY (xP f) xV (xD f)=.ok l):gZ (xP f) xV (xD f)=.ok l:=by
 unfold gZ
 rw [aa (by rw [show jQ (xP f) xV (xD f).Name=0 by kernel_rfl];simp),aa (by rw [show fG xV ((xD f).Red.map Ax.Size)=0 by kernel_rfl];simp),
  aa (by rw [show lB (xD f).Name (xD f).Dims=0 by kernel_rfl];simp),aa (by rw [show lB (xD f).Name (xD f).Red=0 by kernel_rfl];simp)]
 exact h
def xN (l:List St):Ns:=⟨[⟨bs [97],xT,[3],1⟩,⟨bs [115],xT,[],2⟩],l⟩
def x_n {l:List St} (h:nY (xP f) xV (xD f)=.ok l):sD (xP f) xV=xN l:=by
 have e:sD (xP f) xV=⟨[sL (xP f) xV ⟨bs [97],xT,[⟨0,[⟨bs [110],1⟩]⟩]⟩,nI (xP f) xV (xD f)],nL (gZ (xP f) xV (xD f))++[]⟩:=rfl
 rw [e,x_e h,lAn]
 have e1:sL (xP f) xV ⟨bs [97],xT,[⟨0,[⟨bs [110],1⟩]⟩]⟩=⟨bs [97],xT,[3],1⟩:=by kernel_rfl
 have e2:nI (xP f) xV (xD f)=⟨bs [115],xT,[],2⟩:=by kernel_rfl
 rw [e1,e2];rfl
def x_P {l:List St} (h:nY (xP f) xV (xD f)=.ok l) (hv:(bK (xP f)).2=0) (hn:(jX (xN l)).2=0):pJ (xP f) xV=(xN l,0):=by
 unfold pJ
 rw [aa (by rw [hv];simp),aa (by rw [show lX (xP f) xV=0 by kernel_rfl];simp),aa (by rw [show ((xP f).Outs.any fun s=>(xP f).Params.any fun x=>decide (x.Name=s))=false by kernel_rfl];simp),
  aa (by rw [show nK (xP f) xV (xP f).Params=0 by kernel_rfl];simp),
  aa (by rw [show nC (xP f) xV (xP f).Defs=nC (xP f) xV [xD f] from rfl,nC,x_e h];simp [nC]),x_n h,aa (by rw [hn];simp)]
def x_P1:pJ (xP 1) xV=(xN xL1,0):=x_P x_low1 uB uB
def x_P4:pJ (xP 4) xV=(xN xL4,0):=x_P x_low4 uB uB
/-! ## Sums of 192 bits -/
abbrev w3C (w:W3):List C:=[.lit (.int .u64 (w.h:Int)),.lit (.int .u64 (w.m:Int)),.lit (.int .u64 (w.l:Int))]
def w3x (hi lo:Nat) (neg:Bool):W3:=if neg=true then w3n hi lo else ⟨0,hi,lo⟩
variable {hi lo:Nat} {w:W3}
def w3_put {S P:Int} (hw:w.ok) (h1:hi<18446744073709551616) (h2:lo<18446744073709551616) (neg:Bool) (hS:((w.v:Int)-S)%6277101735386680763835789423207666416102355444464034512896=0) (hP:P=if neg=true then-((hi*18446744073709551616+lo:Nat):Int) else ((hi*18446744073709551616+lo:Nat):Int)):
  (w3a w (w3x hi lo neg)).ok/\(((w3a w (w3x hi lo neg)).v:Int)-(S+P))%6277101735386680763835789423207666416102355444464034512896=0:=by
 have hx:(w3x hi lo neg).ok/\(((w3x hi lo neg).v:Int)-P)%6277101735386680763835789423207666416102355444464034512896=0:=by
  unfold w3x
  cases neg with
  |true=>
   obtain ⟨a,b⟩:=w3n_v h1 h2
   rw [ab rfl] at hP⊢
   generalize w3n hi lo=q at *
   exact ⟨a,by rw [hP];omega⟩
  |false=>
   rw [aa uF] at hP⊢
   exact ⟨⟨show 0<18446744073709551616 by decide,h1,h2⟩,by rw [hP];unfold W3.v;dsimp only;omega⟩
 obtain ⟨a,b⟩:=w3a_v hw hx.1
 refine ⟨a,?_⟩
 generalize (w3a w (w3x hi lo neg)).v=q at *
 generalize (w3x hi lo neg).v=r at *
 generalize w.v=s at *
 have h3:=hx.2
 omega
variable {x:Int}
def mul_abs {y:Int}:x*y=if (decide (x<0) !=decide (y<0))=true then-((x.natAbs*y.natAbs:Nat):Int) else ((x.natAbs*y.natAbs:Nat):Int):=by
 have h:=zFl x y
 split
 ·rename_i c
  have:=neg_mul (x:=x) (y:=y) (by cases h1:decide (x<0)<;>cases h2:decide (y<0)<;>rw [h1,h2] at c<;>simp_all)
  omega
 ·rename_i c
  have:=pos_mul (x:=x) (y:=y) (by cases h1:decide (x<0)<;>cases h2:decide (y<0)<;>rw [h1,h2] at c<;>simp_all)
  omega
def abs_bd {y:Int} (hx:r64 x) (hy:r64 y):(x*y).natAbs<=85070591730234615865843651857942052864:=by
 rw [zFl]
 exact aL (gk (zBt hx) (zBt hy)) uA
structure EvJ (l:Lf) (env:List Bd) (k:Nat) (w:W3) (z:Int):Prop where
 ok:w.ok
 ev:evM env (l.L.take k)=some z
 md:((w.v:Int)-(l.K+z))%6277101735386680763835789423207666416102355444464034512896=0
 bd:(l.K+z).natAbs<=9223372036854775808+k*85070591730234615865843651857942052864
def ev_first {l:Lf} (hk:r64 l.K):EvJ l env 0 (w3a ⟨0,0,0⟩ (w3x 0 l.K.natAbs (decide (l.K<0)))) 0:=by
 have hm:=zBt hk
 obtain ⟨a,b⟩:=w3_put (w:=⟨0,0,0⟩) (hi:=0) (lo:=l.K.natAbs) (S:=0) (P:=l.K) ⟨uA,uA,uA⟩ uA zB (decide (l.K<0)) uA (by
  split
  ·rename_i c;have:=ca c;omega
  ·rename_i c;have:¬l.K<0:=fun h=>c (al h);omega)
 exact ⟨a,rfl,by rw [jy];rw [jb] at b;exact b,zB⟩
def ev_next {l:Lf} {z v:Int} {m:Mono} (hl:l.rng) (hm:l.L[k]? =some m) (hv:lM env m.Name=some v) (hr:r64 v) (h:EvJ l env k w z):
  EvJ l env (k+1) (w3a w (w3x (hiN m.By.natAbs v.natAbs) (m.By.natAbs*v.natAbs%18446744073709551616) (decide (m.By<0) !=decide (v<0)))) (z+m.By*v):=by
 have hb:=hl.2 m (qD hm)
 have h1:=zBt hb
 have h2:=zBt hr
 have h3:=hi_le h1 h2
 have h4:=hi_lo m.By.natAbs v.natAbs
 have h5:=abs_bd hb hr
 obtain ⟨a,b⟩:=w3_put (hi:=hiN m.By.natAbs v.natAbs) (lo:=m.By.natAbs*v.natAbs%18446744073709551616) (S:=l.K+z) (P:=m.By*v) h.ok zB zB (decide (m.By<0) !=decide (v<0)) h.md (by rw [h4];exact mul_abs)
 refine ⟨a,evM_next hm h.ev hv,by rw [←la];exact b,?_⟩
 have h6:=h.bd
 rw [du,←la]
 omega
def ev_end {l:Lf} {z:Int} (hk:l.L.length<=k) (hk2:k<=5864062014805) (hl:dH l=0) (h:EvJ l env k w z):
  dR l env=if (decide (w.m=w3s w.l)&&decide (w.h=w3s w.l))=true then (w64 (w.l:Int),0) else (0,3):=by
 have hz:=h.ev
 rw [yI zB] at hz
 have hb:=h.bd
 obtain ⟨q1,q2⟩:=w3_fit h.ok (S:=l.K+z) zB h.md
 unfold dR
 rw [ab hl,hz]
 dsimp only
 by_cases c: -(9223372036854775808:Int)<=l.K+z/\l.K+z<=9223372036854775807
 ·have hq:=q1.2 c
  have hl3:=h.ok.2.2
  rw [ab c,ab (by rw [al hq.1,al hq.2];rfl),q2 c,zGz]
  refine Prod.ext ?_ rfl
  dsimp only
  split<;>omega
 ·rw [aa c,aa (fun hh=>c (q1.1 (by simpa using hh)))]
def ev_none {l:Lf} {m:Mono} (hl:dH l=0) (h:l.L[k]? =some m) (hv:lM env m.Name=none):dR l env=(0,9):=by
 unfold dR
 rw [ab hl,evM_none h hv]
def ev_bad {l:Lf} (hl:¬dH l=0):dR l env=(0,1):=aa hl
def env_at:∀{env:List Bd} {s:nn} {i:Nat} {x:Bd},env[i]? =some x->x.Name=s->(env.take i).any (fun y=>decide (y.Name=s))=false->lM env s=some x.Val
 |[],_,_,_,h,_,_=>by cases h
 |y::r,s,0,x,h,hs,_=>by
  rw [gi,ax] at h
  subst h
  rw [lM,ab hs]
 |y::r,s,i+1,x,h,hs,hn=>by
  rw [au,ed,aC] at hn
  rw [lM,aa (il hn.1)]
  exact env_at (by simpa using h) hs hn.2
def env_no:∀{env:List Bd} {s:nn},env.any (fun y=>decide (y.Name=s))=false->lM env s=none
 |[],_,_=>rfl
 |y::r,s,hn=>by
  rw [ed,aC] at hn
  rw [lM,aa (il hn.1)]
  exact env_no hn.2
/-! ## Small facts for the walks -/
def w3x_t (hi lo:Nat) {neg:Bool} (c:neg=true):w3x hi lo neg=w3n hi lo:=ab c
def w3x_f (hi lo:Nat) {neg:Bool} (c:neg=false):w3x hi lo neg=⟨0,hi,lo⟩:=aa (by rw [c];simp)
def zAq {b:Nat} {t:np} {h m l:Nat} (e1:h=w.h) (e2:m=w.m) (e3:l=w.l):[E.row b t [.lit (.int .u64 (h:Int)),.lit (.int .u64 (m:Int)),.lit (.int .u64 (l:Int))]]=[E.row b t (w3C w)]:=by rw [e1,e2,e3]
def w3n_0 (h:¬((((18446744073709551615-lo+1)%18446744073709551616:Nat):Int)=0)):w3n hi lo=⟨18446744073709551615,18446744073709551615-hi,(18446744073709551615-lo+1)%18446744073709551616⟩:=aa zB
def w3n_1 (h:(((18446744073709551615-lo+1)%18446744073709551616:Nat):Int)=0) (h2:¬((((18446744073709551615-hi+1)%18446744073709551616:Nat):Int)=0)):w3n hi lo=⟨18446744073709551615,(18446744073709551615-hi+1)%18446744073709551616,0⟩:=by
 unfold w3n;rw [ab zB,aa zB]
def w3n_2 (h:(((18446744073709551615-lo+1)%18446744073709551616:Nat):Int)=0) (h2:(((18446744073709551615-hi+1)%18446744073709551616:Nat):Int)=0):w3n hi lo=⟨0,0,0⟩:=by
 unfold w3n;rw [ab zB,ab zB]
def w3_shr {l:Nat} (h:l<18446744073709551616):(w64 (l:Int)).fdiv (2^(min (63:Int).toNat IntKind.i64.bits))=if l<9223372036854775808 then 0 else-1:=by
 rw [show (2:Int)^(min (63:Int).toNat IntKind.i64.bits)=9223372036854775808 by decide,zGz,kr _ uA]
 split<;>omega
def w3_sgn {l:Nat} (h:l<18446744073709551616):IntKind.u64.wrap (if l<9223372036854775808 then 0 else-1)=((w3s l:Nat):Int):=by
 unfold w3s
 rw [zOt]
 split<;>decide
def ev_cond {a b c:Nat} (h:(!(decide ((a:Int)=(c:Nat))&&decide ((b:Int)=(c:Nat))))=true):¬(decide (a=c)&&decide (b=c))=true:=by
 intro k
 simp only [ae,aj] at k
 rw [k.1,k.2] at h
 simp at h
def ev_cond2 {a b c:Nat} (h:(!(decide ((a:Int)=(c:Nat))&&decide ((b:Int)=(c:Nat))))=false):(decide (a=c)&&decide (b=c))=true:=by
 simp only [eu,ae,aj] at h⊢
 omega
def notT {b:Bool} (h:(!b)=true):b=false:=by cases b with|true=>cases h|false=>rfl
def notF {b:Bool} (h:(!b)=false):b=true:=by cases b with|true=>rfl|false=>cases h
structure Pg.Rng (p:Pg):Prop where
 wh:∀c,c∈p.Where->c.Lin.rng
 ps:∀x,x∈p.Params->∀l,l∈x.Dims->l.rng
 ds:∀d,d∈p.Defs->(∀a,a∈d.Dims->a.Size.rng)/\(∀a,a∈d.Red->a.Size.rng)/\d.Body.allF Lf.rng
def sz_at (env:List Bd) (s:nn):∃x:Bd,(0<=dT (fun y:Bd=>decide (y.Name=s)) env->env[(dT (fun y:Bd=>decide (y.Name=s)) env).toNat]? =some x)/\
  ((decide (dT (fun y:Bd=>decide (y.Name=s)) env<0)||decide (x.Val<1))||decide (4096<x.Val))= !mR env s:=by
 by_cases h:0<=dT (fun y:Bd=>decide (y.Name=s)) env
 ·obtain ⟨i,x,hi,hci,hhit,hbef⟩:=idx_le h
  have hv:=env_at hci (ca hhit) hbef
  refine ⟨x,fun _=>by rw [hi];exact hci,?_⟩
  unfold mR gC
  rw [hv,hi,am (show ¬((i:Nat):Int)<0 by omega)]
  by_cases a:x.Val<1<;>by_cases b:4096<x.Val<;>simp [a,b]<;>omega
 ·refine ⟨⟨bs [],0⟩,fun k=>absurd k h,?_⟩
  have hv:=env_no (idx_lt (show dT (fun y:Bd=>decide (y.Name=s)) env<0 by omega))
  unfold mR
  rw [hv,al (show dT (fun y:Bd=>decide (y.Name=s)) env<0 by omega)]
  rfl
def chk_len (h:¬env.length=p.Sizes.length):lX p env=15:=aa h
def chk_bad (hl:env.length=p.Sizes.length) (hs:p.Sizes[k]? =some s) (hG:mR env s=false):lX p env=15:=by
 unfold lX
 rw [ab hl,aa (by rw [lAe];exact fun h=>by rw [h s (qD hs)] at hG;cases hG)]
def chk_wh (hl:env.length=p.Sizes.length) (ha:p.Sizes.all (mR env)=true):lX p env=whE env p.Where:=by
 unfold lX
 rw [ab hl,ab ha]
variable {α:Type}
def allz_next {f:α->Bool} {l:List α} {x:α} (h:l[k]? =some x) (hp:(l.take k).all f=true) (hx:f x=true):(l.take (k+1)).all f=true:=by
 rw [yA h,ce,hp];simp [hx]
def xE (env:List Bd) (l:List Lf):List Int:=if fG env l=0 then dU env l else []
def zXh {l:List Lf} (h:¬fG env l=0):xE env l=[]:=aa h
def zSz {l:List Lf} (h:fG env l=0):xE env l=dU env l:=ab h
def zXi {env:List Bd}:∀{l:List Lf},fG env l=0->∀n,n∈dU env l->1<=n/\n<=4096
 |[],_,n,h=>by cases h
 |f::r,h0,n,hn=>by
  rw [fG] at h0
  split at h0
  ·rename_i c;exact absurd h0 c
  ·split at h0
   ·cases h0
   ·rename_i c
    rcases ag.1 hn with rfl|hn
    ·exact ⟨by dsimp only;omega,by dsimp only;omega⟩
    ·exact zXi h0 n hn
def findD_fit {P:Lf->Prop}:∀(l:List Df) (s:nn) (k:Nat),(∀d,d∈l->d.Dims.length<=k/\∀a,a∈d.Dims->P a.Size)->(dY s l).dims.length<=k/\∀f,f∈(dY s l).dims->P f
 |[],_,_,_=>⟨bu _,fun f hf=>by cases hf⟩
 |d::r,s,k,h=>by
  rw [dY]
  cases decide (d.Name=s) with
  |true=>
   rw [aD,lLm]
   refine ⟨(h d uF).1,fun f hf=>?_⟩
   obtain ⟨a,ha,rfl⟩:=aX.1 hf
   exact (h d uF).2 a ha
  |false=>rw [av];exact findD_fit r s k fun x hx=>h x (by simp [hx])
def findP_fit {P:Lf->Prop}:∀(l:List Pm) (ds:List Df) (s:nn) (k:Nat),(∀d,d∈ds->d.Dims.length<=k/\∀a,a∈d.Dims->P a.Size)->(∀x,x∈l->x.Dims.length<=k/\∀f,f∈x.Dims->P f)->(fV s ds l).dims.length<=k/\∀f,f∈(fV s ds l).dims->P f
 |[],ds,s,k,h,_=>findD_fit ds s k h
 |x::r,ds,s,k,h,h2=>by
  rw [fV]
  cases decide (x.Name=s) with
  |true=>rw [aD];exact h2 x uF
  |false=>rw [av];exact findP_fit r ds s k h fun y hy=>h2 y (by simp [hy])
def find_fit (hP:p.Ok) (hR:p.Rng) (s:nn):(p.en.find s).dims.length<=4294967296/\∀f,f∈(p.en.find s).dims->f.L.length<=5864062014805/\f.rng:=
 findP_fit (P:=fun f=>f.L.length<=5864062014805/\f.rng) p.Params p.Defs s 4294967296 (fun d hd=>⟨aL (hP.ds d hd).1 uA,fun a ha=>⟨(hP.ds d hd).2.2.1 a ha,(hR.ds d hd).1 a ha⟩⟩) fun x hx=>⟨(hP.ps x hx).1,fun f hf=>⟨(hP.ps x hx).2 f hf,hR.ps x hx f hf⟩⟩
def dim_no (c:(p.en.find s).ok=false):mU p env s=([],9):=by
 have:jQ p env s=9:=by unfold jQ;rw [aa (by rw [c];simp)]
 unfold mU;rw [this];rfl
def dim_e (c:(p.en.find s).ok=true) (h:¬fG env (p.en.find s).dims=0):mU p env s=([],fG env (p.en.find s).dims):=by
 have:jQ p env s=fG env (p.en.find s).dims:=by unfold jQ;rw [ab c,aa h]
 unfold mU;rw [this,aa h]
def dim_b (c:(p.en.find s).ok=true) (h:fG env (p.en.find s).dims=0) (h2:(bP 1 (dU env (p.en.find s).dims)).isSome=false):mU p env s=([],15):=by
 have:jQ p env s=15:=by unfold jQ;rw [ab c,ab h,aa (by rw [h2];simp)]
 unfold mU;rw [this];rfl
def dim_ok (c:(p.en.find s).ok=true) (h:fG env (p.en.find s).dims=0) (h2:(bP 1 (dU env (p.en.find s).dims)).isSome=true):mU p env s=(dU env (p.en.find s).dims,0):=by
 have:jQ p env s=0:=by unfold jQ;rw [ab c,ab h,ab h2]
 unfold mU;rw [this];rfl
def size_le:∀{l:List Int} {s v:Int},s<=4096->bP s l=some v->v<=4096
 |[],s,v,h,e=>by simp only [bP,ax] at e;omega
 |n::r,s,v,h,e=>by
  rw [bP] at e
  split at e
  ·cases e
  ·exact size_le zB e
def cnt_big {l:List Int} (h:4096<(bP 1 l).getD 4097):(bP 1 l).isSome=false:=by
 cases e:bP 1 l with
 |none=>rfl
 |some v=>rw [e] at h;have:=size_le uA e;simp only [Option.getD] at h;omega
def cnt_fit {l:List Int} (h:¬4096<(bP 1 l).getD 4097):(bP 1 l).isSome=true:=by
 cases e:bP 1 l with
 |none=>rw [e] at h;simp [Option.getD] at h
 |some v=>rfl
def dmT_no (h:¬(if (bK p).2=0 then lX p env else (bK p).2)=0):rM p env s=([],if (bK p).2=0 then lX p env else (bK p).2):=by
 unfold rM
 split
 ·rename_i c
  rw [ab c] at h
  rw [aa h]
 ·rfl
def dmT_ok (h:(if (bK p).2=0 then lX p env else (bK p).2)=0):rM p env s=mU p env s:=by
 unfold rM
 split
 ·rename_i c
  rw [ab c] at h
  rw [ab h]
 ·rename_i c;rw [aa c] at h;exact absurd h c
/-! ## Neutral numbers -/
def one_no {t:Ty} (c:¬bX t=0):fP t=(⟨0,0⟩,10):=by unfold fP;rw [aa (by rw [zMs c];simp)]
def one_kind {t:Ty} (c:bX t=0) (h:¬t.Kind=2):jI t ⟨1,1⟩=true:=by
 have h1:=zCd c
 unfold dJ at h1
 simp only [aE,ae,aj] at h1
 unfold jI
 rw [am h,av]
 rcases h1 with h1|h1
 ·rcases h1.1.1.1.1 with k|k
  ·rw [k];decide
  ·rw [k];decide
 ·exact absurd h1.1.1.1.1.1.1.1 h
def one_p {t:Ty} (c:bX t=0) (h:¬t.Kind=2):fP t=(⟨1,1⟩,0):=by
 unfold fP vD
 rw [ab (zCd c),aa h,ab (one_kind c h)]
def one_sh {t:Ty} (c:bX t=0) (h:t.Kind=2):0<=t.Frac/\IntKind.i64.wrap (1*2^(min t.Frac.toNat IntKind.i64.bits))=2^t.Frac.toNat:=by
 have h1:=zCd c
 rw [zCm h] at h1
 unfold gL at h1
 simp only [ae,aj] at h1
 have h2:0<=t.Frac:=h1.1.1.1.1.2
 have h3:t.Frac<=30:=h1.1.1.1.2
 refine ⟨h2,?_⟩
 rw [bf (show t.Frac.toNat<=IntKind.i64.bits by show t.Frac.toNat<=64;omega),lu]
 have h4:(2:Nat)^t.Frac.toNat<=2^30:=jh uA zB
 have h5:((2^t.Frac.toNat:Nat):Int)=(2:Int)^t.Frac.toNat:=by rw [Int.natCast_pow];rfl
 rw [←h5]
 generalize (2:Nat)^t.Frac.toNat=q at *
 exact zIo (by unfold r64;omega)
def one_fix {t:Ty} (c:bX t=0) (h:t.Kind=2) (v:Vl):(gL t&&(decide (v.D=1)&&decide (-mP t.Bits<=v.N)&&decide (v.N<mP t.Bits)))=jI t v:=by
 have h1:=zCd c
 rw [zCm h] at h1
 rw [h1,aQ]
 unfold jI
 rw [al h,aD]
def one_r {t:Ty} (c:bX t=0) (h:t.Kind=2) (k:(gL t&&(decide ((1:Int)=1)&&decide (-mP t.Bits<=2^t.Frac.toNat)&&decide ((2:Int)^t.Frac.toNat<mP t.Bits)))=false):fP t=(⟨0,0⟩,3):=by
 have e:=one_fix c h ⟨2^t.Frac.toNat,1⟩
 dsimp only at e
 rw [e] at k
 unfold fP vD
 rw [ab (zCd c),ab h,aa (by rw [k];simp)]
def one_ok {t:Ty} (c:bX t=0) (h:t.Kind=2) (k:(gL t&&(decide ((1:Int)=1)&&decide (-mP t.Bits<=2^t.Frac.toNat)&&decide ((2:Int)^t.Frac.toNat<mP t.Bits)))=true):fP t=(⟨2^t.Frac.toNat,1⟩,0):=by
 have e:=one_fix c h ⟨2^t.Frac.toNat,1⟩
 dsimp only at e
 rw [e] at k
 unfold fP vD
 rw [ab (zCd c),ab h,ab k]
def id_1 {t:Ty} (c:¬bX t=0):idT f t=(⟨0,0⟩,false):=by
 unfold idT
 rw [aa (by rw [zMs c];simp),one_no c]
 split<;>rfl
def id_2 {t:Ty} (c:bX t=0) (h:f=1∨f=5):idT f t=(rU t,true):=by
 unfold idT rU
 rw [ab ⟨zCd c,h⟩,zCd c];rfl
def id_3 {t:Ty} (h:¬(f=1∨f=5)) (h2:f=2):idT f t=((fP t).1,decide ((fP t).2=0)):=by
 unfold idT
 rw [aa (fun k=>h k.2),ab h2]
def id_4 {t:Ty} (h:¬(f=1∨f=5)) (h2:¬f=2):idT f t=(⟨0,0⟩,false):=by
 unfold idT
 rw [aa (fun k=>h k.2),aa h2]
/-! ## Tables of loop names -/
def xS (d:nn) (l:List Ax) (m:SmM):SmM:=l.foldl (fun m x=>fJ m x.Name (lnT d x.Name)) m
def mapN_app (d:nn) (a b:List Ax) (m:SmM):xS d (a++b) m=xS d b (xS d a m):=d7
def zRq (d:Df):bD d=(d.Dims++d.Red).map Ax.Name:=by
 unfold bD;simp
def mapN_AB (d:nn) (l:List Ax):xS d l []=cQ ((l.map Ax.Name).map (lnT d)) (l.map Ax.Name) l.length:=by
 unfold xS cQ
 rw [yI (by rw [ia,lLm,lLm,lLm];omega)]
 have:∀(l:List Ax) (m:SmM),l.foldl (fun m x=>fJ m x.Name (lnT d x.Name)) m=((l.map Ax.Name).zip ((l.map Ax.Name).map (lnT d))).foldl (fun m q=>fJ m q.1 q.2) m:=by
  intro l
  induction l with
  |nil=>intro m;rfl
  |cons x r ih=>intro m;rw [cv,ih];rfl
 exact this l []
def mapN_sw (h:(bD d).Nodup) (s:nn):(fQ (xS d.Name d.Red (xS d.Name d.Dims [])) s).getD s=mA ((bD d).map (lnT d.Name)) (bD d) s:=by
 rw [←mapN_app,mapN_AB,←zRq]
 exact mapAB_end h (by rw [lLm]) (k:=(d.Dims++d.Red).length) (by rw [zRq,lLm];omega) s
/-! ## Names of loops -/
def ln_ne {d a:nn} (h:bB (d++bs [95]++a)=true):lnT d a=d++bs [95]++a:=ab h
def ln_no {d a:nn} (h:¬bB (d++bs [95]++a)=true):lnT d a=bs []:=aa h
variable {l:List Ax}
def nmd_stop {d:nn} {x:Ax} (h:l[k]? =some x) (h2:lnT d x.Name=bs []):lB d l=7:=by
 unfold lB
 rw [ab (dm.2 ⟨x,qD h,al h2⟩)]
def nmd_go {d:nn} {x:Ax} (h:l[k]? =some x) (hp:(l.take k).any (fun x=>decide (lnT d x.Name=bs []))=false) (h2:¬lnT d x.Name=bs []):(l.take (k+1)).any (fun x=>decide (lnT d x.Name=bs []))=false:=by
 rw [yA h,gb,hp]
 simp [h2]
def nmd_end {d:nn} (hp:l.any (fun x=>decide (lnT d x.Name=bs []))=false):lB d l=0:=by
 unfold lB;rw [hp];rfl
variable {ext:List Int}
def nmdL_next {d:nn} {x:Ax} {n:Int} (h:l[k]? =some x) (h2:ext[k]? =some n):gR d (l.take (k+1)) ext=gR d (l.take k) ext++[⟨lnT d x.Name,n⟩]:=by
 have hz:(l.zip ext)[k]? =some (x,n):=by rw [fx];exact ⟨h,h2⟩
 have e:∀(j:Nat) (l:List Ax) (ext:List Int),j<=ext.length->(l.take j).zip ext=(l.zip ext).take j:=by
  intro j
  induction j with
  |zero=>intro l ext _;simp
  |succ j ih=>
   intro l ext hj
   cases l with
   |nil=>simp
   |cons a r=>
    cases ext with
    |nil=>simp at hj
    |cons b t=>
     rw [au,jr,jr,au,ih r t (by simpa using hj)]
 have hk:=(af.1 h2).1
 unfold gR
 rw [e (k+1) l ext zB,e k l ext zB,yA hz,ah];rfl
/-! ## Loops -/
def loops_next {l:List Bd} {x:Bd} {b:List St} (h:l[k]? =some x):dW (l.drop k) b=[rH x (dW (l.drop (k+1)) b)]:=by
 rw [qJ h];rfl
/-! ## The maker -/
def mkS (d:Df) (dims red:List Bd) (b:Ex) (c:C):List C:=
  [cS d.Name,cI d.T.Kind,cI d.T.Bits,cI d.T.Frac,cI d.T.Round,cI d.T.Over,.sl 3 (d.Dims.map Ax.cells),.sl 3 (d.Red.map Ax.cells),cI d.Fold,
   cI d.Body.Op,cS d.Body.Name,cI d.Body.Val.N,cI d.Body.Val.D,cI d.Body.Ty.Kind,cI d.Body.Ty.Bits,cI d.Body.Ty.Frac,cI d.Body.Ty.Round,cI d.Body.Ty.Over,cI d.Body.Lin.K,.sl 2 (d.Body.Lin.L.map Mono.cells),.sl 4 (d.Body.Idx.map Ix.cells),.sl 13 (d.Body.Args.map Ex.cells),
   .sl 2 (dims.map Bd.cells),.sl 2 (red.map Bd.cells),
   cI b.Op,cS b.Name,cI b.Val.N,cI b.Val.D,cI b.Ty.Kind,cI b.Ty.Bits,cI b.Ty.Frac,cI b.Ty.Round,cI b.Ty.Over,cI b.Lin.K,.sl 2 (b.Lin.L.map Mono.cells),.sl 4 (b.Idx.map Ix.cells),.sl 13 (b.Args.map Ex.cells),
   c]
abbrev mkC (d:Df) (dims red:List Bd) (b:Ex) (at_:List Ix):List C:=mkS d dims red b (.sl 4 (at_.map Ix.cells))
def xX:Except Int α->Int
 |.error x=>x
 |.ok _=>0
def ixT (l:List Bd):List Ix:=l.map fun x=>⟨dF x.Name,bs [],[]⟩
def cG (d:Df) (at_:List Ix) (body:Ex):List St:=
 [lJ d at_ body,lIf (nA (at_.getD (at_.length-1) ⟨⟨0,[]⟩,bs [],[]⟩).Lin)
  [fX d at_ 1 (.mk 3 d.Name ⟨0,0⟩ zTy ⟨0,[]⟩ (at_.set (at_.length-1) ⟨(gQ (at_.getD (at_.length-1) ⟨⟨0,[]⟩,bs [],[]⟩).Lin ⟨-1,[]⟩).1,bs [],[]⟩) [])]]
def tZ (d:Df) (at_:List Ix) (red:List Bd) (body:Ex):Except Int (List St):=
 if (idT d.Fold d.T).2=true then .ok (lJ d at_ (.mk 1 (bs []) (idT d.Fold d.T).1 d.T ⟨0,[]⟩ [] [])::dW red [fX d at_ d.Fold body]) else
 match dA (fun _=>⟨0,[]⟩) (red.map Bd.Name) body with
 |.error x=>.error x
 |.ok first=>.ok (lJ d at_ first::dW red [lIf (nA (sR red ⟨0,[]⟩)) [fX d at_ d.Fold body]])
def inn_0 {at_:List Ix} (h:d.Fold=0):pA d at_ red body=.ok [lJ d at_ body]:=ab h
def inn_5 {at_:List Ix} (h:d.Fold=5):pA d at_ red body=.ok (cG d at_ body):=by
 unfold pA;rw [aa zB,ab h];rfl
def inn_r {at_:List Ix} (h:¬d.Fold=0) (h5:¬d.Fold=5):pA d at_ red body=tZ d at_ red body:=by
 unfold pA;rw [aa h,aa h5];rfl
def stT (d:Df) (dims red:List Bd) (body:Ex):Except Int (List St):=
 match pA d (ixT dims) red body with
 |.error x=>.error x
 |.ok l=>.ok (dW dims l)
variable {dims:List Bd}
def st_ok {l:List St} (h:pA d (ixT dims) red body=.ok l):stT d dims red body=.ok (dW dims l):=by unfold stT;rw [h]
def st_e (h:pA d (ixT dims) red body=.error x):stT d dims red body=.error x:=by unfold stT;rw [h]
variable {r:Except Int α}
def errL_0 (h:∀x,r=.error x->x≠0) (h0:xX r=0):∃l,r=.ok l:=by
 cases r with
 |error x=>exact absurd h0 (h x rfl)
 |ok l=>exact ⟨l,rfl⟩
def errL_er (h:¬xX r=0):∃x,r=.error x:=by
 cases r with
 |error x=>exact ⟨x,rfl⟩
 |ok l=>exact absurd rfl h
/-! ## Names replaced by numbers -/
def addL_rng {a b:Lf}:(gQ a b).1.rng:=by
 unfold gQ
 split
 ·unfold mK
  split
  ·rename_i h;exact ⟨h.1,fun m hm=>sum_rng hm⟩
  ·exact zSn
 ·exact zSn
structure SbJ (u:nn->Lf) (S:List nn) (body:Ex) (k:Nat) (e:Ex):Prop where
 sb:dA u S body=dA u (S.drop k) e
 wt:e.wt<=body.wt
 rg:e.allF Lf.rng
variable {u:nn->Lf}
def zPb {S:List nn} (h:body.allF Lf.rng):SbJ u S body 0 body:=⟨rfl,aA _,h⟩
def zTx (hu:∀s,(u s).L=[]) {S:List nn} (h:SbJ u S body k e) (hs:S[k]? =some s) (he:gG (mEx (fun l=>bU l s (u s)) e)=0):SbJ u S body (k+1) (jZ (mEx (fun l=>bU l s (u s)) e)):=by
 obtain ⟨e1,h1⟩:=mEx_0 he
 have h2:sbX e s (u s)=.ok e1:=h1
 rw [h1]
 obtain ⟨q1,q2⟩:=sb_wt hu [s] e e1 h.rg (by rw [dA,h2];rfl)
 refine ⟨?_,aL q1 h.wt,q2⟩
 rw [h.sb,qJ hs,dA,h2];rfl
def sbJ_err {S:List nn} (h:SbJ u S body k e) (hs:S[k]? =some s) (he:¬gG (mEx (fun l=>bU l s (u s)) e)=0):dA u S body=.error (gG (mEx (fun l=>bU l s (u s)) e)):=by
 rw [h.sb,qJ hs,dA]
 show (match mEx (fun l=>bU l s (u s)) e with|.error x=>Except.error x|.ok e'=>dA u (S.drop (k+1)) e')=_
 cases h1:mEx (fun l=>bU l s (u s)) e with
 |error x=>rfl
 |ok e'=>rw [h1] at he;exact absurd rfl he
def sbJ_end {S:List nn} (h:SbJ u S body k e) (hk:S.length<=k):dA u S body=.ok e:=by
 rw [h.sb,bk hk];rfl
def zLz {β:Type} {f:α->β} {l:List α} {x:α} (h:l[k]? =some x):(l.map f)[k]? =some (f x):=by rw [cb,h];rfl
structure SmJ (red:List Bd) (k:Nat) (s:Lf):Prop where
 sm:sR red ⟨0,[]⟩=sR (red.drop k) s
 ln:s.L.length<=k
 rg:s.rng
def zOz (red:List Bd):SmJ red 0 ⟨0,[]⟩:=⟨rfl,aA _,by unfold Lf.rng r64;exact ⟨uA,fun m hm=>by cases hm⟩⟩
def smJ_next {s:Lf} {x:Bd} (h:SmJ red k s) (hx:red[k]? =some x):SmJ red (k+1) (gQ s (dF x.Name)).1:=by
 refine ⟨by rw [h.sm,qJ hx,sR],?_,addL_rng⟩
 have h2:=addL_len s (dF x.Name)
 have h3:(dF x.Name).L.length<=1:=by unfold dF;cases bB x.Name<;>simp
 have:=h.ln
 omega
def smJ_end {s:Lf} (h:SmJ red k s) (hk:red.length<=k):sR red ⟨0,[]⟩=s:=by
 rw [h.sm,bk hk];rfl
def zTo (s:nn):(dF s).rng:=by
 unfold dF Lf.rng r64
 cases bB s with
 |true=>exact ⟨show-9223372036854775808<=(0:Int)/\(0:Int)<=9223372036854775807 by decide,fun m hm=>by rw [aR.1 hm];exact show-9223372036854775808<=(1:Int)/\(1:Int)<=9223372036854775807 by decide⟩
 |false=>exact ⟨show-9223372036854775808<=(0:Int)/\(0:Int)<=9223372036854775807 by decide,fun m hm=>by cases hm⟩
def zOq (s:nn):(dF s).L.length<=1:=by unfold dF;cases bB s<;>simp
def red_id {at_:List Ix} (c:(idT d.Fold d.T).2=true):tZ d at_ red body=.ok (lJ d at_ (.mk 1 (bs []) (idT d.Fold d.T).1 d.T ⟨0,[]⟩ [] [])::dW red [fX d at_ d.Fold body]):=ab c
def red_e {at_:List Ix} (c:(idT d.Fold d.T).2=false) (h:dA (fun _=>⟨0,[]⟩) (red.map Bd.Name) body=.error x):tZ d at_ red body=.error x:=by
 unfold tZ;rw [aa (by rw [c];simp),h]
def red_ok {at_:List Ix} {s:Lf} (c:(idT d.Fold d.T).2=false) (h:dA (fun _=>⟨0,[]⟩) (red.map Bd.Name) body=.ok e) (h2:sR red ⟨0,[]⟩=s):tZ d at_ red body=.ok (lJ d at_ e::dW red [lIf (nA s) [fX d at_ d.Fold body]]):=by
 unfold tZ;rw [aa (by rw [c];simp),h,h2]
/-! ## Statements,cell by cell -/
def one_map (s:St):([s]:List St).map St.cells=[s.cs]:=by simp [St.cells_eq]
def iB (p:Ex) (f:St):List C:=[cI 4,cS (bs []),cI 0,cI 0,cI 0,.sl 4 [],cI p.Op,cS p.Name,cI p.Val.N,cI p.Val.D,cI p.Ty.Kind,cI p.Ty.Bits,cI p.Ty.Frac,cI p.Ty.Round,cI p.Ty.Over,cI p.Lin.K,.sl 2 (p.Lin.L.map Mono.cells),.sl 4 (p.Idx.map Ix.cells),.sl 13 (p.Args.map Ex.cells),.sl 20 [f.cs]]
def if_cs (p:Ex) (f:St):iB p f=(lIf p [f]).cs:=by
 unfold iB;rw [←one_map];rfl
def if_rows (p:Ex) (f:St):V.c (.sl 20 [iB p f])=gJ [lIf p [f]]:=by rw [if_cs,←one_map]
def zMx (s:St):V.c (.sl 20 [s.cs])=gJ [s]:=by rw [←one_map]
def zBh (s:St) (l:List St):V.c (.sl 20 ([s.cs]++l.map St.cells))=gJ (s::l):=by
 show _=V.c (.sl 20 (s.cells::l.map St.cells))
 rw [St.cells_eq];rfl
def zJo (s f:St) (p:Ex):V.c (.sl 20 [s.cs,iB p f])=gJ [s,lIf p [f]]:=by
 rw [if_cs]
 show _=V.c (.sl 20 [s.cells,(lIf p [f]).cells])
 rw [St.cells_eq,St.cells_eq]
/-! ## Prefix sums -/
def m1_rng:(⟨-1,[]⟩:Lf).rng:=by unfold Lf.rng r64;exact ⟨uA,fun m hm=>by cases hm⟩
def ix_at {x:Bd} (h:dims[dims.length-1]? =some x):(ixT dims)[(ixT dims).length-1]? =some ⟨dF x.Name,bs [],[]⟩:=by
 unfold ixT;rw [lLm];exact zLz h
def zUc {f:α->List C} {l:List α} {y:α} (h:l[l.length-1]? =some y):(l.map f)[((l.length:Int)-1).toNat]? =some (f y):=by
 rw [show ((l.length:Int)-1).toNat=l.length-1 by omega]
 exact getm h
def scn_is {x:Bd} (h:(ixT dims)[(ixT dims).length-1]? =some ⟨dF x.Name,bs [],[]⟩):cG d (ixT dims) body=
  [lJ d (ixT dims) body,lIf (nA (dF x.Name)) [fX d (ixT dims) 1 (.mk 3 d.Name ⟨0,0⟩ zTy ⟨0,[]⟩ ((ixT dims).set ((ixT dims).length-1) ⟨(gQ (dF x.Name) ⟨-1,[]⟩).1,bs [],[]⟩) [])]]:=by
 unfold cG
 rw [cz,h];rfl
def scn_rows {y:Ix}:((ixT dims).map Ix.cells).set (((ixT dims).length:Int)-1).toNat y.cells=((ixT dims).set ((ixT dims).length-1) y).map Ix.cells:=by
 rw [show (((ixT dims).length:Int)-1).toNat=(ixT dims).length-1 by omega,List.map_set]
def sb_ne {u:nn->Lf}:∀{S:List nn} {e:Ex} {x:Int},dA u S e=.error x->x≠0
 |[],e,x,h=>by cases h
 |s::r,e,x,h=>by
  rw [dA] at h
  cases h1:sbX e s (u s) with
  |error y=>
   rw [h1] at h
   injection h with h
   intro h0
   rw [←h,] at h0
   rw [h0] at h1
   exact mEx_ne e h1
  |ok e'=>rw [h1] at h;exact sb_ne h
def red_ne {at_:List Ix} (h:tZ d at_ red body=.error x):x≠0:=by
 unfold tZ at h
 split at h
 ·cases h
 ·split at h
  ·rename_i y hy
   injection h with h
   rw [←h];exact sb_ne hy
  ·cases h
def st_ne (h:stT d dims red body=.error x):x≠0:=by
 unfold stT pA at h
 split at h
 ·rename_i y hy
  injection h with h
  rw [←h]
  split at hy
  ·cases hy
  ·split at hy
   ·cases hy
   ·exact red_ne (d:=d) (at_:=ixT dims) (red:=red) (body:=body) hy
 ·cases h
variable {j:Nat}
/-! ## Loops -/
def loops_back {l:List Bd} {x:Bd} {b:List St} (h:l[j]? =some x):dW (l.drop j) b=[rH x (dW (l.drop (j+1)) b)]:=loops_next h
def zGb (l:List Bd) (b:List St):(dW l b).length<=b.length+1:=by
 cases l with
 |nil=>exact Nat.le_succ _
 |cons x r=>show ([rH x _]:List St).length<=_;simp
def loops_end (l:List Bd) (b:List St):dW (l.drop l.length) b=b:=by rw [gz];rfl
/-! ## Names -/
def nW (d:nn):List Ax->SmM->SmM
 |[],m=>m
 |x::r,m=>if lnT d x.Name=bs [] then m else nW d r (fJ m x.Name (lnT d x.Name))
def eX (d:nn) (l:List Ax) (ext:List Int):List Bd:=if lB d l=0 then gR d l ext else []
def nmdM_ok {d:nn}:∀{l:List Ax} {m:SmM},lB d l=0->nW d l m=xS d l m
 |[],_,_=>rfl
 |x::r,m,h=>by
  have h2:(x::r).any (fun x=>decide (lnT d x.Name=bs []))=false:=by
   unfold lB at h
   cases c:(x::r).any (fun x=>decide (lnT d x.Name=bs [])) with
   |false=>rfl
   |true=>rw [c] at h;cases h
  rw [ed,aC] at h2
  rw [nW,aa (il h2.1),nmdM_ok (nmd_end h2.2)];rfl
variable {m q:SmM}
def nmdM_next {d:nn} {x:Ax} (h:l[k]? =some x) (hp:nW d l m=nW d (l.drop k) q) (h2:¬lnT d x.Name=bs []):nW d l m=nW d (l.drop (k+1)) (fJ q x.Name (lnT d x.Name)):=by
 rw [hp,qJ h,nW,aa h2]
def nmdM_stop {d:nn} {x:Ax} (h:l[k]? =some x) (hp:nW d l m=nW d (l.drop k) q) (h2:lnT d x.Name=bs []):nW d l m=q:=by
 rw [hp,qJ h,nW,ab h2]
def nmdM_end {d:nn} (hp:nW d l m=nW d (l.drop k) q) (hk:l.length<=k):nW d l m=q:=by
 rw [hp,bk hk];rfl
def nmdB_no {d:nn} (h:lB d l=7):eX d l ext=[]:=by unfold eX;rw [aa (by rw [h];decide)]
def nmdB_ok {d:nn} (h:lB d l=0):eX d l ext=gR d l ext:=ab h
def nmd_good {d:nn} (h:lB d l=0):∀x,x∈l->bB (lnR d x.Name)=true:=fun x hx=>by
 unfold lB at h
 cases c:l.any (fun x=>decide (lnT d x.Name=bs [])) with
 |true=>rw [c] at h;cases h
 |false=>
  rw [ei] at c
  have h2:=c x hx
  cases k:bB (lnR d x.Name) with
  |true=>rfl
  |false=>exact absurd (al (ln_no (d:=d) (a:=x.Name) (by show ¬bB (lnR d x.Name)=true;rw [k];simp))) (by simpa using h2)
def good_all (h1:lB d.Name d.Dims=0) (h2:lB d.Name d.Red=0):∀s,s∈bD d->bB (lnR d.Name s)=true:=fun s hs=>by
 rw [zRq] at hs
 obtain ⟨a,ha,rfl⟩:=aX.1 hs
 rcases ao.1 ha with k|k
 ·exact nmd_good h1 a k
 ·exact nmd_good h2 a k
def lnT_R (h:∀s,s∈bD d->bB (lnR d.Name s)=true):(bD d).map (lnT d.Name)=(bD d).map (lnR d.Name):=
 dn fun s hs=>ln_ne (h s hs)
def lnT_nodup (hn:(bD d).Nodup) (h:∀s,s∈bD d->bB (lnR d.Name s)=true):((bD d).map (lnT d.Name)).Nodup:=by
 rw [lnT_R h]
 unfold List.Nodup at *
 rw [ey]
 exact hn.imp fun k e=>k (lnR_inj d.Name _ _ e)
def body_szF (hv:(bK p).2=0) (hd:d∈p.Defs) (hR:d.Body.allF Lf.rng) (h:dA (fun s=>⟨gC env s,[]⟩) p.Sizes d.Body=.ok b):b.allF (szF [] (bD d)):=by
 have td:=(pre_def hv (bn hd).choose_spec).1
 have vd:=valid_lin (zLe (by rw [td])).1
 have kd:=zVb (n:=p.en) (vars:=bD d) (e:=d.Body) (by rw [td])
 have hS:=zOb _ _ (by have h2:=hv;rw [zFm] at h2;exact (zFu h2).2.1)
 have hF:d.Body.allF (szF p.Sizes (bD d)):=fun x hx l hl=>⟨vd x hx l hl,hR x hx l hl,fun m hm=>by
  have hk:=kd x hx l hl m hm
  unfold knB at hk
  rw [aE] at hk
  rcases hk with hk|hk
  ·exact .inr (zEb.1 hk)
  ·exact .inl (zEb.1 hk)⟩
 exact sz_seq (A:=bD d) (u:=fun s=>⟨gC env s,[]⟩) (fun s=>⟨rfl,rfl⟩) p.Sizes d.Body b hS hF h
def body_swp (A:List nn) (h:b.allF (szF [] (bD d))):b.allF (rX A (bD d)):=zKm h fun l hl=>⟨hl.1,fun m hm k=>by
 rcases hl.2.2 m hm with q|q
 ·cases q
 ·exact absurd q k⟩
def env_rng (h:∀x,x∈env->r64 x.Val) (s:nn):r64 (gC env s):=by
 unfold gC
 have:∀env:List Bd,(∀x,x∈env->r64 x.Val)->r64 ((lM env s).getD 0):=by
  intro env
  induction env with
  |nil=>intro _;rw [lM];unfold r64;decide
  |cons y r ih=>
   intro h
   rw [lM]
   split
   ·exact h y uF
   ·exact ih fun x hx=>h x (by simp [hx])
 exact this env h
def envD_at {x:Bd} (h:env[k]? =some x) (hs:x.Name=s) (hn:(env.take k).any (fun y=>decide (y.Name=s))=false):gC env s=x.Val:=by
 unfold gC;rw [env_at h hs hn];rfl
def envD_no (hn:env.any (fun y=>decide (y.Name=s))=false):gC env s=0:=by
 unfold gC;rw [env_no hn];rfl
def axn_size (hv:(bK p).2=0) (hd:d∈p.Defs):∀x,x∈d.Dims++d.Red->x.Name.size<=16:=fun x hx=>
 zPo (zOr hv d hd x.Name (by rw [zRq];exact fy hx))
/-! ## What a valid program's definitions are -/
def defR_fold {n:En} {t:List nn} (h:nB n d t=0):pB d=0/\dE d.Name t=0:=by
 unfold nB at h
 split at h
 ·rename_i h1
  split at h
  ·split at h
   ·cases h
   ·split at h
    ·split at h
     ·rename_i h2;exact ⟨h2,h1⟩
     ·rename_i h2;exact absurd h h2
    ·rename_i h2;exact absurd h h2
  ·cases h
 ·rename_i h1;exact absurd h h1
def findD_get {s:nn}:∀(l:List Df) (i:Nat) (d:Df),l[i]? =some d->d.Name=s->(∀y,y∈l.take i->y.Name≠s)->dY s l=⟨d.T,d.Dims.map Ax.Size,true⟩
 |[],i,d,h,_,_=>by simp at h
 |x::r,0,d,h,hs,_=>by
  rw [gi,ax] at h
  subst h
  rw [dY,al hs];rfl
 |x::r,i+1,d,h,hs,hn=>by
  rw [dY,am (hn x uF),av]
  exact findD_get r i d (by simpa using h) hs fun y hy=>hn y (by rw [au];simp [hy])
def findP_no {s:nn} {ds:List Df}:∀(l:List Pm),(∀x,x∈l->x.Name≠s)->fV s ds l=dY s ds
 |[],_=>rfl
 |x::r,h=>by rw [fV,am (h x uF),av];exact findP_no r fun y hy=>h y (by simp [hy])
variable {i:Nat}
def valid_dR (h:(bK p).2=0) (hd:p.Defs[i]? =some d):nB ⟨p.Sizes,p.Params,p.Defs.take i⟩ d (p.Sizes++p.Params.map Pm.Name++(p.Defs.take i).map Df.Name)=0:=by
 rw [zFm] at h
 obtain ⟨a',h5,_⟩:=zFe p p rfl p.Params _ _ (zFu h).2.2.2
 have:=zKh p p.Defs _ _ _ h5 i d hd
 simpa using this
def zMr (h:(bK p).2=0) (hd:p.Defs[i]? =some d):p.en.find d.Name=⟨d.T,d.Dims.map Ax.Size,true⟩:=by
 have hn:=nameR_not (defR_fold (valid_dR h hd)).2
 show fV d.Name p.Defs p.Params=_
 rw [findP_no p.Params fun x hx e=>hn (by rw [←e];simp;exact .inr (.inl ⟨x,hx,rfl⟩))]
 exact findD_get p.Defs i d hd rfl fun y hy e=>hn (by rw [←e,ao];exact .inr (fy hy))
def valid_five (h:(bK p).2=0) (hd:d∈p.Defs) (h5:d.Fold=5):0<d.Dims.length:=by
 obtain ⟨i,hi⟩:=bn hd
 have hf:=(defR_fold (valid_dR h hi)).1
 unfold pB at hf
 split at hf
 ·cases hf
 ·split at hf
  ·cases hf
  ·rename_i c;exact Nat.pos_of_ne_zero fun e=>c (.inr ⟨h5,e⟩)
def k_rng {k:Int} (h:r64 k):(⟨k,[]⟩:Lf).rng:=⟨h,fun m hm=>by cases hm⟩
/-! ## Def,branch by branch -/
def dimL_2 (p:Pg) (env:List Bd) (s:nn):(mU p env s).2=jQ p env s:=by
 unfold mU;split
 ·rename_i c;rw [c]
 ·rfl
def dimL_1 (h:jQ p env s=0):(mU p env s).1=dU env (p.en.find s).dims:=by unfold mU;rw [ab h]
def zUf (h1:(bK p).2=0) (h2:lX p env=0):rM p env s=((mU p env s).1,jQ p env s):=by
 rw [←dimL_2];unfold rM;rw [ab h1,ab h2]
def lowD_v {i:Int} (h:¬(bK p).2=0):sE p env i=.error (bK p).2:=ab h
def lowD_z {i:Int} (h:(bK p).2=0) (h2:¬lX p env=0):sE p env i=.error (lX p env):=by
 unfold sE;rw [aa (fun q=>q h),ab h2]
def lowD_n {i:Int} (h:(bK p).2=0) (h2:lX p env=0) (h3:i<0∨(p.Defs.length:Int)<=i):sE p env i=.error 9:=by
 unfold sE;rw [aa (fun q=>q h),aa (fun q=>q h2),ab h3]
def lowD_at (h:(bK p).2=0) (h2:lX p env=0) (h3:p.Defs[i]? =some d):sE p env (i:Int)=gZ p env d:=by
 have:=(af.1 h3).1
 unfold sE;rw [aa (fun q=>q h),aa (fun q=>q h2),aa zB,bq,h3]
def lowE_d (h:¬jQ p env d.Name=0):gZ p env d=.error (jQ p env d.Name):=ab h
def lowE_e (h:jQ p env d.Name=0) (h2:¬fG env (d.Red.map Ax.Size)=0):gZ p env d=.error (fG env (d.Red.map Ax.Size)):=by
 unfold gZ;rw [aa (fun q=>q h),ab h2]
def nmd_7 {d:nn} (h:¬lB d l=0):lB d l=7:=by
 unfold lB at h⊢;split at h
 ·rename_i c;rw [ab c]
 ·exact absurd rfl h
def lowE_1 (h:jQ p env d.Name=0) (h2:fG env (d.Red.map Ax.Size)=0) (h3:¬lB d.Name d.Dims=0):gZ p env d=.error 7:=by
 unfold gZ;rw [aa (fun q=>q h),aa (fun q=>q h2),ab h3]
def lowE_2 (h:jQ p env d.Name=0) (h2:fG env (d.Red.map Ax.Size)=0) (h3:lB d.Name d.Dims=0) (h4:¬lB d.Name d.Red=0):gZ p env d=.error 7:=by
 unfold gZ;rw [aa (fun q=>q h),aa (fun q=>q h2),aa (fun q=>q h3),ab h4]
def lowE_b (h:jQ p env d.Name=0) (h2:fG env (d.Red.map Ax.Size)=0) (h3:lB d.Name d.Dims=0) (h4:lB d.Name d.Red=0):gZ p env d=nY p env d:=by
 unfold gZ;rw [aa (fun q=>q h),aa (fun q=>q h2),aa (fun q=>q h3),aa (fun q=>q h4)]
def lowB_e (h:dA (fun s=>⟨gC env s,[]⟩) p.Sizes d.Body=.error x):nY p env d=.error x:=by unfold nY;rw [h]
def lowB_s (h:dA (fun s=>⟨gC env s,[]⟩) p.Sizes d.Body=.ok b):nY p env d=stT d (lC p env d) (tM env d) (gEx (gK ((bD d).map (lnT d.Name)) (bD d)) b):=by unfold nY;rw [h];rfl
def lDims_len (h:(bK p).2=0) (hd:d∈p.Defs):(lC p env d).length=d.Dims.length:=by
 obtain ⟨i,hi⟩:=bn hd
 unfold lC gR dU;rw [zMr h hi,lLm,ia,lLm,lLm];omega
def lRed_len:(tM env d).length<=d.Red.length:=nmd_len _ _ _
def one_ok_ns {l:List St} (hS:p.Sm) (hd:d∈p.Defs) (hv:(bK p).2=0) (hR:d.Body.allF Lf.rng) (h:nY p env d=.ok l):Ns.Ok ⟨[],l⟩:=by
 have h1:=low_wt hR h
 have h2:=(hS.ds d hd).2.2
 have h3:=zLd hv d hd
 exact ⟨bu _,(fun b hb=>by cases hb),show bS l<=_ by omega⟩
/-! ## Prog,branch by branch -/
def lowP_v (h:¬(bK p).2=0):pJ p env=(⟨[],[]⟩,(bK p).2):=ab h
def lowP_z (h:(bK p).2=0) (h2:¬lX p env=0):pJ p env=(⟨[],[]⟩,lX p env):=by
 unfold pJ;rw [aa (fun q=>q h),ab h2]
def lowP_a (h:(bK p).2=0) (h2:lX p env=0) (hs:p.Outs[k]? =some s) (h3:(p.Params.any fun x=>decide (x.Name=s))=true):pJ p env=(⟨[],[]⟩,1):=by
 unfold pJ;rw [aa (fun q=>q h),aa (fun q=>q h2),ab (dm.2 ⟨s,qD hs,h3⟩)]
section
variable {p:Pg} {env:List Bd} (h:(bK p).2=0) (h2:lX p env=0) (h3:(p.Outs.any fun s=>p.Params.any fun x=>decide (x.Name=s))=false)
include h h2 h3
def lowP_p {x:Int} (h4:nK p env p.Params=x) (hx:¬x=0):pJ p env=(⟨[],[]⟩,x):=by
 unfold pJ;rw [aa (fun q=>q h),aa (fun q=>q h2),aa (by rw [h3];simp),ab (by rw [h4];exact hx),h4]
def lowP_d {x:Int} (h4:nK p env p.Params=0) (h5:nC p env p.Defs=x) (hx:x≠0):pJ p env=(⟨[],[]⟩,x):=by
 unfold pJ;rw [aa (fun q=>q h),aa (fun q=>q h2),aa (by rw [h3];simp),aa (fun q=>q h4),ab (by rw [h5];exact hx),h5]
def lowP_n (h4:nK p env p.Params=0) (h5:nC p env p.Defs=0) (h6:¬(jX (sD p env)).2=0):pJ p env=(⟨[],[]⟩,(jX (sD p env)).2):=by
 unfold pJ;rw [aa (fun q=>q h),aa (fun q=>q h2),aa (by rw [h3];simp),aa (fun q=>q h4),aa (fun q=>q h5),ab h6]
def lowP_ok (h4:nK p env p.Params=0) (h5:nC p env p.Defs=0) (h6:(jX (sD p env)).2=0):pJ p env=(sD p env,0):=by
 unfold pJ;rw [aa (fun q=>q h),aa (fun q=>q h2),aa (by rw [h3];simp),aa (fun q=>q h4),aa (fun q=>q h5),aa (fun q=>q h6)]
end
def prm_next {l:List Pm} {x:Pm} (hx:l[k]? =some x) (h:nK p env l=nK p env (l.drop k)) (c:jQ p env x.Name=0):nK p env l=nK p env (l.drop (k+1)):=by
 rw [h,qJ hx,nK,ab c]
def prm_err {l:List Pm} {x:Pm} (hx:l[k]? =some x) (h:nK p env l=nK p env (l.drop k)) (c:¬jQ p env x.Name=0):nK p env l=jQ p env x.Name:=by
 rw [h,qJ hx,nK,aa c]
def prm_end {l:List Pm} (h:nK p env l=nK p env (l.drop k)) (hk:l.length<=k):nK p env l=0:=by rw [h,bk hk];rfl
def def_next {l:List Df} {x:List St} (hx:l[k]? =some d) (h:nC p env l=nC p env (l.drop k)) (c:gZ p env d=.ok x):nC p env l=nC p env (l.drop (k+1)):=by
 rw [h,qJ hx,nC,c]
def def_err {l:List Df} (hx:l[k]? =some d) (h:nC p env l=nC p env (l.drop k)) (c:gZ p env d=.error x):nC p env l=x:=by
 rw [h,qJ hx,nC,c]
def def_end {l:List Df} (h:nC p env l=nC p env (l.drop k)) (hk:l.length<=k):nC p env l=0:=by rw [h,bk hk];rfl
def lowE_ne (h:gZ p env d=.error x):x≠0:=by
 by_cases c1:jQ p env d.Name=0
 ·by_cases c2:fG env (d.Red.map Ax.Size)=0
  ·by_cases c3:lB d.Name d.Dims=0
   ·by_cases c4:lB d.Name d.Red=0
    ·rw [lowE_b c1 c2 c3 c4] at h
     cases hb:dA (fun s=>(⟨gC env s,[]⟩:Lf)) p.Sizes d.Body with
     |error y=>rw [lowB_e hb] at h;injection h with h;rw [←h];exact sb_ne hb
     |ok b=>rw [lowB_s hb] at h;exact st_ne h
    ·rw [lowE_2 c1 c2 c3 c4] at h;injection h with h;rw [←h];decide
   ·rw [lowE_1 c1 c2 c3] at h;injection h with h;rw [←h];decide
  ·rw [lowE_e c1 c2] at h;injection h with h;rw [←h];exact c2
 ·rw [lowE_d c1] at h;injection h with h;rw [←h];exact c1
def lowE_dim {x:List St} (h:gZ p env d=.ok x):jQ p env d.Name=0:=by
 by_cases c1:jQ p env d.Name=0
 ·exact c1
 ·rw [lowE_d c1] at h;cases h
def buf_2 (c:bQ p.Outs d.Name=true):nI p env d=⟨d.Name,d.T,dU env (p.en.find d.Name).dims,2⟩:=by unfold nI;rw [ab c]
def buf_3 (c:bQ p.Outs d.Name=false):nI p env d=⟨d.Name,d.T,dU env (p.en.find d.Name).dims,3⟩:=by unfold nI;rw [aa (by rw [c];simp)]
def sts_one {x:List St} (hS:p.Sm) (hv:(bK p).2=0) (hR:∀d,d∈p.Defs->d.Body.allF Lf.rng) (hd:d∈p.Defs) (hx:gZ p env d=.ok x):bS x<=3200:=by
 have h1:=low_wt (hR d hd) (low_e hx)
 have h2:=(hS.ds d hd).2.2
 have h3:=zLd hv d hd
 omega
def sts_lenW {x:List St} (hS:p.Sm) (hv:(bK p).2=0) (hR:∀d,d∈p.Defs->d.Body.allF Lf.rng) (h9:bS ((p.Defs.take j).flatMap fun d=>nL (gZ p env d))<=j*3200) (hd:p.Defs[j]? =some d) (hx:gZ p env d=.ok x):
  bS ((p.Defs.take (j+1)).flatMap fun d=>nL (gZ p env d))<=(j+1)*3200:=by
 have h1:=sts_one hS hv hR (qD hd) hx
 rw [yA hd,dp,lm,hx,zLf]
 show _+bS x<=_
 omega
def low_r1 {x:List St} (hd:p.Defs[j]? =some d) (hx:gZ p env d=.ok x):((p.Defs.take (j+1)).flatMap fun d=>nL (gZ p env d)).map St.cells=((p.Defs.take j).flatMap fun d=>nL (gZ p env d)).map St.cells++x.map St.cells:=by
 rw [yA hd,dp,lm,hx,ah];rfl
def low_r2 {b:Bf} (hd:p.Defs[j]? =some d) (hb:nI p env d=b):(p.Params.map (sL p env)++(p.Defs.take (j+1)).map (nI p env)).map Bf.cells=(p.Params.map (sL p env)++(p.Defs.take j).map (nI p env)).map Bf.cells++[b.cells]:=by
 rw [yA hd,ah (f:=nI p env),mf,hb,←lAa,ah (l₂:=[b]),mf]
instance (l:Lf):Decidable l.rng:=by unfold Lf.rng r64;infer_instance
def x_env:∀x,x∈xV->r64 x.Val:=fun x hx=>by
 rw [aR.1 hx];exact show-9223372036854775808<=(3:Int)/\(3:Int)<=9223372036854775807 by decide
def x_sm1:(xP 1).Sm:=⟨uA,uA,uA,uA,uA,⟨(fun c hc=>by cases hc),(by decide+kernel),(by decide+kernel)⟩,(by decide+kernel),(by decide+kernel)⟩
def x_sm4:(xP 4).Sm:=⟨uA,uA,uA,uA,uA,⟨(fun c hc=>by cases hc),(by decide+kernel),(by decide+kernel)⟩,(by decide+kernel),(by decide+kernel)⟩
def x_body:xBody.allF Lf.rng:=(by decide+kernel:∀x,x∈dQ xBody->∀l,l∈dD x->l.rng)
def x_rng1:(xP 1).Rng:=⟨(fun c hc=>by cases hc),(by decide+kernel),(fun d hd=>by rw [aR.1 hd];exact ⟨(fun a ha=>by cases ha),(by decide+kernel:∀a,a∈(xD 1).Red->a.Size.rng),x_body⟩)⟩
def x_rng4:(xP 4).Rng:=⟨(fun c hc=>by cases hc),(by decide+kernel),(fun d hd=>by rw [aR.1 hd];exact ⟨(fun a ha=>by cases ha),(by decide+kernel:∀a,a∈(xD 1).Red->a.Size.rng),x_body⟩)⟩
def x_ln:lnT (bs [115]) (bs [106])=sj:=by decide+kernel
end Go.Br
end
section
set_option maxRecDepth 100000
namespace Go.Br
open Go Go.Eng Go.L41
def dgV:List Nat->Nat
 |[]=>0
 |d::r=>d+4294967296*dgV r
def gU (l:List Nat):Prop:=∀d,d∈l->d<4294967296
def dgV_app:∀(a b:List Nat),dgV (a++b)=dgV a+4294967296^a.length*dgV b
 |[],b=>by simp [dgV]
 |d::r,b=>by
  rw [lCa,dgV,dgV,dgV_app r b,lLc,i9,ki,ix,gl (4294967296^r.length) 4294967296,ga]
def dgV_lt:∀{l:List Nat},gU l->dgV l<4294967296^l.length
 |[],_=>by simp [dgV]
 |d::r,h=>by
  have h1:=h d uF
  have h2:=dgV_lt (l:=r) fun x hx=>h x (by simp [hx])
  rw [dgV,lLc,i9,gl (4294967296^r.length)]
  omega
variable {l:List Nat} {i d:Nat}
def dg_split (h:l[i]? =some d):dgV l=dgV (l.take i)+4294967296^i*(d+4294967296*dgV (l.drop (i+1))):=by
 have hl:=(af.1 h).1
 have e:l=l.take i++d::l.drop (i+1):=by rw [←qJ h,aZ]
 have e2:dgV l=dgV (l.take i++d::l.drop (i+1)):=ai dgV e
 rw [e2,dgV_app,aq,bf zB,dgV]
variable {x:Nat}
def dgOk_set (h:gU l) (hx:x<4294967296):gU (l.set i x):=fun d hd=>by
 rcases fw hd with k|k
 ·exact h d k
 ·rw [k];exact hx
/-! ## Adding a number -/
def lW:List Nat->Nat->Nat->List Nat
 |[],_,_=>[]
 |d::r,c,n=>(d+n%4294967296+c)%4294967296::lW r ((d+n%4294967296+c)/4294967296) (n/4294967296)
def dgAdd_v:∀(l:List Nat) (c n:Nat),gU l->(∃q,dgV (lW l c n)+q*4294967296^l.length=dgV l+c+n)/\gU (lW l c n)/\(lW l c n).length=l.length
 |[],c,n,_=>⟨⟨c+n,by simp [dgV,lW]⟩,(fun d hd=>by cases hd),rfl⟩
 |d::r,c,n,h=>by
  obtain ⟨⟨q,hq⟩,h2,h3⟩:=dgAdd_v r ((d+n%4294967296+c)/4294967296) (n/4294967296) fun x hx=>h x (by simp [hx])
  refine ⟨⟨q,?_⟩,fun x hx=>?_,by rw [lW,lLc,h3,lLc]⟩
  ·rw [lW,dgV,dgV,lLc,i9,←ga]
   generalize dgV (lW r ((d+n%4294967296+c)/4294967296) (n/4294967296))=X at *
   generalize q*4294967296^r.length=Y at *
   omega
  ·rw [lW] at hx
   rcases ag.1 hx with rfl|hx
   ·exact gv _ uA
   ·exact h2 x hx
def jF (w:List Nat) (at_ N:Nat):List Nat:=w.take at_++lW (w.drop at_) 0 N
variable {w:List Nat}
def zFj {at_ N:Nat} (h:w.length=6) (hw:gU w):(jF w at_ N).length=6:=by
 unfold jF
 rw [lLa,(dgAdd_v _ 0 N fun d hd=>hw d (lMd hd)).2.2,←lLa,aZ,h]
def zCz {at_ N:Nat} (hw:gU w):gU (jF w at_ N):=fun d hd=>by
 unfold jF at hd
 rcases ao.1 hd with k|k
 ·exact hw d (ez k)
 ·exact (dgAdd_v _ 0 N fun d hd=>hw d (lMd hd)).2.1 d k
def dgt_v {at_ N:Nat} (h:w.length=6) (hw:gU w) (ha:at_<=6) (hb:dgV w+N*4294967296^at_<6277101735386680763835789423207666416102355444464034512896):dgV (jF w at_ N)=dgV w+N*4294967296^at_:=by
 obtain ⟨⟨q,hq⟩,h2,h3⟩:=dgAdd_v (w.drop at_) 0 N fun d hd=>hw d (lMd hd)
 have e:dgV w=dgV (w.take at_)+4294967296^at_*dgV (w.drop at_):=by
  have:=dgV_app (w.take at_) (w.drop at_)
  rw [aZ,aq,bf zB] at this
  exact this
 have e2:dgV (jF w at_ N)=dgV (w.take at_)+4294967296^at_*dgV (lW (w.drop at_) 0 N):=by
  have:=dgV_app (w.take at_) (lW (w.drop at_) 0 N)
  rw [aq,bf zB] at this
  exact this
 have e3:=ai (fun x=>4294967296^at_*x) hq
 simp only [ki,Nat.mul_zero,lj,cq,h] at e3
 have e4:4294967296^at_*(q*4294967296^(6-at_))=q*6277101735386680763835789423207666416102355444464034512896:=by
  rw [←ga,gl (4294967296^at_) q,ga,←Nat.pow_add,show at_+(6-at_)=6 by omega]
 rw [e4,gl (4294967296^at_) N] at e3
 rw [e2]
 generalize dgV (jF w at_ N)=A at *
 generalize 4294967296^at_*dgV (lW (w.drop at_) 0 N)=X at *
 generalize 4294967296^at_*dgV (w.drop at_)=Y at *
 generalize N*4294967296^at_=Z at *
 exact v41
variable {c:Nat} {ds:List Nat} {n:Nat}
def dgt_next {at_ N:Nat} (h:jF w at_ N=ds.take i++lW (ds.drop i) c n) (hd:ds[i]? =some d):
  jF w at_ N=(ds.set i ((d+n%4294967296+c)%4294967296)).take (i+1)++lW ((ds.set i ((d+n%4294967296+c)%4294967296)).drop (i+1)) ((d+n%4294967296+c)/4294967296) (n/4294967296):=by
 have hl:=(af.1 hd).1
 rw [h,qJ hd,lW,jo zB,yA (x:=(d+n%4294967296+c)%4294967296) (by rw [bc hl]),jm (aA i),lAa];rfl
def dgt_end {at_ N:Nat} (h:jF w at_ N=ds.take i++lW (ds.drop i) c n) (hl:ds.length<=i):jF w at_ N=ds:=by
 rw [h,aB hl,bk hl,lW,lAn]
def vC (w:List Nat) (a b:Nat):List Nat:=jF (jF (jF (jF w 0 (a%4294967296*(b%4294967296))) 1 (a%4294967296*(b/4294967296))) 1 (a/4294967296*(b%4294967296))) 2 (a/4294967296*(b/4294967296))
def zGi {a b:Nat} (h:w.length=6) (hw:gU w):(vC w a b).length=6/\gU (vC w a b):=
 ⟨zFj (zFj (zFj (zFj h hw) (zCz hw)) (zCz (zCz hw))) (zCz (zCz (zCz hw))),zCz (zCz (zCz (zCz hw)))⟩
def plu_v {a b:Nat} (h:w.length=6) (hw:gU w) (hb:dgV w+a*b<6277101735386680763835789423207666416102355444464034512896):dgV (vC w a b)=dgV w+a*b:=by
 have hp:=zWc a b
 have h0:(4294967296:Nat)^0=1:=by decide
 have h1:(4294967296:Nat)^1=4294967296:=by decide
 have h2:(4294967296:Nat)^2=18446744073709551616:=by decide
 unfold vC
 have e1:=dgt_v (w:=w) (at_:=0) (N:=a%4294967296*(b%4294967296)) h hw uA (by rw [h0];omega)
 have e2:=dgt_v (w:=jF w 0 (a%4294967296*(b%4294967296))) (at_:=1) (N:=a%4294967296*(b/4294967296)) (zFj h hw) (zCz hw) uA (by rw [e1,h0,h1];omega)
 have e3:=dgt_v (at_:=1) (N:=a/4294967296*(b%4294967296)) (zFj (at_:=1) (N:=a%4294967296*(b/4294967296)) (zFj (at_:=0) (N:=a%4294967296*(b%4294967296)) h hw) (zCz hw)) (zCz (zCz hw)) uA (by rw [e2,e1,h0,h1];omega)
 have e4:=dgt_v (at_:=2) (N:=a/4294967296*(b/4294967296)) (zFj (at_:=1) (N:=a/4294967296*(b%4294967296)) (zFj (at_:=1) (N:=a%4294967296*(b/4294967296)) (zFj (at_:=0) (N:=a%4294967296*(b%4294967296)) h hw) (zCz hw)) (zCz (zCz hw))) (zCz (zCz (zCz hw))) uA (by rw [e3,e2,e1,h0,h1,h2];omega)
 rw [e4,e3,e2,e1,h0,h1,h2]
 omega
variable {a b:List Nat}
/-! ## Comparing -/
def dg_less {y:Nat} (hl:a.length=b.length) (ha:gU a) (hb:gU b) (hx:a[i]? =some x) (hy:b[i]? =some y) (hne:¬x=y) (hd:a.drop (i+1)=b.drop (i+1)):decide (x<y)=decide (dgV a<dgV b):=by
 have h1:=dg_split hx
 have h2:=dg_split hy
 have hla:=(af.1 hx).1
 have t1:=dgV_lt (l:=a.take i) fun d hd=>ha d (ez hd)
 have t2:=dgV_lt (l:=b.take i) fun d hd=>hb d (ez hd)
 rw [aq,bf zB] at t1 t2
 rw [hd] at h1
 generalize dgV (b.drop (i+1))=D at *
 generalize dgV (a.take i)=p at *
 generalize dgV (b.take i)=q at *
 generalize (4294967296:Nat)^i=B at *
 by_cases c:x<y
 ·have h3:B*(x+4294967296*D)+B<=B*(y+4294967296*D):=by
   rw [show B*(x+4294967296*D)+B=B*(x+4294967296*D+1) from (Nat.mul_succ B _).symm]
   exact jl _ zB
  rw [al c,al zB]
 ·have h3:B*(y+4294967296*D)+B<=B*(x+4294967296*D):=by
   rw [show B*(y+4294967296*D)+B=B*(y+4294967296*D+1) from (Nat.mul_succ B _).symm]
   exact jl _ zB
  rw [am c,am zB]
def dg_step (hx:a[i]? =some x) (hy:b[i]? =some x) (hd:a.drop (i+1)=b.drop (i+1)):a.drop i=b.drop i:=by rw [qJ hx,qJ hy,hd]
def dg_same (hd:a.drop 0=b.drop 0):decide (dgV a<dgV b)=false:=by
 rw [show a=b from hd];exact am (Nat.lt_irrefl _)
/-! ## Subtracting -/
def mE:List Nat->List Nat->Nat->List Nat
 |x::r,y::s,c=>(if x<y+c then x+4294967296-(y+c) else x-(y+c))::mE r s (if x<y+c then 1 else 0)
 |_,_,_=>[]
def dgSub_v:∀(a b:List Nat) (c:Nat),a.length=b.length->gU a->gU b->c<=1->(∃q,dgV (mE a b c)+dgV b+c=dgV a+q*4294967296^a.length)/\gU (mE a b c)/\(mE a b c).length=a.length
 |[],[],c,_,_,_,_=>⟨⟨c,by simp [dgV,mE]⟩,(fun d hd=>by simp [mE] at hd),rfl⟩
 |x::r,y::s,c,hl,ha,hb,hc=>by
  have hx:=ha x uF
  have hy:=hb y uF
  obtain ⟨⟨q,hq⟩,h2,h3⟩:=dgSub_v r s (if x<y+c then 1 else 0) (by simpa using hl) (fun d hd=>ha d (by simp [hd])) (fun d hd=>hb d (by simp [hd])) (by split<;>omega)
  refine ⟨⟨q,?_⟩,fun d hd=>?_,by rw [mE,lLc,h3,lLc]⟩
  ·rw [mE,dgV,dgV,dgV,lLc,i9,←ga]
   generalize dgV (mE r s (if x<y+c then 1 else 0))=X at *
   generalize q*4294967296^r.length=Y at *
   split at hq
   ·rename_i k;rw [ab k];omega
   ·rename_i k;rw [aa k];omega
  ·rw [mE] at hd
   rcases ag.1 hd with rfl|hd
   ·split<;>omega
   ·exact h2 d hd
def vY (a b:List Nat):List Nat:=mE a b 0
def mns_v (h1:a.length=6) (h2:b.length=6) (ha:gU a) (hb:gU b) (hle:dgV b<=dgV a):dgV (vY a b)=dgV a-dgV b/\gU (vY a b)/\(vY a b).length=6:=by
 obtain ⟨⟨q,hq⟩,h3,h4⟩:=dgSub_v a b 0 (h1.trans h2.symm) ha hb uA
 have hlt:=dgV_lt h3
 rw [h4,h1] at hlt
 rw [h1,show (4294967296:Nat)^6=6277101735386680763835789423207666416102355444464034512896 by decide] at hq
 rw [show (4294967296:Nat)^6=6277101735386680763835789423207666416102355444464034512896 by decide] at hlt
 refine ⟨?_,h3,h4.trans h1⟩
 show dgV (mE a b 0)=_
 exact v41
def mns_next {y x' c':Nat} (h:vY a b=ds.take i++mE (ds.drop i) (b.drop i) c) (hx:ds[i]? =some x) (hy:b[i]? =some y) (hx':x'=if x<y+c then x+4294967296-(y+c) else x-(y+c)) (hc':c'=if x<y+c then 1 else 0):
  vY a b=(ds.set i x').take (i+1)++mE ((ds.set i x').drop (i+1)) (b.drop (i+1)) c':=by
 have hl:=(af.1 hx).1
 rw [h,qJ hx,qJ hy,mE,←hx',←hc',jo zB,yA (x:=x') (by rw [bc hl]),jm (aA i),lAa];rfl
def mns_end (h:vY a b=ds.take i++mE (ds.drop i) (b.drop i) c) (hl:ds.length<=i):vY a b=ds:=by
 rw [h,aB hl,bk hl];simp [mE]
/-! ## Cells -/
abbrev cU (n:Nat):C:=.lit (.int .u64 (n:Int))
abbrev vW (l:List Nat):V:=.agg (l.map cU)
variable {k:Nat}
def zIn (h:l[k]? =some d):(l.map cU).drop (0+(k:Int).toNat*1)=cU d::(l.drop (k+1)).map cU:=by
 rw [bz,kh,bq,←List.map_drop,qJ h];rfl
def spl_set {new:C}:∀(l:List C) (k:Nat),k<l.length->spl l k [new]=l.set k new
 |[],k,h=>by simp at h
 |c::r,0,_=>rfl
 |c::r,k+1,h=>by rw [spl,ge,spl_set r k (by simpa using h)]
def dg_spl (h:k<l.length):spl (l.map cU) (0+(k:Int).toNat*1) [cU x]=(l.set k x).map cU:=by
 rw [bz,kh,bq,spl_set _ _ (by rw [lLm];exact h),List.map_set]
def dg_le (h:k<l.length) (x:C):0+(k:Int).toNat*1+[x].length<=(l.map cU).length:=by
 rw [bz,kh,bq,lLm];exact h
def zKv (l:List Nat):(l.map cU).drop 0=l.map cU++[]:=by rw [lAn];rfl
def zDh (h:l.length=6):(l.map cU).length=6:=by rw [lLm];exact h
def zXp {cs:List C} (hc:cs.length=6) (h:l.length=6):spl cs 0 (l.map cU)=l.map cU:=by
 rw [show spl cs 0 (l.map cU)=l.map cU++cs.drop (l.map cU).length by cases cs<;>rfl]
 rw [bk (by rw [lLm];omega),lAn]
def zXr (h:l.length=6):Nat.beq (l.map cU).length 6=true:=by rw [lLm,h];rfl
def zXq {cs:List C} (hc:cs.length=6) (h:l.length=6):0+(l.map cU).length<=cs.length:=by rw [lLm];omega
/-! ## The value of a form -/
def dg_six (h:l.length=6):∃a b c d e f,l=[a,b,c,d,e,f]:=by
 match l,h with
 |[a,b,c,d,e,f],_=>exact ⟨a,b,c,d,e,f,rfl⟩
structure ErJ (l:Lf) (env:List Bd) (k:Nat) (p q:List Nat) (z:Int):Prop where
 pl:p.length=6
 ql:q.length=6
 po:gU p
 qo:gU q
 ev:evM env (l.L.take k)=some z
 v:(dgV p:Int)-(dgV q:Int)=l.K+z
 pb:dgV p<=9223372036854775808+k*85070591730234615865843651857942052864
 qb:dgV q<=9223372036854775808+k*85070591730234615865843651857942052864
def bd_next {a b:Nat} (h:a<=c+k*b):a<=c+(k+1)*b:=aL h (Nat.add_le_add_left (c0 _ (Nat.le_succ k)) _)
def bd_add {a a' b:Nat} (h:a<=c+k*b) (e:a'=a+n) (hn:n<=b):a'<=c+(k+1)*b:=by
 rw [e,gg,Nat.one_mul,←ix]
 exact Nat.add_le_add h hn
variable {z:Int}
def er_sub {a b b':Nat} {K P:Int} (h:(a:Int)-(b:Int)=K+z) (h3:b'=b+n) (he:P= -((n:Nat):Int)):(a:Int)-(b':Int)=K+(z+P):=by omega
def er_add {a b a':Nat} {K P:Int} (h:(a:Int)-(b:Int)=K+z) (h3:a'=a+n) (he:P=((n:Nat):Int)):(a':Int)-(b:Int)=K+(z+P):=by omega
variable {env:List Bd} {p q:List Nat}
def er_neg {l:Lf} {q':List Nat} {v:Int} {m:Mono} (hl:l.rng) (h:ErJ l env k p q z) (hm:l.L[k]? =some m) (hv:lM env m.Name=some v) (hr:r64 v) (hs:¬(decide (v<0)=decide (m.By<0))) (h1:q'.length=6) (h2:gU q') (h3:dgV q'=dgV q+v.natAbs*m.By.natAbs):ErJ l env (k+1) p q' (z+m.By*v):=by
 have hb:=abs_bd (hl.2 m (qD hm)) hr
 have he:=mul_abs (x:=m.By) (y:=v)
 rw [ab (by cases c1:decide (v<0)<;>cases c2:decide (m.By<0)<;>simp_all)] at he
 rw [zFl] at hb
 rw [gl] at h3
 exact ⟨h.pl,h1,h.po,h2,evM_next hm h.ev hv,er_sub h.v h3 he,bd_next h.pb,bd_add h.qb h3 hb⟩
def er_pos {l:Lf} {p':List Nat} {v:Int} {m:Mono} (hl:l.rng) (h:ErJ l env k p q z) (hm:l.L[k]? =some m) (hv:lM env m.Name=some v) (hr:r64 v) (hs:decide (v<0)=decide (m.By<0)) (h1:p'.length=6) (h2:gU p') (h3:dgV p'=dgV p+v.natAbs*m.By.natAbs):ErJ l env (k+1) p' q (z+m.By*v):=by
 have hb:=abs_bd (hl.2 m (qD hm)) hr
 have he:=mul_abs (x:=m.By) (y:=v)
 rw [aa (by cases c1:decide (v<0)<;>cases c2:decide (m.By<0)<;>simp_all)] at he
 rw [zFl] at hb
 rw [gl] at h3
 exact ⟨h1,h.ql,h2,h.qo,evM_next hm h.ev hv,er_add h.v h3 he,bd_add h.pb h3 hb,bd_next h.qb⟩
def er_first {l:Lf} (hk:r64 l.K) (h1:p.length=6) (h2:gU p) (h3:q.length=6) (h4:gU q) (h5:(dgV p:Int)-(dgV q:Int)=l.K) (h6:dgV p<=l.K.natAbs) (h7:dgV q<=l.K.natAbs):ErJ l env 0 p q 0:=by
 have:=zBt hk
 exact ⟨h1,h3,h2,h4,rfl,zB,zB,zB⟩
def er_val {l:Lf} (h:ErJ l env k p q z) (hk:l.L.length<=k) (hl:dH l=0):dR l env=if r64 ((dgV p:Int)-(dgV q:Int)) then ((dgV p:Int)-(dgV q:Int),0) else (0,3):=by
 have hz:=h.ev
 rw [yI zB] at hz
 unfold dR
 rw [ab hl,hz,h.v]
 rfl
variable {e f:Nat}
def dg_big {a b:Nat} (ho:gU [a,b,c,d,e,f]):(c=0/\d=0/\e=0/\f=0->dgV [a,b,c,d,e,f]=a+b*4294967296)/\(¬(c=0/\d=0/\e=0/\f=0)->18446744073709551616<=dgV [a,b,c,d,e,f])/\a+b*4294967296<18446744073709551616:=by
 have h1:=ho a uF
 have h2:=ho b uF
 simp only [dgV]
 refine ⟨fun ⟨h3,h4,h5,h6⟩=>?_,fun h=>?_,zB⟩
 ·subst h3 h4 h5 h6;omega
 ·omega
def dg0:List Nat:=[0,0,0,0,0,0]
def zTk:gU dg0:=fun d hd=>by
 simp only [dg0,lMc,aG,cj] at hd
 omega
def d0_v:dgV dg0=0:=by decide
def bne_t {a b:Bool} (h:(!(a==b))=true):¬(a=b):=by intro e;subst e;simp at h
def bne_f {a b:Bool} (h:(!(a==b))=false):a=b:=by simpa using h
def env_r:∀{env:List Bd} {s:nn} {v:Int},(∀x,x∈env->r64 x.Val)->lM env s=some v->r64 v
 |[],_,_,_,h=>by cases h
 |y::r,s,v,hr,h=>by
  rw [lM] at h
  split at h
  ·rw [ax] at h;rw [←h];exact hr y uF
  ·exact env_r (fun x hx=>hr x (by simp [hx])) h
def erP (k:Int):List Nat:=if k<0 then dg0 else vC dg0 k.natAbs 1
def erQ (k:Int):List Nat:=if k<0 then vC dg0 k.natAbs 1 else dg0
def er_start {l:Lf} (hk:r64 l.K):ErJ l env 0 (erP l.K) (erQ l.K) 0:=by
 have hm:=zBt hk
 have hp:=zGi (w:=dg0) (a:=l.K.natAbs) (b:=1) rfl zTk
 have hv:=plu_v (w:=dg0) (a:=l.K.natAbs) (b:=1) rfl zTk (by rw [d0_v];omega)
 rw [d0_v,bz,kh] at hv
 unfold erP erQ
 by_cases c:l.K<0
 ·rw [ab c,ab c]
  exact er_first hk rfl zTk hp.1 hp.2 (by rw [hv,d0_v];omega) (by rw [d0_v];omega) (by rw [hv];omega)
 ·rw [aa c,aa c]
  exact er_first hk hp.1 hp.2 rfl zTk (by rw [hv,d0_v];omega) (by rw [hv];omega) (by rw [d0_v];omega)
def er_bd {P:List Nat} {l:Lf} {v b:Int} (hv:r64 v) (hb:r64 b) (hk:k<=5864062014805) (h:dgV P<=9223372036854775808+k*85070591730234615865843651857942052864):dgV P+v.natAbs*b.natAbs<6277101735386680763835789423207666416102355444464034512896:=by
 have:=abs_bd hv hb
 rw [zFl] at this
 omega
variable {m:Nat}
def er_big {a b:Nat} (ho:gU [a,b,c,d,e,f]) (hv:dgV [a,b,c,d,e,f]=m) (h:¬(c=0/\d=0/\e=0/\f=0)∨9223372036854775808<a+b*4294967296):9223372036854775808<m:=by
 obtain ⟨h1,h2,h3⟩:=dg_big ho
 by_cases k:c=0/\d=0/\e=0/\f=0
 ·have:=h1 k;rcases h with h|h
  ·exact absurd k h
  ·omega
 ·have:=h2 k;omega
def er_big2 {a b:Nat} (ho:gU [a,b,c,d,e,f]) (hv:dgV [a,b,c,d,e,f]=m) (h:¬(c=0/\d=0/\e=0/\f=0)∨9223372036854775807<a+b*4294967296):9223372036854775807<m:=by
 obtain ⟨h1,h2,h3⟩:=dg_big ho
 by_cases k:c=0/\d=0/\e=0/\f=0
 ·have:=h1 k;rcases h with h|h
  ·exact absurd k h
  ·omega
 ·have:=h2 k;omega
def er_small {a b:Nat} (ho:gU [a,b,c,d,e,f]) (hv:dgV [a,b,c,d,e,f]=m) (h:c=0/\d=0/\e=0/\f=0):m=a+b*4294967296:=by
 rw [←hv];exact (dg_big ho).1 h
def er_out {l:Lf} (h:ErJ l env k p q z) (hk:l.L.length<=k) (hl:dH l=0) (hr:¬r64 ((dgV p:Int)-(dgV q:Int))):dR l env=(0,3):=by
 rw [er_val h hk hl,aa hr]
def er_in {l:Lf} {n:Int} (h:ErJ l env k p q z) (hk:l.L.length<=k) (hl:dH l=0) (hn:(dgV p:Int)-(dgV q:Int)=n) (hr:r64 n):dR l env=(n,0):=by
 rw [er_val h hk hl,hn,ab hr]
end Go.Br
end
section
namespace Go.Br
open Go Go.Eng Go.L41
/-! ## Weights while names are replaced -/
def dw_lins {g:Lf->Lf}:∀l:List Lf,(∀x,x∈l->(g x).L.length<=x.L.length+1)->fR (l.map g)<=fR l+l.length
 |[],_=>aA _
 |x::r,h=>by
  rw [aH,fR,fR,lLc]
  have h1:=h x uF
  have h2:=dw_lins r fun y hy=>h y (by simp [hy])
  omega
def dw_ix {g:Lf->Lf} {x:Ix} (h1:(g x.Lin).L.length<=x.Lin.L.length+1) (h2:∀y,y∈x.At->(g y).L.length<=y.L.length+1):(gIx g x).wt<=2*x.wt+1:=by
 have h3:=dw_lins x.At h2
 unfold Ix.wt gIx
 simp only [lLm]
 omega
def dw_idx {g:Ix->Ix}:∀l:List Ix,(∀x,x∈l->(g x).wt<=2*x.wt+1)->fC (l.map g)<=2*fC l+l.length
 |[],_=>aA _
 |x::r,h=>by
  rw [aH,fC,fC,lLc]
  have h1:=h x uF
  have h2:=dw_idx r fun y hy=>h y (by simp [hy])
  omega
def dw_args {g:Ex->Ex}:∀l:List Ex,(∀x,x∈l->(g x).wt<=2*x.wt)->dX (l.map g)<=2*dX l
 |[],_=>aA _
 |x::r,h=>by
  rw [aH,dX,dX]
  have h1:=h x uF
  have h2:=dw_args r fun y hy=>h y (by simp [hy])
  omega
def dw_ex {g:Lf->Lf}:∀{e:Ex},e.allF (fun l=>(g l).L.length<=l.L.length+1)->(gEx g e).wt<=2*e.wt:=by
 intro e
 induction e using Ex.ind with
 |_ e ih=>
  intro h
  have h1:=Ex.allF_lin h
  have h2:=dw_idx (g:=gIx g) e.Idx fun x hx=>dw_ix (Ex.allF_ix h hx) fun y hy=>Ex.allF_at h hx hy
  have h3:=dw_args (g:=gEx g) e.Args fun a ha=>ih a ha (Ex.allF_arg h ha)
  rw [zSv,Ex.wt,Ex.wt_eq e,lLm]
  omega
structure VbJ (V:nn->Lf) (rest:List nn) (R:Except Int Ex) (W:Nat) (e:Ex):Prop where
 sb:R=dA V rest e
 wt:e.wt*2^rest.length<=W
 rg:e.allF Lf.rng
variable {R:Except Int Ex} {e:Ex}
def vbJ_wt {V:nn->Lf} {rest:List nn} {W:Nat} (h:VbJ V rest R W e):e.wt<=W:=
 aL (Nat.le_mul_of_pos_right _ (Nat.pow_pos uA)) h.wt
variable {s:nn}
def vbJ_next {V:nn->Lf} {r:List nn} {W:Nat} (hV:(V s).L.length<=1) (h:VbJ V (s::r) R W e) (he:gG (mEx (fun l=>bU l s (V s)) e)=0):VbJ V r R W (jZ (mEx (fun l=>bU l s (V s)) e)):=by
 obtain ⟨e1,h1⟩:=mEx_0 he
 have h2:sbX e s (V s)=.ok e1:=h1
 rw [h1]
 obtain ⟨q1,q2⟩:=mEx_g h1
 have hw:e1.wt<=2*e.wt:=by
  rw [q1]
  refine dw_ex fun x hx l hl=>?_
  have:=substR_len l (V s) s
  dsimp only
  rw [zJl (h.rg x hx l hl)]
  omega
 refine ⟨by rw [h.sb,dA,h2];rfl,?_,?_⟩
 ·show e1.wt*_<=_
  have h3:=h.wt
  rw [lLc,i9,gl (2^r.length) 2,←ga] at h3
  exact aL (c0 _ zB) h3
 ·show e1.allF _
  rw [q1]
  refine zYi fun x hx l hl=>?_
  dsimp only
  rw [zJl (h.rg x hx l hl)]
  exact zQv s (h.rg x hx l hl)
def vbJ_err {V:nn->Lf} {r:List nn} {W:Nat} (h:VbJ V (s::r) R W e) (he:¬gG (mEx (fun l=>bU l s (V s)) e)=0):R=.error (gG (mEx (fun l=>bU l s (V s)) e)):=by
 rw [h.sb,dA]
 show (match mEx (fun l=>bU l s (V s)) e with|.error x=>Except.error x|.ok e'=>dA V r e')=_
 cases h1:mEx (fun l=>bU l s (V s)) e with
 |error x=>rfl
 |ok e'=>rw [h1] at he;exact absurd rfl he
def vbJ_end {V:nn->Lf} {W:Nat} (h:VbJ V [] R W e):R=.ok e:=h.sb
def sbR {u:Lf} (h:e.allF Lf.rng):mEx (fun l=>bO l s u) e=mEx (fun l=>bU l s u) e:=(mEx_congr (P:=Lf.rng) (fun l hl=>(zJl hl).symm) e h)
def tY (A:List nn) (n i:Nat):List nn:=(A.drop i).filter (fun s=>decide (s.size=n+1))++pR A n
variable {i:Nat} {A:List nn} {n:Nat}
def rst_skip (h:A[i]? =some s) (c:¬s.size=n+1):tY A n i=tY A n (i+1):=by
 unfold tY;rw [qJ h,eg (by simpa using c)]
def rst_hit (h:A[i]? =some s) (c:s.size=n+1):tY A n i=s::tY A n (i+1):=by
 unfold tY;rw [qJ h,fc (by simpa using c)];rfl
def rst_end (h:A.length<=i):tY A n i=pR A n:=by
 unfold tY;rw [bk h];rfl
def fil_two (A:List nn) (n:Nat):(A.filter fun s=>decide (s.size=n+1)).length+(A.filter fun s=>decide (s.size<=n)).length<=(A.filter fun s=>decide (s.size<=n+1)).length:=by
 induction A with
 |nil=>exact aA _
 |cons a r ih=>
  by_cases c1:a.size=n+1
  ·rw [fc (by simpa using c1),eg uD,fc uD]
   simp only [lLc];omega
  ·by_cases c2:a.size<=n
   ·rw [eg (by simpa using c1),fc (by simpa using c2),fc uD]
    simp only [lLc];omega
   ·rw [eg (by simpa using c1),eg (by simpa using c2),eg uD]
    exact ih
def ordR_len (A:List nn):∀n,(pR A n).length<=(A.filter fun s=>decide (s.size<=n)).length
 |0=>bu _
 |n+1=>by
  have h1:=ordR_len A n
  have h2:=fil_two A n
  rw [pR,lLa]
  omega
variable {b:Ex}
def vbJ_first {V:nn->Lf} (hb:b.allF Lf.rng) (hw:b.wt<=1500) (hA:A.length<=12):VbJ V (pR A 16) (dA V (pR A 16) b) 6144000 b:=by
 refine ⟨rfl,?_,hb⟩
 have h1:=aL (ordR_len A 16) (dt _ _)
 have h2:2^(pR A 16).length<=2^12:=jh uA zB
 exact aL (gk hw h2) uA
/-! ## The body -/
def vR (d:Df) (s:nn):Lf:=dF (lnT d.Name s)
def nS (p:Pg) (env:List Bd) (d:Df):Except Int Ex:=
 match dA (fun s=>⟨gC env s,[]⟩) p.Sizes d.Body with
 |.error x=>.error x
 |.ok b=>dA (vR d) (pR (bD d) 16) b
variable {env:List Bd} {d:Df} {p:Pg} {x:Int}
def bodyR_e (h:dA (fun s=>⟨gC env s,[]⟩) p.Sizes d.Body=.error x):nS p env d=.error x:=by unfold nS;rw [h]
def bodyR_s (h:dA (fun s=>⟨gC env s,[]⟩) p.Sizes d.Body=.ok b):nS p env d=dA (vR d) (pR (bD d) 16) b:=by unfold nS;rw [h]
def zVk {u v:nn->Lf}:∀{S:List nn} {e:Ex},(∀s,s∈S->u s=v s)->dA u S e=dA v S e
 |[],_,_=>rfl
 |s::r,e,h=>by
  rw [dA,dA,h s uF]
  cases sbX e s (v s) with
  |error x=>rfl
  |ok e'=>exact zVk fun t ht=>h t (by simp [ht])
def bodyR_ok (hv:(bK p).2=0) (hd:d∈p.Defs) (hR:d.Body.allF Lf.rng) (hn:∀s,s∈bD d->bB (lnR d.Name s)=true) (h:dA (fun s=>⟨gC env s,[]⟩) p.Sizes d.Body=.ok b):nS p env d=.ok (gEx (gK ((bD d).map (lnT d.Name)) (bD d)) b):=by
 rw [bodyR_s h,lnT_R hn,←low_ref hv hd hR hn h]
 refine zVk fun s hs=>?_
 show dF (lnT d.Name s)=_
 rw [show lnT d.Name s=lnR d.Name s from ln_ne (hn s (zPh.1 hs).1)]
def bodyR_ne (h:nS p env d=.error x):x≠0:=by
 unfold nS at h
 split at h
 ·rename_i y hy;injection h with h;rw [←h];exact sb_ne hy
 ·exact sb_ne h
def outE_ok {r:Except Int Ex} (h:gG r=0) (hn:∀x,r=.error x->x≠0):∃e,r=.ok e:=by
 cases r with
 |error x=>exact absurd h (hn x rfl)
 |ok e=>exact ⟨e,rfl⟩
def names12 (hv:(bK p).2=0) (hd:d∈p.Defs):(bD d).length<=12:=by
 have:=zLd hv d hd
 rw [namesD_len];omega
/-! ## Sizes -/
def ref_sz (env:List Bd) (s:nn):((!(lM env s).isSome||decide ((lM env s).getD 0<1))||decide (4096<(lM env s).getD 0))= !mR env s:=by
 unfold mR gC
 cases lM env s with
 |none=>rfl
 |some v=>
  simp only [Option.isSome_some,dd,aU,dk,aQ]
  by_cases a:v<1<;>by_cases b:4096<v<;>simp [a,b]<;>omega
def tL (l:List Int):Int:=l.foldl (fun n d=>min (n*d) 65537) 1
def many_go:∀(l:List Int) (n:Int),1<=n->(∀d,d∈l->1<=d/\d<=4096)->(4096<l.foldl (fun n d=>min (n*d) 65537) n↔(4096<n∨bP n l=none))
 |[],n,h,_=>by simp [bP]
 |d::r,n,h,hd=>by
  have h1:=hd d uF
  have h2:=iq h h1.1 zB zB
  have h4:1<=min (n*d) 65537:=by omega
  rw [cv,many_go r (min (n*d) 65537) h4 fun x hx=>hd x (by simp [hx]),bP]
  by_cases c:4096<n*d
  ·rw [ab c]
   exact ⟨fun _=>.inr rfl,fun _=>.inl zB⟩
  ·rw [aa c,show min (n*d) 65537=n*d by omega]
   have h3:n<=n*d:=by
    have:=Int.mul_le_mul_of_nonneg_left h1.1 (show 0<=n by omega)
    omega
   constructor
   ·rintro (k|k)
    ·exact absurd k c
    ·exact .inr k
   ·rintro (k|k)
    ·omega
    ·exact .inr k
def many_is {l:List Int} (h:∀d,d∈l->1<=d/\d<=4096):4096<tL l↔(bP 1 l).isSome=false:=by
 unfold tL
 rw [many_go l 1 uA h]
 cases bP 1 l with
 |none=>simp
 |some v=>simp
def ref_dim (c:(p.en.find s).ok=true) (h:fG env (p.en.find s).dims=0->tL (dU env (p.en.find s).dims)<=4096):mU p env s=(xE env (p.en.find s).dims,fG env (p.en.find s).dims):=by
 by_cases c2:fG env (p.en.find s).dims=0
 ·have h2:=h c2
  rw [zSz c2,c2]
  refine dim_ok c c2 ?_
  cases k:(bP 1 (dU env (p.en.find s).dims)).isSome with
  |true=>rfl
  |false=>have:=(many_is (zXi c2)).2 k;omega
 ·rw [zXh c2];exact dim_e c c2
/-! ## Neutral numbers -/
def frac_u64 {t:Ty} (c:dJ t=true) (h:t.Kind=2):IntKind.u64.wrap t.Frac=t.Frac:=by
 have h1:=c
 rw [zCm h] at h1
 unfold gL at h1
 simp only [ae,aj] at h1
 have h2:0<=t.Frac:=h1.1.1.1.1.2
 have h3:t.Frac<=30:=h1.1.1.1.2
 exact zJg ⟨zB,zB⟩
def oneR_no {t:Ty} (c:dJ t=false):fP t=(⟨0,0⟩,10):=by unfold fP;rw [aa (by rw [c];simp)]
def oneR_r {t:Ty} (c:dJ t=true) (k:jI t (vD t)=false):fP t=(⟨0,0⟩,3):=by unfold fP;rw [ab c,aa (by rw [k];simp)]
def oneR_ok {t:Ty} (c:dJ t=true) (k:jI t (vD t)=true):fP t=(vD t,0):=by unfold fP;rw [ab c,ab k]
def oneN_2 {t:Ty} (h:t.Kind=2):vD t=⟨2^t.Frac.toNat,1⟩:=ab h
def oneN_n {t:Ty} (h:¬t.Kind=2):vD t=⟨1,1⟩:=aa h
def tyErr_0 {t:Ty} (c:dJ t=true):bX t=0:=by unfold bX;rw [c];rfl
variable {f:Int}
def idR_2 {t:Ty} (c:dJ t=true) (h:f=1∨f=5):idT f t=(rU t,true):=id_2 (tyErr_0 c) h
def idR_3 {t:Ty} (h:¬(dJ t=true/\(f=1∨f=5))) (h2:f=2):idT f t=((fP t).1,decide ((fP t).2=0)):=by
 unfold idT;rw [aa h,ab h2]
def idR_4 {t:Ty} (h:¬(dJ t=true/\(f=1∨f=5))) (h2:¬f=2):idT f t=(⟨0,0⟩,false):=by
 unfold idT;rw [aa h,aa h2]
/-! ## Statements -/
def ixD (d:Df):List Ix:=d.Dims.map fun x=>⟨dF (lnT d.Name x.Name),bs [],[]⟩
variable {k:Nat}
def nmdL_at {d:nn} {l:List Ax} {ext:List Int} {x:Ax} {n:Int} (h:l[k]? =some x) (h2:ext[k]? =some n):(gR d l ext)[k]? =some ⟨lnT d x.Name,n⟩:=by
 have hz:(l.zip ext)[k]? =some (x,n):=by rw [fx];exact ⟨h,h2⟩
 unfold gR
 rw [cb,hz];rfl
def nmdL_len {d:nn} {l:List Ax} {ext:List Int} (h:ext.length=l.length):(gR d l ext).length=l.length:=by
 unfold gR;rw [lLm,ia];omega
def ixT_nmd (d:nn):∀{l:List Ax} {ext:List Int},ext.length=l.length->ixT (gR d l ext)=l.map fun x=>⟨dF (lnT d x.Name),bs [],[]⟩
 |[],[],_=>rfl
 |x::r,n::t,h=>by
  have ih:=ixT_nmd d (l:=r) (ext:=t) (by simpa using h)
  unfold ixT gR at ih⊢
  rw [jr,aH,aH,ih];rfl
def add_m1 (t:nn):(gQ (dF t) ⟨-1,[]⟩).1=⟨-1,(dF t).L⟩:=by
 have h2:bG ⟨-1,[]⟩=true:=rfl
 have h1:bG (dF t)=true:=by
  unfold dF
  cases h:bB t with
  |false=>rfl
  |true=>
   show bM none [⟨t,1⟩]=true
   rw [bM,bM,h];rfl
 obtain ⟨m1,m2⟩:=zJt (l:=(dF t).L) fun m hm=>by
  unfold dF at hm
  cases h:bB t with
  |false=>rw [h] at hm;cases hm
  |true=>rw [h] at hm;rw [aR.1 hm];exact ⟨show-9223372036854775808<=(1:Int)/\(1:Int)<=9223372036854775807 by decide,show (1:Int)≠0 by decide⟩
 have hk:(dF t).K=0:=by unfold dF;cases bB t<;>rfl
 unfold gQ
 rw [ab ⟨h1,h2⟩,hk]
 unfold mK
 rw [ab ⟨show-9223372036854775808<=(0+ -1:Int)/\(0+ -1:Int)<=9223372036854775807 by decide,m1⟩,m2];rfl
variable {red:List Bd} {body:Ex}
def inn_i {at_:List Ix} (h:¬d.Fold=0) (h5:¬d.Fold=5) (c:(idT d.Fold d.T).2=true):pA d at_ red body=.ok (lJ d at_ (.mk 1 (bs []) (idT d.Fold d.T).1 d.T ⟨0,[]⟩ [] [])::dW red [fX d at_ d.Fold body]):=(inn_r h h5).trans (red_id c)
def last_ix {L:List Ix} {y:Ix} (h:L[L.length-1]? =some y):L.getD (L.length-1) ⟨⟨0,[]⟩,bs [],[]⟩=y:=by
 rw [cz,h];rfl
def last_get2 {α:Type} {f:α->List C} {l:List α} {y:α} (h:l[l.length-1]? =some y):(l.map f)[(((l.map f).length:Int)-1).toNat]? =some (f y):=by rw [lLm];exact zUc h
def smJ_nextN {s:Lf} {x:Bd} {m:nn} (h:SmJ red k s) (hx:red[k]? =some x) (hn:x.Name=m):SmJ red (k+1) (gQ s (dF m)).1:=by
 subst hn;exact smJ_next h hx
def scnR_is {x:Ax} (h:d.Dims[d.Dims.length-1]? =some x):cG d (ixD d) body=
  [lJ d (ixD d) body,lIf (nA (dF (lnT d.Name x.Name))) [fX d (ixD d) 1 (.mk 3 d.Name ⟨0,0⟩ zTy ⟨0,[]⟩ ((ixD d).take ((ixD d).length-1)++[⟨⟨-1,(dF (lnT d.Name x.Name)).L⟩,bs [],[]⟩]) [])]]:=by
 have hl:(ixD d).length=d.Dims.length:=by unfold ixD;rw [lLm]
 have h2:(ixD d)[(ixD d).length-1]? =some ⟨dF (lnT d.Name x.Name),bs [],[]⟩:=by
  rw [hl];exact zLz h
 have hpos:=(af.1 h).1
 unfold cG
 rw [last_ix h2]
 dsimp only
 rw [add_m1,show (ixD d).set ((ixD d).length-1) ⟨⟨-1,(dF (lnT d.Name x.Name)).L⟩,bs [],[]⟩=(ixD d).take ((ixD d).length-1)++[⟨⟨-1,(dF (lnT d.Name x.Name)).L⟩,bs [],[]⟩] by
  rw [ew,ab zB,bk zB]]
def oC (d:Df) (at_:List Ix) (R:List (List C)):List C:=[cI 3,cS d.Name,cI 0,cI 0,cI 1,.sl 4 (at_.map Ix.cells),cI 3,cS d.Name,cI 0,cI 0,cI 0,cI 0,cI 0,cI 0,cI 0,cI 0,.sl 2 [],.sl 4 R,.sl 13 [],.sl 20 []]
def oB (p:Ex) (f:List C):List C:=[cI 4,cS (bs []),cI 0,cI 0,cI 0,.sl 4 [],cI p.Op,cS p.Name,cI p.Val.N,cI p.Val.D,cI p.Ty.Kind,cI p.Ty.Bits,cI p.Ty.Frac,cI p.Ty.Round,cI p.Ty.Over,cI p.Lin.K,.sl 2 (p.Lin.L.map Mono.cells),.sl 4 (p.Idx.map Ix.cells),.sl 13 (p.Args.map Ex.cells),.sl 20 [f]]
def scn_valsR {s:St} {p:Ex} {at_ L:List Ix} {R:List (List C)} (hR:R=L.map Ix.cells):V.c (.sl 20 [s.cs,oB p (oC d at_ R)])=gJ [s,lIf p [fX d at_ 1 (.mk 3 d.Name ⟨0,0⟩ zTy ⟨0,[]⟩ L [])]]:=by
 rw [hR];exact zJo s (fX d at_ 1 (.mk 3 d.Name ⟨0,0⟩ zTy ⟨0,[]⟩ L [])) p
/-! ## Def -/
def lowE_bad (h:jQ p env d.Name=0) (h2:fG env (d.Red.map Ax.Size)=0) (hs:s∈bD d) (h3:lnT d.Name s=bs []):gZ p env d=.error 7:=by
 by_cases c1:lB d.Name d.Dims=0
 ·by_cases c2:lB d.Name d.Red=0
  ·have:=good_all c1 c2 s hs
   rw [show lnT d.Name s=lnR d.Name s from ln_ne this] at h3
   have h4:=lnR_size d.Name s
   rw [h3] at h4
   exact absurd h4 (Nat.not_lt_zero _)
  ·exact lowE_2 h h2 c1 c2
 ·exact lowE_1 h h2 c1
def nmd_all (h:(bD d).any (fun s=>decide (lnT d.Name s=bs []))=false):lB d.Name d.Dims=0/\lB d.Name d.Red=0:=by
 rw [zRq,List.any_map,gb,aC] at h
 exact ⟨nmd_end h.1,nmd_end h.2⟩
def lowB_inn (hv:(bK p).2=0) (hd:p.Defs[i]? =some d) (h:dA (fun s=>⟨gC env s,[]⟩) p.Sizes d.Body=.ok b):
  nY p env d=match pA d (ixD d) (tM env d) (gEx (gK ((bD d).map (lnT d.Name)) (bD d)) b) with
  |.error x=>.error x
  |.ok l=>.ok (dW (lC p env d) l):=by
 rw [lowB_s h]
 unfold stT
 rw [show ixT (lC p env d)=ixD d from ixT_nmd d.Name (by unfold dU;rw [zMr hv hd,lLm,lLm])]
 all_goals (cases pA d (ixD d) (tM env d) (gEx (gK ((bD d).map (lnT d.Name)) (bD d)) b)<;>rfl)
/-! ## Equality -/
noncomputable instance:DecidableEq St:=fun _ _=>Classical.propDecidable _
noncomputable instance:DecidableEq Ns:=fun _ _=>Classical.propDecidable _
def St.eq_iff {a b:St}:a=b↔a.Op=b.Op/\a.Name=b.Name/\a.Many=b.Many/\a.Mark=b.Mark/\a.Fold=b.Fold/\a.Idx=b.Idx/\a.E=b.E/\a.Body=b.Body:=by
 constructor
 ·rintro rfl;exact ⟨rfl,rfl,rfl,rfl,rfl,rfl,rfl,rfl⟩
 ·rintro ⟨h1,h2,h3,h4,h5,h6,h7,h8⟩
  rw [St.eta a,St.eta b,h1,h2,h3,h4,h5,h6,h7,h8]
def st_eq (a b:St):(((((((decide (a.Op=b.Op)&&decide (a.Name=b.Name))&&decide (a.Many=b.Many))&&decide (a.Mark=b.Mark))&&decide (a.Fold=b.Fold))&&decide (a.Idx=b.Idx))&&decide (a.E=b.E))&&decide (a.Body=b.Body))=decide (a=b):=by
 rw [cw]
 simp only [ae,aj,St.eq_iff]
 constructor
 ·rintro ⟨⟨⟨⟨⟨⟨⟨h1,h2⟩,h3⟩,h4⟩,h5⟩,h6⟩,h7⟩,h8⟩;exact ⟨h1,h2,h3,h4,h5,h6,h7,h8⟩
 ·rintro ⟨h1,h2,h3,h4,h5,h6,h7,h8⟩;exact ⟨⟨⟨⟨⟨⟨⟨h1,h2⟩,h3⟩,h4⟩,h5⟩,h6⟩,h7⟩,h8⟩
def Ns.eq_iff {a b:Ns}:a=b↔a.Bufs=b.Bufs/\a.Body=b.Body:=by
 constructor
 ·rintro rfl;exact ⟨rfl,rfl⟩
 ·rintro ⟨h1,h2⟩;cases a;cases b;simp_all
/-! ## A definition -/
def errE_er {r:Except Int Ex} (h:¬gG r=0):∃x,r=.error x:=by
 cases r with
 |error x=>exact ⟨x,rfl⟩
 |ok e=>exact absurd rfl h
def bodyR_lowB (hv:(bK p).2=0) (hd:d∈p.Defs) (hR:d.Body.allF Lf.rng) (hn:∀s,s∈bD d->bB (lnR d.Name s)=true) (h:nS p env d=.error x):nY p env d=.error x:=by
 cases hs:dA (fun s=>⟨gC env s,[]⟩) p.Sizes d.Body with
 |error y=>rw [bodyR_e hs] at h;injection h with h;rw [lowB_e hs,h]
 |ok b=>rw [bodyR_ok hv hd hR hn hs] at h;cases h
def bodyR_k (hv:(bK p).2=0) (hd:d∈p.Defs) (hR:d.Body.allF Lf.rng) (hn:∀s,s∈bD d->bB (lnR d.Name s)=true) (h:nS p env d=.ok e):
  ∃b,dA (fun s=>⟨gC env s,[]⟩) p.Sizes d.Body=.ok b/\e=gEx (gK ((bD d).map (lnT d.Name)) (bD d)) b:=by
 cases hs:dA (fun s=>⟨gC env s,[]⟩) p.Sizes d.Body with
 |error y=>rw [bodyR_e hs] at h;cases h
 |ok b=>rw [bodyR_ok hv hd hR hn hs] at h;injection h with h;exact ⟨b,rfl,h.symm⟩
def inn_ne {at_:List Ix} (h:pA d at_ red body=.error x):x≠0:=by
 by_cases c:d.Fold=0
 ·rw [inn_0 c] at h;cases h
 ·by_cases c5:d.Fold=5
  ·rw [inn_5 c5] at h;cases h
  ·rw [inn_r c c5] at h;exact red_ne h
def low_inE (hv:(bK p).2=0) (hd:p.Defs[i]? =some d) (h:dA (fun s=>⟨gC env s,[]⟩) p.Sizes d.Body=.ok b) (hx:pA d (ixD d) (gR d.Name d.Red (dU env (d.Red.map Ax.Size))) (gEx (gK ((bD d).map (lnT d.Name)) (bD d)) b)=.error x):nY p env d=.error x:=by
 rw [lowB_inn hv hd h]
 rw [show tM env d=gR d.Name d.Red (dU env (d.Red.map Ax.Size)) from rfl,hx]
def low_inO {l:List St} (hv:(bK p).2=0) (hd:p.Defs[i]? =some d) (h:dA (fun s=>⟨gC env s,[]⟩) p.Sizes d.Body=.ok b) (hx:pA d (ixD d) (gR d.Name d.Red (dU env (d.Red.map Ax.Size))) (gEx (gK ((bD d).map (lnT d.Name)) (bD d)) b)=.ok l):nY p env d=.ok (dW (gR d.Name d.Dims (dU env (p.en.find d.Name).dims)) l):=by
 rw [lowB_inn hv hd h]
 rw [show tM env d=gR d.Name d.Red (dU env (d.Red.map Ax.Size)) from rfl,hx];rfl
def lowU_wt (hw:d.Body.wt<=1500) (hR:d.Body.allF Lf.rng) (h:dA (fun s=>⟨gC env s,[]⟩) p.Sizes d.Body=.ok b):
  (gEx (gK ((bD d).map (lnT d.Name)) (bD d)) b).wt<=1000000/\(gEx (gK ((bD d).map (lnT d.Name)) (bD d)) b).allF Lf.rng:=by
 obtain ⟨h1,h2⟩:=sb_wt (fun _=>rfl) _ _ _ hR h
 have h3:=lw_ren (A:=(bD d).map (lnT d.Name)) (B:=bD d) b
 exact ⟨zB,zYi (zKm h2 fun l hl=>renF_rng hl)⟩
def name_ax (h:s∈bD d):∃x,x∈d.Dims++d.Red/\x.Name=s:=by
 rw [zRq] at h
 obtain ⟨x,hx,rfl⟩:=aX.1 h
 exact ⟨x,hx,rfl⟩
/-! ## A program -/
def lowD_w {i:Int} (hS:p.Sm) (hR:∀d,d∈p.Defs->d.Body.allF Lf.rng):bS (nL (sE p env i))<=3200:=by
 by_cases c1:(bK p).2=0
 ·by_cases c2:lX p env=0
  ·by_cases c3:i<0∨(p.Defs.length:Int)<=i
   ·rw [lowD_n c1 c2 c3];exact bu _
   ·obtain ⟨j,rfl⟩:∃j:Nat,i=j:=⟨i.toNat,zB⟩
    obtain ⟨d,hd⟩:=qX p.Defs j zB
    rw [lowD_at c1 c2 hd]
    cases h:gZ p env d with
    |error x=>exact bu _
    |ok l=>exact sts_one hS c1 hR (qD hd) h
  ·rw [lowD_z c1 c2];exact bu _
 ·rw [lowD_v c1];exact bu _
def hY (a b:Int):Int×Bool:=if r64 (a+b) then (a+b,true) else (0,false)
def zRi (a b:Int):(hY a b).2=decide (r64 (a+b)):=by unfold hY;by_cases h:r64 (a+b)<;>simp [h]
def plusT_1 {a b:Int} (h:(hY a b).2=true):(hY a b).1=a+b:=by rw [zRi] at h;unfold hY;rw [ab (by simpa using h)]
/-! ## Ascending names -/
def tV (l:List nn):Prop:=l.Pairwise fun x y=>bF x y=true
def zQy {a b:nn} (h:bF a b=true):bF b a=false:=by
 cases k:bF b a with
 |false=>rfl
 |true=>have:=zAg h k;rw [zCj] at this;cases this
def zTv {a b:nn} (h:bF a b=true):a≠b:=by rintro rfl;rw [zCj] at h;cases h
variable {l:List nn} {t:nn}
def insW_mem:t∈nF l s↔t∈l∨t=s:=by
 rw [←zEb,insW_has,aE,zEb,aj]
 constructor<;>(rintro (h|h);exact .inl h;exact .inr h.symm)
def insW_asc:∀{l:List nn} (s:nn),tV l->tV (nF l s)
 |[],s,_=>by rw [nF];exact List.pairwise_singleton _ _
 |x::r,s,h=>by
  have h':=ec.1 h
  rw [nF]
  split
  ·next c=>
   refine ec.2 ⟨fun y hy=>?_,insW_asc s h'.2⟩
   rcases insW_mem.1 hy with hy|rfl
   ·exact h'.1 y hy
   ·exact c
  ·next c=>
   split
   ·exact h
   ·next d=>
    have hsx:bF s x=true:=by
     cases k:bF s x with
     |true=>rfl
     |false=>exact absurd (zBr (by simpa using c) k) d
    refine ec.2 ⟨fun y hy=>?_,h⟩
    rcases ag.1 hy with rfl|hy
    ·exact hsx
    ·exact zAg hsx (h'.1 y hy)
def insWs_asc:∀(m:List nn) {l:List nn},tV l->tV (gY l m)
 |[],_,h=>h
 |s::r,l,h=>insWs_asc r (insW_asc s h)
def insWs0_asc (m:List nn):tV (gY [] m):=insWs_asc m List.Pairwise.nil
def asc_ext5:∀{a b:List nn},tV a->tV b->(∀s,s∈a↔s∈b)->a=b
 |[],[],_,_,_=>rfl
 |[],y::s,_,_,h=>by have:=(h y).2 (bm ..);cases this
 |x::r,[],_,_,h=>by have:=(h x).1 (bm ..);cases this
 |x::r,y::s,ha,hb,h=>by
  have ha':=ec.1 ha
  have hb':=ec.1 hb
  have e:x=y:=by
   rcases ag.1 ((h x).1 (bm ..)) with e|h1
   ·exact e
   ·rcases ag.1 ((h y).2 (bm ..)) with e|h2
    ·exact e.symm
    ·have k1:=hb'.1 x h1
     have k2:=zQy (ha'.1 y h2)
     rw [k1] at k2;cases k2
  subst e
  rw [asc_ext5 ha'.2 hb'.2 fun t=>?_]
  constructor
  ·intro ht
   rcases ag.1 ((h t).1 (aJ _ ht)) with e|h1
   ·exact absurd e.symm (zTv (ha'.1 t ht))
   ·exact h1
  ·intro ht
   rcases ag.1 ((h t).2 (aJ _ ht)) with e|h1
   ·exact absurd e.symm (zTv (hb'.1 t ht))
   ·exact h1
def ins_at (ha:tV l) (hi:i<=l.length) (hb:∀y,y∈l.drop i->bF s y=true) (hno:bQ l s=false) (c:∀y,0<i->l[i-1]? =some y->bF s y=false):nF l s=l.take i++s::l.drop i:=by
 have hne:∀y,y∈l->¬y=s:=by
  rintro y hy rfl
  have:=zEb.2 hy
  rw [hno] at this;cases this
 have hall:(l.take i).all (below s)=true:=by
  by_cases h0:i=0
  ·subst h0;rfl
  ·have hlt:i-1<l.length:=by omega
   have hg:l[i-1]? =some l[i-1]:=ak hlt
   have h1:=c _ zB hg
   have h2:bF l[i-1] s=true:=by
    cases k:bF l[i-1] s with
    |true=>rfl
    |false=>exact absurd (zBr k h1) (hne _ (i7 hlt))
   refine aT.2 fun y hy=>?_
   show bF y s=true
   obtain ⟨j,hj,rfl⟩:=List.getElem_of_mem hy
   rw [aq] at hj
   rw [mr]
   by_cases hji:j=i-1
   ·subst hji;exact h2
   ·exact zAg (iu.1 ha j (i-1) zB hlt zB) h2
 by_cases he:i=l.length
 ·subst he
  rw [aB (aA _)] at hall
  rw [insW_end hall,aB (aA _),gz]
 ·have hlt:i<l.length:=by omega
  have hg:l[i]? =some l[i]:=ak hlt
  have hm:l[i]∈l.drop i:=by rw [d9 hlt];exact bm ..
  exact insW_mid hall hg (zQy (hb _ hm)) (hne _ (i7 hlt))
/-! ## Sums -/
def coeff_gt {q:nn} {l:List Mono} (h:∀m,m∈l->bF q m.Name=true):dG l q=0:=by
 induction l with
 |nil=>rfl
 |cons x r ih=>
  rw [dG,aa (fun e=>zTv (h x (bm ..)) e.symm)]
  exact ih fun m hm=>h m (aJ _ hm)
def zHa:∀{q:nn} {l:List Tr},mC (some q) l=true->∀t,t∈l->bF q t.1=true
 |_,[],_,t,h=>by cases h
 |q,x::r,h,t,ht=>by
  simp only [mC,ae,ltO] at h
  rcases ag.1 ht with rfl|ht
  ·exact h.1.2
  ·exact zAg h.1.2 (zHa h.2 t ht)
def trs_asc:∀{p:Option nn} {l:List Tr},mC p l=true->tV (l.map (·.1))
 |_,[],_=>List.Pairwise.nil
 |p,x::r,h=>by
  simp only [mC,ae] at h
  refine ec.2 ⟨fun y hy=>?_,trs_asc h.2⟩
  obtain ⟨t,ht,rfl⟩:=aX.1 hy
  exact zHa h.2 t ht
def hd_c (x:Mono) (r:List Mono):dG (x::r) x.Name=x.By:=by rw [dG,ab rfl]
def tl_c {x:Mono} {r:List Mono} (h:bF x.Name t=true):dG (x::r) t=dG r t:=by rw [dG,aa (zTv h)]
def mono_wk {p:Option nn} {q:nn} {y:Mono} {s:List Mono} (h:bM p (y::s)=true) (k:bF q y.Name=true):bM (some q) (y::s)=true:=by
 simp only [bM,ae] at h⊢
 exact ⟨⟨h.1.1,k⟩,h.2⟩
def zHh {p:Option nn} {y:Mono} {s:List Mono} (h:bM p (y::s)=true):bM (some y.Name) s=true:=by
 simp only [bM,ae] at h
 exact h.2
def zFg:∀(n:Nat) (p:Option nn) (a b:List Mono),a.length+b.length<=n->bM p a=true->bM p b=true->∀t,t∈bE a b->t.2.1=dG a t.1/\t.2.2=dG b t.1
 |_,p,[],[],_,_,_,t,ht=>by rw [zGv] at ht;cases ht
 |0,_,_::_,_,h,_,_,_,_=>by simp at h
 |0,_,[],_::_,h,_,_,_,_=>by simp at h
 |n+1,p,x::r,[],h,ha,hb,t,ht=>by
  have hn:r.length+([]:List Mono).length<=n:=by simp at h⊢;omega
  rw [zFo] at ht
  rcases ag.1 ht with rfl|ht
  ·exact ⟨(hd_c x r).symm,rfl⟩
  ·have h1:=zHa (zCl n (some x.Name) r [] hn (zHh ha) rfl) t ht
   rw [tl_c h1]
   exact zFg n (some x.Name) r [] hn (zHh ha) rfl t ht
 |n+1,p,[],y::s,h,ha,hb,t,ht=>by
  have hn:([]:List Mono).length+s.length<=n:=by simp at h⊢;omega
  rw [zFn] at ht
  rcases ag.1 ht with rfl|ht
  ·exact ⟨rfl,(hd_c y s).symm⟩
  ·have h1:=zHa (zCl n (some y.Name) [] s hn rfl (zHh hb)) t ht
   rw [tl_c h1]
   exact zFg n (some y.Name) [] s hn rfl (zHh hb) t ht
 |n+1,p,x::r,y::s,h,ha,hb,t,ht=>by
  have h':r.length+1+(s.length+1)<=n+1:=by simpa using h
  rw [zCs] at ht
  cases c:bF x.Name y.Name with
  |true=>
   rw [c,aD] at ht
   have hw:=mono_wk hb c
   have hn:r.length+(y::s).length<=n:=by simp;omega
   rcases ag.1 ht with rfl|ht
   ·exact ⟨(hd_c x r).symm,(coeff_gt (zHg hw)).symm⟩
   ·have h1:=zHa (zCl n (some x.Name) r (y::s) hn (zHh ha) hw) t ht
    rw [tl_c h1]
    exact zFg n (some x.Name) r (y::s) hn (zHh ha) hw t ht
  |false=>
   rw [c,av] at ht
   cases d:bF y.Name x.Name with
   |true=>
    rw [d,aD] at ht
    have hw:=mono_wk ha d
    have hn:(x::r).length+s.length<=n:=by simp;omega
    rcases ag.1 ht with rfl|ht
    ·exact ⟨(coeff_gt (zHg hw)).symm,(hd_c y s).symm⟩
    ·have h1:=zHa (zCl n (some y.Name) (x::r) s hn hw (zHh hb)) t ht
     rw [tl_c (x:=y) h1]
     exact zFg n (some y.Name) (x::r) s hn hw (zHh hb) t ht
   |false=>
    rw [d,av] at ht
    have e:=zBr c d
    have hn:r.length+s.length<=n:=by omega
    rcases ag.1 ht with rfl|ht
    ·exact ⟨(hd_c x r).symm,by show y.By=dG (y::s) x.Name;rw [e];exact (hd_c y s).symm⟩
    ·have hs:bM (some x.Name) s=true:=by rw [e];exact zHh hb
     have h1:=zHa (zCl n (some x.Name) r s hn (zHh ha) hs) t ht
     rw [tl_c h1,tl_c (x:=y) (by rw [←e];exact h1)]
     exact zFg n (some x.Name) r s hn (zHh ha) hs t ht
def zHi:∀(n:Nat) (a b:List Mono),a.length+b.length<=n->∀m,m∈a∨m∈b->∃t,t∈bE a b/\t.1=m.Name
 |_,[],[],_,m,hm=>by rcases hm with hm|hm<;>cases hm
 |0,_::_,_,h,_,_=>by simp at h
 |0,[],_::_,h,_,_=>by simp at h
 |n+1,x::r,[],h,m,hm=>by
  rw [zFo]
  rcases hm with hm|hm
  ·rcases ag.1 hm with rfl|hm
   ·exact ⟨_,bm ..,rfl⟩
   ·obtain ⟨t,h1,h2⟩:=zHi n r [] (by simp at h⊢;omega) m (.inl hm)
    exact ⟨t,aJ _ h1,h2⟩
  ·cases hm
 |n+1,[],y::s,h,m,hm=>by
  rw [zFn]
  rcases hm with hm|hm
  ·cases hm
  ·rcases ag.1 hm with rfl|hm
   ·exact ⟨_,bm ..,rfl⟩
   ·obtain ⟨t,h1,h2⟩:=zHi n [] s (by simp at h⊢;omega) m (.inr hm)
    exact ⟨t,aJ _ h1,h2⟩
 |n+1,x::r,y::s,h,m,hm=>by
  have h':r.length+1+(s.length+1)<=n+1:=by simpa using h
  rw [zCs]
  cases c:bF x.Name y.Name with
  |true=>
   rw [aD]
   have go:(m∈r∨m∈y::s)->∃t,t∈(x.Name,x.By,(0:Int))::bE r (y::s)/\t.1=m.Name:=fun hq=>by
    obtain ⟨t,h1,h2⟩:=zHi n r (y::s) uD m hq
    exact ⟨t,aJ _ h1,h2⟩
   rcases hm with hm|hm
   ·rcases ag.1 hm with rfl|hm
    ·exact ⟨_,bm ..,rfl⟩
    ·exact go (.inl hm)
   ·exact go (.inr hm)
  |false=>
   rw [av]
   cases d:bF y.Name x.Name with
   |true=>
    rw [aD]
    have go:(m∈x::r∨m∈s)->∃t,t∈(y.Name,(0:Int),y.By)::bE (x::r) s/\t.1=m.Name:=fun hq=>by
     obtain ⟨t,h1,h2⟩:=zHi n (x::r) s uD m hq
     exact ⟨t,aJ _ h1,h2⟩
    rcases hm with hm|hm
    ·exact go (.inl hm)
    ·rcases ag.1 hm with rfl|hm
     ·exact ⟨_,bm ..,rfl⟩
     ·exact go (.inr hm)
   |false=>
    rw [av]
    have e:=zBr c d
    have go:(m∈r∨m∈s)->∃t,t∈(x.Name,x.By,y.By)::bE r s/\t.1=m.Name:=fun hq=>by
     obtain ⟨t,h1,h2⟩:=zHi n r s zB m hq
     exact ⟨t,aJ _ h1,h2⟩
    rcases hm with hm|hm
    ·rcases ag.1 hm with rfl|hm
     ·exact ⟨_,bm ..,rfl⟩
     ·exact go (.inl hm)
    ·rcases ag.1 hm with rfl|hm
     ·exact ⟨_,bm ..,e⟩
     ·exact go (.inr hm)
def nmU (a b:List Mono):List nn:=gY [] (a.map Mono.Name++b.map Mono.Name)
def insWs_mem {m:List nn}:t∈gY l m↔t∈l∨t∈m:=by
 rw [←zEb,insWs_has,aE,zEb,zEb]
def merge_nm {a b:List Mono} (ha:bM none a=true) (hb:bM none b=true):(bE a b).map (·.1)=nmU a b:=by
 refine asc_ext5 (trs_asc (zCl _ none a b (aA _) ha hb)) (insWs0_asc _) fun s=>?_
 unfold nmU
 rw [insWs_mem,ao,aX]
 constructor
 ·rintro ⟨t,ht,rfl⟩
  rcases zFf _ a b (aA _) t ht with ⟨m,hm,e⟩|⟨m,hm,e⟩
  ·exact .inr (.inl (aX.2 ⟨m,hm,e⟩))
  ·exact .inr (.inr (aX.2 ⟨m,hm,e⟩))
 ·rintro (h|h|h)
  ·cases h
  ·obtain ⟨m,hm,rfl⟩:=aX.1 h
   exact zHi _ a b (aA _) m (.inl hm)
  ·obtain ⟨m,hm,rfl⟩:=aX.1 h
   exact zHi _ a b (aA _) m (.inr hm)
def tS (a b:List Mono) (n:nn):Int:=dG a n+dG b n
def sQ (a b:List Mono) (N:List nn):List Mono:=N.filterMap fun n=>if tS a b n=0 then none else some ⟨n,tS a b n⟩
def okS (a b:List Mono) (N:List nn):Bool:=N.all fun n=>decide (r64 (tS a b n))
def okS_is {a b:List Mono}:∀{M:List Tr},(∀t,t∈M->t.2.1=dG a t.1/\t.2.2=dG b t.1)->okS a b (M.map (·.1))=M.all sO
 |[],_=>rfl
 |t::r,h=>by
  have h1:=h t (bm ..)
  have ih:=okS_is (M:=r) fun u hu=>h u (aJ _ hu)
  unfold okS at ih⊢
  rw [aH,bi,bi,ih]
  unfold sO trV tS
  rw [h1.1,h1.2]
def sumN_is {a b:List Mono}:∀{M:List Tr},(∀t,t∈M->t.2.1=dG a t.1/\t.2.2=dG b t.1)->M.all sO=true->sQ a b (M.map (·.1))=lI M
 |[],_,_=>rfl
 |t::r,h,hk=>by
  have h1:=h t (bm ..)
  rw [bi,ae] at hk
  have ih:=sumN_is (M:=r) (fun u hu=>h u (aJ _ hu)) hk.2
  have hr:r64 (trV t):=by simpa [sO] using hk.1
  have e:tS a b t.1=trV t:=by unfold tS trV;rw [h1.1,h1.2]
  unfold sQ lI at ih⊢
  rw [aH,dq,dq,ih,e,zIo hr]
def addL_is {a b:Lf} (ha:bG a=true) (hb:bG b=true):gQ a b=if r64 (a.K+b.K) then (if okS a.L b.L (nmU a.L b.L)=true then (⟨a.K+b.K,sQ a.L b.L (nmU a.L b.L)⟩,0) else (zL,3)) else (zL,3):=by
 have hm:=zFg _ none a.L b.L (aA _) ha hb
 have hn:=merge_nm ha hb
 unfold gQ
 rw [ab ⟨ha,hb⟩]
 unfold mK
 rw [←hn,okS_is hm]
 by_cases h1:r64 (a.K+b.K)
 ·rw [ab h1]
  by_cases h2:(bE a.L b.L).all sO=true
  ·rw [ab ⟨h1,h2⟩,ab h2,sumN_is hm h2]
  ·rw [aa (fun h=>h2 h.2),aa h2]
 ·rw [aa (fun h=>h1 h.1),aa h1]
def addL_bad {a b:Lf} (h:¬(bG a=true/\bG b=true)):gQ a b=(zL,1):=aa h
def sumN_next {a b:List Mono} {N:List nn} {n:nn} (h:N[k]? =some n):sQ a b (N.take (k+1))=sQ a b (N.take k)++(if tS a b n=0 then [] else [⟨n,tS a b n⟩]):=by
 unfold sQ;rw [yA h,jf];congr 1
 by_cases h:tS a b n=0<;>simp [h]
def nmU_len (a b:List Mono):(nmU a b).length<=a.length+b.length:=by
 have:=insWs0_len (a.map Mono.Name++b.map Mono.Name)
 unfold nmU;simpa using this
def sumN_len (a b:List Mono) (N:List nn):(sQ a b N).length<=N.length:=ky _ _
end Go.Br
end
