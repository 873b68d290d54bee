/-
  Numbers of 192 bits,as lin.Eval adds them up; the value of a form,in plain Lean.
  Lowering of programs to nests (32),as the program does it,in plain Lean.
  Replacing index names one after the other,longest first,is the same as replacing all at once (32.2),in plain Lean.
  Names of a body's forms once the sizes are replaced by their values (32.2),in plain Lean.
  How large a lowered program is (32),in plain Lean.
  The examples of chapter 32: two programs with one reduction,lowered.
  Lowering (32): what the walks over the program's functions need (sums of 192 bits,tables of loop names,loops),in plain Lean.
  Lowering (32): the maker of one definition,its reductions and prefix sums,its names and its body,in plain Lean.
  The examples of chapter 32 are small programs in range; a lowered program is a small nest.
  Conditions: none.
-/
import Derived.Test.YtgfomfnjionbeaaGreatDoorPlain2
import Derived.Test.YtgfomfnjionbeaaGreatDoorPlain3
import Derived.KernelRfl
set_option linter.unusedSimpArgs false
set_option linter.unusedVariables false
section
set_option maxRecDepth 100000
namespace Go.Br
open Go Go.Eng Go.L41
structure W3 where
 h:Nat
 m:Nat
 l:Nat
def W3.ok (w:W3):Prop:=w.h<18446744073709551616/\w.m<18446744073709551616/\w.l<18446744073709551616
def W3.v (w:W3):Nat:=w.h*340282366920938463463374607431768211456+w.m*18446744073709551616+w.l
def w3n (hi lo:Nat):W3:=
 if (18446744073709551615-lo+1)%18446744073709551616=0 then
  (if (18446744073709551615-hi+1)%18446744073709551616=0 then ⟨0,0,0⟩ else ⟨18446744073709551615,(18446744073709551615-hi+1)%18446744073709551616,0⟩)
 else ⟨18446744073709551615,18446744073709551615-hi,(18446744073709551615-lo+1)%18446744073709551616⟩
theorem w3n_v {hi lo:Nat} (h1:hi<18446744073709551616) (h2:lo<18446744073709551616):(w3n hi lo).ok/\((w3n hi lo).v+(hi*18446744073709551616+lo))%6277101735386680763835789423207666416102355444464034512896=0:=by
 have key:∀a b c:Nat,a<18446744073709551616->b<18446744073709551616->c<18446744073709551616->(a*340282366920938463463374607431768211456+b*18446744073709551616+c+(hi*18446744073709551616+lo))%6277101735386680763835789423207666416102355444464034512896=0->
   (⟨a,b,c⟩:W3).ok/\((⟨a,b,c⟩:W3).v+(hi*18446744073709551616+lo))%6277101735386680763835789423207666416102355444464034512896=0:=fun a b c q1 q2 q3 q4=>⟨⟨q1,q2,q3⟩,q4⟩
 unfold w3n
 split
 ·split
  ·have e1:hi=0:=by omega
   have e2:lo=0:=by omega
   subst e1 e2
   exact ⟨⟨uA,uA,uA⟩,uA⟩
  ·exact key _ _ _ zC zC zC zC
 ·exact key _ _ _ zC zC zC zC
def w3c (a b:Nat):Nat:=if (a+b)%18446744073709551616<b then 1 else 0
theorem w3c_v {a b:Nat} (h1:a<18446744073709551616) (h2:b<18446744073709551616):(a+b)%18446744073709551616+w3c a b*18446744073709551616=a+b/\w3c a b<=1:=by
 unfold w3c;split<;>omega
def w3a (w x:W3):W3:=
 ⟨(w.h+(x.h+(w3c w.m x.m+w3c (w3c w.l x.l) ((w.m+x.m)%18446744073709551616))))%18446744073709551616,((w.m+x.m)%18446744073709551616+w3c w.l x.l)%18446744073709551616,(w.l+x.l)%18446744073709551616⟩
theorem w3a_v {w x:W3} (h1:w.ok) (h2:x.ok):(w3a w x).ok/\(w3a w x).v=(w.v+x.v)%6277101735386680763835789423207666416102355444464034512896:=by
 obtain ⟨a1,a2,a3⟩:=h1
 obtain ⟨b1,b2,b3⟩:=h2
 obtain ⟨c1,c2⟩:=w3c_v a3 b3
 obtain ⟨d1,d2⟩:=w3c_v a2 b2
 obtain ⟨e1,e2⟩:=w3c_v (a:=w3c w.l x.l) (b:=(w.m+x.m)%18446744073709551616) zC zC
 have hm:((w.m+x.m)%18446744073709551616+w3c w.l x.l)=(w3c w.l x.l+(w.m+x.m)%18446744073709551616):=Nat.add_comm _ _
 unfold w3a W3.ok W3.v
 dsimp only
 rw [hm]
 generalize w3c (w3c w.l x.l) ((w.m+x.m)%18446744073709551616)=k3 at *
 generalize w3c w.l x.l=k1 at *
 generalize w3c w.m x.m=k2 at *
 generalize (w.m+x.m)%18446744073709551616=M at *
 have q1:(k1+M)%18446744073709551616<18446744073709551616:=Nat.mod_lt _ zC
 have q2:(w.l+x.l)%18446744073709551616<18446744073709551616:=Nat.mod_lt _ zC
 generalize (k1+M)%18446744073709551616=M2 at *
 generalize (w.l+x.l)%18446744073709551616=L at *
 constructor
 ·omega
 ·omega
def w3s (l:Nat):Nat:=if l<9223372036854775808 then 0 else 18446744073709551615
theorem w3_fit {w:W3} (hw:w.ok) {S:Int} (hS: -(1569275433846670190958947355801916604025588861116008628224:Int)<=S/\S<=1569275433846670190958947355801916604025588861116008628224) (h:((w.v:Int)-S)%6277101735386680763835789423207666416102355444464034512896=0):
  (w.m=w3s w.l/\w.h=w3s w.l↔ -(9223372036854775808:Int)<=S/\S<=9223372036854775807)/\(-(9223372036854775808:Int)<=S/\S<=9223372036854775807->S=if w.l<9223372036854775808 then (w.l:Int) else (w.l:Int)-18446744073709551616):=by
 obtain ⟨a1,a2,a3⟩:=hw
 unfold W3.v at h
 unfold w3s
 by_cases c:w.l<9223372036854775808
 ·rw [if_pos c,if_pos c]
  constructor
  ·constructor
   ·intro q;omega
   ·intro q;omega
  ·intro q;omega
 ·rw [if_neg c,if_neg c]
  constructor
  ·constructor
   ·intro q;omega
   ·intro q;omega
  ·intro q;omega
/-! ## The value of a form -/
def pA:List Bd->ByteArray->Option Int
 |[],_=>none
 |x::r,s=>if x.Name=s then some x.Val else pA r s
def evM (env:List Bd):List Mono->Option Int
 |[]=>some 0
 |m::r=>match pA env m.Name with
  |none=>none
  |some v=>(evM env r).map fun z=>m.By*v+z
def fK (l:Lf) (env:List Bd):Int×Int:=
 if fM l=0 then (match evM env l.L with
  |none=>(0,9)
  |some z=>if-(9223372036854775808:Int)<=l.K+z/\l.K+z<=9223372036854775807 then (l.K+z,0) else (0,3)) else (0,1)
theorem evM_app (env:List Bd):∀(a b:List Mono),evM env (a++b)=match evM env a with|none=>none|some x=>(evM env b).map fun y=>x+y
 |[],b=>by rw [List.nil_append,evM];cases evM env b<;>simp
 |m::r,b=>by
  have ih:=evM_app env r b
  rw [List.cons_append,evM,evM,ih]
  cases pA env m.Name with
  |none=>rfl
  |some v=>
   dsimp only
   cases evM env r with
   |none=>rfl
   |some x=>
    dsimp only [Option.map]
    cases evM env b with
    |none=>rfl
    |some y=>simp only [Option.map];rw [Int.add_assoc]
theorem evM_next {env:List Bd} {l:List Mono} {k:Nat} {m:Mono} {x v:Int} (h:l[k]? =some m) (hx:evM env (l.take k)=some x) (hv:pA env m.Name=some v):evM env (l.take (k+1))=some (x+m.By*v):=by
 rw [yB h,evM_app,hx]
 dsimp only [evM]
 rw [hv]
 simp
theorem evM_none {env:List Bd} {l:List Mono} {k:Nat} {m:Mono} (h:l[k]? =some m) (hv:pA env m.Name=none):evM env l=none:=by
 have hl:=(List.getElem?_eq_some_iff.1 h).1
 have e:l=l.take k++m::l.drop (k+1):=by rw [←qO h,List.take_append_drop]
 rw [e,evM_app]
 cases evM env (l.take k) with
 |none=>rfl
 |some x=>dsimp only [evM];rw [hv];rfl
end Go.Br
end
section
namespace Go.Br
open Go Go.Eng Go.L41
/-! ## Sizes (19.1) -/
def lP (env:List Bd) (s:ByteArray):Int:=(pA env s).getD 0
def nT (env:List Bd) (s:ByteArray):Bool:=(pA env s).isSome&&decide (1<=lP env s)&&decide (lP env s<=4096)
def eA (c:Cn) (n:Int):Bool:=decide (n=0)||(decide (0<n)&& !c.Eq)
def whE (env:List Bd):List Cn->Int
 |[]=>0
 |c::r=>if ¬(fK c.Lin env).2=0 then (fK c.Lin env).2 else if eA c (fK c.Lin env).1=true then whE env r else 16
def lQ (p:Pg) (env:List Bd):Int:=if env.length=p.Sizes.length then (if p.Sizes.all (nT env)=true then whE env p.Where else 15) else 15
theorem wh_next {env:List Bd} {l:List Cn} {k:Nat} {c:Cn} (h:l[k]? =some c) (hp:whE env l=whE env (l.drop k)) (h1:(fK c.Lin env).2=0) (h2:eA c (fK c.Lin env).1=true):whE env l=whE env (l.drop (k+1)):=by
 rw [hp,qO h,whE,if_neg (fun q=>q h1),if_pos h2]
theorem wh_err {env:List Bd} {l:List Cn} {k:Nat} {c:Cn} (h:l[k]? =some c) (hp:whE env l=whE env (l.drop k)) (h1:¬(fK c.Lin env).2=0):whE env l=(fK c.Lin env).2:=by
 rw [hp,qO h,whE,if_pos h1]
theorem wh_no {env:List Bd} {l:List Cn} {k:Nat} {c:Cn} (h:l[k]? =some c) (hp:whE env l=whE env (l.drop k)) (h1:(fK c.Lin env).2=0) (h2:eA c (fK c.Lin env).1=false):whE env l=16:=by
 rw [hp,qO h,whE,if_neg (fun q=>q h1),if_neg (by rw [h2];simp)]
theorem wh_end {env:List Bd} {l:List Cn} {k:Nat} (h:l.length<=k) (hp:whE env l=whE env (l.drop k)):whE env l=0:=by rw [hp,List.drop_eq_nil_of_le h];rfl
/-! ## Extents -/
def gA (env:List Bd):List Lf->Int
 |[]=>0
 |f::r=>if ¬(fK f env).2=0 then (fK f env).2 else if (fK f env).1<1∨4096<(fK f env).1 then 15 else gA env r
def gT (env:List Bd) (l:List Lf):List Int:=l.map fun f=>(fK f env).1
theorem ext_next {env:List Bd} {l:List Lf} {k:Nat} {f:Lf} (h:l[k]? =some f) (hp:gA env l=gA env (l.drop k)) (h1:(fK f env).2=0) (h2:¬((fK f env).1<1∨4096<(fK f env).1)):gA env l=gA env (l.drop (k+1)):=by
 rw [hp,qO h,gA,if_neg (fun q=>q h1),if_neg h2]
theorem ext_err {env:List Bd} {l:List Lf} {k:Nat} {f:Lf} (h:l[k]? =some f) (hp:gA env l=gA env (l.drop k)) (h1:¬(fK f env).2=0):gA env l=(fK f env).2:=by
 rw [hp,qO h,gA,if_pos h1]
theorem ext_bad {env:List Bd} {l:List Lf} {k:Nat} {f:Lf} (h:l[k]? =some f) (hp:gA env l=gA env (l.drop k)) (h1:(fK f env).2=0) (h2:(fK f env).1<1∨4096<(fK f env).1):gA env l=15:=by
 rw [hp,qO h,gA,if_neg (fun q=>q h1),if_pos h2]
theorem ext_end {env:List Bd} {l:List Lf} {k:Nat} (h:l.length<=k) (hp:gA env l=gA env (l.drop k)):gA env l=0:=by rw [hp,List.drop_eq_nil_of_le h];rfl
def jH (p:Pg) (env:List Bd) (s:ByteArray):Int:=
 if (p.en.find s).ok=true then (if gA env (p.en.find s).dims=0 then (if (bJ 1 (gT env (p.en.find s).dims)).isSome=true then 0 else 15) else gA env (p.en.find s).dims) else 9
def mU (p:Pg) (env:List Bd) (s:ByteArray):List Int×Int:=if jH p env s=0 then (gT env (p.en.find s).dims,0) else ([],jH p env s)
def rT (p:Pg) (env:List Bd) (s:ByteArray):List Int×Int:=
 if (bK p).2=0 then (if lQ p env=0 then mU p env s else ([],lQ p env)) else ([],(bK p).2)
/-! ## A definition -/
def lnT (d a:ByteArray):ByteArray:=if bC (d++bs [95]++a)=true then d++bs [95]++a else bs []
def lF (d:ByteArray) (l:List Ax):Int:=if l.any (fun x=>decide (lnT d x.Name=bs []))=true then 7 else 0
def pG (d:ByteArray) (l:List Ax) (ext:List Int):List Bd:=(l.zip ext).map fun x=>⟨lnT d x.1.Name,x.2⟩
def pI (x:Bd) (b:List St):St:=.mk 1 x.Name x.Val 0 0 [] zEx b
def fN (l:List Bd) (b:List St):List St:=l.foldr (fun x b=>[pI x b]) b
def nO (d:Df) (at_:List Ix) (e:Ex):St:=.mk 2 d.Name 0 0 0 at_ e []
def jU (d:Df) (at_:List Ix) (f:Int) (e:Ex):St:=.mk 3 d.Name 0 0 f at_ e []
def lIf (e:Ex) (b:List St):St:=.mk 4 (bs []) 0 0 0 [] e b
def cY (l:Lf):Ex:=.mk 2 (bs []) ⟨0,0⟩ zTy l [] []
def pF (l:Lf):Ex:=.mk 13 (bs []) ⟨0,0⟩ zTy ⟨0,[]⟩ [] [cY ⟨0,[]⟩,cY l]
def sbX (e:Ex) (s:ByteArray) (u:Lf):Except Int Ex:=mEx (fun l=>fC l s u) e
def fW (u:ByteArray->Lf):List ByteArray->Ex->Except Int Ex
 |[],e=>.ok e
 |s::r,e=>match sbX e s (u s) with
  |.error x=>.error x
  |.ok e'=>fW u r e'
def cL (t:Ty):Vl:=if t.Kind=2 then ⟨2^t.Frac.toNat,1⟩ else ⟨1,1⟩
def gB (t:Ty):Vl×Int:=if dV t=true then (if jA t (cL t)=true then (cL t,0) else (⟨0,0⟩,3)) else (⟨0,0⟩,10)
def idT (f:Int) (t:Ty):Vl×Bool:=
 if dV t=true/\(f=1∨f=5) then (⟨0,1⟩,true) else if f=2 then ((gB t).1,decide ((gB t).2=0)) else (⟨0,0⟩,false)
/-! ## Def and Prog -/
def rV:List Bd->Lf->Lf
 |[],a=>a
 |x::r,a=>rV r (lE a (gV x.Name)).1
def rY (d:Df) (at_:List Ix) (red:List Bd) (body:Ex):Except Int (List St):=
 if d.Fold=0 then .ok [nO d at_ body] else
 if d.Fold=5 then .ok [nO d at_ body,lIf (pF (at_.getD (at_.length-1) ⟨⟨0,[]⟩,bs [],[]⟩).Lin)
  [jU d at_ 1 (.mk 3 d.Name ⟨0,0⟩ zTy ⟨0,[]⟩ (at_.set (at_.length-1) ⟨(lE (at_.getD (at_.length-1) ⟨⟨0,[]⟩,bs [],[]⟩).Lin ⟨-1,[]⟩).1,bs [],[]⟩) [])]] else
 if (idT d.Fold d.T).2=true then .ok (nO d at_ (.mk 1 (bs []) (idT d.Fold d.T).1 d.T ⟨0,[]⟩ [] [])::fN red [jU d at_ d.Fold body]) else
 match fW (fun _=>⟨0,[]⟩) (red.map Bd.Name) body with
 |.error x=>.error x
 |.ok first=>.ok (nO d at_ first::fN red [lIf (pF (rV red ⟨0,[]⟩)) [jU d at_ d.Fold body]])
def jZ (p:Pg) (env:List Bd) (d:Df):List Bd:=pG d.Name d.Dims (gT env (p.en.find d.Name).dims)
def vV (env:List Bd) (d:Df):List Bd:=pG d.Name d.Red (gT env (d.Red.map Ax.Size))
def nY (p:Pg) (env:List Bd) (d:Df):Except Int (List St):=
 match fW (fun s=>⟨lP env s,[]⟩) p.Sizes d.Body with
 |.error x=>.error x
 |.ok b=>match rY d ((jZ p env d).map fun x=>⟨gV x.Name,bs [],[]⟩) (vV env d) (gEx (jF ((bH d).map (lnT d.Name)) (bH d)) b) with
  |.error x=>.error x
  |.ok l=>.ok (fN (jZ p env d) l)
def gQ (p:Pg) (env:List Bd) (d:Df):Except Int (List St):=
 if ¬jH p env d.Name=0 then .error (jH p env d.Name) else
 if ¬gA env (d.Red.map Ax.Size)=0 then .error (gA env (d.Red.map Ax.Size)) else
 if ¬lF d.Name d.Dims=0 then .error 7 else if ¬lF d.Name d.Red=0 then .error 7 else nY p env d
def nV:Except Int (List St)->List St
 |.error _=>[]
 |.ok l=>l
def tN (p:Pg) (env:List Bd) (i:Int):Except Int (List St):=
 if ¬(bK p).2=0 then .error (bK p).2 else if ¬lQ p env=0 then .error (lQ p env) else
 if i<0∨(p.Defs.length:Int)<=i then .error 9 else
 match p.Defs[i.toNat]? with
 |none=>.error 9
 |some d=>gQ p env d
def rP (p:Pg) (env:List Bd) (x:Pm):Bf:=⟨x.Name,x.T,gT env (p.en.find x.Name).dims,1⟩
def mG (p:Pg) (env:List Bd) (d:Df):Bf:=⟨d.Name,d.T,gT env (p.en.find d.Name).dims,if bQ p.Outs d.Name=true then 2 else 3⟩
def mH (p:Pg) (env:List Bd):List Pm->Int
 |[]=>0
 |x::r=>if jH p env x.Name=0 then mH p env r else jH p env x.Name
def lY (p:Pg) (env:List Bd):List Df->Int
 |[]=>0
 |d::r=>match gQ p env d with
  |.error x=>x
  |.ok _=>lY p env r
def pH (p:Pg) (env:List Bd):Ns:=⟨p.Params.map (rP p env)++p.Defs.map (mG p env),p.Defs.flatMap fun d=>nV (gQ p env d)⟩
def jJ (p:Pg) (env:List Bd):Ns×Int:=
 if ¬(bK p).2=0 then (⟨[],[]⟩,(bK p).2) else if ¬lQ p env=0 then (⟨[],[]⟩,lQ p env) else
 if p.Outs.any (fun s=>p.Params.any fun x=>decide (x.Name=s))=true then (⟨[],[]⟩,1) else
 if ¬mH p env p.Params=0 then (⟨[],[]⟩,mH p env p.Params) else
 if ¬lY p env p.Defs=0 then (⟨[],[]⟩,lY p env p.Defs) else
 if ¬(gL (pH p env)).2=0 then (⟨[],[]⟩,(gL (pH p env)).2) else (pH p env,0)
theorem low_valid {p:Pg} {env:List Bd}:((jJ p env).2=0->(gL (jJ p env).1).2=0/\(jJ p env).1.Bufs.length=p.Params.length+p.Defs.length)/\(¬(jJ p env).2=0->(jJ p env).1=⟨[],[]⟩):=by
 unfold jJ
 split
 ·rename_i c;exact ⟨fun h=>absurd h c,fun _=>rfl⟩
 ·split
  ·rename_i c;exact ⟨fun h=>absurd h c,fun _=>rfl⟩
  ·split
   ·exact ⟨(fun h=>by cases h),fun _=>rfl⟩
   ·split
    ·rename_i c;exact ⟨fun h=>absurd h c,fun _=>rfl⟩
    ·split
     ·rename_i c;exact ⟨fun h=>absurd h c,fun _=>rfl⟩
     ·split
      ·rename_i c;exact ⟨fun h=>absurd h c,fun _=>rfl⟩
      ·rename_i c
       exact ⟨fun _=>⟨Decidable.of_not_not c,by simp [pH]⟩,fun h=>absurd rfl h⟩
end Go.Br
end
section
namespace Go.Br
open Go Go.Eng Go.L41
noncomputable def repO (ln:ByteArray->ByteArray) (P:List ByteArray) (a:ByteArray):ByteArray:= @ite _ (a∈P) (Classical.propDecidable _) (ln a) a
structure SqI (ln:ByteArray->ByteArray) (P:List ByteArray) (l c:Lf):Prop where
 k:c.K=l.K
 ok:bP c=true
 rng:c.rng
 mem:∀m,m∈c.L↔∃m0,m0∈l.L/\m=⟨repO ln P m0.Name,m0.By⟩
theorem allF_up {P Q:Lf->Prop} {e:Ex} (h:e.allF P) (k:∀l,P l->Q l):e.allF Q:=fun x hx l hl=>k l (h x hx l hl)
def lnR (d a:ByteArray):ByteArray:=d++bs [95]++a
theorem lnR_inj (d:ByteArray):∀a b,lnR d a=lnR d b->a=b:=fun a b h=>by
 have h2:=congrArg (fun x:ByteArray=>x.data.toList) h
 simp only [lnR,ByteArray.data_append,Array.toList_append] at h2
 have h3:=List.append_cancel_left h2
 exact ByteArray.ext (Array.toList_inj.1 h3)
end Go.Br
end
section
namespace Go.Br
open Go Go.Eng Go.L41
theorem lwMrg:∀(a b:List Mono) (t:Tr),t∈bR a b->(∃m,m∈a/\m.Name=t.1)∨∃m,m∈b/\m.Name=t.1
 |[],[],t,h=>by rw [mergeL_nil] at h;cases h
 |a::ar,[],t,h=>by
  rw [zMn] at h
  rcases List.mem_cons.1 h with rfl|h
  ·exact .inl ⟨a,uG,rfl⟩
  ·rcases lwMrg ar [] t h with ⟨m,hm,e⟩|⟨m,hm,e⟩
   ·exact .inl ⟨m,by simp [hm],e⟩
   ·cases hm
 |[],b::br,t,h=>by
  rw [zMm] at h
  rcases List.mem_cons.1 h with rfl|h
  ·exact .inr ⟨b,uG,rfl⟩
  ·rcases lwMrg [] br t h with ⟨m,hm,e⟩|⟨m,hm,e⟩
   ·cases hm
   ·exact .inr ⟨m,by simp [hm],e⟩
 |a::ar,b::br,t,h=>by
  rw [zHi] at h
  cases c:bX a.Name b.Name with
  |true=>
   rw [c,cond_true] at h
   rcases List.mem_cons.1 h with rfl|h
   ·exact .inl ⟨a,uG,rfl⟩
   ·rcases lwMrg ar (b::br) t h with ⟨m,hm,e⟩|h
    ·exact .inl ⟨m,by simp [hm],e⟩
    ·exact .inr h
  |false=>
   rw [c,cond_false] at h
   cases c2:bX b.Name a.Name with
   |true=>
    rw [c2,cond_true] at h
    rcases List.mem_cons.1 h with rfl|h
    ·exact .inr ⟨b,uG,rfl⟩
    ·rcases lwMrg (a::ar) br t h with h|⟨m,hm,e⟩
     ·exact .inl h
     ·exact .inr ⟨m,by simp [hm],e⟩
   |false=>
    rw [c2,cond_false] at h
    rcases List.mem_cons.1 h with rfl|h
    ·exact .inl ⟨a,uG,rfl⟩
    ·rcases lwMrg ar br t h with ⟨m,hm,e⟩|⟨m,hm,e⟩
     ·exact .inl ⟨m,by simp [hm],e⟩
     ·exact .inr ⟨m,by simp [hm],e⟩
termination_by a b=>a.length+b.length
theorem lwAdd {k:Int} {ts:List Tr} {m:Mono} (h:m∈(rH k ts).1.L):∃t,t∈ts/\t.1=m.Name:=by
 unfold rH at h
 split at h
 ·have h:m∈nB ts:=h
  unfold nB at h
  obtain ⟨t,ht,e⟩:=List.mem_filterMap.1 h
  split at e
  ·cases e
  ·injection e with e;exact ⟨t,ht,by rw [←e]⟩
 ·cases h
theorem lwSub {l tt:Lf} {s:ByteArray} (hs:dA l.L s=0->∀m,m∈l.L->m.Name≠s) {m:Mono} (h:m∈(lZ l s tt).1.L):(∃x,x∈l.L/\x.Name=m.Name/\x.Name≠s)∨∃x,x∈tt.L/\x.Name=m.Name:=by
 unfold lZ at h
 split at h
 ·split at h
  ·next c=>exact .inl ⟨m,h,rfl,hs c m h⟩
  ·split at h
   ·obtain ⟨t,ht,e⟩:=lwAdd h
    unfold sP at ht
    obtain ⟨u,hu,rfl⟩:=List.mem_map.1 ht
    rcases lwMrg _ _ u hu with ⟨x,hx,e2⟩|⟨x,hx,e2⟩
    ·have h3:=List.mem_filter.1 hx
     exact .inl ⟨x,h3.1,by rw [e2];exact e,by simpa using h3.2⟩
    ·exact .inr ⟨x,hx,by rw [e2];exact e⟩
   ·cases h
 ·cases h
def szF (S A:List ByteArray) (l:Lf):Prop:=bP l=true/\l.rng/\∀m,m∈l.L->m.Name∈S∨m.Name∈A
theorem sz_seq {A:List ByteArray} {u:ByteArray->Lf} (hu:∀s,(u s).L=[]/\bP (u s)=true):∀(S:List ByteArray) (e e':Ex),(∀s,s∈S->bC s=true)->e.allF (szF S A)->fW u S e=.ok e'->e'.allF (szF [] A)
 |[],e,e',_,hF,h=>by
  rw [fW,Except.ok.injEq] at h
  rw [←h];exact hF
 |s::r,e,e',hS,hF,h=>by
  rw [fW] at h
  cases h1:sbX e s (u s) with
  |error c=>rw [h1] at h;cases h
  |ok e1=>
   rw [h1] at h
   obtain ⟨q1,q2⟩:=mEx_g (show mEx (fun l=>fC l s (u s)) e=.ok e1 from h1)
   refine sz_seq hu r e1 e' (fun t ht=>hS t (by simp [ht])) ?_ h
   rw [q1]
   refine allF_g fun x hx l hl=>?_
   have h2:=hF x hx l hl
   have h3:=q2 x hx l hl
   dsimp only at h3⊢
   rw [subst_eq h2.2.1] at h3⊢
   refine ⟨substR_ok h2.1 (hu s).2 (hS s uG) h3,substR_rng s h2.2.1,fun m hm=>?_⟩
   rcases lwSub (l:=l) (tt:=u s) (s:=s) (fun h0=>last_zero h2.1 h0) hm with ⟨y,hy,e2,e3⟩|⟨y,hy,_⟩
   ·rcases h2.2.2 y hy with k|k
    ·rcases List.mem_cons.1 k with k|k
     ·exact absurd k e3
     ·rw [←e2];exact .inl k
    ·rw [←e2];exact .inr k
   ·rw [(hu s).1] at hy;cases hy
theorem zSd:∀(l t:List ByteArray),nC t l=0->∀s,s∈l->bC s=true
 |[],_,_,s,hs=>by cases hs
 |a::r,t,h,s,hs=>by
  rw [nC] at h
  by_cases c:fR a t=0
  ·rw [if_pos c] at h
   rcases List.mem_cons.1 hs with rfl|hs
   ·unfold fR at c
    split at c
    ·assumption
    ·cases c
   ·exact zSd r _ h s hs
  ·rw [if_neg c] at h;exact absurd h c
theorem axes_names {sz:List ByteArray}:∀(l:List Ax) (t:List ByteArray),mZ sz t l=0->∀a,a∈l->bC a.Name=true
 |[],_,_,s,hs=>by cases hs
 |a::r,t,h,s,hs=>by
  rw [mZ] at h
  by_cases c:fR a.Name t=0
  ·rw [if_pos c] at h
   by_cases c2:pK a.Size sz=0
   ·rw [if_pos c2] at h
    rcases List.mem_cons.1 hs with rfl|hs
    ·unfold fR at c
     split at c
     ·assumption
     ·cases c
    ·exact axes_names r _ h s hs
   ·rw [if_neg c2] at h;exact absurd h c2
  ·rw [if_neg c] at h;exact absurd h c
theorem valid_axnames {p:Pg} (h:(bK p).2=0):∀d,d∈p.Defs->∀s,s∈bH d->bC s=true:=by
 rw [zGy] at h
 obtain ⟨a',h5,_⟩:=zDo p p rfl p.Params _ _ (zFc h).2.2.2
 intro d hd
 obtain ⟨i,hi⟩:=List.getElem?_of_mem hd
 have h1:=defR_axes (zHu p p.Defs _ _ _ h5 i d hi)
 have e:bH d=(d.Dims++d.Red).map Ax.Name:=by unfold bH;rw [List.map_append]
 rw [e]
 intro s hs
 obtain ⟨a,ha,rfl⟩:=List.mem_map.1 hs
 exact axes_names _ _ h1 a ha
end Go.Br
end
section
namespace Go.Br
open Go Go.Eng Go.L41
theorem lw_lins {g:Lf->Lf}:∀l:List Lf,(∀x,x∈l->(g x).L.length<=x.L.length)->fT (l.map g)<=fT l
 |[],_=>Nat.le_refl _
 |x::r,h=>by
  rw [List.map_cons,fT,fT]
  have h1:=h x uG
  have h2:=lw_lins r fun y hy=>h y (by simp [hy])
  omega
theorem lw_ix {g:Lf->Lf} {x:Ix} (h1:(g x.Lin).L.length<=x.Lin.L.length) (h2:∀y,y∈x.At->(g y).L.length<=y.L.length):(gIx g x).wt<=x.wt:=by
 have h3:=lw_lins x.At h2
 unfold Ix.wt gIx
 simp only [List.length_map]
 omega
theorem lw_idx {g:Ix->Ix}:∀l:List Ix,(∀x,x∈l->(g x).wt<=x.wt)->dD (l.map g)<=dD l
 |[],_=>Nat.le_refl _
 |x::r,h=>by
  rw [List.map_cons,dD,dD]
  have h1:=h x uG
  have h2:=lw_idx r fun y hy=>h y (by simp [hy])
  omega
theorem lw_args {g:Ex->Ex}:∀l:List Ex,(∀x,x∈l->(g x).wt<=x.wt)->dS (l.map g)<=dS l
 |[],_=>Nat.le_refl _
 |x::r,h=>by
  rw [List.map_cons,dS,dS]
  have h1:=h x uG
  have h2:=lw_args r fun y hy=>h y (by simp [hy])
  omega
theorem lw_ex {g:Lf->Lf}:∀{e:Ex},e.allF (fun l=>(g l).L.length<=l.L.length)->(gEx g e).wt<=e.wt:=by
 intro e
 induction e using Ex.ind with
 |_ e ih=>
  intro h
  have h1:=Ex.allF_lin h
  have h2:=lw_idx (g:=gIx g) e.Idx fun x hx=>lw_ix (Ex.allF_ix h hx) fun y hy=>Ex.allF_at h hx hy
  have h3:=lw_args (g:=gEx g) e.Args fun a ha=>ih a ha (Ex.allF_arg h ha)
  rw [gEx_eq,Ex.wt,Ex.wt_eq e,List.length_map]
  omega
theorem sb_wt {u:ByteArray->Lf} (hu:∀s,(u s).L=[]):∀(S:List ByteArray) (e e':Ex),e.allF Lf.rng->fW u S e=.ok e'->e'.wt<=e.wt/\e'.allF Lf.rng
 |[],e,e',hF,h=>by
  rw [fW,Except.ok.injEq] at h
  rw [←h];exact ⟨Nat.le_refl _,hF⟩
 |s::r,e,e',hF,h=>by
  rw [fW] at h
  cases h1:sbX e s (u s) with
  |error c=>rw [h1] at h;cases h
  |ok e1=>
   rw [h1] at h
   obtain ⟨q1,q2⟩:=mEx_g (show mEx (fun l=>fC l s (u s)) e=.ok e1 from h1)
   have hw:e1.wt<=e.wt:=by
    rw [q1]
    refine lw_ex fun x hx l hl=>?_
    have:=substR_len l (u s) s
    dsimp only
    rw [subst_eq (hF x hx l hl)]
    rw [hu s,List.length_nil] at this;exact this
   have hr:e1.allF Lf.rng:=by
    rw [q1]
    refine allF_g fun x hx l hl=>?_
    dsimp only
    rw [subst_eq (hF x hx l hl)]
    exact substR_rng s (hF x hx l hl)
   obtain ⟨g1,g2⟩:=sb_wt hu r e1 e' hr h
   exact ⟨zC,g2⟩
theorem lw_ren {A B:List ByteArray} (e:Ex):(gEx (jF A B) e).wt<=e.wt:=lw_ex fun x hx l hl=>by
 show (gY _).length<=_
 rw [zRz,List.length_map]
 exact Nat.le_refl _
theorem renF_rng {A B:List ByteArray} {l:Lf} (h:l.rng):(jF A B l).rng:=⟨h.1,fun m hm=>by
 obtain ⟨m',hm',rfl⟩:=List.mem_map.1 (sortM_mem.1 hm)
 exact h.2 m' hm'⟩
/-! ## Statements -/
theorem loops_wt (l:List Bd) (b:List St):bI (fN l b)<=bI b+l.length*2:=by
 induction l with
 |nil=>exact Nat.le_add_right _ _
 |cons x r ih=>
  show bI [pI x (fN r b)]<=_
  have e:bI [pI x (fN r b)]=(pI x (fN r b)).wt+0:=by rw [bI,bI]
  have e2:(pI x (fN r b)).wt=1+zEx.wt+0+0+bI (fN r b):=by rw [St.wt_eq];rfl
  have hz:zEx.wt=1:=rfl
  rw [List.length_cons,e,e2]
  omega
theorem addL_len (a b:Lf):(lE a b).1.L.length<=a.L.length+b.L.length:=by
 unfold lE
 split
 ·unfold rH
  split
  ·have h1:=zQu (bR a.L b.L)
   have h2:=zOn a.L b.L
   show (nB _).length<=_
   omega
  ·show (zL.L).length<=_;simp [zL]
 ·show (zL.L).length<=_;simp [zL]
theorem sumL_len:∀(l:List Bd) (a:Lf),(rV l a).L.length<=a.L.length+l.length
 |[],a=>by rw [rV];exact Nat.le_add_right _ _
 |x::r,a=>by
  rw [rV,List.length_cons]
  have h1:=sumL_len r (lE a (gV x.Name)).1
  have h2:=addL_len a (gV x.Name)
  have h3:(gV x.Name).L.length<=1:=by unfold gV;cases bC x.Name<;>simp
  omega
theorem one_wt (s:St):bI [s]=s.wt:=by rw [bI,bI];rfl
theorem two_wt (s t:St):bI [s,t]=s.wt+t.wt:=by rw [bI,one_wt]
theorem set_wt (d:Df) (at_:List Ix) (e:Ex):(nO d at_ e).wt=1+e.wt+at_.length+dD at_:=by rw [St.wt_eq];rfl
theorem fld_wt (d:Df) (at_:List Ix) (f:Int) (e:Ex):(jU d at_ f e).wt=1+e.wt+at_.length+dD at_:=by rw [St.wt_eq];rfl
theorem if_wt (e:Ex) (b:List St):(lIf e b).wt=1+e.wt+bI b:=by rw [St.wt_eq];rfl
theorem pos_wt (l:Lf):(pF l).wt=3+l.L.length:=by
 rw [Ex.wt_eq]
 show 1+0+0+0+dS [cY ⟨0,[]⟩,cY l]=_
 rw [dS,dS,dS,Ex.wt_eq,Ex.wt_eq]
 show 1+0+0+0+((1+0+0+0+0)+((1+l.L.length+0+0+0)+0))=_
 omega
theorem at_wt:∀l:List Bd,dD (l.map fun x=>(⟨gV x.Name,bs [],[]⟩:Ix))<=l.length
 |[]=>Nat.le_refl _
 |x::r=>by
  rw [List.map_cons,dD,List.length_cons]
  have h1:=at_wt r
  have h3:(gV x.Name).L.length<=1:=by unfold gV;cases bC x.Name<;>simp
  have h4:(⟨gV x.Name,bs [],[]⟩:Ix).wt=(gV x.Name).L.length:=rfl
  omega
theorem idx_set:∀(l:List Ix) (k:Nat) (x:Ix),dD (l.set k x)<=dD l+x.wt
 |[],_,_=>by simp [dD]
 |y::r,0,x=>by rw [List.set_cons_zero,dD,dD];omega
 |y::r,k+1,x=>by
  have:=idx_set r k x
  rw [List.set_cons_succ,dD,dD];omega
theorem idx_getD:∀(l:List Ix) (k:Nat),(l.getD k ⟨⟨0,[]⟩,bs [],[]⟩).wt<=dD l
 |[],k=>by simp [Ix.wt,fT]
 |y::r,0=>by rw [dD];show y.wt<=_;omega
 |y::r,k+1=>by
  have:=idx_getD r k
  rw [List.getD_cons_succ,dD];omega
theorem inn_wt {d:Df} {at_:List Ix} {red:List Bd} {body:Ex} {l:List St} (hR:body.allF Lf.rng) (hI:dD at_<=at_.length) (h:rY d at_ red body=.ok l):bI l<=2*body.wt+10*at_.length+8*red.length+40:=by
 have hb:=Ex.wt_eq body
 unfold rY at h
 split at h
 ·rw [Except.ok.injEq] at h
  rw [←h,one_wt,set_wt];omega
 ·split at h
  ·rw [Except.ok.injEq] at h
   have h1:=idx_getD at_ (at_.length-1)
   have h2:=addL_len (at_.getD (at_.length-1) ⟨⟨0,[]⟩,bs [],[]⟩).Lin ⟨-1,[]⟩
   have h3:=idx_set at_ (at_.length-1) ⟨(lE (at_.getD (at_.length-1) ⟨⟨0,[]⟩,bs [],[]⟩).Lin ⟨-1,[]⟩).1,bs [],[]⟩
   have h4:(at_.getD (at_.length-1) ⟨⟨0,[]⟩,bs [],[]⟩).Lin.L.length<=(at_.getD (at_.length-1) ⟨⟨0,[]⟩,bs [],[]⟩).wt:=by unfold Ix.wt;omega
   have h5:(⟨(lE (at_.getD (at_.length-1) ⟨⟨0,[]⟩,bs [],[]⟩).Lin ⟨-1,[]⟩).1,bs [],[]⟩:Ix).wt=(lE (at_.getD (at_.length-1) ⟨⟨0,[]⟩,bs [],[]⟩).Lin ⟨-1,[]⟩).1.L.length:=rfl
   have h6:∀i:List Ix,(Ex.mk 3 d.Name ⟨0,0⟩ zTy ⟨0,[]⟩ i []).wt=1+0+i.length+dD i+0:=fun i=>by rw [Ex.wt_eq];rfl
   rw [←h,two_wt,set_wt,if_wt,one_wt,fld_wt,pos_wt,h6,List.length_set]
   simp only [List.length_nil] at h2
   omega
  ·split at h
   ·rw [Except.ok.injEq] at h
    have h6:(Ex.mk 1 (bs []) (idT d.Fold d.T).1 d.T ⟨0,[]⟩ [] []).wt=1:=by rw [Ex.wt_eq];rfl
    have h7:=loops_wt red [jU d at_ d.Fold body]
    rw [one_wt,fld_wt] at h7
    rw [←h,bI,set_wt,h6];omega
   ·split at h
    ·cases h
    ·rename_i first hf
     rw [Except.ok.injEq] at h
     have h6:=(sb_wt (u:=fun _=>⟨0,[]⟩) (fun _=>rfl) _ _ _ hR hf).1
     have h7:=loops_wt red [lIf (pF (rV red ⟨0,[]⟩)) [jU d at_ d.Fold body]]
     have h8:=sumL_len red ⟨0,[]⟩
     rw [one_wt,if_wt,one_wt,fld_wt,pos_wt] at h7
     simp only [List.length_nil] at h8
     rw [←h,bI,set_wt];omega
theorem nmd_len (d:ByteArray) (l:List Ax) (ext:List Int):(pG d l ext).length<=l.length:=by
 unfold pG;rw [List.length_map,List.length_zip];omega
theorem low_wt {p:Pg} {env:List Bd} {d:Df} {l:List St} (hR:d.Body.allF Lf.rng) (h:nY p env d=.ok l):bI l<=2*d.Body.wt+12*d.Dims.length+8*d.Red.length+40:=by
 unfold nY at h
 split at h
 ·cases h
 ·rename_i b hb
  obtain ⟨g1,g2⟩:=sb_wt (u:=fun s=>⟨lP env s,[]⟩) (fun _=>rfl) _ _ _ hR hb
  split at h
  ·cases h
  ·rename_i l' hl
   rw [Except.ok.injEq] at h
   have hw:=lw_ren (A:=(bH d).map (lnT d.Name)) (B:=bH d) b
   have hD:=nmd_len d.Name d.Dims (gT env (p.en.find d.Name).dims)
   have hE:=nmd_len d.Name d.Red (gT env (d.Red.map Ax.Size))
   have h1:=inn_wt (allF_g (g:=jF ((bH d).map (lnT d.Name)) (bH d)) (allF_up g2 fun l hl=>renF_rng hl)) (by rw [List.length_map];exact at_wt (jZ p env d)) hl
   have h2:=loops_wt (jZ p env d) l'
   rw [List.length_map] at h1
   rw [←h]
   have e1:(jZ p env d).length<=d.Dims.length:=hD
   have e2:(vV env d).length<=d.Red.length:=hE
   omega
/-! ## The whole nest -/
theorem zRt {p:Pg} (h:(bK p).2=0):∀d,d∈p.Defs->d.Dims.length<=6/\d.Red.length<=6:=by
 rw [zGy] at h
 obtain ⟨a',h5,_⟩:=zDo p p rfl p.Params _ _ (zFc h).2.2.2
 intro d hd
 obtain ⟨i,hi⟩:=List.getElem?_of_mem hd
 have h0:=zHu p p.Defs _ _ _ h5 i d hi
 have h1:fR d.Name _=0:=Decidable.byContradiction fun c=>by rw [defR_1 c] at h0;exact c h0
 have h2:dV d.T=true:=by
  cases c:dV d.T with
  |true=>rfl
  |false=>rw [defR_10 h1 c] at h0;cases h0
 have h3:¬(6<d.Dims.length∨6<d.Red.length):=fun c=>by rw [defR_11 h1 h2 c] at h0;cases h0
 omega
theorem low_sts {f:Df->List St} {K:Nat}:∀l:List Df,(∀d,d∈l->bI (f d)<=K)->bI (l.flatMap f)<=l.length*K
 |[],_=>by simp [bI]
 |d::r,h=>by
  have h1:=h d uG
  have h2:=low_sts r fun x hx=>h x (by simp [hx])
  rw [List.flatMap_cons,zIl,List.length_cons,Nat.succ_mul]
  omega
theorem find_d:∀(l:List Df) (s:ByteArray) (k:Nat),(∀d,d∈l->d.Dims.length<=k)->(fZ s l).dims.length<=k
 |[],_,_,_=>Nat.zero_le _
 |d::r,s,k,h=>by
  rw [fZ]
  cases decide (d.Name=s) with
  |true=>rw [cond_true,List.length_map];exact h d uG
  |false=>rw [cond_false];exact find_d r s k fun x hx=>h x (by simp [hx])
theorem find_p:∀(l:List Pm) (ds:List Df) (s:ByteArray) (k:Nat),(∀d,d∈ds->d.Dims.length<=k)->(∀x,x∈l->x.Dims.length<=k)->(fS s ds l).dims.length<=k
 |[],ds,s,k,h,_=>find_d ds s k h
 |x::r,ds,s,k,h,h2=>by
  rw [fS]
  cases decide (x.Name=s) with
  |true=>rw [cond_true];exact h2 x uG
  |false=>rw [cond_false];exact find_p r ds s k h fun y hy=>h2 y (by simp [hy])
theorem low_e {p:Pg} {env:List Bd} {d:Df} {l:List St} (h:gQ p env d=.ok l):nY p env d=.ok l:=by
 unfold gQ at h
 split at h
 ·cases h
 ·split at h
  ·cases h
  ·split at h
   ·cases h
   ·split at h
    ·cases h
    ·exact h
theorem low_ok {p:Pg} {env:List Bd} (hS:p.Sm) (hv:(bK p).2=0) (hR:∀d,d∈p.Defs->d.Body.allF Lf.rng):(pH p env).Ok/\bI (pH p env).Body<=900000:=by
 have hw:bI (pH p env).Body<=p.Defs.length*3200:=low_sts p.Defs fun d hd=>by
  cases h:gQ p env d with
  |error x=>exact Nat.zero_le _
  |ok l=>
   have h1:=low_wt (hR d hd) (low_e h)
   have h2:=(hS.ds d hd).2.2
   have h3:=zRt hv d hd
   show bI l<=_
   omega
 have h1:=hS.defs
 have h2:=hS.params
 have h3:bI (pH p env).Body<=900000:=Nat.le_trans hw (Nat.le_trans (Nat.mul_le_mul_right 3200 h1) zC)
 refine ⟨⟨?_,fun b hb=>?_,zC⟩,h3⟩
 ·show (p.Params.map _++p.Defs.map _).length<=_
  rw [List.length_append,List.length_map,List.length_map];omega
 ·have hl:∀s,(gT env (p.en.find s).dims).length<=1500:=fun s=>by
   unfold gT;rw [List.length_map]
   exact find_p p.Params p.Defs s 1500 (fun d hd=>(hS.ds d hd).1) hS.ps
  rcases List.mem_append.1 hb with hb|hb
  ·obtain ⟨x,_,rfl⟩:=List.mem_map.1 hb
   exact Nat.le_trans (hl x.Name) zC
  ·obtain ⟨x,_,rfl⟩:=List.mem_map.1 hb
   exact Nat.le_trans (hl x.Name) zC
end Go.Br
end
section
namespace Go.Br
open Go Go.Eng Go.L41
def xT:Ty:=⟨1,0,0,0,0⟩
def xBody:Ex:=.mk 3 (bs [97]) ⟨0,0⟩ zTy ⟨0,[]⟩ [⟨⟨0,[⟨bs [106],1⟩]⟩,bs [],[]⟩] []
def xD (f:Int):Df:=⟨bs [115],xT,[],[⟨bs [106],⟨0,[⟨bs [110],1⟩]⟩⟩],f,xBody⟩
def xP (f:Int):Pg:=⟨[bs [110]],[],[⟨bs [97],xT,[⟨0,[⟨bs [110],1⟩]⟩]⟩],[xD f],[bs [115]]⟩
def xV:List Bd:=[⟨bs [110],3⟩]
def sj:ByteArray:=bs [115,95,106]
def jV:Ex:=.mk 3 (bs [97]) ⟨0,0⟩ zTy ⟨0,[]⟩ [⟨⟨0,[⟨sj,1⟩]⟩,bs [],[]⟩] []
theorem x_sb (f:Int):fW (fun s=>⟨lP xV s,[]⟩) [bs [110]] xBody=.ok xBody:=by kernel_rfl
theorem x_ren:gEx (jF [sj] [bs [106]]) xBody=jV:=by
 have h0:jF [sj] [bs [106]] ⟨0,[]⟩=⟨0,[]⟩:=by simp [jF,gY]
 have h1:jF [sj] [bs [106]] ⟨0,[⟨bs [106],1⟩]⟩=⟨0,[⟨sj,1⟩]⟩:=by
  simp only [jF,gY,List.map_cons,List.map_nil,List.mergeSort_singleton]
  have:lW [sj] [bs [106]] (bs [106])=sj:=by decide+kernel
  rw [this]
 rw [gEx_eq]
 show Ex.mk 3 (bs [97]) ⟨0,0⟩ zTy (jF [sj] [bs [106]] ⟨0,[]⟩) [⟨jF [sj] [bs [106]] ⟨0,[⟨bs [106],1⟩]⟩,bs [],[]⟩] []=_
 rw [h0,h1];rfl
def xL1:List St:=[nO (xD 1) [] (.mk 1 (bs []) ⟨0,1⟩ xT ⟨0,[]⟩ [] []),pI ⟨sj,3⟩ [jU (xD 1) [] 1 jV]]
def xL4:List St:=[nO (xD 4) [] (.mk 3 (bs [97]) ⟨0,0⟩ zTy ⟨0,[]⟩ [⟨⟨0,[]⟩,bs [],[]⟩] []),pI ⟨sj,3⟩ [lIf (pF ⟨0,[⟨sj,1⟩]⟩) [jU (xD 4) [] 4 jV]]]
theorem x_names (f:Int):(bH (xD f)).map (lnT (xD f).Name)=[sj]:=by show [lnT (bs [115]) (bs [106])]=_;decide+kernel
theorem x_low1:nY (xP 1) xV (xD 1)=.ok xL1:=by
 unfold nY
 rw [show fW (fun s=>(⟨lP xV s,[]⟩:Lf)) (xP 1).Sizes (xD 1).Body=.ok xBody from x_sb 1]
 dsimp only
 rw [x_names,show gEx (jF [sj] (bH (xD 1))) xBody=jV from x_ren]
 kernel_rfl
theorem x_low4:nY (xP 4) xV (xD 4)=.ok xL4:=by
 unfold nY
 rw [show fW (fun s=>(⟨lP xV s,[]⟩:Lf)) (xP 4).Sizes (xD 4).Body=.ok xBody from x_sb 4]
 dsimp only
 rw [x_names,show gEx (jF [sj] (bH (xD 4))) xBody=jV from x_ren]
 kernel_rfl
theorem x_e {f:Int} {l:List St} (h:nY (xP f) xV (xD f)=.ok l):gQ (xP f) xV (xD f)=.ok l:=by
 unfold gQ
 rw [if_neg (by rw [show jH (xP f) xV (xD f).Name=0 by kernel_rfl];simp),if_neg (by rw [show gA xV ((xD f).Red.map Ax.Size)=0 by kernel_rfl];simp),
  if_neg (by rw [show lF (xD f).Name (xD f).Dims=0 by kernel_rfl];simp),if_neg (by rw [show lF (xD f).Name (xD f).Red=0 by kernel_rfl];simp)]
 exact h
def xN (l:List St):Ns:=⟨[⟨bs [97],xT,[3],1⟩,⟨bs [115],xT,[],2⟩],l⟩
theorem x_n {f:Int} {l:List St} (h:nY (xP f) xV (xD f)=.ok l):pH (xP f) xV=xN l:=by
 have e:pH (xP f) xV=⟨[rP (xP f) xV ⟨bs [97],xT,[⟨0,[⟨bs [110],1⟩]⟩]⟩,mG (xP f) xV (xD f)],nV (gQ (xP f) xV (xD f))++[]⟩:=rfl
 rw [e,x_e h,List.append_nil]
 have e1:rP (xP f) xV ⟨bs [97],xT,[⟨0,[⟨bs [110],1⟩]⟩]⟩=⟨bs [97],xT,[3],1⟩:=by kernel_rfl
 have e2:mG (xP f) xV (xD f)=⟨bs [115],xT,[],2⟩:=by kernel_rfl
 rw [e1,e2];rfl
theorem x_P {f:Int} {l:List St} (h:nY (xP f) xV (xD f)=.ok l) (hv:(bK (xP f)).2=0) (hn:(gL (xN l)).2=0):jJ (xP f) xV=(xN l,0):=by
 unfold jJ
 rw [if_neg (by rw [hv];simp),if_neg (by rw [show lQ (xP f) xV=0 by kernel_rfl];simp),if_neg (by rw [show ((xP f).Outs.any fun s=>(xP f).Params.any fun x=>decide (x.Name=s))=false by kernel_rfl];simp),
  if_neg (by rw [show mH (xP f) xV (xP f).Params=0 by kernel_rfl];simp),
  if_neg (by rw [show lY (xP f) xV (xP f).Defs=lY (xP f) xV [xD f] from rfl,lY,x_e h];simp [lY]),x_n h,if_neg (by rw [hn];simp)]
theorem x_P1:jJ (xP 1) xV=(xN xL1,0):=x_P x_low1 uC uC
theorem x_P4:jJ (xP 4) xV=(xN xL4,0):=x_P x_low4 uC uC
end Go.Br
end
section
namespace Go.Br
open Go Go.Eng Go.L41
/-! ## Sums of 192 bits -/
abbrev w3C (w:W3):List C:=[.lit (.int .u64 (w.h:Int)),.lit (.int .u64 (w.m:Int)),.lit (.int .u64 (w.l:Int))]
def w3x (hi lo:Nat) (neg:Bool):W3:=if neg=true then w3n hi lo else ⟨0,hi,lo⟩
theorem w3_put {w:W3} {hi lo:Nat} {S P:Int} (hw:w.ok) (h1:hi<18446744073709551616) (h2:lo<18446744073709551616) (neg:Bool)
  (hS:((w.v:Int)-S)%6277101735386680763835789423207666416102355444464034512896=0) (hP:P=if neg=true then-((hi*18446744073709551616+lo:Nat):Int) else ((hi*18446744073709551616+lo:Nat):Int)):
  (w3a w (w3x hi lo neg)).ok/\(((w3a w (w3x hi lo neg)).v:Int)-(S+P))%6277101735386680763835789423207666416102355444464034512896=0:=by
 have hx:(w3x hi lo neg).ok/\(((w3x hi lo neg).v:Int)-P)%6277101735386680763835789423207666416102355444464034512896=0:=by
  unfold w3x
  cases neg with
  |true=>
   obtain ⟨a,b⟩:=w3n_v h1 h2
   rw [if_pos rfl] at hP⊢
   generalize w3n hi lo=q at *
   exact ⟨a,by rw [hP];omega⟩
  |false=>
   rw [if_neg uG] at hP⊢
   exact ⟨⟨show 0<18446744073709551616 by decide,h1,h2⟩,by rw [hP];unfold W3.v;dsimp only;omega⟩
 obtain ⟨a,b⟩:=w3a_v hw hx.1
 refine ⟨a,?_⟩
 generalize (w3a w (w3x hi lo neg)).v=q at *
 generalize (w3x hi lo neg).v=r at *
 generalize w.v=s at *
 have h3:=hx.2
 omega
theorem mul_abs {x y:Int}:x*y=if (decide (x<0) !=decide (y<0))=true then-((x.natAbs*y.natAbs:Nat):Int) else ((x.natAbs*y.natAbs:Nat):Int):=by
 have h:=zPl x y
 split
 ·rename_i c
  have:=neg_mul (x:=x) (y:=y) (by cases h1:decide (x<0)<;>cases h2:decide (y<0)<;>rw [h1,h2] at c<;>simp_all)
  omega
 ·rename_i c
  have:=pos_mul (x:=x) (y:=y) (by cases h1:decide (x<0)<;>cases h2:decide (y<0)<;>rw [h1,h2] at c<;>simp_all)
  omega
theorem abs_bd {x y:Int} (hx:r64 x) (hy:r64 y):(x*y).natAbs<=85070591730234615865843651857942052864:=by
 rw [zPl]
 exact Nat.le_trans (Nat.mul_le_mul (zGe hx) (zGe hy)) uA
structure EvJ (l:Lf) (env:List Bd) (k:Nat) (w:W3) (z:Int):Prop where
 ok:w.ok
 ev:evM env (l.L.take k)=some z
 md:((w.v:Int)-(l.K+z))%6277101735386680763835789423207666416102355444464034512896=0
 bd:(l.K+z).natAbs<=9223372036854775808+k*85070591730234615865843651857942052864
theorem ev_first {l:Lf} {env:List Bd} (hk:r64 l.K):EvJ l env 0 (w3a ⟨0,0,0⟩ (w3x 0 l.K.natAbs (decide (l.K<0)))) 0:=by
 have hm:=zGe hk
 obtain ⟨a,b⟩:=w3_put (w:=⟨0,0,0⟩) (hi:=0) (lo:=l.K.natAbs) (S:=0) (P:=l.K) ⟨uA,uA,uA⟩ uA zC (decide (l.K<0)) uA (by
  split
  ·rename_i c;have:=of_decide_eq_true c;omega
  ·rename_i c;have:¬l.K<0:=fun h=>c (decide_eq_true h);omega)
 exact ⟨a,rfl,by rw [Int.add_zero];rw [Int.zero_add] at b;exact b,zC⟩
theorem ev_next {l:Lf} {env:List Bd} {k:Nat} {w:W3} {z v:Int} {m:Mono} (hl:l.rng) (hm:l.L[k]? =some m) (hv:pA env m.Name=some v) (hr:r64 v) (h:EvJ l env k w z):
  EvJ l env (k+1) (w3a w (w3x (hiN m.By.natAbs v.natAbs) (m.By.natAbs*v.natAbs%18446744073709551616) (decide (m.By<0) !=decide (v<0)))) (z+m.By*v):=by
 have hb:=hl.2 m (qC hm)
 have h1:=zGe hb
 have h2:=zGe hr
 have h3:=hi_le h1 h2
 have h4:=hi_lo m.By.natAbs v.natAbs
 have h5:=abs_bd hb hr
 obtain ⟨a,b⟩:=w3_put (hi:=hiN m.By.natAbs v.natAbs) (lo:=m.By.natAbs*v.natAbs%18446744073709551616) (S:=l.K+z) (P:=m.By*v) h.ok zC zC (decide (m.By<0) !=decide (v<0)) h.md (by rw [h4];exact mul_abs)
 refine ⟨a,evM_next hm h.ev hv,by rw [←Int.add_assoc];exact b,?_⟩
 have h6:=h.bd
 rw [Nat.succ_mul,←Int.add_assoc]
 omega
theorem ev_end {l:Lf} {env:List Bd} {k:Nat} {w:W3} {z:Int} (hk:l.L.length<=k) (hk2:k<=5864062014805) (hl:fM l=0) (h:EvJ l env k w z):
  fK l env=if (decide (w.m=w3s w.l)&&decide (w.h=w3s w.l))=true then (w64 (w.l:Int),0) else (0,3):=by
 have hz:=h.ev
 rw [yD zC] at hz
 have hb:=h.bd
 obtain ⟨q1,q2⟩:=w3_fit h.ok (S:=l.K+z) zC h.md
 unfold fK
 rw [if_pos hl,hz]
 dsimp only
 by_cases c: -(9223372036854775808:Int)<=l.K+z/\l.K+z<=9223372036854775807
 ·have hq:=q1.2 c
  have hl3:=h.ok.2.2
  rw [if_pos c,if_pos (by rw [decide_eq_true hq.1,decide_eq_true hq.2];rfl),q2 c,w64_eq]
  refine Prod.ext ?_ rfl
  dsimp only
  split<;>omega
 ·rw [if_neg c,if_neg (fun hh=>c (q1.1 (by simpa using hh)))]
theorem ev_none {l:Lf} {env:List Bd} {k:Nat} {m:Mono} (hl:fM l=0) (h:l.L[k]? =some m) (hv:pA env m.Name=none):fK l env=(0,9):=by
 unfold fK
 rw [if_pos hl,evM_none h hv]
theorem ev_bad {l:Lf} {env:List Bd} (hl:¬fM l=0):fK l env=(0,1):=if_neg hl
theorem env_at:∀{env:List Bd} {s:ByteArray} {i:Nat} {x:Bd},env[i]? =some x->x.Name=s->(env.take i).any (fun y=>decide (y.Name=s))=false->pA env s=some x.Val
 |[],_,_,_,h,_,_=>by cases h
 |y::r,s,0,x,h,hs,_=>by
  rw [List.getElem?_cons_zero,Option.some.injEq] at h
  subst h
  rw [pA,if_pos hs]
 |y::r,s,i+1,x,h,hs,hn=>by
  rw [List.take_succ_cons,List.any_cons,Bool.or_eq_false_iff] at hn
  rw [pA,if_neg (of_decide_eq_false hn.1)]
  exact env_at (by simpa using h) hs hn.2
theorem env_no:∀{env:List Bd} {s:ByteArray},env.any (fun y=>decide (y.Name=s))=false->pA env s=none
 |[],_,_=>rfl
 |y::r,s,hn=>by
  rw [List.any_cons,Bool.or_eq_false_iff] at hn
  rw [pA,if_neg (of_decide_eq_false hn.1)]
  exact env_no hn.2
/-! ## Small facts for the walks -/
theorem w3x_t (hi lo:Nat) {neg:Bool} (c:neg=true):w3x hi lo neg=w3n hi lo:=if_pos c
theorem w3x_f (hi lo:Nat) {neg:Bool} (c:neg=false):w3x hi lo neg=⟨0,hi,lo⟩:=if_neg (by rw [c];simp)
theorem zAe {w:W3} {b:Nat} {t:TypeId} {h m l:Nat} (e1:h=w.h) (e2:m=w.m) (e3:l=w.l):[E.row b t [.lit (.int .u64 (h:Int)),.lit (.int .u64 (m:Int)),.lit (.int .u64 (l:Int))]]=[E.row b t (w3C w)]:=by rw [e1,e2,e3]
theorem w3n_0 {hi lo:Nat} (h:¬((((18446744073709551615-lo+1)%18446744073709551616:Nat):Int)=0)):w3n hi lo=⟨18446744073709551615,18446744073709551615-hi,(18446744073709551615-lo+1)%18446744073709551616⟩:=if_neg zC
theorem w3n_1 {hi lo:Nat} (h:(((18446744073709551615-lo+1)%18446744073709551616:Nat):Int)=0) (h2:¬((((18446744073709551615-hi+1)%18446744073709551616:Nat):Int)=0)):w3n hi lo=⟨18446744073709551615,(18446744073709551615-hi+1)%18446744073709551616,0⟩:=by
 unfold w3n;rw [if_pos zC,if_neg zC]
theorem w3n_2 {hi lo:Nat} (h:(((18446744073709551615-lo+1)%18446744073709551616:Nat):Int)=0) (h2:(((18446744073709551615-hi+1)%18446744073709551616:Nat):Int)=0):w3n hi lo=⟨0,0,0⟩:=by
 unfold w3n;rw [if_pos zC,if_pos zC]
theorem w3_shr {l:Nat} (h:l<18446744073709551616):(w64 (l:Int)).fdiv (2^(min (63:Int).toNat IntKind.i64.bits))=if l<9223372036854775808 then 0 else-1:=by
 rw [show (2:Int)^(min (63:Int).toNat IntKind.i64.bits)=9223372036854775808 by decide,w64_eq,Int.fdiv_eq_ediv_of_nonneg _ uA]
 split<;>omega
theorem w3_sgn {l:Nat} (h:l<18446744073709551616):IntKind.u64.wrap (if l<9223372036854775808 then 0 else-1)=((w3s l:Nat):Int):=by
 unfold w3s
 rw [u64_eq]
 split<;>decide
theorem ev_cond {a b c:Nat} (h:(!(decide ((a:Int)=(c:Nat))&&decide ((b:Int)=(c:Nat))))=true):¬(decide (a=c)&&decide (b=c))=true:=by
 intro k
 simp only [Bool.and_eq_true,decide_eq_true_eq] at k
 rw [k.1,k.2] at h
 simp at h
theorem ev_cond2 {a b c:Nat} (h:(!(decide ((a:Int)=(c:Nat))&&decide ((b:Int)=(c:Nat))))=false):(decide (a=c)&&decide (b=c))=true:=by
 simp only [Bool.not_eq_false',Bool.and_eq_true,decide_eq_true_eq] at h⊢
 omega
theorem notT {b:Bool} (h:(!b)=true):b=false:=by cases b with|true=>cases h|false=>rfl
theorem notF {b:Bool} (h:(!b)=false):b=true:=by cases b with|true=>rfl|false=>cases h
structure Pg.Rng (p:Pg):Prop where
 wh:∀c,c∈p.Where->c.Lin.rng
 ps:∀x,x∈p.Params->∀l,l∈x.Dims->l.rng
 ds:∀d,d∈p.Defs->(∀a,a∈d.Dims->a.Size.rng)/\(∀a,a∈d.Red->a.Size.rng)/\d.Body.allF Lf.rng
theorem sz_at (env:List Bd) (s:ByteArray):∃x:Bd,(0<=dJ (fun y:Bd=>decide (y.Name=s)) env->env[(dJ (fun y:Bd=>decide (y.Name=s)) env).toNat]? =some x)/\
  ((decide (dJ (fun y:Bd=>decide (y.Name=s)) env<0)||decide (x.Val<1))||decide (4096<x.Val))= !nT env s:=by
 by_cases h:0<=dJ (fun y:Bd=>decide (y.Name=s)) env
 ·obtain ⟨i,x,hi,hci,hhit,hbef⟩:=idx_le h
  have hv:=env_at hci (of_decide_eq_true hhit) hbef
  refine ⟨x,fun _=>by rw [hi];exact hci,?_⟩
  unfold nT lP
  rw [hv,hi,decide_eq_false (show ¬((i:Nat):Int)<0 by omega)]
  by_cases a:x.Val<1<;>by_cases b:4096<x.Val<;>simp [a,b]<;>omega
 ·refine ⟨⟨bs [],0⟩,fun k=>absurd k h,?_⟩
  have hv:=env_no (idx_lt (show dJ (fun y:Bd=>decide (y.Name=s)) env<0 by omega))
  unfold nT
  rw [hv,decide_eq_true (show dJ (fun y:Bd=>decide (y.Name=s)) env<0 by omega)]
  rfl
theorem chk_len {p:Pg} {env:List Bd} (h:¬env.length=p.Sizes.length):lQ p env=15:=if_neg h
theorem chk_bad {p:Pg} {env:List Bd} {k:Nat} {s:ByteArray} (hl:env.length=p.Sizes.length) (hs:p.Sizes[k]? =some s) (hG:nT env s=false):lQ p env=15:=by
 unfold lQ
 rw [if_pos hl,if_neg (by rw [List.all_eq_true];exact fun h=>by rw [h s (qC hs)] at hG;cases hG)]
theorem chk_wh {p:Pg} {env:List Bd} (hl:env.length=p.Sizes.length) (ha:p.Sizes.all (nT env)=true):lQ p env=whE env p.Where:=by
 unfold lQ
 rw [if_pos hl,if_pos ha]
theorem allz_next {α:Type} {f:α->Bool} {l:List α} {k:Nat} {x:α} (h:l[k]? =some x) (hp:(l.take k).all f=true) (hx:f x=true):(l.take (k+1)).all f=true:=by
 rw [yB h,List.all_append,hp];simp [hx]
def cQ (env:List Bd) (l:List Lf):List Int:=if gA env l=0 then gT env l else []
theorem ext_no {env:List Bd} {l:List Lf} (h:¬gA env l=0):cQ env l=[]:=if_neg h
theorem ext_ok {env:List Bd} {l:List Lf} (h:gA env l=0):cQ env l=gT env l:=if_pos h
theorem ext_all {env:List Bd}:∀{l:List Lf},gA env l=0->∀n,n∈gT env l->1<=n/\n<=4096
 |[],_,n,h=>by cases h
 |f::r,h0,n,hn=>by
  rw [gA] at h0
  split at h0
  ·rename_i c;exact absurd h0 c
  ·split at h0
   ·cases h0
   ·rename_i c
    rcases List.mem_cons.1 hn with rfl|hn
    ·exact ⟨by dsimp only;omega,by dsimp only;omega⟩
    ·exact ext_all h0 n hn
theorem findD_fit {P:Lf->Prop}:∀(l:List Df) (s:ByteArray) (k:Nat),(∀d,d∈l->d.Dims.length<=k/\∀a,a∈d.Dims->P a.Size)->(fZ s l).dims.length<=k/\∀f,f∈(fZ s l).dims->P f
 |[],_,_,_=>⟨Nat.zero_le _,fun f hf=>by cases hf⟩
 |d::r,s,k,h=>by
  rw [fZ]
  cases decide (d.Name=s) with
  |true=>
   rw [cond_true,List.length_map]
   refine ⟨(h d uG).1,fun f hf=>?_⟩
   obtain ⟨a,ha,rfl⟩:=List.mem_map.1 hf
   exact (h d uG).2 a ha
  |false=>rw [cond_false];exact findD_fit r s k fun x hx=>h x (by simp [hx])
theorem findP_fit {P:Lf->Prop}:∀(l:List Pm) (ds:List Df) (s:ByteArray) (k:Nat),(∀d,d∈ds->d.Dims.length<=k/\∀a,a∈d.Dims->P a.Size)->(∀x,x∈l->x.Dims.length<=k/\∀f,f∈x.Dims->P f)->(fS s ds l).dims.length<=k/\∀f,f∈(fS s ds l).dims->P f
 |[],ds,s,k,h,_=>findD_fit ds s k h
 |x::r,ds,s,k,h,h2=>by
  rw [fS]
  cases decide (x.Name=s) with
  |true=>rw [cond_true];exact h2 x uG
  |false=>rw [cond_false];exact findP_fit r ds s k h fun y hy=>h2 y (by simp [hy])
theorem find_fit {p:Pg} (hP:p.Ok) (hR:p.Rng) (s:ByteArray):(p.en.find s).dims.length<=4294967296/\∀f,f∈(p.en.find s).dims->f.L.length<=5864062014805/\f.rng:=
 findP_fit (P:=fun f=>f.L.length<=5864062014805/\f.rng) p.Params p.Defs s 4294967296 (fun d hd=>⟨Nat.le_trans (hP.ds d hd).1 uA,fun a ha=>⟨(hP.ds d hd).2.2.1 a ha,(hR.ds d hd).1 a ha⟩⟩) fun x hx=>⟨(hP.ps x hx).1,fun f hf=>⟨(hP.ps x hx).2 f hf,hR.ps x hx f hf⟩⟩
theorem dim_no {p:Pg} {env:List Bd} {s:ByteArray} (c:(p.en.find s).ok=false):mU p env s=([],9):=by
 have:jH p env s=9:=by unfold jH;rw [if_neg (by rw [c];simp)]
 unfold mU;rw [this];rfl
theorem dim_e {p:Pg} {env:List Bd} {s:ByteArray} (c:(p.en.find s).ok=true) (h:¬gA env (p.en.find s).dims=0):mU p env s=([],gA env (p.en.find s).dims):=by
 have:jH p env s=gA env (p.en.find s).dims:=by unfold jH;rw [if_pos c,if_neg h]
 unfold mU;rw [this,if_neg h]
theorem dim_b {p:Pg} {env:List Bd} {s:ByteArray} (c:(p.en.find s).ok=true) (h:gA env (p.en.find s).dims=0) (h2:(bJ 1 (gT env (p.en.find s).dims)).isSome=false):mU p env s=([],15):=by
 have:jH p env s=15:=by unfold jH;rw [if_pos c,if_pos h,if_neg (by rw [h2];simp)]
 unfold mU;rw [this];rfl
theorem dim_ok {p:Pg} {env:List Bd} {s:ByteArray} (c:(p.en.find s).ok=true) (h:gA env (p.en.find s).dims=0) (h2:(bJ 1 (gT env (p.en.find s).dims)).isSome=true):mU p env s=(gT env (p.en.find s).dims,0):=by
 have:jH p env s=0:=by unfold jH;rw [if_pos c,if_pos h,if_pos h2]
 unfold mU;rw [this];rfl
theorem size_le:∀{l:List Int} {s v:Int},s<=4096->bJ s l=some v->v<=4096
 |[],s,v,h,e=>by simp only [bJ,Option.some.injEq] at e;omega
 |n::r,s,v,h,e=>by
  rw [bJ] at e
  split at e
  ·cases e
  ·exact size_le zC e
theorem cnt_big {l:List Int} (h:4096<(bJ 1 l).getD 4097):(bJ 1 l).isSome=false:=by
 cases e:bJ 1 l with
 |none=>rfl
 |some v=>rw [e] at h;have:=size_le uA e;simp only [Option.getD] at h;omega
theorem cnt_fit {l:List Int} (h:¬4096<(bJ 1 l).getD 4097):(bJ 1 l).isSome=true:=by
 cases e:bJ 1 l with
 |none=>rw [e] at h;simp [Option.getD] at h
 |some v=>rfl
theorem dmT_no {p:Pg} {env:List Bd} {s:ByteArray} (h:¬(if (bK p).2=0 then lQ p env else (bK p).2)=0):rT p env s=([],if (bK p).2=0 then lQ p env else (bK p).2):=by
 unfold rT
 split
 ·rename_i c
  rw [if_pos c] at h
  rw [if_neg h]
 ·rfl
theorem dmT_ok {p:Pg} {env:List Bd} {s:ByteArray} (h:(if (bK p).2=0 then lQ p env else (bK p).2)=0):rT p env s=mU p env s:=by
 unfold rT
 split
 ·rename_i c
  rw [if_pos c] at h
  rw [if_pos h]
 ·rename_i c;rw [if_neg c] at h;exact absurd h c
/-! ## Neutral numbers -/
theorem one_no {t:Ty} (c:¬bU t=0):gB t=(⟨0,0⟩,10):=by unfold gB;rw [if_neg (by rw [zJz c];simp)]
theorem one_kind {t:Ty} (c:bU t=0) (h:¬t.Kind=2):jA t ⟨1,1⟩=true:=by
 have h1:=zBc c
 unfold dV at h1
 simp only [Bool.or_eq_true,Bool.and_eq_true,decide_eq_true_eq] at h1
 unfold jA
 rw [decide_eq_false h,cond_false]
 rcases h1 with h1|h1
 ·rcases h1.1.1.1.1 with k|k
  ·rw [k];decide
  ·rw [k];decide
 ·exact absurd h1.1.1.1.1.1.1.1 h
theorem one_p {t:Ty} (c:bU t=0) (h:¬t.Kind=2):gB t=(⟨1,1⟩,0):=by
 unfold gB cL
 rw [if_pos (zBc c),if_neg h,if_pos (one_kind c h)]
theorem one_sh {t:Ty} (c:bU t=0) (h:t.Kind=2):0<=t.Frac/\IntKind.i64.wrap (1*2^(min t.Frac.toNat IntKind.i64.bits))=2^t.Frac.toNat:=by
 have h1:=zBc c
 rw [zBp h] at h1
 unfold fY at h1
 simp only [Bool.and_eq_true,decide_eq_true_eq] at h1
 have h2:0<=t.Frac:=h1.1.1.1.1.2
 have h3:t.Frac<=30:=h1.1.1.1.2
 refine ⟨h2,?_⟩
 rw [Nat.min_eq_left (show t.Frac.toNat<=IntKind.i64.bits by show t.Frac.toNat<=64;omega),Int.one_mul]
 have h4:(2:Nat)^t.Frac.toNat<=2^30:=Nat.pow_le_pow_right uA zC
 have h5:((2^t.Frac.toNat:Nat):Int)=(2:Int)^t.Frac.toNat:=by rw [Int.natCast_pow];rfl
 rw [←h5]
 generalize (2:Nat)^t.Frac.toNat=q at *
 exact w64_in (by unfold r64;omega)
theorem one_fix {t:Ty} (c:bU t=0) (h:t.Kind=2) (v:Vl):(fY t&&(decide (v.D=1)&&decide (-lO t.Bits<=v.N)&&decide (v.N<lO t.Bits)))=jA t v:=by
 have h1:=zBc c
 rw [zBp h] at h1
 rw [h1,Bool.true_and]
 unfold jA
 rw [decide_eq_true h,cond_true]
theorem one_r {t:Ty} (c:bU t=0) (h:t.Kind=2) (k:(fY t&&(decide ((1:Int)=1)&&decide (-lO t.Bits<=2^t.Frac.toNat)&&decide ((2:Int)^t.Frac.toNat<lO t.Bits)))=false):gB t=(⟨0,0⟩,3):=by
 have e:=one_fix c h ⟨2^t.Frac.toNat,1⟩
 dsimp only at e
 rw [e] at k
 unfold gB cL
 rw [if_pos (zBc c),if_pos h,if_neg (by rw [k];simp)]
theorem one_ok {t:Ty} (c:bU t=0) (h:t.Kind=2) (k:(fY t&&(decide ((1:Int)=1)&&decide (-lO t.Bits<=2^t.Frac.toNat)&&decide ((2:Int)^t.Frac.toNat<lO t.Bits)))=true):gB t=(⟨2^t.Frac.toNat,1⟩,0):=by
 have e:=one_fix c h ⟨2^t.Frac.toNat,1⟩
 dsimp only at e
 rw [e] at k
 unfold gB cL
 rw [if_pos (zBc c),if_pos h,if_pos k]
theorem id_1 {f:Int} {t:Ty} (c:¬bU t=0):idT f t=(⟨0,0⟩,false):=by
 unfold idT
 rw [if_neg (by rw [zJz c];simp),one_no c]
 split<;>rfl
theorem id_2 {f:Int} {t:Ty} (c:bU t=0) (h:f=1∨f=5):idT f t=(tW t,true):=by
 unfold idT tW
 rw [if_pos ⟨zBc c,h⟩,zBc c];rfl
theorem id_3 {f:Int} {t:Ty} (h:¬(f=1∨f=5)) (h2:f=2):idT f t=((gB t).1,decide ((gB t).2=0)):=by
 unfold idT
 rw [if_neg (fun k=>h k.2),if_pos h2]
theorem id_4 {f:Int} {t:Ty} (h:¬(f=1∨f=5)) (h2:¬f=2):idT f t=(⟨0,0⟩,false):=by
 unfold idT
 rw [if_neg (fun k=>h k.2),if_neg h2]
/-! ## Tables of loop names -/
def vC (d:ByteArray) (l:List Ax) (m:SmM):SmM:=l.foldl (fun m x=>dY m x.Name (lnT d x.Name)) m
theorem mapN_app (d:ByteArray) (a b:List Ax) (m:SmM):vC d (a++b) m=vC d b (vC d a m):=List.foldl_append
theorem nmd_app (d:Df):bH d=(d.Dims++d.Red).map Ax.Name:=by
 unfold bH;simp
theorem mapN_AB (d:ByteArray) (l:List Ax):vC d l []=xG ((l.map Ax.Name).map (lnT d)) (l.map Ax.Name) l.length:=by
 unfold vC xG
 rw [yD (by rw [List.length_zip,List.length_map,List.length_map,List.length_map];omega)]
 have:∀(l:List Ax) (m:SmM),l.foldl (fun m x=>dY m x.Name (lnT d x.Name)) m=((l.map Ax.Name).zip ((l.map Ax.Name).map (lnT d))).foldl (fun m q=>dY m q.1 q.2) m:=by
  intro l
  induction l with
  |nil=>intro m;rfl
  |cons x r ih=>intro m;rw [List.foldl_cons,ih];rfl
 exact this l []
theorem mapN_sw {d:Df} (h:(bH d).Nodup) (s:ByteArray):(fD (vC d.Name d.Red (vC d.Name d.Dims [])) s).getD s=lW ((bH d).map (lnT d.Name)) (bH d) s:=by
 rw [←mapN_app,mapN_AB,←nmd_app]
 exact mapAB_end h (by rw [List.length_map]) (k:=(d.Dims++d.Red).length) (by rw [nmd_app,List.length_map];omega) s
/-! ## Names of loops -/
theorem ln_ne {d a:ByteArray} (h:bC (d++bs [95]++a)=true):lnT d a=d++bs [95]++a:=if_pos h
theorem ln_no {d a:ByteArray} (h:¬bC (d++bs [95]++a)=true):lnT d a=bs []:=if_neg h
theorem nmd_stop {d:ByteArray} {l:List Ax} {k:Nat} {x:Ax} (h:l[k]? =some x) (h2:lnT d x.Name=bs []):lF d l=7:=by
 unfold lF
 rw [if_pos (List.any_eq_true.2 ⟨x,qC h,decide_eq_true h2⟩)]
theorem nmd_go {d:ByteArray} {l:List Ax} {k:Nat} {x:Ax} (h:l[k]? =some x) (hp:(l.take k).any (fun x=>decide (lnT d x.Name=bs []))=false) (h2:¬lnT d x.Name=bs []):(l.take (k+1)).any (fun x=>decide (lnT d x.Name=bs []))=false:=by
 rw [yB h,List.any_append,hp]
 simp [h2]
theorem nmd_end {d:ByteArray} {l:List Ax} (hp:l.any (fun x=>decide (lnT d x.Name=bs []))=false):lF d l=0:=by
 unfold lF;rw [hp];rfl
theorem nmdL_next {d:ByteArray} {l:List Ax} {ext:List Int} {k:Nat} {x:Ax} {n:Int} (h:l[k]? =some x) (h2:ext[k]? =some n):pG d (l.take (k+1)) ext=pG d (l.take k) ext++[⟨lnT d x.Name,n⟩]:=by
 have hz:(l.zip ext)[k]? =some (x,n):=by rw [List.getElem?_zip_eq_some];exact ⟨h,h2⟩
 have e:∀(j:Nat) (l:List Ax) (ext:List Int),j<=ext.length->(l.take j).zip ext=(l.zip ext).take j:=by
  intro j
  induction j with
  |zero=>intro l ext _;simp
  |succ j ih=>
   intro l ext hj
   cases l with
   |nil=>simp
   |cons a r=>
    cases ext with
    |nil=>simp at hj
    |cons b t=>
     rw [List.take_succ_cons,List.zip_cons_cons,List.zip_cons_cons,List.take_succ_cons,ih r t (by simpa using hj)]
 have hk:=(List.getElem?_eq_some_iff.1 h2).1
 unfold pG
 rw [e (k+1) l ext zC,e k l ext zC,yB hz,List.map_append];rfl
/-! ## Loops -/
theorem loops_next {l:List Bd} {k:Nat} {x:Bd} {b:List St} (h:l[k]? =some x):fN (l.drop k) b=[pI x (fN (l.drop (k+1)) b)]:=by
 rw [qO h];rfl
end Go.Br
end
section
namespace Go.Br
open Go Go.Eng Go.L41
/-! ## The maker -/
def mkS (d:Df) (dims red:List Bd) (b:Ex) (c:C):List C:=
  [cS d.Name,cI d.T.Kind,cI d.T.Bits,cI d.T.Frac,cI d.T.Round,cI d.T.Over,.sl 3 (d.Dims.map Ax.cells),.sl 3 (d.Red.map Ax.cells),cI d.Fold,
   cI d.Body.Op,cS d.Body.Name,cI d.Body.Val.N,cI d.Body.Val.D,cI d.Body.Ty.Kind,cI d.Body.Ty.Bits,cI d.Body.Ty.Frac,cI d.Body.Ty.Round,cI d.Body.Ty.Over,cI d.Body.Lin.K,.sl 2 (d.Body.Lin.L.map Mono.cells),.sl 4 (d.Body.Idx.map Ix.cells),.sl 13 (d.Body.Args.map Ex.cells),
   .sl 2 (dims.map Bd.cells),.sl 2 (red.map Bd.cells),
   cI b.Op,cS b.Name,cI b.Val.N,cI b.Val.D,cI b.Ty.Kind,cI b.Ty.Bits,cI b.Ty.Frac,cI b.Ty.Round,cI b.Ty.Over,cI b.Lin.K,.sl 2 (b.Lin.L.map Mono.cells),.sl 4 (b.Idx.map Ix.cells),.sl 13 (b.Args.map Ex.cells),
   c]
abbrev mkC (d:Df) (dims red:List Bd) (b:Ex) (at_:List Ix):List C:=mkS d dims red b (.sl 4 (at_.map Ix.cells))
def xS {α:Type}:Except Int α->Int
 |.error x=>x
 |.ok _=>0
def ixT (l:List Bd):List Ix:=l.map fun x=>⟨gV x.Name,bs [],[]⟩
def cF (d:Df) (at_:List Ix) (body:Ex):List St:=
 [nO d at_ body,lIf (pF (at_.getD (at_.length-1) ⟨⟨0,[]⟩,bs [],[]⟩).Lin)
  [jU d at_ 1 (.mk 3 d.Name ⟨0,0⟩ zTy ⟨0,[]⟩ (at_.set (at_.length-1) ⟨(lE (at_.getD (at_.length-1) ⟨⟨0,[]⟩,bs [],[]⟩).Lin ⟨-1,[]⟩).1,bs [],[]⟩) [])]]
def sX (d:Df) (at_:List Ix) (red:List Bd) (body:Ex):Except Int (List St):=
 if (idT d.Fold d.T).2=true then .ok (nO d at_ (.mk 1 (bs []) (idT d.Fold d.T).1 d.T ⟨0,[]⟩ [] [])::fN red [jU d at_ d.Fold body]) else
 match fW (fun _=>⟨0,[]⟩) (red.map Bd.Name) body with
 |.error x=>.error x
 |.ok first=>.ok (nO d at_ first::fN red [lIf (pF (rV red ⟨0,[]⟩)) [jU d at_ d.Fold body]])
theorem inn_0 {d:Df} {at_:List Ix} {red:List Bd} {body:Ex} (h:d.Fold=0):rY d at_ red body=.ok [nO d at_ body]:=if_pos h
theorem inn_5 {d:Df} {at_:List Ix} {red:List Bd} {body:Ex} (h:d.Fold=5):rY d at_ red body=.ok (cF d at_ body):=by
 unfold rY;rw [if_neg zC,if_pos h];rfl
theorem inn_r {d:Df} {at_:List Ix} {red:List Bd} {body:Ex} (h:¬d.Fold=0) (h5:¬d.Fold=5):rY d at_ red body=sX d at_ red body:=by
 unfold rY;rw [if_neg h,if_neg h5];rfl
def stT (d:Df) (dims red:List Bd) (body:Ex):Except Int (List St):=
 match rY d (ixT dims) red body with
 |.error x=>.error x
 |.ok l=>.ok (fN dims l)
theorem st_ok {d:Df} {dims red:List Bd} {body:Ex} {l:List St} (h:rY d (ixT dims) red body=.ok l):stT d dims red body=.ok (fN dims l):=by unfold stT;rw [h]
theorem st_e {d:Df} {dims red:List Bd} {body:Ex} {x:Int} (h:rY d (ixT dims) red body=.error x):stT d dims red body=.error x:=by unfold stT;rw [h]
theorem errL_0 {α:Type} {r:Except Int α} (h:∀x,r=.error x->x≠0) (h0:xS r=0):∃l,r=.ok l:=by
 cases r with
 |error x=>exact absurd h0 (h x rfl)
 |ok l=>exact ⟨l,rfl⟩
theorem errL_er {α:Type} {r:Except Int α} (h:¬xS r=0):∃x,r=.error x:=by
 cases r with
 |error x=>exact ⟨x,rfl⟩
 |ok l=>exact absurd rfl h
/-! ## Names replaced by numbers -/
theorem addL_rng {a b:Lf}:(lE a b).1.rng:=by
 unfold lE
 split
 ·unfold rH
  split
  ·rename_i h;exact ⟨h.1,fun m hm=>sum_rng hm⟩
  ·exact zPm
 ·exact zPm
structure SbJ (u:ByteArray->Lf) (S:List ByteArray) (body:Ex) (k:Nat) (e:Ex):Prop where
 sb:fW u S body=fW u (S.drop k) e
 wt:e.wt<=body.wt
 rg:e.allF Lf.rng
theorem sbJ_first {u:ByteArray->Lf} {S:List ByteArray} {body:Ex} (h:body.allF Lf.rng):SbJ u S body 0 body:=⟨rfl,Nat.le_refl _,h⟩
theorem sbJ_next {u:ByteArray->Lf} (hu:∀s,(u s).L=[]) {S:List ByteArray} {body e:Ex} {k:Nat} {s:ByteArray} (h:SbJ u S body k e) (hs:S[k]? =some s) (he:jR (mEx (fun l=>fC l s (u s)) e)=0):SbJ u S body (k+1) (nW (mEx (fun l=>fC l s (u s)) e)):=by
 obtain ⟨e1,h1⟩:=mEx_0 he
 have h2:sbX e s (u s)=.ok e1:=h1
 rw [h1]
 obtain ⟨q1,q2⟩:=sb_wt hu [s] e e1 h.rg (by rw [fW,h2];rfl)
 refine ⟨?_,Nat.le_trans q1 h.wt,q2⟩
 rw [h.sb,qO hs,fW,h2];rfl
theorem sbJ_err {u:ByteArray->Lf} {S:List ByteArray} {body e:Ex} {k:Nat} {s:ByteArray} (h:SbJ u S body k e) (hs:S[k]? =some s) (he:¬jR (mEx (fun l=>fC l s (u s)) e)=0):fW u S body=.error (jR (mEx (fun l=>fC l s (u s)) e)):=by
 rw [h.sb,qO hs,fW]
 show (match mEx (fun l=>fC l s (u s)) e with|.error x=>Except.error x|.ok e'=>fW u (S.drop (k+1)) e')=_
 cases h1:mEx (fun l=>fC l s (u s)) e with
 |error x=>rfl
 |ok e'=>rw [h1] at he;exact absurd rfl he
theorem sbJ_end {u:ByteArray->Lf} {S:List ByteArray} {body e:Ex} {k:Nat} (h:SbJ u S body k e) (hk:S.length<=k):fW u S body=.ok e:=by
 rw [h.sb,List.drop_eq_nil_of_le hk];rfl
theorem map_get {α β:Type} {f:α->β} {l:List α} {k:Nat} {x:α} (h:l[k]? =some x):(l.map f)[k]? =some (f x):=by rw [List.getElem?_map,h];rfl
structure SmJ (red:List Bd) (k:Nat) (s:Lf):Prop where
 sm:rV red ⟨0,[]⟩=rV (red.drop k) s
 ln:s.L.length<=k
 rg:s.rng
theorem smJ_first (red:List Bd):SmJ red 0 ⟨0,[]⟩:=⟨rfl,Nat.le_refl _,by unfold Lf.rng r64;exact ⟨uA,fun m hm=>by cases hm⟩⟩
theorem smJ_next {red:List Bd} {k:Nat} {s:Lf} {x:Bd} (h:SmJ red k s) (hx:red[k]? =some x):SmJ red (k+1) (lE s (gV x.Name)).1:=by
 refine ⟨by rw [h.sm,qO hx,rV],?_,addL_rng⟩
 have h2:=addL_len s (gV x.Name)
 have h3:(gV x.Name).L.length<=1:=by unfold gV;cases bC x.Name<;>simp
 have:=h.ln
 omega
theorem smJ_end {red:List Bd} {k:Nat} {s:Lf} (h:SmJ red k s) (hk:red.length<=k):rV red ⟨0,[]⟩=s:=by
 rw [h.sm,List.drop_eq_nil_of_le hk];rfl
theorem varL_rng (s:ByteArray):(gV s).rng:=by
 unfold gV Lf.rng r64
 cases bC s with
 |true=>exact ⟨show-9223372036854775808<=(0:Int)/\(0:Int)<=9223372036854775807 by decide,fun m hm=>by rw [List.mem_singleton.1 hm];exact show-9223372036854775808<=(1:Int)/\(1:Int)<=9223372036854775807 by decide⟩
 |false=>exact ⟨show-9223372036854775808<=(0:Int)/\(0:Int)<=9223372036854775807 by decide,fun m hm=>by cases hm⟩
theorem varL_len (s:ByteArray):(gV s).L.length<=1:=by unfold gV;cases bC s<;>simp
theorem red_id {d:Df} {at_:List Ix} {red:List Bd} {body:Ex} (c:(idT d.Fold d.T).2=true):sX d at_ red body=.ok (nO d at_ (.mk 1 (bs []) (idT d.Fold d.T).1 d.T ⟨0,[]⟩ [] [])::fN red [jU d at_ d.Fold body]):=if_pos c
theorem red_e {d:Df} {at_:List Ix} {red:List Bd} {body:Ex} {x:Int} (c:(idT d.Fold d.T).2=false) (h:fW (fun _=>⟨0,[]⟩) (red.map Bd.Name) body=.error x):sX d at_ red body=.error x:=by
 unfold sX;rw [if_neg (by rw [c];simp),h]
theorem red_ok {d:Df} {at_:List Ix} {red:List Bd} {body e:Ex} {s:Lf} (c:(idT d.Fold d.T).2=false) (h:fW (fun _=>⟨0,[]⟩) (red.map Bd.Name) body=.ok e) (h2:rV red ⟨0,[]⟩=s):sX d at_ red body=.ok (nO d at_ e::fN red [lIf (pF s) [jU d at_ d.Fold body]]):=by
 unfold sX;rw [if_neg (by rw [c];simp),h,h2]
/-! ## Statements,cell by cell -/
theorem one_map (s:St):([s]:List St).map St.cells=[s.cs]:=by simp [St.cells_eq]
def cZ (p:Ex) (f:St):List C:=[cI 4,cS (bs []),cI 0,cI 0,cI 0,.sl 4 [],cI p.Op,cS p.Name,cI p.Val.N,cI p.Val.D,cI p.Ty.Kind,cI p.Ty.Bits,cI p.Ty.Frac,cI p.Ty.Round,cI p.Ty.Over,cI p.Lin.K,.sl 2 (p.Lin.L.map Mono.cells),.sl 4 (p.Idx.map Ix.cells),.sl 13 (p.Args.map Ex.cells),.sl 20 [f.cs]]
theorem if_cs (p:Ex) (f:St):cZ p f=(lIf p [f]).cs:=by
 unfold cZ;rw [←one_map];rfl
theorem if_rows (p:Ex) (f:St):V.c (.sl 20 [cZ p f])=fP [lIf p [f]]:=by rw [if_cs,←one_map]
theorem one_rows (s:St):V.c (.sl 20 [s.cs])=fP [s]:=by rw [←one_map]
theorem zBj (s:St) (l:List St):V.c (.sl 20 ([s.cs]++l.map St.cells))=fP (s::l):=by
 show _=V.c (.sl 20 (s.cells::l.map St.cells))
 rw [St.cells_eq];rfl
theorem zKa (s f:St) (p:Ex):V.c (.sl 20 [s.cs,cZ p f])=fP [s,lIf p [f]]:=by
 rw [if_cs]
 show _=V.c (.sl 20 [s.cells,(lIf p [f]).cells])
 rw [St.cells_eq,St.cells_eq]
/-! ## Prefix sums -/
theorem m1_rng:(⟨-1,[]⟩:Lf).rng:=by unfold Lf.rng r64;exact ⟨uA,fun m hm=>by cases hm⟩
theorem ix_at {dims:List Bd} {x:Bd} (h:dims[dims.length-1]? =some x):(ixT dims)[(ixT dims).length-1]? =some ⟨gV x.Name,bs [],[]⟩:=by
 unfold ixT;rw [List.length_map];exact map_get h
theorem last_get {α:Type} {f:α->List C} {l:List α} {y:α} (h:l[l.length-1]? =some y):(l.map f)[((l.length:Int)-1).toNat]? =some (f y):=by
 rw [show ((l.length:Int)-1).toNat=l.length-1 by omega]
 exact getm h
theorem scn_is {d:Df} {dims:List Bd} {body:Ex} {x:Bd} (h:(ixT dims)[(ixT dims).length-1]? =some ⟨gV x.Name,bs [],[]⟩):cF d (ixT dims) body=
  [nO d (ixT dims) body,lIf (pF (gV x.Name)) [jU d (ixT dims) 1 (.mk 3 d.Name ⟨0,0⟩ zTy ⟨0,[]⟩ ((ixT dims).set ((ixT dims).length-1) ⟨(lE (gV x.Name) ⟨-1,[]⟩).1,bs [],[]⟩) [])]]:=by
 unfold cF
 rw [List.getD_eq_getElem?_getD,h];rfl
theorem scn_rows {dims:List Bd} {y:Ix}:((ixT dims).map Ix.cells).set (((ixT dims).length:Int)-1).toNat y.cells=((ixT dims).set ((ixT dims).length-1) y).map Ix.cells:=by
 rw [show (((ixT dims).length:Int)-1).toNat=(ixT dims).length-1 by omega,List.map_set]
theorem sb_ne {u:ByteArray->Lf}:∀{S:List ByteArray} {e:Ex} {x:Int},fW u S e=.error x->x≠0
 |[],e,x,h=>by cases h
 |s::r,e,x,h=>by
  rw [fW] at h
  cases h1:sbX e s (u s) with
  |error y=>
   rw [h1] at h
   injection h with h
   intro h0
   rw [←h,] at h0
   rw [h0] at h1
   exact mEx_ne e h1
  |ok e'=>rw [h1] at h;exact sb_ne h
theorem red_ne {d:Df} {at_:List Ix} {red:List Bd} {body:Ex} {x:Int} (h:sX d at_ red body=.error x):x≠0:=by
 unfold sX at h
 split at h
 ·cases h
 ·split at h
  ·rename_i y hy
   injection h with h
   rw [←h];exact sb_ne hy
  ·cases h
theorem st_ne {d:Df} {dims red:List Bd} {body:Ex} {x:Int} (h:stT d dims red body=.error x):x≠0:=by
 unfold stT rY at h
 split at h
 ·rename_i y hy
  injection h with h
  rw [←h]
  split at hy
  ·cases hy
  ·split at hy
   ·cases hy
   ·exact red_ne (d:=d) (at_:=ixT dims) (red:=red) (body:=body) hy
 ·cases h
/-! ## Loops -/
theorem loops_back {l:List Bd} {j:Nat} {x:Bd} {b:List St} (h:l[j]? =some x):fN (l.drop j) b=[pI x (fN (l.drop (j+1)) b)]:=loops_next h
theorem zMp (l:List Bd) (b:List St):(fN l b).length<=b.length+1:=by
 cases l with
 |nil=>exact Nat.le_succ _
 |cons x r=>show ([pI x _]:List St).length<=_;simp
theorem loops_end (l:List Bd) (b:List St):fN (l.drop l.length) b=b:=by rw [List.drop_length];rfl
/-! ## Names -/
def mR (d:ByteArray):List Ax->SmM->SmM
 |[],m=>m
 |x::r,m=>if lnT d x.Name=bs [] then m else mR d r (dY m x.Name (lnT d x.Name))
def cW (d:ByteArray) (l:List Ax) (ext:List Int):List Bd:=if lF d l=0 then pG d l ext else []
theorem nmdM_ok {d:ByteArray}:∀{l:List Ax} {m:SmM},lF d l=0->mR d l m=vC d l m
 |[],_,_=>rfl
 |x::r,m,h=>by
  have h2:(x::r).any (fun x=>decide (lnT d x.Name=bs []))=false:=by
   unfold lF at h
   cases c:(x::r).any (fun x=>decide (lnT d x.Name=bs [])) with
   |false=>rfl
   |true=>rw [c] at h;cases h
  rw [List.any_cons,Bool.or_eq_false_iff] at h2
  rw [mR,if_neg (of_decide_eq_false h2.1),nmdM_ok (nmd_end h2.2)];rfl
theorem nmdM_next {d:ByteArray} {l:List Ax} {m q:SmM} {k:Nat} {x:Ax} (h:l[k]? =some x) (hp:mR d l m=mR d (l.drop k) q) (h2:¬lnT d x.Name=bs []):mR d l m=mR d (l.drop (k+1)) (dY q x.Name (lnT d x.Name)):=by
 rw [hp,qO h,mR,if_neg h2]
theorem nmdM_stop {d:ByteArray} {l:List Ax} {m q:SmM} {k:Nat} {x:Ax} (h:l[k]? =some x) (hp:mR d l m=mR d (l.drop k) q) (h2:lnT d x.Name=bs []):mR d l m=q:=by
 rw [hp,qO h,mR,if_pos h2]
theorem nmdM_end {d:ByteArray} {l:List Ax} {m q:SmM} {k:Nat} (hp:mR d l m=mR d (l.drop k) q) (hk:l.length<=k):mR d l m=q:=by
 rw [hp,List.drop_eq_nil_of_le hk];rfl
theorem nmdB_no {d:ByteArray} {l:List Ax} {ext:List Int} (h:lF d l=7):cW d l ext=[]:=by unfold cW;rw [if_neg (by rw [h];decide)]
theorem nmdB_ok {d:ByteArray} {l:List Ax} {ext:List Int} (h:lF d l=0):cW d l ext=pG d l ext:=if_pos h
theorem nmd_good {d:ByteArray} {l:List Ax} (h:lF d l=0):∀x,x∈l->bC (lnR d x.Name)=true:=fun x hx=>by
 unfold lF at h
 cases c:l.any (fun x=>decide (lnT d x.Name=bs [])) with
 |true=>rw [c] at h;cases h
 |false=>
  rw [List.any_eq_false] at c
  have h2:=c x hx
  cases k:bC (lnR d x.Name) with
  |true=>rfl
  |false=>exact absurd (decide_eq_true (ln_no (d:=d) (a:=x.Name) (by show ¬bC (lnR d x.Name)=true;rw [k];simp))) (by simpa using h2)
theorem good_all {d:Df} (h1:lF d.Name d.Dims=0) (h2:lF d.Name d.Red=0):∀s,s∈bH d->bC (lnR d.Name s)=true:=fun s hs=>by
 rw [nmd_app] at hs
 obtain ⟨a,ha,rfl⟩:=List.mem_map.1 hs
 rcases List.mem_append.1 ha with k|k
 ·exact nmd_good h1 a k
 ·exact nmd_good h2 a k
theorem lnT_R {d:Df} (h:∀s,s∈bH d->bC (lnR d.Name s)=true):(bH d).map (lnT d.Name)=(bH d).map (lnR d.Name):=
 List.map_congr_left fun s hs=>ln_ne (h s hs)
theorem lnT_nodup {d:Df} (hn:(bH d).Nodup) (h:∀s,s∈bH d->bC (lnR d.Name s)=true):((bH d).map (lnT d.Name)).Nodup:=by
 rw [lnT_R h]
 unfold List.Nodup at *
 rw [List.pairwise_map]
 exact hn.imp fun k e=>k (lnR_inj d.Name _ _ e)
theorem body_szF {p:Pg} {env:List Bd} {d:Df} {b:Ex} (hv:(bK p).2=0) (hd:d∈p.Defs) (hR:d.Body.allF Lf.rng) (h:fW (fun s=>⟨lP env s,[]⟩) p.Sizes d.Body=.ok b):b.allF (szF [] (bH d)):=by
 have td:=(pre_def hv (List.getElem?_of_mem hd).choose_spec).1
 have vd:=valid_lin (zLu (by rw [td])).1
 have kd:=typed_known (n:=p.en) (vars:=bH d) (e:=d.Body) (by rw [td])
 have hS:=zSd _ _ (by have h2:=hv;rw [zGy] at h2;exact (zFc h2).2.1)
 have hF:d.Body.allF (szF p.Sizes (bH d)):=fun x hx l hl=>⟨vd x hx l hl,hR x hx l hl,fun m hm=>by
  have hk:=kd x hx l hl m hm
  unfold knB at hk
  rw [Bool.or_eq_true] at hk
  rcases hk with hk|hk
  ·exact .inr (hasB_mem.1 hk)
  ·exact .inl (hasB_mem.1 hk)⟩
 exact sz_seq (A:=bH d) (u:=fun s=>⟨lP env s,[]⟩) (fun s=>⟨rfl,rfl⟩) p.Sizes d.Body b hS hF h
theorem body_swp {d:Df} {b:Ex} (A:List ByteArray) (h:b.allF (szF [] (bH d))):b.allF (pV A (bH d)):=allF_up h fun l hl=>⟨hl.1,fun m hm k=>by
 rcases hl.2.2 m hm with q|q
 ·cases q
 ·exact absurd q k⟩
theorem env_rng {env:List Bd} (h:∀x,x∈env->r64 x.Val) (s:ByteArray):r64 (lP env s):=by
 unfold lP
 have:∀env:List Bd,(∀x,x∈env->r64 x.Val)->r64 ((pA env s).getD 0):=by
  intro env
  induction env with
  |nil=>intro _;rw [pA];unfold r64;decide
  |cons y r ih=>
   intro h
   rw [pA]
   split
   ·exact h y uG
   ·exact ih fun x hx=>h x (by simp [hx])
 exact this env h
theorem envD_at {env:List Bd} {s:ByteArray} {k:Nat} {x:Bd} (h:env[k]? =some x) (hs:x.Name=s) (hn:(env.take k).any (fun y=>decide (y.Name=s))=false):lP env s=x.Val:=by
 unfold lP;rw [env_at h hs hn];rfl
theorem envD_no {env:List Bd} {s:ByteArray} (hn:env.any (fun y=>decide (y.Name=s))=false):lP env s=0:=by
 unfold lP;rw [env_no hn];rfl
theorem axn_size {p:Pg} {d:Df} (hv:(bK p).2=0) (hd:d∈p.Defs):∀x,x∈d.Dims++d.Red->x.Name.size<=16:=fun x hx=>
 name_size (valid_axnames hv d hd x.Name (by rw [nmd_app];exact List.mem_map_of_mem hx))
/-! ## What a valid program's definitions are -/
theorem defR_fold {n:En} {d:Df} {t:List ByteArray} (h:mV n d t=0):rE d=0/\fR d.Name t=0:=by
 unfold mV at h
 split at h
 ·rename_i h1
  split at h
  ·split at h
   ·cases h
   ·split at h
    ·split at h
     ·rename_i h2;exact ⟨h2,h1⟩
     ·rename_i h2;exact absurd h h2
    ·rename_i h2;exact absurd h h2
  ·cases h
 ·rename_i h1;exact absurd h h1
theorem findD_get {s:ByteArray}:∀(l:List Df) (i:Nat) (d:Df),l[i]? =some d->d.Name=s->(∀y,y∈l.take i->y.Name≠s)->fZ s l=⟨d.T,d.Dims.map Ax.Size,true⟩
 |[],i,d,h,_,_=>by simp at h
 |x::r,0,d,h,hs,_=>by
  rw [List.getElem?_cons_zero,Option.some.injEq] at h
  subst h
  rw [fZ,decide_eq_true hs];rfl
 |x::r,i+1,d,h,hs,hn=>by
  rw [fZ,decide_eq_false (hn x uG),cond_false]
  exact findD_get r i d (by simpa using h) hs fun y hy=>hn y (by rw [List.take_succ_cons];simp [hy])
theorem findP_no {s:ByteArray} {ds:List Df}:∀(l:List Pm),(∀x,x∈l->x.Name≠s)->fS s ds l=fZ s ds
 |[],_=>rfl
 |x::r,h=>by rw [fS,decide_eq_false (h x uG),cond_false];exact findP_no r fun y hy=>h y (by simp [hy])
theorem valid_dR {p:Pg} (h:(bK p).2=0) {i:Nat} {d:Df} (hd:p.Defs[i]? =some d):mV ⟨p.Sizes,p.Params,p.Defs.take i⟩ d (p.Sizes++p.Params.map Pm.Name++(p.Defs.take i).map Df.Name)=0:=by
 rw [zGy] at h
 obtain ⟨a',h5,_⟩:=zDo p p rfl p.Params _ _ (zFc h).2.2.2
 have:=zHu p p.Defs _ _ _ h5 i d hd
 simpa using this
theorem valid_find {p:Pg} (h:(bK p).2=0) {i:Nat} {d:Df} (hd:p.Defs[i]? =some d):p.en.find d.Name=⟨d.T,d.Dims.map Ax.Size,true⟩:=by
 have hn:=nameR_not (defR_fold (valid_dR h hd)).2
 show fS d.Name p.Defs p.Params=_
 rw [findP_no p.Params fun x hx e=>hn (by rw [←e];simp;exact .inr (.inl ⟨x,hx,rfl⟩))]
 exact findD_get p.Defs i d hd rfl fun y hy e=>hn (by rw [←e,List.mem_append];exact .inr (List.mem_map_of_mem hy))
theorem valid_five {p:Pg} (h:(bK p).2=0) {d:Df} (hd:d∈p.Defs) (h5:d.Fold=5):0<d.Dims.length:=by
 obtain ⟨i,hi⟩:=List.getElem?_of_mem hd
 have hf:=(defR_fold (valid_dR h hi)).1
 unfold rE at hf
 split at hf
 ·cases hf
 ·split at hf
  ·cases hf
  ·rename_i c;exact Nat.pos_of_ne_zero fun e=>c (.inr ⟨h5,e⟩)
theorem k_rng {k:Int} (h:r64 k):(⟨k,[]⟩:Lf).rng:=⟨h,fun m hm=>by cases hm⟩
/-! ## Def,branch by branch -/
theorem dimL_2 (p:Pg) (env:List Bd) (s:ByteArray):(mU p env s).2=jH p env s:=by
 unfold mU;split
 ·rename_i c;rw [c]
 ·rfl
theorem dimL_1 {p:Pg} {env:List Bd} {s:ByteArray} (h:jH p env s=0):(mU p env s).1=gT env (p.en.find s).dims:=by unfold mU;rw [if_pos h]
theorem dimsT_is {p:Pg} {env:List Bd} {s:ByteArray} (h1:(bK p).2=0) (h2:lQ p env=0):rT p env s=((mU p env s).1,jH p env s):=by
 rw [←dimL_2];unfold rT;rw [if_pos h1,if_pos h2]
theorem lowD_v {p:Pg} {env:List Bd} {i:Int} (h:¬(bK p).2=0):tN p env i=.error (bK p).2:=if_pos h
theorem lowD_z {p:Pg} {env:List Bd} {i:Int} (h:(bK p).2=0) (h2:¬lQ p env=0):tN p env i=.error (lQ p env):=by
 unfold tN;rw [if_neg (fun q=>q h),if_pos h2]
theorem lowD_n {p:Pg} {env:List Bd} {i:Int} (h:(bK p).2=0) (h2:lQ p env=0) (h3:i<0∨(p.Defs.length:Int)<=i):tN p env i=.error 9:=by
 unfold tN;rw [if_neg (fun q=>q h),if_neg (fun q=>q h2),if_pos h3]
theorem lowD_at {p:Pg} {env:List Bd} {i:Nat} {d:Df} (h:(bK p).2=0) (h2:lQ p env=0) (h3:p.Defs[i]? =some d):tN p env (i:Int)=gQ p env d:=by
 have:=(List.getElem?_eq_some_iff.1 h3).1
 unfold tN;rw [if_neg (fun q=>q h),if_neg (fun q=>q h2),if_neg zC,Int.toNat_natCast,h3]
theorem lowE_d {p:Pg} {env:List Bd} {d:Df} (h:¬jH p env d.Name=0):gQ p env d=.error (jH p env d.Name):=if_pos h
theorem lowE_e {p:Pg} {env:List Bd} {d:Df} (h:jH p env d.Name=0) (h2:¬gA env (d.Red.map Ax.Size)=0):gQ p env d=.error (gA env (d.Red.map Ax.Size)):=by
 unfold gQ;rw [if_neg (fun q=>q h),if_pos h2]
theorem nmd_7 {d:ByteArray} {l:List Ax} (h:¬lF d l=0):lF d l=7:=by
 unfold lF at h⊢;split at h
 ·rename_i c;rw [if_pos c]
 ·exact absurd rfl h
theorem lowE_1 {p:Pg} {env:List Bd} {d:Df} (h:jH p env d.Name=0) (h2:gA env (d.Red.map Ax.Size)=0) (h3:¬lF d.Name d.Dims=0):gQ p env d=.error 7:=by
 unfold gQ;rw [if_neg (fun q=>q h),if_neg (fun q=>q h2),if_pos h3]
theorem lowE_2 {p:Pg} {env:List Bd} {d:Df} (h:jH p env d.Name=0) (h2:gA env (d.Red.map Ax.Size)=0) (h3:lF d.Name d.Dims=0) (h4:¬lF d.Name d.Red=0):gQ p env d=.error 7:=by
 unfold gQ;rw [if_neg (fun q=>q h),if_neg (fun q=>q h2),if_neg (fun q=>q h3),if_pos h4]
theorem lowE_b {p:Pg} {env:List Bd} {d:Df} (h:jH p env d.Name=0) (h2:gA env (d.Red.map Ax.Size)=0) (h3:lF d.Name d.Dims=0) (h4:lF d.Name d.Red=0):gQ p env d=nY p env d:=by
 unfold gQ;rw [if_neg (fun q=>q h),if_neg (fun q=>q h2),if_neg (fun q=>q h3),if_neg (fun q=>q h4)]
theorem lowB_e {p:Pg} {env:List Bd} {d:Df} {x:Int} (h:fW (fun s=>⟨lP env s,[]⟩) p.Sizes d.Body=.error x):nY p env d=.error x:=by unfold nY;rw [h]
theorem lowB_s {p:Pg} {env:List Bd} {d:Df} {b:Ex} (h:fW (fun s=>⟨lP env s,[]⟩) p.Sizes d.Body=.ok b):nY p env d=stT d (jZ p env d) (vV env d) (gEx (jF ((bH d).map (lnT d.Name)) (bH d)) b):=by unfold nY;rw [h];rfl
theorem lDims_len {p:Pg} {env:List Bd} {d:Df} (h:(bK p).2=0) (hd:d∈p.Defs):(jZ p env d).length=d.Dims.length:=by
 obtain ⟨i,hi⟩:=List.getElem?_of_mem hd
 unfold jZ pG gT;rw [valid_find h hi,List.length_map,List.length_zip,List.length_map,List.length_map];omega
theorem lRed_len {env:List Bd} {d:Df}:(vV env d).length<=d.Red.length:=nmd_len _ _ _
theorem one_ok_ns {p:Pg} {env:List Bd} {d:Df} {l:List St} (hS:p.Sm) (hd:d∈p.Defs) (hv:(bK p).2=0) (hR:d.Body.allF Lf.rng) (h:nY p env d=.ok l):Ns.Ok ⟨[],l⟩:=by
 have h1:=low_wt hR h
 have h2:=(hS.ds d hd).2.2
 have h3:=zRt hv d hd
 exact ⟨Nat.zero_le _,(fun b hb=>by cases hb),show bI l<=_ by omega⟩
/-! ## Prog,branch by branch -/
theorem lowP_v {p:Pg} {env:List Bd} (h:¬(bK p).2=0):jJ p env=(⟨[],[]⟩,(bK p).2):=if_pos h
theorem lowP_z {p:Pg} {env:List Bd} (h:(bK p).2=0) (h2:¬lQ p env=0):jJ p env=(⟨[],[]⟩,lQ p env):=by
 unfold jJ;rw [if_neg (fun q=>q h),if_pos h2]
theorem lowP_a {p:Pg} {env:List Bd} {k:Nat} {s:ByteArray} (h:(bK p).2=0) (h2:lQ p env=0) (hs:p.Outs[k]? =some s) (h3:(p.Params.any fun x=>decide (x.Name=s))=true):jJ p env=(⟨[],[]⟩,1):=by
 unfold jJ;rw [if_neg (fun q=>q h),if_neg (fun q=>q h2),if_pos (List.any_eq_true.2 ⟨s,qC hs,h3⟩)]
section
variable {p:Pg} {env:List Bd} (h:(bK p).2=0) (h2:lQ p env=0) (h3:(p.Outs.any fun s=>p.Params.any fun x=>decide (x.Name=s))=false)
include h h2 h3
theorem lowP_p {x:Int} (h4:mH p env p.Params=x) (hx:¬x=0):jJ p env=(⟨[],[]⟩,x):=by
 unfold jJ;rw [if_neg (fun q=>q h),if_neg (fun q=>q h2),if_neg (by rw [h3];simp),if_pos (by rw [h4];exact hx),h4]
theorem lowP_d {x:Int} (h4:mH p env p.Params=0) (h5:lY p env p.Defs=x) (hx:x≠0):jJ p env=(⟨[],[]⟩,x):=by
 unfold jJ;rw [if_neg (fun q=>q h),if_neg (fun q=>q h2),if_neg (by rw [h3];simp),if_neg (fun q=>q h4),if_pos (by rw [h5];exact hx),h5]
theorem lowP_n (h4:mH p env p.Params=0) (h5:lY p env p.Defs=0) (h6:¬(gL (pH p env)).2=0):jJ p env=(⟨[],[]⟩,(gL (pH p env)).2):=by
 unfold jJ;rw [if_neg (fun q=>q h),if_neg (fun q=>q h2),if_neg (by rw [h3];simp),if_neg (fun q=>q h4),if_neg (fun q=>q h5),if_pos h6]
theorem lowP_ok (h4:mH p env p.Params=0) (h5:lY p env p.Defs=0) (h6:(gL (pH p env)).2=0):jJ p env=(pH p env,0):=by
 unfold jJ;rw [if_neg (fun q=>q h),if_neg (fun q=>q h2),if_neg (by rw [h3];simp),if_neg (fun q=>q h4),if_neg (fun q=>q h5),if_neg (fun q=>q h6)]
end
theorem prm_next {p:Pg} {env:List Bd} {l:List Pm} {k:Nat} {x:Pm} (hx:l[k]? =some x) (h:mH p env l=mH p env (l.drop k)) (c:jH p env x.Name=0):mH p env l=mH p env (l.drop (k+1)):=by
 rw [h,qO hx,mH,if_pos c]
theorem prm_err {p:Pg} {env:List Bd} {l:List Pm} {k:Nat} {x:Pm} (hx:l[k]? =some x) (h:mH p env l=mH p env (l.drop k)) (c:¬jH p env x.Name=0):mH p env l=jH p env x.Name:=by
 rw [h,qO hx,mH,if_neg c]
theorem prm_end {p:Pg} {env:List Bd} {l:List Pm} {k:Nat} (h:mH p env l=mH p env (l.drop k)) (hk:l.length<=k):mH p env l=0:=by rw [h,List.drop_eq_nil_of_le hk];rfl
theorem def_next {p:Pg} {env:List Bd} {l:List Df} {k:Nat} {d:Df} {x:List St} (hx:l[k]? =some d) (h:lY p env l=lY p env (l.drop k)) (c:gQ p env d=.ok x):lY p env l=lY p env (l.drop (k+1)):=by
 rw [h,qO hx,lY,c]
theorem def_err {p:Pg} {env:List Bd} {l:List Df} {k:Nat} {d:Df} {x:Int} (hx:l[k]? =some d) (h:lY p env l=lY p env (l.drop k)) (c:gQ p env d=.error x):lY p env l=x:=by
 rw [h,qO hx,lY,c]
theorem def_end {p:Pg} {env:List Bd} {l:List Df} {k:Nat} (h:lY p env l=lY p env (l.drop k)) (hk:l.length<=k):lY p env l=0:=by rw [h,List.drop_eq_nil_of_le hk];rfl
theorem lowE_ne {p:Pg} {env:List Bd} {d:Df} {x:Int} (h:gQ p env d=.error x):x≠0:=by
 by_cases c1:jH p env d.Name=0
 ·by_cases c2:gA env (d.Red.map Ax.Size)=0
  ·by_cases c3:lF d.Name d.Dims=0
   ·by_cases c4:lF d.Name d.Red=0
    ·rw [lowE_b c1 c2 c3 c4] at h
     cases hb:fW (fun s=>(⟨lP env s,[]⟩:Lf)) p.Sizes d.Body with
     |error y=>rw [lowB_e hb] at h;injection h with h;rw [←h];exact sb_ne hb
     |ok b=>rw [lowB_s hb] at h;exact st_ne h
    ·rw [lowE_2 c1 c2 c3 c4] at h;injection h with h;rw [←h];decide
   ·rw [lowE_1 c1 c2 c3] at h;injection h with h;rw [←h];decide
  ·rw [lowE_e c1 c2] at h;injection h with h;rw [←h];exact c2
 ·rw [lowE_d c1] at h;injection h with h;rw [←h];exact c1
theorem lowE_dim {p:Pg} {env:List Bd} {d:Df} {x:List St} (h:gQ p env d=.ok x):jH p env d.Name=0:=by
 by_cases c1:jH p env d.Name=0
 ·exact c1
 ·rw [lowE_d c1] at h;cases h
theorem buf_2 {p:Pg} {env:List Bd} {d:Df} (c:bQ p.Outs d.Name=true):mG p env d=⟨d.Name,d.T,gT env (p.en.find d.Name).dims,2⟩:=by unfold mG;rw [if_pos c]
theorem buf_3 {p:Pg} {env:List Bd} {d:Df} (c:bQ p.Outs d.Name=false):mG p env d=⟨d.Name,d.T,gT env (p.en.find d.Name).dims,3⟩:=by unfold mG;rw [if_neg (by rw [c];simp)]
theorem sts_one {p:Pg} {env:List Bd} {d:Df} {x:List St} (hS:p.Sm) (hv:(bK p).2=0) (hR:∀d,d∈p.Defs->d.Body.allF Lf.rng) (hd:d∈p.Defs) (hx:gQ p env d=.ok x):bI x<=3200:=by
 have h1:=low_wt (hR d hd) (low_e hx)
 have h2:=(hS.ds d hd).2.2
 have h3:=zRt hv d hd
 omega
theorem sts_lenW {p:Pg} {env:List Bd} {j:Nat} {d:Df} {x:List St} (hS:p.Sm) (hv:(bK p).2=0) (hR:∀d,d∈p.Defs->d.Body.allF Lf.rng) (h9:bI ((p.Defs.take j).flatMap fun d=>nV (gQ p env d))<=j*3200) (hd:p.Defs[j]? =some d) (hx:gQ p env d=.ok x):
  bI ((p.Defs.take (j+1)).flatMap fun d=>nV (gQ p env d))<=(j+1)*3200:=by
 have h1:=sts_one hS hv hR (qC hd) hx
 rw [yB hd,List.flatMap_append,List.flatMap_singleton,hx,zIl]
 show _+bI x<=_
 omega
theorem low_r1 {p:Pg} {env:List Bd} {j:Nat} {d:Df} {x:List St} (hd:p.Defs[j]? =some d) (hx:gQ p env d=.ok x):((p.Defs.take (j+1)).flatMap fun d=>nV (gQ p env d)).map St.cells=((p.Defs.take j).flatMap fun d=>nV (gQ p env d)).map St.cells++x.map St.cells:=by
 rw [yB hd,List.flatMap_append,List.flatMap_singleton,hx,List.map_append];rfl
theorem low_r2 {p:Pg} {env:List Bd} {j:Nat} {d:Df} {b:Bf} (hd:p.Defs[j]? =some d) (hb:mG p env d=b):(p.Params.map (rP p env)++(p.Defs.take (j+1)).map (mG p env)).map Bf.cells=(p.Params.map (rP p env)++(p.Defs.take j).map (mG p env)).map Bf.cells++[b.cells]:=by
 rw [yB hd,List.map_append (f:=mG p env),List.map_singleton,hb,←List.append_assoc,List.map_append (l₂:=[b]),List.map_singleton]
end Go.Br
end
section
namespace Go.Br
open Go Go.Eng Go.L41
theorem lowP_is {p:Pg} {env:List Bd} (h:(jJ p env).2=0):(bK p).2=0/\(jJ p env).1=pH p env:=by
 unfold jJ at h⊢
 split
 ·rename_i c;rw [if_pos c] at h;exact absurd h c
 ·rename_i c
  rw [if_neg c] at h
  refine ⟨Decidable.of_not_not c,?_⟩
  split
  ·rename_i c2;rw [if_pos c2] at h;exact absurd h c2
  ·rename_i c2
   rw [if_neg c2] at h
   split
   ·rename_i c3;rw [if_pos c3] at h;cases h
   ·rename_i c3
    rw [if_neg c3] at h
    split
    ·rename_i c4;rw [if_pos c4] at h;exact absurd h c4
    ·rename_i c4
     rw [if_neg c4] at h
     split
     ·rename_i c5;rw [if_pos c5] at h;exact absurd h c5
     ·rename_i c5
      rw [if_neg c5] at h
      split
      ·rename_i c6;rw [if_pos c6] at h;exact absurd h c6
      ·rfl
theorem lowP_ok1 {p:Pg} {env:List Bd} (hS:p.Sm) (hR:∀d,d∈p.Defs->d.Body.allF Lf.rng) (h:(jJ p env).2=0):(jJ p env).1.Ok/\bI (jJ p env).1.Body<=900000:=by
 rw [(lowP_is h).2]
 exact low_ok hS (lowP_is h).1 hR
instance (l:Lf):Decidable l.rng:=by unfold Lf.rng r64;infer_instance
theorem x_env:∀x,x∈xV->r64 x.Val:=fun x hx=>by
 rw [List.mem_singleton.1 hx];exact show-9223372036854775808<=(3:Int)/\(3:Int)<=9223372036854775807 by decide
theorem x_sm1:(xP 1).Sm:=⟨uA,uA,uA,uA,uA,⟨(fun c hc=>by cases hc),(by decide+kernel),(by decide+kernel)⟩,(by decide+kernel),(by decide+kernel)⟩
theorem x_sm4:(xP 4).Sm:=⟨uA,uA,uA,uA,uA,⟨(fun c hc=>by cases hc),(by decide+kernel),(by decide+kernel)⟩,(by decide+kernel),(by decide+kernel)⟩
theorem x_body:xBody.allF Lf.rng:=(by decide+kernel:∀x,x∈bY xBody->∀l,l∈dI x->l.rng)
theorem x_rng1:(xP 1).Rng:=⟨(fun c hc=>by cases hc),(by decide+kernel),(fun d hd=>by rw [List.mem_singleton.1 hd];exact ⟨(fun a ha=>by cases ha),(by decide+kernel:∀a,a∈(xD 1).Red->a.Size.rng),x_body⟩)⟩
theorem x_rng4:(xP 4).Rng:=⟨(fun c hc=>by cases hc),(by decide+kernel),(fun d hd=>by rw [List.mem_singleton.1 hd];exact ⟨(fun a ha=>by cases ha),(by decide+kernel:∀a,a∈(xD 1).Red->a.Size.rng),x_body⟩)⟩
theorem x_ln:lnT (bs [115]) (bs [106])=sj:=by decide+kernel
end Go.Br
end
