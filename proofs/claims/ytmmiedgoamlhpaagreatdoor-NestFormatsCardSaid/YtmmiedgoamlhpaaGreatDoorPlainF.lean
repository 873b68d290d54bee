/-
  The text of expressions and of loop nests,in plain Lean.
  How long the text of expressions and of loop nests may be.
  How long the text of a nest may be; what the reference writes of a valid expression.
  What is written of an expression,operator by operator; how long the text of statements may be.
  What the fields of a valid nest's statements are,as its text needs it; pieces of the text.
  What a valid nest's buffers are,as its text needs it.
  Arithmetic on elements,in plain Lean: fractions in lowest terms,rounded quotients,numbers brought into a width.
  Arithmetic on elements,in plain Lean,as the walks meet it.
  Conditions: none.
-/
import Derived.Test.YtmmiedgoamlhpaaGreatDoorPlain2
import Derived.Test.YtmmiedgoamlhpaaGreatDoorPlain
set_option linter.unusedSimpArgs false
set_option linter.unusedVariables false
section
namespace Go.Br
open Go Go.Eng Go.L41
def intS (n:Int):ByteArray:=if n<0 then (bs [45])++decB n.natAbs else decB n.natAbs
def modeS (r:Int):ByteArray:=if r=1 then (bs [102,108,111,111,114]) else if r=2 then (bs [99,101,105,108]) else if r=3 then (bs [122,101,114,111]) else (bs [101,118,101,110])
def overS (o:Int):ByteArray:=if o=2 then (bs [119,114,97,112]) else (bs [115,97,116])
def tyS (t:Ty):ByteArray:=if tyOk t=false then bs [] else if t.Kind=1 then (bs [102,114,97,99]) else if t.Kind=3 then (bs [105,110,116]) else (bs [102,105,120,40])++intS t.Bits++(bs [44,32])++intS t.Frac++(bs [44,32])++modeS t.Round++(bs [44,32])++overS t.Over++(bs [41])
/-! ## Forms -/
def termS (s:ByteArray) (neg:Bool) (t:ByteArray):ByteArray:=
 if s=bs []/\neg=true then (bs [45])++t else if s=bs [] then t else if neg=true then s++(bs [32,45,32])++t else s++(bs [32,43,32])++t
def monoT (m:Mono):ByteArray:=if m.By.natAbs=1 then m.Name else decB m.By.natAbs++(bs [42])++m.Name
def monosS (s:ByteArray):List Mono->ByteArray
 |[]=>s
 |m::r=>monosS (termS s (decide (m.By<0)) (monoT m)) r
def linS (l:Lf):ByteArray:=if linOk l=false then bs [] else if ¬l.K=0∨l.L.length=0 then termS (monosS (bs []) l.L) (decide (l.K<0)) (decB l.K.natAbs) else monosS (bs []) l.L
def signS (s:ByteArray) (neg:Bool):ByteArray:=if s.size=0/\neg=true then (bs [45]) else if 0<s.size/\neg=true then (bs [32,45,32]) else if 0<s.size then (bs [32,43,32]) else bs []
def termP (s:ByteArray) (by_:Int) (nm:ByteArray):ByteArray:=
 if nm=bs []∨¬by_.natAbs=1 then (if ¬nm=bs [] then s++signS s (decide (by_<0))++decB by_.natAbs++(bs [42])++nm else s++signS s (decide (by_<0))++decB by_.natAbs++nm) else s++signS s (decide (by_<0))++nm
theorem size_zero {s:ByteArray}:s.size=0↔s=bs []:=by
 constructor
 ·intro h;cases s with|mk a=>cases a with|mk l=>cases l with
   |nil=>rfl
   |cons x r=>simp [ByteArray.size] at h
 ·rintro rfl;rfl
theorem zAj (s:ByteArray):s++bs []=s:=ByteArray.append_empty
theorem zEa (s:ByteArray):bs []++s=s:=ByteArray.empty_append
theorem kM (a b c:ByteArray):a++b++c=a++(b++c):=ByteArray.append_assoc
theorem zQr (s t:ByteArray) (neg:Bool):s++signS s neg++t=termS s neg t:=by
 unfold signS termS
 by_cases h:s=bs []
 ·subst h
  have h0:(bs []).size=0:=rfl
  cases neg<;>simp [h0,zAj,zEa]
 ·have h0:¬s.size=0:=fun k=>h (size_zero.1 k)
  have h1:0<s.size:=by omega
  cases neg<;>simp [h,h0,h1]
theorem termP_mono {s:ByteArray} {m:Mono} (h:isNameB m.Name=true):termP s m.By m.Name=termS s (decide (m.By<0)) (monoT m):=by
 have hn:¬m.Name=bs []:=fun k=>by rw [k] at h;exact absurd h (by decide)
 unfold termP monoT
 by_cases c:m.By.natAbs=1
 ·rw [if_neg (by simp [hn,c]),if_pos c,zQr]
 ·rw [if_pos (.inr c),if_pos hn,if_neg c,←zQr]
  simp only [kM]
theorem termP_const (s:ByteArray) (k:Int):termP s k (bs [])=termS s (decide (k<0)) (decB k.natAbs):=by
 unfold termP
 rw [if_pos (.inl rfl),if_neg (by simp),←zQr,zAj]
theorem monosS_app (s:ByteArray):∀(l:List Mono) (m:Mono),monosS s (l++[m])=termS (monosS s l) (decide (m.By<0)) (monoT m)
 |[],m=>by rw [List.nil_append,monosS,monosS,monosS]
 |a::r,m=>by rw [List.cons_append,monosS,monosS,monosS_app _ r m]
theorem zEq {l:List Mono} {k:Nat} {m:Mono} (h:l[k]? =some m):monosS (bs []) (l.take (k+1))=termS (monosS (bs []) (l.take k)) (decide (m.By<0)) (monoT m):=by
 rw [yN h,monosS_app]
/-! ## Lists -/
def comA (k:Nat):List ByteArray->ByteArray
 |[]=>bs []
 |x::r=>(if 0<k then (bs [44,32]) else bs [])++x++comA (k+1) r
def comS (l:List ByteArray):ByteArray:=comA 0 l
theorem comA_app:∀(l:List ByteArray) (k:Nat) (x:ByteArray),comA k (l++[x])=comA k l++((if 0<k+l.length then (bs [44,32]) else bs [])++x)
 |[],k,x=>by rw [List.nil_append,comA,comA,comA,zAj,zEa];rfl
 |a::r,k,x=>by
  rw [List.cons_append,comA,comA,comA_app r (k+1) x,List.length_cons,show k+1+r.length=k+(r.length+1) by omega]
  simp only [kM]
theorem zMk {l:List ByteArray} {k j:Nat} {x:ByteArray} (h:l[j]? =some x):comA k (l.take (j+1))=comA k (l.take j)++((if 0<k+j then (bs [44,32]) else bs [])++x):=by
 have hl:(l.take j).length=j:=by rw [List.length_take];have:=(List.getElem?_eq_some_iff.1 h).1;omega
 rw [yN h,comA_app,hl]
theorem zCo {l:List ByteArray} {j:Nat} {x:ByteArray} (h:l[j]? =some x) (c:0<j):comS (l.take (j+1))=comS (l.take j)++(bs [44,32])++x:=by
 unfold comS;rw [zMk h,if_pos (by omega),kM]
theorem zLc {l:List ByteArray} {j:Nat} {x:ByteArray} (h:l[j]? =some x) (c:¬0<j):comS (l.take (j+1))=comS (l.take j)++x:=by
 unfold comS;rw [zMk h,if_neg (by omega),zEa]
/-! ## Indices and values -/
def ixS (x:Ix):ByteArray:=if linOk x.Lin=false∨x.At.any (fun l=> !linOk l)=true then bs [] else if x.From=bs [] then (if 0<x.At.length then bs [] else linS x.Lin)
 else if isNameB x.From=false∨¬x.Lin.K=0∨0<x.Lin.L.length then bs [] else x.From++(bs [91])++comS (x.At.map linS)++(bs [93])
def frS (v:Vl):ByteArray:=if v.D=1 then intS v.N else intS v.N++(bs [47])++intS v.D
def fmxN (n:Int) (k:Nat):Vl:=⟨n/(Nat.gcd n.natAbs (2^k):Nat),((2^k/Nat.gcd n.natAbs (2^k):Nat):Int)⟩
def fracN (t:Ty) (v:Vl):Vl:=if t.Kind=2 then fmxN v.N t.Frac.toNat else v
def valS (t:Ty) (v:Vl):ByteArray:=if (tyOk t&&valOk t v)=false then bs [] else frS (fracN t v)
/-! ## Expressions -/
def precI (op:Int):Int:=if op=17 then 1 else if op=16 then 2 else if op=18 then 3 else if op=13∨op=14∨op=15 then 4 else if op=4∨op=5 then 5 else if op=6∨op=7 then 6 else if op=8 then 7 else 8
def symS (op:Int):ByteArray:=if op=4 then (bs [43]) else if op=5 then (bs [45]) else if op=6 then (bs [42]) else if op=7 then (bs [47]) else if op=13 then (bs [60]) else if op=14 then (bs [60,61]) else if op=15 then (bs [61,61]) else if op=16 then (bs [38]) else if op=17 then (bs [124]) else bs []
def parS (least op:Int) (t:ByteArray):ByteArray:=if least<=precI op then t else (bs [40])++t++(bs [41])
def callS (nm first:ByteArray) (l:List ByteArray):ByteArray:=nm++(bs [40])++first++comA (if first=bs [] then 0 else 1) l++(bs [41])
def nodeS (o:Int) (n:ByteArray) (v:Vl) (t:Ty) (l:Lf) (i:List Ix) (ops:List Int) (ts:List ByteArray):ByteArray:=
 if o=1 then tyS t++(bs [40])++valS t v++(bs [41]) else if o=2 then (bs [91])++linS l++(bs [93]) else if o=3 then n++(bs [91])++comS (i.map ixS)++(bs [93])
 else if o=8 then (bs [45])++parS 7 (ops.getD 0 0) (ts.getD 0 (bs [])) else if o=18 then (bs [33])++parS 3 (ops.getD 0 0) (ts.getD 0 (bs []))
 else if o=9 then callS (bs [109,105,110]) (bs []) ts else if o=10 then callS (bs [109,97,120]) (bs []) ts else if o=11 then callS (bs [105,102]) (bs []) ts else if o=12 then callS (bs [99,97,115,116]) (tyS t) ts
 else parS (precI o) (ops.getD 0 0) (ts.getD 0 (bs []))++((bs [32])++symS o++(bs [32]))++parS (precI o+1) (ops.getD 1 0) (ts.getD 1 (bs []))
mutual
def exS:Ex->ByteArray
 |.mk o n v t l i r=>nodeS o n v t l i (r.map Ex.Op) (exL r)
def exL:List Ex->List ByteArray
 |[]=>[]
 |a::r=>exS a::exL r
end
theorem exL_map:∀l:List Ex,exL l=l.map exS
 |[]=>by rw [exL];rfl
 |a::r=>by rw [exL,exL_map r];rfl
theorem zEd (e:Ex):exS e=nodeS e.Op e.Name e.Val e.Ty e.Lin e.Idx (e.Args.map Ex.Op) (e.Args.map exS):=by
 cases e;rw [exS,exL_map];rfl
def exT (e:Ex):ByteArray:=if ¬validE e=0 then bs [] else exS e
/-! ## Nests -/
def useS (u:Int):ByteArray:=if u=1 then (bs [105,110]) else if u=2 then (bs [111,117,116]) else (bs [116,101,109,112])
def markS (m:Int):ByteArray:=if m=1 then (bs [32,112,97,114,97,108,108,101,108]) else if m=2 then (bs [32,118,101,99,116,111,114]) else if m=3 then (bs [32,117,110,114,111,108,108]) else bs []
def foldS (op fold:Int):ByteArray:=if op=2 then (bs [32,61,32]) else if fold=1 then (bs [32,115,117,109,61,32]) else if fold=2 then (bs [32,112,114,111,100,61,32]) else if fold=3 then (bs [32,109,105,110,61,32]) else (bs [32,109,97,120,61,32])
def bufS (b:Bf):ByteArray:=b.Name++(bs [58,32])++tyS b.T++(bs [91])++comS (b.Dims.map intS)++(bs [93,32])++useS b.Use++(bs [10])
def readX (n:ByteArray) (i:List Ix):Ex:=.mk 3 n ⟨0,0⟩ ⟨0,0,0,0,0⟩ ⟨0,[]⟩ i []
mutual
def stS (ind:ByteArray):St->ByteArray
 |.mk o n m k f i e b=>if o=1 then ind++((bs [102,111,114,32])++n++(bs [32,60,32])++intS m++markS k)++(bs [32,123,10])++stsS (ind++(bs [32,32])) b++(ind++(bs [125,10]))
  else if o=2∨o=3 then ind++exT (readX n i)++foldS o f++exT e++(bs [10]) else ind++((bs [105,102,32])++exT e)++(bs [32,123,10])++stsS (ind++(bs [32,32])) b++(ind++(bs [125,10]))
def stsS (ind:ByteArray):List St->ByteArray
 |[]=>bs []
 |s::r=>stS ind s++stsS ind r
end
def bufsS:List Bf->ByteArray
 |[]=>bs []
 |b::r=>bufS b++bufsS r
def nestS (n:Ns):ByteArray:=bufsS n.Bufs++stsS (bs []) n.Body
theorem stsS_app (ind:ByteArray):∀(l:List St) (s:St),stsS ind (l++[s])=stsS ind l++stS ind s
 |[],s=>by rw [List.nil_append,stsS,stsS,stsS,zAj,zEa]
 |a::r,s=>by rw [List.cons_append,stsS,stsS,stsS_app ind r s,kM]
theorem zDt {ind:ByteArray} {l:List St} {k:Nat} {s:St} (h:l[k]? =some s):stsS ind (l.take (k+1))=stsS ind (l.take k)++stS ind s:=by rw [yN h,stsS_app]
theorem bufsS_app:∀(l:List Bf) (b:Bf),bufsS (l++[b])=bufsS l++bufS b
 |[],b=>by rw [List.nil_append,bufsS,bufsS,bufsS,zAj,zEa]
 |a::r,b=>by rw [List.cons_append,bufsS,bufsS,bufsS_app r b,kM]
theorem bufsS_next {l:List Bf} {k:Nat} {b:Bf} (h:l[k]? =some b):bufsS (l.take (k+1))=bufsS (l.take k)++bufS b:=by rw [yN h,bufsS_app]
theorem zHs {ind:ByteArray} {s:St} (h:s.Op=1):stS ind s=ind++((bs [102,111,114,32])++s.Name++(bs [32,60,32])++intS s.Many++markS s.Mark)++(bs [32,123,10])++stsS (ind++(bs [32,32])) s.Body++(ind++(bs [125,10])):=by
 cases s with|mk o n m k f i e b=>rw [stS];exact if_pos h
theorem zKq {ind:ByteArray} {s:St} (h:s.Op=2∨s.Op=3):stS ind s=ind++exT (readX s.Name s.Idx)++foldS s.Op s.Fold++exT s.E++(bs [10]):=by
 cases s with|mk o n m k f i e b=>rw [stS];exact (if_neg (fun k=>by rcases h with h|h<;>simp only [St.Op] at h<;>omega)).trans (if_pos h)
theorem zOc {ind:ByteArray} {s:St} (h:¬s.Op=1) (h2:¬(s.Op=2∨s.Op=3)):stS ind s=ind++((bs [105,102,32])++exT s.E)++(bs [32,123,10])++stsS (ind++(bs [32,32])) s.Body++(ind++(bs [125,10])):=by
 cases s with|mk o n m k f i e b=>rw [stS];exact (if_neg h).trans (if_neg h2)
end Go.Br
end
section
namespace Go.Br
open Go Go.Eng Go.L41
theorem zGp {s:ByteArray} (h:isNameB s=true):s.size<=16:=by
 rcases Nat.lt_or_ge 16 s.size with c|c
 ·rw [name_short (by rw [Bool.or_eq_true,Bool.or_eq_true];exact .inl (.inr (decide_eq_true (by omega))))] at h;cases h
 ·exact c
theorem U (a b:ByteArray):(a++b).size=a.size+b.size:=ByteArray.size_append
theorem yT (l:List UInt8):(bs l).size=l.length:=by
 show l.toArray.size=_
 simp
theorem wT {n:Int} (h:n.natAbs<10^19):(intS n).size<=20:=by
 have:=zBu h
 unfold intS
 split
 ·rw [U,yT];simp only [List.length_cons,List.length_nil];omega
 ·omega
theorem natAbs_r {n:Int} (h:r64 n):n.natAbs<10^19:=by unfold r64 at h;omega
theorem zJc (t:Ty):(tyS t).size<=80:=by
 unfold tyS
 cases h:tyOk t with
 |false=>rw [if_pos rfl];exact Nat.zero_le _
 |true=>
  rw [if_neg (by simp)]
  split
  ·exact (by decide:(bs [102,114,97,99]).size<=80)
  ·next h1=>
   split
   ·exact (by decide:(bs [105,110,116]).size<=80)
   ·next h3=>
    have h0:fixOk t=true:=by
     unfold tyOk at h
     rw [Bool.or_eq_true] at h
     rcases h with h|h
     ·simp only [Bool.and_eq_true,Bool.or_eq_true,decide_eq_true_eq] at h;omega
     ·exact h
    unfold fixOk at h0
    simp only [Bool.and_eq_true,Bool.or_eq_true,decide_eq_true_eq] at h0
    have a1:=wT (n:=t.Bits) (by omega)
    have a2:=wT (n:=t.Frac) (by omega)
    have a3:(modeS t.Round).size<=5:=by unfold modeS;split;decide;split;decide;split;decide;decide
    have a4:(overS t.Over).size<=4:=by unfold overS;split;decide;decide
    simp only [U,yT,List.length_cons,List.length_nil]
    omega
theorem termS_size (s t:ByteArray) (neg:Bool):(termS s neg t).size<=s.size+3+t.size:=by
 unfold termS
 split
 ·simp only [U,yT,List.length_cons,List.length_nil];omega
 ·split
  ·omega
  ·split<;>simp only [U,yT,List.length_cons,List.length_nil]<;>omega
theorem monoT_size {m:Mono} (h:r64 m.By) (hn:isNameB m.Name=true):(monoT m).size<=40:=by
 have h1:=zGp hn
 have h2:=zBu (natAbs_r h)
 unfold monoT
 split
 ·omega
 ·simp only [U,yT,List.length_cons,List.length_nil];omega
theorem zDj:∀(l:List Mono) (s:ByteArray),(∀m,m∈l->r64 m.By/\isNameB m.Name=true)->(monosS s l).size<=s.size+50*l.length
 |[],s,_=>by rw [monosS];omega
 |m::r,s,h=>by
  rw [monosS,List.length_cons]
  have h1:=zDj r (termS s (decide (m.By<0)) (monoT m)) fun x hx=>h x (by simp [hx])
  have h2:=termS_size s (monoT m) (decide (m.By<0))
  have h3:=monoT_size (h m (by simp)).1 (h m (by simp)).2
  omega
theorem zLt {p:Option ByteArray}:∀{l:List Mono},monosOk p l=true->∀m,m∈l->isNameB m.Name=true
 |[],_,m,hm=>by cases hm
 |a::r,h,m,hm=>by
  unfold monosOk at h
  simp only [Bool.and_eq_true] at h
  rcases List.mem_cons.1 hm with rfl|hm
  ·first|exact h.1.1.1|exact h.1.1|exact h.1.1.1.1|exact h.1
  ·exact zLt h.2 m hm
theorem zIl {l:Lf} (h:l.rng):(linS l).size<=50*l.L.length+50:=by
 unfold linS
 cases hl:linOk l with
 |false=>rw [if_pos rfl];exact Nat.zero_le _
 |true=>
  rw [if_neg (by simp)]
  have h1:=zDj l.L (bs []) fun m hm=>⟨h.2 m hm,zLt hl m hm⟩
  have h2:=zBu (natAbs_r h.1)
  have h0:(bs []).size=0:=rfl
  split
  ·have:=termS_size (monosS (bs []) l.L) (decB l.K.natAbs) (decide (l.K<0));omega
  ·omega
def szs (l:List ByteArray):Nat:=(l.map ByteArray.size).sum
theorem zTe:∀(l:List ByteArray) (k:Nat),(comA k l).size<=2*l.length+szs l
 |[],k=>Nat.zero_le _
 |x::r,k=>by
  rw [comA]
  have h1:=zTe r (k+1)
  have h2:(if 0<k then bs [44,32] else bs []).size<=2:=by split<;>decide
  simp only [U]
  unfold szs at h1⊢
  rw [List.map_cons,List.sum_cons,List.length_cons]
  omega
theorem zCj (l:List ByteArray):(comS l).size<=2*l.length+szs l:=zTe l 0
theorem szs_lins:∀{l:List Lf},(∀x,x∈l->x.rng)->szs (l.map linS)<=50*linsWt l+50*l.length
 |[],_=>Nat.zero_le _
 |x::r,h=>by
  have h1:=szs_lins (l:=r) fun y hy=>h y (by simp [hy])
  have h2:=zIl (h x (by simp))
  unfold szs at h1⊢
  rw [List.map_cons,List.map_cons,List.sum_cons,List.length_cons,linsWt]
  omega
theorem ixS_size {x:Ix} (h:x.Lin.rng) (ha:∀l,l∈x.At->l.rng):(ixS x).size<=60*x.wt+70:=by
 have h1:=zIl h
 have h2:=zCj (x.At.map linS)
 have h3:=szs_lins ha
 rw [List.length_map] at h2
 unfold ixS Ix.wt
 split
 ·exact Nat.zero_le _
 ·split
  ·split
   ·exact Nat.zero_le _
   ·omega
  ·split
   ·exact Nat.zero_le _
   ·next hc=>
    have hn:isNameB x.From=true:=by
     cases c:isNameB x.From with
     |true=>rfl
     |false=>exact absurd (.inl c) hc
    have:=zGp hn
    simp only [U,yT,List.length_cons,List.length_nil]
    omega
theorem zQs:∀{l:List Ix},(∀x,x∈l->x.Lin.rng/\∀y,y∈x.At->y.rng)->szs (l.map ixS)<=60*idxWt l+70*l.length
 |[],_=>Nat.zero_le _
 |x::r,h=>by
  have h1:=zQs (l:=r) fun y hy=>h y (by simp [hy])
  have h2:=ixS_size (h x (by simp)).1 (h x (by simp)).2
  unfold szs at h1⊢
  rw [List.map_cons,List.map_cons,List.sum_cons,List.length_cons,idxWt]
  omega
theorem num31_abs {n:Int} (h:num31 n=true):n.natAbs<10^19:=by
 unfold num31 at h;simp only [Bool.and_eq_true,decide_eq_true_eq] at h;omega
theorem frS_size {v:Vl} (h:v.N.natAbs<10^19) (h2:v.D.natAbs<10^19):(frS v).size<=50:=by
 have a1:=wT h
 have a2:=wT h2
 unfold frS
 split
 ·omega
 ·simp only [U,yT,List.length_cons,List.length_nil];omega
theorem half_b {b:Int} (h1:2<=b) (h2:b<=31):half b<=1073741824:=(zIm h1 h2).2
theorem fxV_abs {n:Int} {k:Nat} (hn:n.natAbs<=1073741824) (hk:k<=30):(fmxN n k).N.natAbs<=1073741824/\(fmxN n k).D.natAbs<=1073741824:=by
 have hp:(2:Nat)^k<=2^30:=Nat.pow_le_pow_right (by decide) hk
 have hp2:(2:Nat)^30=1073741824:=by decide
 constructor
 ·show (n/(Nat.gcd n.natAbs (2^k):Nat)).natAbs<=_
  have h1:=Int.natAbs_ediv_le_natAbs n (Nat.gcd n.natAbs (2^k):Nat)
  omega
 ·show (((2^k/Nat.gcd n.natAbs (2^k):Nat):Int)).natAbs<=_
  rw [Int.natAbs_natCast]
  have:=Nat.div_le_self (2^k) (Nat.gcd n.natAbs (2^k))
  omega
theorem zQo (t:Ty) (v:Vl):(valS t v).size<=50:=by
 unfold valS
 cases h:tyOk t&&valOk t v with
 |false=>rw [if_pos rfl];exact Nat.zero_le _
 |true=>
  rw [if_neg (by simp)]
  rw [Bool.and_eq_true] at h
  obtain ⟨ht,hv⟩:=h
  unfold fracN
  by_cases c:t.Kind=2
  ·rw [if_pos c]
   rw [zAm c] at ht
   unfold fixOk at ht
   simp only [Bool.and_eq_true,Bool.or_eq_true,decide_eq_true_eq] at ht
   unfold valOk at hv
   rw [decide_eq_true c,cond_true] at hv
   simp only [Bool.and_eq_true,decide_eq_true_eq] at hv
   have hb:=half_b (b:=t.Bits) (by omega) (by omega)
   obtain ⟨k1,k2⟩:=fxV_abs (n:=v.N) (k:=t.Frac.toNat) (by omega) (by omega)
   exact frS_size (by omega) (by omega)
  ·rw [if_neg c]
   unfold valOk at hv
   rw [decide_eq_false c,cond_false] at hv
   by_cases c3:t.Kind=3
   ·rw [decide_eq_true c3,cond_true,Bool.and_eq_true] at hv
    have:=hv.1
    simp only [decide_eq_true_eq] at this
    exact frS_size (num31_abs hv.2) (by omega)
   ·rw [decide_eq_false c3,cond_false] at hv
    simp only [Bool.and_eq_true,decide_eq_true_eq] at hv
    exact frS_size (num31_abs hv.1.2) (by omega)
end Go.Br
end
section
namespace Go.Br
open Go Go.Eng Go.L41
theorem zKo {x:ByteArray}:∀{l:List ByteArray},x∈l->x.size<=szs l
 |[],h=>by cases h
 |a::r,h=>by
  show x.size<=a.size+szs r
  rcases List.mem_cons.1 h with rfl|h
  ·omega
  ·have:=zKo h;omega
theorem szs_get (l:List ByteArray) (i:Nat):(l.getD i (bs [])).size<=szs l:=by
 rw [List.getD_eq_getElem?_getD]
 cases h:l[i]? with
 |none=>exact Nat.zero_le _
 |some x=>
  show x.size<=_
  have:x∈l:=List.mem_of_getElem? h
  exact zKo this
theorem szs_two (l:List ByteArray):(l.getD 0 (bs [])).size+(l.getD 1 (bs [])).size<=szs l:=by
 match l with
 |[]=>exact Nat.zero_le _
 |[a]=>
  show a.size+(bs []).size<=a.size+0
  exact Nat.le_refl _
 |a::b::r=>simp only [szs,List.getD_cons_zero,List.getD_cons_succ,List.map_cons,List.sum_cons];omega
theorem zCx (p o:Int) (t:ByteArray):(parS p o t).size<=t.size+2:=by
 unfold parS
 split
 ·omega
 ·simp only [U,yT,List.length_cons,List.length_nil];omega
theorem zJs (nm first:ByteArray) (l:List ByteArray):(callS nm first l).size<=nm.size+first.size+2+2*l.length+szs l:=by
 unfold callS
 have:=zTe l (if first=bs [] then 0 else 1)
 simp only [U,yT,List.length_cons,List.length_nil];omega
theorem symS_size (o:Int):(symS o).size<=2:=by
 unfold symS
 repeat' split
 all_goals decide
theorem nodeS_size {o:Int} {n:ByteArray} {v:Vl} {t:Ty} {l:Lf} {i:List Ix} {ops:List Int} {ts:List ByteArray} (hn:o=3->n.size<=16) (hl:l.rng) (hi:∀x,x∈i->x.Lin.rng/\∀y,y∈x.At->y.rng):
  (nodeS o n v t l i ops ts).size<=150+50*l.L.length+72*i.length+60*idxWt i+2*ts.length+szs ts:=by
 have a1:=zJc t
 have a2:=zQo t v
 have a3:=zIl hl
 have a4:=zCj (i.map ixS)
 have a5:=zQs hi
 rw [List.length_map] at a4
 have a6:=szs_get ts 0
 have a7:=szs_two ts
 have a8:=symS_size o
 unfold nodeS
 split
 ·simp only [U,yT,List.length_cons,List.length_nil];omega
 ·split
  ·simp only [U,yT,List.length_cons,List.length_nil];omega
  ·split
   ·next h=>have:=hn h;simp only [U,yT,List.length_cons,List.length_nil];omega
   ·split
    ·have:=zCx 7 (ops.getD 0 0) (ts.getD 0 (bs []));simp only [U,yT,List.length_cons,List.length_nil];omega
    ·split
     ·have:=zCx 3 (ops.getD 0 0) (ts.getD 0 (bs []));simp only [U,yT,List.length_cons,List.length_nil];omega
     ·split
      ·have:=zJs (bs [109,105,110]) (bs []) ts;simp only [yT,List.length_cons,List.length_nil] at this;omega
      ·split
       ·have:=zJs (bs [109,97,120]) (bs []) ts;simp only [yT,List.length_cons,List.length_nil] at this;omega
       ·split
        ·have:=zJs (bs [105,102]) (bs []) ts;simp only [yT,List.length_cons,List.length_nil] at this;omega
        ·split
         ·have:=zJs (bs [99,97,115,116]) (tyS t) ts;simp only [yT,List.length_cons,List.length_nil] at this;omega
         ·have h1:=zCx (precI o) (ops.getD 0 0) (ts.getD 0 (bs []))
          have h2:=zCx (precI o+1) (ops.getD 1 0) (ts.getD 1 (bs []))
          simp only [U,yT,List.length_cons,List.length_nil];omega
def nmsOk (e:Ex):Prop:=∀x,x∈nodes e->x.Op=3->x.Name.size<=16
theorem nms_arg {e a:Ex} (h:nmsOk e) (ha:a∈e.Args):nmsOk a:=fun x hx=>h x (by rw [wJ];exact List.mem_cons_of_mem _ (zRx ha hx))
theorem zJi {e:Ex} (h:partE e=0):nmsOk e:=by
 intro x hx ho
 have h1:=(zGo (errsL_mem h x hx)).2.1
 unfold namesE at h1
 rw [Bool.and_eq_true,Bool.not_eq_true',Bool.and_eq_false_iff,decide_eq_false_iff_not,Bool.not_eq_false'] at h1
 rcases h1.1 with h2|h2
 ·exact absurd ho h2
 ·exact zGp h2
theorem exS_size (e:Ex):nmsOk e->e.allF Lf.rng->(exS e).size+100<=300*e.wt:=by
 induction e using Ex.ind with
 |_ e ih=>
  intro hn hr
  have key:∀l:List Ex,(∀a,a∈l->a∈e.Args)->szs (l.map exS)+100*l.length<=300*argsWt l:=by
   intro l
   induction l with
   |nil=>intro _;exact Nat.zero_le _
   |cons a r ihr=>
    intro h
    have h1:=ihr fun b hb=>h b (by simp [hb])
    have ha:=h a (by simp)
    have h2:=ih a ha (nms_arg hn ha) (Ex.allF_arg hr ha)
    unfold szs at h1⊢
    rw [List.map_cons,List.map_cons,List.sum_cons,List.length_cons,argsWt]
    omega
  have h1:=key e.Args fun a h=>h
  have h2:=nodeS_size (o:=e.Op) (n:=e.Name) (v:=e.Val) (t:=e.Ty) (l:=e.Lin) (i:=e.Idx) (ops:=e.Args.map Ex.Op) (ts:=e.Args.map exS) (fun ho=>hn e (by rw [wJ];simp) ho) (Ex.allF_lin hr) (fun x hx=>⟨Ex.allF_ix hr hx,fun y hy=>Ex.allF_at hr hx hy⟩)
  rw [zEd,Ex.wt_eq]
  rw [List.length_map] at h2
  omega
theorem zJo {e:Ex} (hr:e.allF Lf.rng):(exT e).size<=300*e.wt:=by
 unfold exT
 split
 ·exact Nat.zero_le _
 ·next h=>have:=exS_size e (zJi (zDi (by simpa using h))) hr;omega
theorem readX_wt (n:ByteArray) (i:List Ix):(readX n i).wt=1+i.length+idxWt i:=by unfold readX;rw [Ex.wt_eq];simp [Ex.Lin,Ex.Idx,Ex.Args,argsWt]
theorem zFr {n:ByteArray} {i:List Ix} (h:∀x,x∈i->x.Lin.rng/\∀y,y∈x.At->y.rng):(readX n i).allF Lf.rng:=by
 intro x hx l hl
 rw [wJ] at hx
 rcases List.mem_cons.1 hx with rfl|hx
 ·have hl:l∈(⟨0,[]⟩:Lf)::i.flatMap fun x=>x.Lin::x.At:=by
   first|exact hl|(unfold formsL at hl;exact hl)|(unfold formsL readX at hl;simpa [Ex.Lin,Ex.Idx] using hl)
  rcases List.mem_cons.1 hl with rfl|hl
  ·exact zL_rng
  ·obtain ⟨x,hx,h2⟩:=List.mem_flatMap.1 hl
   rcases List.mem_cons.1 h2 with rfl|h2
   ·exact (h x hx).1
   ·exact (h x hx).2 l h2
 ·have:(readX n i).Args=[]:=rfl
  rw [this,nodesL] at hx;cases hx
end Go.Br
end
section
namespace Go.Br
open Go Go.Eng Go.L41
theorem exS_val {e:Ex} (h:e.Op=1):exS e=tyS e.Ty++(bs [40])++valS e.Ty e.Val++(bs [41]):=by rw [zEd];unfold nodeS;rw [if_pos h]
theorem exS_idx {e:Ex} (h:e.Op=2):exS e=(bs [91])++linS e.Lin++(bs [93]):=by rw [zEd];unfold nodeS;rw [if_neg (by omega),if_pos h]
theorem exS_read {e:Ex} (h:e.Op=3):exS e=e.Name++(bs [91])++comS (e.Idx.map ixS)++(bs [93]):=by rw [zEd];unfold nodeS;rw [if_neg (by omega),if_neg (by omega),if_pos h]
theorem exS_neg {e a:Ex} (h:e.Op=8) (ha:e.Args=[a]):exS e=(bs [45])++parS 7 a.Op (exS a):=by
 rw [zEd,ha];unfold nodeS;rw [if_neg (by omega),if_neg (by omega),if_neg (by omega),if_pos h];rfl
theorem exS_not {e a:Ex} (h:e.Op=18) (ha:e.Args=[a]):exS e=(bs [33])++parS 3 a.Op (exS a):=by
 rw [zEd,ha];unfold nodeS;rw [if_neg (by omega),if_neg (by omega),if_neg (by omega),if_neg (by omega),if_pos h];rfl
theorem call_two (nm x y:ByteArray):callS nm (bs []) [x,y]=(nm++(bs [40]))++x++(bs [44,32])++y++(bs [41]):=by
 unfold callS
 rw [if_pos rfl,comA,comA,comA,if_neg (by omega),if_pos (by omega),zAj,zEa,zAj]
 simp only [kM]
theorem call_three (nm x y z:ByteArray):callS nm (bs []) [x,y,z]=(nm++(bs [40]))++x++(bs [44,32])++y++(bs [44,32])++z++(bs [41]):=by
 unfold callS
 rw [if_pos rfl,comA,comA,comA,comA,if_neg (by omega),if_pos (by omega),if_pos (by omega),zAj,zEa,zAj]
 simp only [kM]
theorem call_one (nm f x:ByteArray) (h:¬f=bs []):callS nm f [x]=(nm++(bs [40]))++f++(bs [44,32])++x++(bs [41]):=by
 unfold callS
 rw [if_neg h,comA,comA,if_pos (by omega),zAj]
 simp only [kM]
theorem exS_min {e a b:Ex} (h:e.Op=9) (ha:e.Args=[a,b]):exS e=(bs [109,105,110,40])++exS a++(bs [44,32])++exS b++(bs [41]):=by
 rw [zEd,ha];unfold nodeS;rw [if_neg (by omega),if_neg (by omega),if_neg (by omega),if_neg (by omega),if_neg (by omega),if_pos h];exact call_two _ _ _
theorem exS_max {e a b:Ex} (h:e.Op=10) (ha:e.Args=[a,b]):exS e=(bs [109,97,120,40])++exS a++(bs [44,32])++exS b++(bs [41]):=by
 rw [zEd,ha];unfold nodeS;rw [if_neg (by omega),if_neg (by omega),if_neg (by omega),if_neg (by omega),if_neg (by omega),if_neg (by omega),if_pos h];exact call_two _ _ _
theorem exS_if {e a b c:Ex} (h:e.Op=11) (ha:e.Args=[a,b,c]):exS e=(bs [105,102,40])++exS a++(bs [44,32])++exS b++(bs [44,32])++exS c++(bs [41]):=by
 rw [zEd,ha];unfold nodeS;rw [if_neg (by omega),if_neg (by omega),if_neg (by omega),if_neg (by omega),if_neg (by omega),if_neg (by omega),if_neg (by omega),if_pos h];exact call_three _ _ _ _
theorem tyS_ne {t:Ty} (h:tyOk t=true):¬tyS t=bs []:=by
 unfold tyS
 rw [if_neg (by rw [h];simp)]
 split
 ·decide
 ·split
  ·decide
  ·intro k
   have:=congrArg ByteArray.size k
   simp only [U,yT,List.length_cons,List.length_nil] at this
   omega
theorem exS_cast {e a:Ex} (h:e.Op=12) (ht:tyOk e.Ty=true) (ha:e.Args=[a]):exS e=(bs [99,97,115,116,40])++tyS e.Ty++(bs [44,32])++exS a++(bs [41]):=by
 rw [zEd,ha];unfold nodeS;rw [if_neg (by omega),if_neg (by omega),if_neg (by omega),if_neg (by omega),if_neg (by omega),if_neg (by omega),if_neg (by omega),if_neg (by omega),if_pos h];exact call_one _ _ _ (tyS_ne ht)
def isBin (o:Int):Prop:=o=4∨o=5∨o=6∨o=7∨o=13∨o=14∨o=15∨o=16∨o=17
def infS (op:Int):ByteArray:=if op=4 then (bs [32,43,32]) else if op=5 then (bs [32,45,32]) else if op=6 then (bs [32,42,32]) else if op=7 then (bs [32,47,32]) else if op=13 then (bs [32,60,32]) else if op=14 then (bs [32,60,61,32]) else if op=15 then (bs [32,61,61,32]) else if op=16 then (bs [32,38,32]) else if op=17 then (bs [32,124,32]) else bs []
theorem inf_sym {o:Int} (h:isBin o):(bs [32])++symS o++(bs [32])=infS o:=by
 unfold isBin at h
 rcases h with rfl|rfl|rfl|rfl|rfl|rfl|rfl|rfl|rfl<;>decide
theorem inf_no {o:Int}:infS o=bs []↔¬isBin o:=by
 unfold isBin infS
 constructor
 ·intro h
  repeat' split at h
  all_goals first|(exfalso;revert h;decide)|omega
 ·intro h
  rw [if_neg (by omega),if_neg (by omega),if_neg (by omega),if_neg (by omega),if_neg (by omega),if_neg (by omega),if_neg (by omega),if_neg (by omega),if_neg (by omega)]
theorem exS_bin {e a b:Ex} (h:isBin e.Op) (ha:e.Args=[a,b]):exS e=parS (precI e.Op) a.Op (exS a)++infS e.Op++parS (precI e.Op+1) b.Op (exS b):=by
 have h0:=h
 unfold isBin at h0
 rw [zEd,ha];unfold nodeS
 rw [if_neg (by omega),if_neg (by omega),if_neg (by omega),if_neg (by omega),if_neg (by omega),if_neg (by omega),if_neg (by omega),if_neg (by omega),if_neg (by omega),←inf_sym h]
 rfl
/-! ## Statements -/
theorem zQp (u:Int):(useS u).size<=4:=by unfold useS;split;decide;split;decide;decide
theorem zNj (u:Int):(markS u).size<=9:=by unfold markS;split;decide;split;decide;split;decide;decide
theorem zNq (o u:Int):(foldS o u).size<=7:=by unfold foldS;split;decide;split;decide;split;decide;split;decide;decide
theorem zPd:∀{l:List Int},(∀n,n∈l->n.natAbs<10^19)->szs (l.map intS)<=20*l.length
 |[],_=>Nat.zero_le _
 |n::r,h=>by
  have h1:=zPd (l:=r) fun y hy=>h y (by simp [hy])
  have h2:=wT (h n (by simp))
  show (intS n).size+szs (r.map intS)<=_
  rw [List.length_cons];omega
theorem bufS_size {b:Bf} (h:∀n,n∈b.Dims->n.natAbs<10^19):(bufS b).size<=b.Name.size+100+22*b.Dims.length:=by
 have h1:=zJc b.T
 have h2:=zCj (b.Dims.map intS)
 have h3:=zPd h
 have h4:=zQp b.Use
 rw [List.length_map] at h2
 unfold bufS
 simp only [U,yT,List.length_cons,List.length_nil];omega
theorem ind_two (ind:ByteArray):(ind++(bs [32,32])).size=ind.size+2:=U _ _
mutual
def lnOk:St->Prop
 |.mk o n m k f i e b=>n.size<=16/\m.natAbs<10^19/\e.allF Lf.rng/\(∀x,x∈i->x.Lin.rng/\∀y,y∈x.At->y.rng)/\lnOks b
def lnOks:List St->Prop
 |[]=>True
 |s::r=>lnOk s/\lnOks r
end
mutual
theorem stS_size:∀(s:St) (ind:ByteArray),lnOk s->ind.size+2*s.wt<=2000->(stS ind s).size<=5000*s.wt
 |.mk o n m k f i e b,ind,h,hi=>by
  rw [lnOk] at h
  obtain ⟨h1,h2,h3,h4,h5⟩:=h
  rw [St.wt] at hi⊢
  have a1:=zFq b (ind++(bs [32,32])) h5 (by rw [ind_two];omega)
  have a2:=zJo h3
  have a3:=zJo (zFr (n:=n) h4)
  rw [readX_wt] at a3
  have a4:=wT h2
  have a5:=zNj k
  have a6:=zNq o f
  rw [stS]
  split
  ·simp only [U,yT,List.length_cons,List.length_nil] at *;omega
  ·split
   ·simp only [U,yT,List.length_cons,List.length_nil] at *;omega
   ·simp only [U,yT,List.length_cons,List.length_nil] at *;omega
theorem zFq:∀(l:List St) (ind:ByteArray),lnOks l->ind.size+2*stsWt l<=2000->(stsS ind l).size<=5000*stsWt l
 |[],ind,_,_=>Nat.zero_le _
 |s::r,ind,h,hi=>by
  rw [lnOks] at h
  rw [stsWt] at hi⊢
  rw [stsS,U]
  have h1:=stS_size s ind h.1 (by omega)
  have h2:=zFq r ind h.2 (by omega)
  omega
end
end Go.Br
end
section
namespace Go.Br
open Go Go.Eng Go.L41
mutual
def fmS:St->Prop
 |.mk o n m k f i e b=>(o=1->(1<=m/\m<1000000000000000000)/\0<=k/\k<=3)/\(o=3->1<=f/\f<=4)/\(1<=o/\o<=4)/\fmSs b
def fmSs:List St->Prop
 |[]=>True
 |s::r=>fmS s/\fmSs r
end
theorem fmS_eq (s:St):fmS s=((s.Op=1->(1<=s.Many/\s.Many<1000000000000000000)/\0<=s.Mark/\s.Mark<=3)/\(s.Op=3->1<=s.Fold/\s.Fold<=4)/\(1<=s.Op/\s.Op<=4)/\fmSs s.Body):=by cases s;rw [fmS];rfl
theorem zNk (s:St):lnOk s=(s.Name.size<=16/\s.Many.natAbs<10^19/\s.E.allF Lf.rng/\(∀x,x∈s.Idx->x.Lin.rng/\∀y,y∈x.At->y.rng)/\lnOks s.Body):=by cases s;rw [lnOk];rfl
theorem zGu:∀{l:List St} {s:St},fmSs l->s∈l->fmS s
 |a::r,s,h,hs=>by
  rw [fmSs] at h
  rcases List.mem_cons.1 hs with rfl|hs
  ·exact h.1
  ·exact zGu h.2 hs
theorem zEs:∀{l:List St} {s:St},lnOks l->s∈l->lnOk s
 |a::r,s,h,hs=>by
  rw [lnOks] at h
  rcases List.mem_cons.1 hs with rfl|hs
  ·exact h.1
  ·exact zEs h.2 hs
theorem stsS_apd (ind:ByteArray):∀a b:List St,stsS ind (a++b)=stsS ind a++stsS ind b
 |[],b=>by rw [List.nil_append,stsS,zEa]
 |s::a,b=>by rw [List.cons_append,stsS,stsS,stsS_apd ind a b,kM]
theorem stsS_take (ind:ByteArray) (l:List St) (k:Nat):(stsS ind (l.take k)).size<=(stsS ind l).size:=by
 have h:stsS ind l=stsS ind (l.take k)++stsS ind (l.drop k):=by rw [←stsS_apd,List.take_append_drop]
 rw [h,U];omega
theorem stsS_nx {ind:ByteArray} {l:List St} {k:Nat} {s:St} (h:l[k]? =some s):(stsS ind (l.take k)).size+(stS ind s).size<=(stsS ind l).size:=by
 have h1:=stsS_take ind l (k+1)
 rw [zDt h,U] at h1
 exact h1
theorem idx_wt_st (s:St):s.E.wt+s.Idx.length+idxWt s.Idx+stsWt s.Body+1<=s.wt:=by rw [St.wt_eq s];omega
end Go.Br
end
section
namespace Go.Br
open Go Go.Eng Go.L41
theorem bfErr_parts {seen:List Bf} {b:Bf} (h:bfErr seen b=0):isNameB b.Name=true/\dimsErr b.Dims=0/\1<=b.Use/\b.Use<=3:=by
 unfold bfErr at h
 split at h
 ·rename_i h1
  split at h
  ·cases h
  ·split at h
   ·split at h
    ·rename_i h4
     split at h
     ·cases h
     ·rename_i h5
      exact ⟨h1,h4,by omega,by omega⟩
    ·rename_i h4;exact absurd h h4
   ·cases h
 ·cases h
theorem bufs_all:∀{l seen:List Bf},bufsErr seen l=0->∀b,b∈l->isNameB b.Name=true/\dimsErr b.Dims=0/\1<=b.Use/\b.Use<=3
 |x::r,seen,h,b,hb=>by
  rw [bufsErr] at h
  by_cases c:bfErr seen x=0
  ·rw [if_pos c] at h
   rcases List.mem_cons.1 hb with rfl|hb
   ·exact bfErr_parts c
   ·exact bufs_all h b hb
  ·rw [if_neg c] at h;exact absurd h c
theorem stE_all {B:List Bf} {U sc:List ByteArray} {s:St} (h:stE B U sc s=0):s.Name.size<=16/\(s.Op=1->(1<=s.Many/\s.Many<=65536)/\0<=s.Mark/\s.Mark<=3)/\(¬s.Op=1->s.Many=0)/\(s.Op=3->1<=s.Fold/\s.Fold<=4)/\1<=s.Op/\s.Op<=4:=by
 have hs:synSt s=true:=by
  cases c:synSt s with
  |true=>rfl
  |false=>rw [stE_5 c] at h;cases h
 have hs0:=hs
 unfold synSt isSto at hs0
 simp only [Bool.and_eq_true,Bool.or_eq_true,Bool.not_eq_true',Bool.and_eq_false_iff,Bool.or_eq_false_iff,Bool.not_eq_false',decide_eq_true_eq,decide_eq_false_iff_not] at hs0
 obtain ⟨⟨⟨⟨⟨⟨a1,a2⟩,a3⟩,a4⟩,a5⟩,a6⟩,a7⟩:=hs0
 by_cases h1:s.Op=1
 ·have hn:=stE_name h h1
  unfold stE at h
  rw [if_pos hs,if_pos h1] at h
  unfold loopE at h
  rw [if_pos hn] at h
  split at h
  ·cases h
  ·split at h
   ·cases h
   ·exact ⟨zGp hn,fun _=>by omega,fun c=>absurd h1 c,fun c=>by omega,by omega,by omega⟩
 ·have hm:s.Many=0:=by rcases a3 with c|c;exact absurd c h1;exact c.1
  by_cases h4:s.Op=4
  ·have hnm:s.Name=bs []:=by rcases a2 with c|c;exact absurd h4 c;exact c
   exact ⟨by rw [hnm];decide,fun c=>absurd c h1,fun _=>hm,fun c=>by omega,by omega,by omega⟩
  ·unfold stE at h
   rw [if_pos hs,if_neg h1,if_neg h4] at h
   unfold storeE at h
   by_cases c:(exprT B sc (rdE s)).2=0
   ·rw [if_pos c] at h
    have hv:=(exprT_parts c).1
    have hn:s.Name.size<=16:=zJi (zDi hv) (rdE s) (by rw [wJ];simp) rfl
    split at h
    ·cases h
    ·rename_i h5
     exact ⟨hn,fun c=>absurd c h1,fun _=>hm,fun h3=>by omega,by omega,by omega⟩
   ·rw [if_neg c] at h;exact absurd h c
mutual
theorem chkS_fm {B:List Bf}:∀(s:St) (U sc:List ByteArray) (here:List Int),(chkS B U sc here s).E=0->s.allF Lf.rng->lnOk s/\fmS s
 |.mk o nm mn mk fo i e b,U,sc,here,h,hr=>by
  have h0:stE B U sc (.mk o nm mn mk fo i e b)=0:=by
   by_cases c:stE B U sc (.mk o nm mn mk fo i e b)=0
   ·exact c
   ·rw [chkS_no c] at h;exact absurd h c
  rw [chkS_in h0] at h
  obtain ⟨r1,r2,r3⟩:=St.allF_eq hr
  obtain ⟨g1,g2,g3,g4,g5,g6⟩:=stE_all h0
  obtain ⟨b1,b2⟩:=chkL_fm b _ _ _ _ h r3
  simp only [St.Op,St.Name,St.Many,St.Mark,St.Fold,St.Idx,St.E] at g1 g2 g3 g4 g5 g6 r1 r2
  rw [lnOk,fmS]
  refine ⟨⟨g1,?_,r2,r1,b1⟩,fun c=>⟨⟨(g2 c).1.1,by have:=(g2 c).1.2;omega⟩,(g2 c).2⟩,g4,⟨g5,g6⟩,b2⟩
  by_cases c:o=1
  ·have:=g2 c;omega
  ·have:=g3 c;omega
theorem chkL_fm {B:List Bf}:∀(l:List St) (U sc:List ByteArray) (way:List Int) (i:Int),(chkL B U sc way i l).E=0->allSs Lf.rng l->lnOks l/\fmSs l
 |[],_,_,_,_,_,_=>by rw [lnOks,fmSs];exact ⟨trivial,trivial⟩
 |s::r,U,sc,way,i,h,hr=>by
  have h0:(chkS B U sc (way++[i]) s).E=0:=by
   by_cases c:(chkS B U sc (way++[i]) s).E=0
   ·exact c
   ·rw [chkL,if_neg c] at h;exact absurd h c
  rw [chkL,if_pos h0] at h
  rw [allSs] at hr
  obtain ⟨a1,a2⟩:=chkS_fm s _ _ _ h0 hr.1
  obtain ⟨b1,b2⟩:=chkL_fm r _ _ _ _ h hr.2
  rw [lnOks,fmSs]
  exact ⟨⟨a1,b1⟩,a2,b2⟩
end
theorem valid_fm {n:Ns} (h:(validN n).2=0) (hr:allSs Lf.rng n.Body):lnOks n.Body/\fmSs n.Body:=chkL_fm n.Body [] [] [] 0 (zQm h).2.2.2 hr
theorem zOd:∀{d:List Int} {s:Int},1<=s->d.all posI=true->(sizeFrom s d).isSome=true->∀n,n∈d->1<=n/\n<=4096
 |x::r,s,hs,hp,h,n,hn=>by
  rw [List.all_cons,Bool.and_eq_true] at hp
  have hx:1<=x:=by simpa [posI] using hp.1
  rw [sizeFrom] at h
  by_cases c:4096<s*x
  ·rw [if_pos c] at h;cases h
  ·rw [if_neg c] at h
   have h1:1*x<=s*x:=Int.mul_le_mul_of_nonneg_right hs (by omega)
   rw [Int.one_mul] at h1
   rcases List.mem_cons.1 hn with rfl|hn
   ·exact ⟨hx,by omega⟩
   ·exact zOd (by omega) hp.2 h n hn
theorem dims_mem {d:List Int} (h:dimsErr d=0):d.length<=6/\∀n,n∈d->1<=n/\n<=4096:=by
 unfold dimsErr at h
 split at h
 ·cases h
 ·rename_i h1
  split at h
  ·rename_i h2
   split at h
   ·rename_i h3;exact ⟨by omega,zOd (by omega) h2 h3⟩
   ·cases h
  ·cases h
end Go.Br
end
section
namespace Go.Br
open Go Go.Eng Go.L41
/-! ## Fractions -/
abbrev vVals (l:List Vl):V:=.c (.sl 2 (l.map Vl.cells))
def frOk (v:Vl):Bool:=decide (1<=v.D)&&decide (v.D<=2147483647)&&num31 v.N&&decide (Int.gcd v.N v.D=1)
def sgnD (n d:Int):Bool:=decide (n<0) !=decide (d<0)
def madF (s:Bool) (a b:Nat):Vl×Int:=
 bif decide ((2147483647:Int)<((a/Nat.gcd a b:Nat):Int))||decide ((2147483647:Int)<((b/Nat.gcd a b:Nat):Int)) then (⟨0,0⟩,3) else
 (⟨bif s then-((a/Nat.gcd a b:Nat):Int) else ((a/Nat.gcd a b:Nat):Int),((b/Nat.gcd a b:Nat):Int)⟩,0)
def newF (n d:Int):Vl×Int:=bif decide (d=0) then (⟨0,0⟩,4) else madF (sgnD n d) n.natAbs d.natAbs
theorem madF_ok {s:Bool} {a b:Nat} (hb:0<b) (h:(madF s a b).2=0):frOk (madF s a b).1=true:=by
 have hg:0<Nat.gcd a b:=Nat.gcd_pos_of_pos_right _ hb
 have hpos:0<b/Nat.gcd a b:=Nat.div_pos (Nat.le_of_dvd hb (Nat.gcd_dvd_right a b)) hg
 unfold madF at h⊢
 cases hc:(decide ((2147483647:Int)<((a/Nat.gcd a b:Nat):Int))||decide ((2147483647:Int)<((b/Nat.gcd a b:Nat):Int))) with
 |true=>rw [hc] at h;simp at h
 |false=>
  simp only [Bool.or_eq_false_iff,decide_eq_false_iff_not] at hc
  simp only [cond_false]
  have hgc:Nat.gcd (a/Nat.gcd a b) (b/Nat.gcd a b)=1:=by rw [Nat.gcd_div (Nat.gcd_dvd_left a b) (Nat.gcd_dvd_right a b),Nat.div_self hg]
  generalize a/Nat.gcd a b=x at *
  generalize b/Nat.gcd a b=y at *
  unfold frOk num31
  simp only [Bool.and_eq_true,decide_eq_true_eq]
  refine ⟨⟨⟨by omega,by omega⟩,?_⟩,?_⟩
  ·cases s<;>simp only [cond_true,cond_false]<;>omega
  ·unfold Int.gcd
   cases s<;>simp only [cond_true,cond_false,Int.natAbs_neg,Int.natAbs_natCast]<;>exact hgc
theorem newF_ok {n d:Int} (hd:d≠0) (h:(newF n d).2=0):frOk (newF n d).1=true:=by
 unfold newF at h⊢
 rw [yF hd] at h⊢
 exact madF_ok (by omega) h
def stays (q r b:Nat) (neg:Bool) (how:Int):Bool:=(decide ((r:Int)=0)||decide (how=3))||((decide (how=1)&& !neg)||(decide (how=2)&&neg))||(decide (how=4)&&(decide (((2*r:Nat):Int)<(b:Int))||(decide (((2*r:Nat):Int)=(b:Int))&&decide (((q%2:Nat):Int)=0))))
def pow2 (n:Int):Int:=2^n.toNat
theorem pow2_le {n:Int} (h1:0<=n) (h2:n<=30):1<=pow2 n/\pow2 n<=1073741824:=by
 have h:=zIm (b:=n+1)
 unfold pow2
 have h3:n.toNat<=30:=by omega
 have h4:(2:Int)^n.toNat<=2^30:=by
  have:=Nat.pow_le_pow_right (n:=2) (by omega) h3
  exact_mod_cast this
 have h5:(1:Int)<=2^n.toNat:=by
  have:=Nat.one_le_two_pow (n:=n.toNat)
  exact_mod_cast this
 omega
def fracV (t:Ty) (v:Vl):Vl:=bif decide (t.Kind=2) then (newF v.N (pow2 t.Frac)).1 else v
abbrev tFr:Ty:=⟨1,0,0,0,0⟩
theorem val_fr {t:Ty} {v:Vl} (ht:tyOk t=true) (h:valOk t v=true):(t.Kind≠2->frOk v=true)/\(t.Kind=2->v.D=1/\ -half t.Bits<=v.N/\v.N<half t.Bits)/\frOk v=true:=by
 have key:(t.Kind=2->v.D=1/\ -half t.Bits<=v.N/\v.N<half t.Bits):=by
  intro hk
  rw [valOk,decide_eq_true hk] at h
  simp only [cond_true,Bool.and_eq_true,decide_eq_true_eq] at h
  omega
 have all:frOk v=true:=by
  by_cases hk:t.Kind=2
  ·obtain ⟨k1,k2,k3⟩:=key hk
   have hb:=fixB (by rw [←zAm hk];exact ht)
   have hh:=zIm hb.1 hb.2
   unfold frOk num31
   rw [k1]
   simp only [Bool.and_eq_true,decide_eq_true_eq]
   exact ⟨⟨⟨by omega,by omega⟩,by omega,by omega⟩,Int.gcd_one⟩
  ·rw [valOk,yF hk] at h
   by_cases h3:t.Kind=3
   ·rw [decide_eq_true h3] at h
    simp only [cond_false,cond_true,Bool.and_eq_true,decide_eq_true_eq,num31] at h
    unfold frOk num31
    rw [h.1]
    simp only [Bool.and_eq_true,decide_eq_true_eq]
    exact ⟨⟨⟨by omega,by omega⟩,by omega,by omega⟩,Int.gcd_one⟩
   ·rw [yF h3] at h
    exact h
 exact ⟨fun _=>all,key,all⟩
theorem newF_small {n f:Int} (h1: -1073741824<=n) (h2:n<=1073741824) (h3:1<=f) (h4:f<=1073741824):(newF n f).2=0:=by
 unfold newF madF
 rw [yF (show ¬f=0 by omega)]
 have a1:n.natAbs/Nat.gcd n.natAbs f.natAbs<=n.natAbs:=Nat.div_le_self _ _
 have a2:f.natAbs/Nat.gcd n.natAbs f.natAbs<=f.natAbs:=Nat.div_le_self _ _
 rw [yF (show ¬(2147483647:Int)<((n.natAbs/Nat.gcd n.natAbs f.natAbs:Nat):Int) by omega),yF (show ¬(2147483647:Int)<((f.natAbs/Nat.gcd n.natAbs f.natAbs:Nat):Int) by omega)]
 rfl
theorem fracV_ok {t:Ty} {v:Vl} (ht:tyOk t=true) (h:valOk t v=true):frOk (fracV t v)=true:=by
 obtain ⟨h1,h2,h3⟩:=val_fr ht h
 unfold fracV
 by_cases hk:t.Kind=2
 ·rw [decide_eq_true hk]
  obtain ⟨k1,k2,k3⟩:=h2 hk
  have hf:fixOk t=true:=by rw [←zAm hk];exact ht
  have hb:=fixB hf
  have hh:=zIm hb.1 hb.2
  have hfr:0<=t.Frac/\t.Frac<=30:=by
   simp only [fixOk,Bool.and_eq_true,decide_eq_true_eq] at hf
   omega
  have hp:=pow2_le hfr.1 hfr.2
  exact newF_ok (by omega) (newF_small (by omega) (by omega) (by omega) (by omega))
 ·rw [yF hk]
  exact h3
/-! ## As the walks meet them -/
theorem m60 {x y:Int} {B:Nat} (h1:x.natAbs<=B) (h3:0<=y) (h4:y<=1073741824): -((B*1073741824:Nat):Int)<=x*y/\x*y<=((B*1073741824:Nat):Int):=by
 have e:(x*y).natAbs<=B*1073741824:=by
  rw [Int.natAbs_mul]
  exact Nat.mul_le_mul h1 (by omega)
 omega
theorem w31 {m:Nat} (h:¬(2147483647:Int)<(m:Int)):IntKind.i64.wrap (m:Int)=m:=zDg ⟨by omega,by omega⟩
theorem w31n {m:Nat} (h:¬(2147483647:Int)<(m:Int)):IntKind.i64.wrap (-(m:Int))= -(m:Int):=zDg ⟨by omega,by omega⟩
theorem size_neg {n:Int} (h:n<0) (hn:In64 n):IntKind.u64.wrap (IntKind.u64.wrap (IntKind.i64.wrap (-(n+1)))+1)=n.natAbs:=by
 have:=hn.1
 have e1:IntKind.u64.wrap (-(n+1))= -(n+1):=zEf (by omega)
 rw [zDg ⟨by omega,by omega⟩,e1,zEf (by omega)]
 omega
theorem madF_big {s:Bool} {a b:Nat} (h:(decide ((2147483647:Int)<((a/Nat.gcd a b:Nat):Int))||decide ((2147483647:Int)<((b/Nat.gcd a b:Nat):Int)))=true):madF s a b=(⟨0,0⟩,3):=by
 unfold madF;rw [h];rfl
theorem zPk {s:Bool} {a b:Nat} (h:(decide ((2147483647:Int)<((a/Nat.gcd a b:Nat):Int))||decide ((2147483647:Int)<((b/Nat.gcd a b:Nat):Int)))=false):
  madF s a b=(⟨bif s then IntKind.i64.wrap (-(IntKind.i64.wrap ((a/Nat.gcd a b:Nat):Int))) else IntKind.i64.wrap ((a/Nat.gcd a b:Nat):Int),IntKind.i64.wrap ((b/Nat.gcd a b:Nat):Int)⟩,0):=by
 have h':=h
 simp only [Bool.or_eq_false_iff,decide_eq_false_iff_not] at h'
 rw [w31 h'.1,w31n h'.1,w31 h'.2]
 unfold madF;rw [h];rfl
theorem zSa {n d:Int} (h:¬d=0):newF n d=madF (sgnD n d) n.natAbs d.natAbs:=by unfold newF;rw [yF h];rfl
theorem newF_zero {n d:Int} (h:d=0):newF n d=(⟨0,0⟩,4):=by unfold newF;rw [decide_eq_true h];rfl
structure FrB (a b:Vl):Prop where
 d1:1<=a.D
 d2:1<=b.D
 nd: -4611686014132420609<=a.N*b.D/\a.N*b.D<=4611686014132420609
 dn: -4611686014132420609<=b.N*a.D/\b.N*a.D<=4611686014132420609
 nd': -4611686014132420609<=a.D*b.N/\a.D*b.N<=4611686014132420609
 nn: -4611686014132420609<=a.N*b.N/\a.N*b.N<=4611686014132420609
 dd: -4611686014132420609<=a.D*b.D/\a.D*b.D<=4611686014132420609
theorem shl_eq {x b:Int} {B:Nat} (h1:0<=b) (h2:b<=30) (hx:x.natAbs<=B) (hB:B<=2147483648):IntKind.i64.wrap (x*2^(min b.toNat IntKind.i64.bits))=x*pow2 b:=by
 have hp:=pow2_le h1 h2
 have hm:=m60 (B:=B) (y:=pow2 b) hx (by omega) hp.2
 have h4:min b.toNat IntKind.i64.bits=b.toNat:=Nat.min_eq_left (by simp [IntKind.bits];omega)
 rw [h4]
 exact zDg ⟨by unfold pow2 at hm;omega,by unfold pow2 at hm;omega⟩
theorem one_shl {b:Int} (h1:0<=b) (h2:b<=30):IntKind.i64.wrap (1*2^(min b.toNat IntKind.i64.bits))=pow2 b:=by
 rw [shl_eq (B:=1) h1 h2 (by decide) (by decide),Int.one_mul]
end Go.Br
end
section
namespace Go.Br
open Go Go.Eng Go.L41
structure FxT (t:Ty):Prop where
 k:t.Kind=2
 b1:2<=t.Bits
 b2:t.Bits<=31
 f1:0<=t.Frac
 f2:t.Frac<=30
 r1:1<=t.Round
 r4:t.Round<=4
 ov:t.Over=1∨t.Over=2
 h1:1<=half t.Bits
 h2:half t.Bits<=1073741824
 p1:1<=pow2 t.Frac
 p2:pow2 t.Frac<=1073741824
theorem fxT {t:Ty} (h:fixOk t=true):FxT t:=by
 have h':=h
 simp only [fixOk,Bool.and_eq_true,Bool.or_eq_true,decide_eq_true_eq] at h'
 obtain ⟨⟨⟨⟨⟨⟨⟨h1,h2⟩,h3⟩,h4⟩,h5⟩,h6⟩,h7⟩,h8⟩:=h'
 have a:=zIm h2 h3
 have b:=pow2_le h4 h5
 exact ⟨h1,h2,h3,h4,h5,h6,h7,h8,a.1,a.2,b.1,b.2⟩
theorem fxV {t:Ty} {v:Vl} (h:fixOk t=true) (hv:valOk t v=true):v.D=1/\ -half t.Bits<=v.N/\v.N<half t.Bits:=by
 have hk:=(fxT h).k
 exact (val_fr (by rw [zAm hk];exact h) hv).2.1 hk
theorem fxN {t:Ty} {v:Vl} (h:fixOk t=true) (hv:valOk t v=true):v.N.natAbs<=1073741824:=by
 have:=fxV h hv
 have:=fxT h
 have:=this.h2
 omega
theorem fracV_2 {t:Ty} {v:Vl} (h:t.Kind=2):fracV t v=(newF v.N (pow2 t.Frac)).1:=by unfold fracV;rw [decide_eq_true h];rfl
theorem fracV_n {t:Ty} {v:Vl} (h:¬t.Kind=2):fracV t v=v:=by unfold fracV;rw [yF h];rfl
end Go.Br
end
