/-
  What functions compute.
  And what the laws need besides.
  Conditions: none.
-/
import Derived.Test.YtgfomfnjionbeaaGreatDoorGL
import Derived.Test.YtgfomfnjionbeaaGreatDoorPlainL
set_option linter.unusedSimpArgs false
set_option linter.unusedVariables false
set_option linter.defProp false
section
set_option maxRecDepth 10000
namespace Go.W
open Go Go.Eng Go.Proofs Go.L41 Go.Br Tryz
attribute [local irreducible] oU oX TD gF
def UM {a b:Int} (hb:oQ b) (c:(0<b/\9223372036854775807-b<a)∨(b<0/\a< -9223372036854775808-b)):jD a b=(0,false):=by
  unfold jD;rw [aa Sk]
def UL {a b:Int} (ha:oQ a) (hb:oQ b) (c:¬((0<b/\9223372036854775807-b<a)∨(b<0/\a< -9223372036854775808-b))):jD a b=(a+b,true):=by
  unfold jD;rw [ab (by unfold oQ at *;omega)]
def LH (l:List nq) (s:nq) (i:Nat):List (List C):=fU (l.take i++s::l.drop i)
variable {l:List nq} {i:Nat} {s:nq}
def zSe (h:i<=l.length):(LH l s i).length=l.length+1:=by
  unfold LH fU;simp;omega
def Jl (h:i<=l.length):(LH l s i)[i]? =some [cS s]:=by
  unfold LH fU
  rw [ah,da (by rw [pc,ap];omega)]
  simp [bg h]
variable {y:nq}
def DU (h:i<=l.length) (h0:0<i) (hy:l[i-1]? =some y):(LH l s i)[i-1]? =some [cS y]:=by
  unfold LH fU
  rw [ah,aV uD,cg,az,ab zB,hy];rfl
def RN (h:i<=l.length) (h0:0<i) (hy:l[i-1]? =some y):((LH l s i).set i [cS y]).set (i-1) [cS s]=LH l s (i-1):=by
  have e1:l.take i=l.take (i-1)++[y]:=by
    have:=yB hy
    rwa [show i-1+1=i by omega] at this
  have e2:l.drop (i-1)=y::l.drop i:=by
    have:=qN hy
    rwa [show i-1+1=i by omega] at this
  unfold LH
  rw [e1,e2]
  simp only [fU,ah,aG,bt,tu,xn,D6]
  have hl:(List.map (λs=>[cS s]) (l.take (i-1))).length=i-1:=by simp;omega
  rw [fm _ _ zB,fm _ _ zB,hl]
  rw [show i-(i-1)=1 by omega,show i-1-(i-1)=0 by omega]
  rfl
def T3 (ha:tY l) (h:bQ l s=true):nQ l s=l:=
  vi (xi s ha) ha λt=>by
    rw [Fb]
    constructor
    · rintro (h1|rfl)
      · exact h1
      · exact LY.1 h
    · exact .inl
def RM (h0:0<i) (hy:l[i-1]? =some y) (c:bF s y=true) (hb:∀z,z∈l.drop i->bF s z=true):∀z,z∈l.drop (i-1)->bF s z=true:=by
  have e2:l.drop (i-1)=y::l.drop i:=by
    have:=qN hy
    rwa [show i-1+1=i by omega] at this
  rw [e2]
  intro z hz
  rcases ag.1 hz with rfl|hz
  · exact c
  · exact hb z hz
def Qj {a b:nq} (h:bF a b=false) (k:¬a=b):bF b a=true:=by
  cases q:bF b a with
  |true=>rfl
  |false=>exact absurd (Oi h q) k
def QH {a b:nq} (h:bF a b=false->a=b):bF b a=false:=by
  cases k:bF a b with
  |true=>exact zSi k
  |false=>rw [h k];exact OA _
def NG {A:List (List C)} {r x:List C} (h0:0<i) (h:A[i-1]? =some x):(A.set i r)[i-1]? =some x:=by
  rw [cx zB,h]
def JZ {l:List Mono} (h:∀m,m∈l->oQ m.By) (s:nq):oQ (dL l s):=by
  induction l with
  |nil=>show oQ 0;unfold oQ;omega
  |cons x r ih=>
    rw [dL]
    split
    · exact h x (bp ..)
    · exact ih λm hm=>h m (aH _ hm)
def Ay (l:Lf):List nq:=l.L.map Mono.Name
variable {k:Nat}
def Uv {l:List Mono} {m:Mono} (h:l[k]? =some m) (w:List nq):nQ (jC [] (w++(l.take k).map Mono.Name)) m.Name=jC [] (w++(l.take (k+1)).map Mono.Name):=by
  rw [yB h,ah,<-tu,CW [] (w++(l.take k).map Mono.Name)];rfl
variable {a:Lf}
def Ws {ls:List Lf} (h:ls[k]? =some a):(ls.take (k+1)).flatMap Ay=(ls.take k).flatMap Ay++a.L.map Mono.Name:=by
  rw [yB h,dn];simp [Ay]
def nm_bd (w:List nq):(jC [] w).length<=w.length:=xm w
def lT (ls:List Lf):Nat:=(ls.flatMap Ay).length
def Zw {ls:List Lf} (h:ls[k]? =some a):((ls.take k).flatMap Ay).length+a.L.length<=lT ls:=by
  have e:=Ws h
  have h1:ls.flatMap Ay=(ls.take (k+1)).flatMap Ay++(ls.drop (k+1)).flatMap Ay:=by rw [<-dn,aZ]
  unfold lT
  rw [h1,e]
  simp only [qp,pc];omega
def YU {a b:List Mono} {N:List nq} {n:nq} (h:N[k]? =some n) (c:(jD (dL a n) (dL b n)).2=false):SM a b N=false:=by
  rw [zSu] at c
  exact VY h (p:=λn=>decide (oQ (tV a b n))) c
def FM {a b:List Mono} {N:List nq} {n:nq} (h:N[k]? =some n) (hp:SM a b (N.take k)=true) (c:(jD (dL a n) (dL b n)).2=true):SM a b (N.take (k+1))=true:=by
  rw [zSu] at c
  unfold SM at hp⊢
  rw [yB h,cj,hp,bm,fc,bq,aM]
  exact c
variable {b:Lf}
def add_0 (h:¬dM a=0∨¬dM b=0):gS a b=(zL,1):=OL λh2=>by
  unfold dM at h
  rw [h2.1,h2.2] at h
  rcases h with h|h<;>exact h rfl
def add_1 (ha:bI a=true) (hb:bI b=true) (h:(jD a.K b.K).2=false):gS a b=(zL,3):=by
  rw [zSu] at h
  rw [Cj ha hb,aa tk]
def add_2 (ha:bI a=true) (hb:bI b=true) (h:(jD a.K b.K).2=true) (h2:SM a.L b.L (ue a.L b.L)=false):gS a b=(zL,3):=by
  rw [zSu] at h
  rw [Cj ha hb,ab tk,aa Ca]
def add_3 (ha:bI a=true) (hb:bI b=true) (h:(jD a.K b.K).2=true) (h2:SM a.L b.L (ue a.L b.L)=true):gS a b=(⟨(jD a.K b.K).1,sT a.L b.L (ue a.L b.L)⟩,0):=by
  have e:=Lg h
  rw [zSu] at h
  rw [Cj ha hb,ab tk,ab h2,e]
def OP {X:Cfg} {n:Nat} {z:Z} {Q:Exit->S->Prop} {x y:Code} {regs:List (Nat×V)} {μ:List E} (μ':List E) (h:oU X n z x (λe τ=>e=.normal/\Weak τ ⟨regs,μ'⟩) ⟨regs,μ⟩) (k:oU X n z y Q ⟨regs,μ'⟩):oU X n z (.seq x y) Q ⟨regs,μ⟩:=
  zF (vk h λe τ ⟨he,hw⟩=>by subst he;exact zT _ hw k)
def wg {X:Cfg} {o:Oper} {e:ns->V} {μ:List E} {t ty:nr} {x y:ns} {a b:Nat} (ho:o.op=.binOp .sub t x y ty) (hx:e x=qu a) (hy:e y=qu b) (h:b<=a/\a<18446744073709551616):Det X o e μ (qu (a-b)) μ:=by
  have h1:=qAf (X:=X) (μ:=μ) ho hx hy
  rw [<-Int.ofNat_sub h.1,zVl zB] at h1
  exact h1
def D5:nN prog 156=some 6:=by kernel_rfl
def uj:iH prog 156=some (6,154,1):=by kernel_rfl
def OI:(prog.info? 156).map (·.size)=some 6:=by kernel_rfl
def Ab:dZ prog 156=some [Vw,Vw,Vw,Vw,Vw,Vw]:=by kernel_rfl
def AM (a b:Int) (ha:oQ a) (hb:oQ b):
    oK cfg 159 [vI a,vI b] (.tup [vI (jD a b).1,vB (jD a b).2]):=by
 refine zW func159 O ntmps159 results159 O ?_
 intro z hz
 have ha2:=ha
 have hb2:=hb
 unfold oQ at ha2 hb2
 refine oo O O<|om O<|zF<|oo O O<|sf O<|G O<|oL O (λg1_2=>zQ O O) O<|oL O (λg1_2=>zQ O O) O<|oG 10 O (λg1_2=>qAf O O O) O<|oV [(9,_),(11,_)] O oP ⟨O,O,O,O,T⟩ (λg1_2=>kE O O O) O<|kF O (λh=>h)<|G O<|oL O (λg1_8=>zQ O O) O<|oG 15 O (λg1_8=>Ad O O O) O<|oG 16 O (λg1_8=>zQ O O) O<|oV [] O oW T (λg1_11=>zQ O O) O<|oV [] O oW T (λg1_11=>zQ O O) O<|oV [(19,_)] O oW ⟨O,O,T⟩ (λg1_11=>qAf O O O) O<|oV [(18,_),(20,_)] O oW ⟨O,O,O,O,T⟩ (λg1_11=>Ad O O O) O<|oG 17 O (λg1_8=>wX O O O (λh=>kO uC h) O) O<|oN O (λh=>(oY h))<|zA<|zK O (λc1=>?_) (λc1=>?_)
 ·have c1:(0<b/\rh (9223372036854775807-b)<a)∨(b<0/\a<rh (-9223372036854775808-b)):=by simpa [rh] using c1
  rw [L0,L0] at c1
  have c1:(0<b/\9223372036854775807-b<a)∨(b<0/\a< -9223372036854775808-b):=by omega
  refine oo O O<|om O<|zM<|oJ (ox O) (ox O) ?_
  rw [UM hb c1]
 ·have c1:¬((0<b/\rh (9223372036854775807-b)<a)∨(b<0/\a<rh (-9223372036854775808-b))):=by simpa [rh] using c1
  rw [L0,L0] at c1
  have c1:¬((0<b/\9223372036854775807-b<a)∨(b<0/\a< -9223372036854775808-b)):=by omega
  have hpl:=UL ha hb c1
  have hrr:oQ (a+b):=by unfold oQ;omega
  unfold oQ at hrr
  refine zJ<|oo O O<|G O<|qH O ⟨zB,zB⟩<|G O<|om O<|zM<|oJ (ox O) (ox O) ?_
  rw [hpl]
def zJh (l:Lf) (hl:l.L.length<=5864062014805):
    oK cfg 89 [dF l] (vI (dM l)):=by
 refine zW func89 O ntmps89 results89 O λz hz=>Y O<|oi O λb1=>om O<|zF<|Y O<|zN yV (J 0 O) O<|qK O uB (ZU l zB) (oy O)<|kQ O<|zA<|zK O ?_ ?_<;>intro c1<;>try simp only [sx] at c1
 ·refine ol O O<|zM<|zV O ?_
  rw [show dM l=1 by unfold dM;rw [c1];rfl]
 ·refine zJ<|ol O O<|zM<|zV O ?_
  rw [show dM l=0 by unfold dM;rw [c1];rfl]
def DA (sv:Value) (l:List nq) (s:nq) (hl:l.length<=1000000000) (ha:tY l):
    Con cfg 203 [.c (.lit sv),vS s] [.vec sv 9 1 (fU l)] λr μ'=>∃sv',r=.c (.lit sv')/\μ'=[.vec sv' 9 1 (fU (nQ l s))]:=by
 refine zW func203 O ntmps203 results203 O λz hz=>Y O<|qY 1 O<|zA<|zF<|oo O O<|G O<|zX O (ZT 0 O uB O (VM l s zB) O ⟨.inl ⟨O,O⟩,.inr ⟨zD,O⟩,T⟩)<|zA<|zK O ?_ ?_<;>intro c1<;>try simp only [sx] at c1
 ·refine oo O O<|om O<|zM<|zV O ?_
  exact ⟨_,O,by rw [T3 ha c1]⟩
 ·have hno:bQ l s=false:=by simpa using c1
  have hsl:(fU l++[[C.lit (Value.string s)]]).length=l.length+1:=by simp [fU]
  refine zJ<|oo O O<|G O<|yT O oR Hf<|oM O (qZ 0 O oR O O O (by simp only [fU,pc,qp,pw,qw,ap,cu];omega) (by simp only [fU,pc,qp,pw,qw,ap,cu];omega)) λsv1=>om O<|zF<|oo O O<|zX O (kT 0 O oR O O)<|zX O (yM O O O ⟨zB,zB⟩)<|om O<|zS<|zT ⟨[(5,.c _),(0,.c _)],[_]⟩ (oz [true] oH O) ?_
  refine qG 1 1 O O (Nat) (λi=>[(5,vI i)]) (λi=>[E.vec sv1 9 1 (LH l s i)]) (λi=>i<=l.length/\(∀y,y∈l.drop i->bF s y=true)) (λi=>i) ⟨l.length,⟨aC _,λy hy=>by rw [ib] at hy;cases hy⟩,oz [true] ⟨VLe.of_eq (ai (λn=>V.c (C.lit (.int .i64 n))) (by simp [fU])),zD,T⟩ (by show [E.vec sv1 _ 1 _]=[E.vec sv1 _ 1 (LH l s l.length)];unfold LH;rw [aE (aC _),ib];simp only [fU,ah,aG,bt])⟩ ?_
  rintro i ⟨hk,hb⟩
  have hi1:((i:Int)-1).toNat=i-1:=by omega
  refine zF<|zF<|yE 14 mixed uB O O<|ou O (zQ O O)<|ou O (kE O O O)<|ou O (zQ O O)<|qR [] O O O O oP T (λg5_2=>zQ O O) O<|qR [] O O O O oP T (λg5_2=>zQ O O) O<|qR [(22,_)] O O O O oP ⟨O,O,T⟩ (λg5_2=>yM O O O ⟨zB,zB⟩) O<|qR [(21,_),(23,_)] O O O O oP ⟨O,O,O,O,T⟩ (λg5_2=>qU 0 O oR O O O xV7 (by rw [zSe hk];have h0:(0:Int)<i:=xV7;omega)) O<|qR [(24,_)] O O O O oP ⟨O,O,T⟩ (λg5_2=>zH O uB O (kP 0 O (by have h0:(0:Int)<i:=xV7;rw [hi1];exact DU hk zB (Cq (l:=l) (k:=i-1) zB))) O) O<|qR [] O O O O oP T (λg5_2=>zQ O O) O<|qR [] O O O O oP T (λg5_2=>zQ O O) O<|qR [(26,_),(27,_)] O O O O oP ⟨O,O,O,O,T⟩ (λg5_2=>qU 0 O oR O O O zB (by rw [zSe hk];omega)) O<|qR [(28,_)] O O O O oP ⟨O,O,T⟩ (λg5_2=>zH O uB O (kP 0 O (by rw [bu];exact Jl hk)) O) O<|qR [(25,_),(29,_)] O O O O oP ⟨O,O,O,O,T⟩ (λg5_2=>Pe O O O) O<|ou O (wX O O O (λh=>h) O)<|yY<|zA<|zK O (λc2=>?_) (λc2=>?_)
  ·have c2:0<i/\bF (Ti l (i-1)) s=false/\¬Ti l (i-1)=s:=by simpa using c2
   have c2:0<i/\bF s (Ti l (i-1))=true:=⟨c2.1,Qj c2.2.1 c2.2.2⟩
   have hy:=Cq (l:=l) (k:=i-1) zB
   refine zJ<|zF<|zS<|oo O O<|G O<|zX O (qU 0 O oR O O O zB (by rw [zSe hk];omega))<|zE uB (kP 0 O (by rw [bu];exact Jl hk)) O<|om O<|oo O O<|G O<|G O<|G O<|zX O (yM O O O ⟨zB,zB⟩)<|zX O (qU 0 O oR O O O zB (by rw [zSe hk];omega))<|zE uB (kP 0 O (by rw [hi1];exact DU hk c2.1 hy)) O<|zX O (qU 0 O oR O O O zB (by rw [zSe hk];omega))<|wO O O (yP O sz9 O O O (Hl 0 O (by rw [bu];exact Jl hk) O))<|zA<|zP O<|G O<|G O<|zX O (yM O O O ⟨zB,zB⟩)<|G O<|zX O (qU 0 O oR O O O zB (by rw [ep,zSe hk];omega))<|wO O O (yP O sz9 O O O (Hl 0 O (by rw [hi1,bu];exact NG c2.1 (DU hk c2.1 hy)) O))<|zA<|zP O<|G O<|zX O (yM O O O ⟨zB,zB⟩)<|G O<|zA ?_
   refine ⟨i-1,⟨zB,RM c2.1 hy c2.2 hb⟩,zB,oz [true] ⟨VLe.of_eq (ai (λn=>V.c (C.lit (.int .i64 n))) zB),zD,T⟩ (by simp only [bu,hi1];show [E.vec sv1 _ 1 (((LH l s i).set i [cS (Ti l (i-1))]).set (i-1) [cS s])]=[E.vec sv1 _ 1 (LH l s (i-1))];rw [RN hk c2.1 hy])⟩
  ·have c2:0<i->bF (Ti l (i-1)) s=false->Ti l (i-1)=s:=by simpa using c2
   have c2:0<i->bF s (Ti l (i-1))=false:=λh0=>QH (c2 h0)
   refine qL<|oo O O<|om O<|zM<|zV O ?_
   exact ⟨_,O,by rw [Yo ha hk hb hno (λy h0 hy=>by have h1:=c2 h0;have h2:=Cq (l:=l) (k:=i-1) zB;rw [hy] at h2;injection h2 with h2;rw [h2];exact h1)];rfl⟩
def F2 (ls:List Lf) (hl:ls.length<=1000000) (ht:lT ls<=1000000):
    OwnR cfg 160 [.c (.sl 2 (ls.map Lf.cells))] 9 1 (fU (jC [] (ls.flatMap Ay))):=by
 refine zW func160 O ntmps160 results160 O λz hz=>Y O<|qY 1 O<|zA<|oo O O<|yQ _ (kD 9 1)<|zA<|zF<|ol O O<|zS<|zT ⟨[(4,.c _),(3,.c _),(0,.c _)],[_]⟩ (oz [true] oH O)<|qG 2 1 O O (Nat×Value) (λ⟨k,sv⟩=>[(4,vI k),(3,.c (.lit sv))]) (λ⟨k,sv⟩=>[E.vec sv 9 1 (fU (jC [] ((ls.take k).flatMap Ay)))]) (λ⟨k,sv⟩=>k<=ls.length) (λ⟨k,sv⟩=>ls.length-k) ⟨⟨0,(.slice none 0 0)⟩,zB,oz [true] oH O⟩ ?_
 rintro ⟨k,sv⟩ hk
 show oU _ _ _ _ _ ⟨[(4,vI k),(3,.c (.lit sv))]++_,[E.vec sv 9 1 (fU (jC [] ((ls.take k).flatMap Ay)))]++_⟩
 refine zF<|oo O O<|G O<|qC O oS<|yC O<|zA<|zK O ?_ ?_<;>intro c1<;>try simp only [sx] at c1
 ·obtain ⟨a,ha⟩:=qX ls k zB
  have htot:=Zw ha
  refine zJ<|zF<|zS<|ol O O<|zS<|zT ⟨[(5,.c _),(3,.c _),(0,.c _),(4,.c _)],[_]⟩ (oz [true] oH O)<|qG 2 1 O O (Nat×Value) (λ⟨j,sw⟩=>[(5,vI j),(3,.c (.lit sw))]) (λ⟨j,sw⟩=>[E.vec sw 9 1 (fU (jC [] ((ls.take k).flatMap Ay++(a.L.take j).map Mono.Name)))]) (λ⟨j,sw⟩=>j<=a.L.length) (λ⟨j,sw⟩=>a.L.length-j) ⟨⟨0,sv⟩,zB,oz [true] oH (by show _=[E.vec sv _ 1 (fU (jC [] ((ls.take k).flatMap Ay++[])))]++_;rw [show (ls.take k).flatMap Ay++[]=(ls.take k).flatMap Ay from rk _];rfl)⟩ ?_
  rintro ⟨j,sw⟩ hj
  show oU _ _ _ _ _ ⟨[(5,vI j),(3,.c (.lit sw))]++_,[E.vec sw 9 1 (fU (jC [] ((ls.take k).flatMap Ay++(a.L.take j).map Mono.Name)))]++_⟩
  refine zF<|oo O O<|G O<|G O<|qF O oS zB (oI ha)<|qS O kA<|zE uB qE O<|qC O N<|yC O<|zA<|zK O ?_ ?_<;>intro c2<;>try simp only [sx] at c2
  ·obtain ⟨m,hm⟩:=qX a.L j zB
   refine zJ<|zF<|zS<|zP O<|G O<|G O<|G O<|qF O oS zB (oI ha)<|qS O kA<|zE uB qE O<|G O<|qF O N zB (oI hm)<|qS O wH<|zE uB qE O<|qB O O (Dw 0 O O uB (DA _ (jC [] ((ls.take k).flatMap Ay++(a.L.take j).map Mono.Name)) m.Name (by have h1:=nm_bd ((ls.take k).flatMap Ay++(a.L.take j).map Mono.Name);simp only [qp,pc,ap] at h1;omega) (xk _)) (oy O)) ?_
   rintro _ _ ⟨sv2,rfl,rfl⟩
   refine om O<|zP O<|G O<|qH O ⟨zB,zB⟩<|G O<|zA ?_
   refine ⟨⟨j+1,sv2⟩,zB,(by show a.L.length-(j+1)<a.L.length-j;omega),oz [true] oH (by show _=[E.vec sv2 _ 1 (fU (jC [] ((ls.take k).flatMap Ay++(a.L.take (j+1)).map Mono.Name)))]++_;rw [<-Uv hm];rfl)⟩
  ·rw [yG (l:=a.L) (k:=j) zB,<-Ws ha]
   refine qL<|zP O<|G O<|qH O ⟨zB,zB⟩<|G O<|zA ?_
   refine ⟨⟨k+1,sw⟩,zB,(by show ls.length-(k+1)<ls.length-k;omega),oz [true] oH O⟩
 ·refine qL<|oo O O<|om O<|zM<|zV O ?_
  exact ⟨_,O,by rw [yG (l:=ls) (k:=k) zB];rfl⟩
def Np (a b:Lf) (ha:a.L.length<=100000) (hb:b.L.length<=100000) (hra:a.rng) (hrb:b.rng):
    oK cfg 99 [dF a,dF b] (.tup [dF (gS a b).1,vI (gS a b).2]):=by
 refine zW func99 O ntmps99 results99 O ?_
 intro z hz
 have hnl:=Uu a.L b.L
 refine Y O<|oi O λb1=>oi O λb2=>oM O (qJ [none,some 2] O U O) λb3=>om O<|zF<|Y O<|zN yV (J 2 O) O<|qK O uB (zJh a zB) (oy O)<|yL O<|G O<|oL O (λg1_3=>qA O yV O (J 1 O) O) O<|oG 17 O (λg1_3=>qP O uB (zJh b zB) (oy O)) O<|oG 18 O (λg1_3=>wI O O O) O<|oN O (λh=>(oY h))<|zA<|zK O ?_ ?_<;>intro c1<;>try simp only [sx] at c1
 ·have hbad:=add_0 c1
  refine Y O<|yO [none,some 2] O U qe<|ow 0 oZ O<|om O<|zM<|oJ (zY yV O (J 0 O) O) (ox O) ?_
  rw [hbad];rfl
 ·have hla:=Z5 c1.1
  have hlb:=Z5 c1.2
  refine zJ<|Y O<|zC O ui<|zE W (J 2 O) O<|zC O ui<|zE W (J 1 O) O<|qK O uB (AM a.K b.K hra.1 hrb.1) (oy O)<|qW O<|yF O<|yF O<|G O<|om O<|zF<|oo O O<|kQ O<|zA<|zK O ?_ ?_<;>intro c2<;>try simp only [sx] at c2
  ·have c2:(jD a.K b.K).2=false:=by simpa using c2
   refine Y O<|yO [none,some 2] O U qe<|ow 0 oZ O<|om O<|zM<|oJ (zY yV O (J 0 O) O) (ox O) ?_
   rw [add_1 hla hlb c2];rfl
  ·have c2:(jD a.K b.K).2=true:=by simpa using c2
   refine zJ<|oo O O<|yI O U qe<|oM O (qJ [none,some 2] O U O) λb4=>ow 0 oZ O<|zA<|Y O<|zN yV (J 3 O) O<|zN yV (J 2 O) O<|yT O oS U<|qK O uB (OwnR.pur (show OwnR cfg 160 [.c (.sl 2 [a.cells,b.cells])] 9 1 (fU (ue a.L b.L)) by have h:=F2 [a,b] uF (by simp [lT,Ay];omega);simpa [ue,Ay] using h)) (oy O)<|om O<|zF<|Y O<|yQ _ (kD 139 2)<|om O<|zS<|zT ⟨[(10,.c _),(2,.c _),(3,.c _),(4,.c _),(8,.c _),(9,.c _)],[_,_,_,_,_]⟩ (oz [true,true,true,true,true] oH O)<|qG 1 2 O O (Nat×Value) (λ⟨k,sv⟩=>[(10,vI k)]) (λ⟨k,sv⟩=>[E.vec sv 139 2 ((sT a.L b.L ((ue a.L b.L).take k)).map Mono.cells),E.row b4 59 [cI (jD a.K b.K).1,.lit sv]]) (λ⟨k,sv⟩=>k<=(ue a.L b.L).length/\(SM a.L b.L ((ue a.L b.L).take k)=true)) (λ⟨k,sv⟩=>(ue a.L b.L).length-k) ⟨⟨0,(.slice none 0 0)⟩,⟨zB,O⟩,oz [true,true,true,true,true] oH O⟩ ?_
   rintro ⟨k,sv⟩ ⟨hk,hp⟩
   show oU _ _ _ _ _ ⟨[(10,vI k)]++_,[E.vec sv 139 2 ((sT a.L b.L ((ue a.L b.L).take k)).map Mono.cells),E.row b4 59 [cI (jD a.K b.K).1,.lit sv]]++_⟩
   refine zF<|oo O O<|G O<|qC O oR<|yC O<|zA<|zK O ?_ ?_<;>intro c3<;>try simp only [sx] at c3
   ·obtain ⟨n,hn⟩:=qX (ue a.L b.L) k zB
    have hsl:=zg a.L b.L ((ue a.L b.L).take k)
    rw [ap] at hsl
    refine zJ<|zF<|zS<|zF<|yE 18 mixed uB O O<|ou O (qA O yV O (J 4 O) O)<|ou O (zQ O O)<|ou O (zQ O O)<|ou O (qI O oR O O zB (oI hn))<|ou O (zH O uB O qE O)<|ou O (qP O uB (zYc a n zB) (oy O))<|ou O (qA O yV O (J 3 O) O)<|ou O (zQ O O)<|ou O (zQ O O)<|ou O (qI O oR O O zB (oI hn))<|ou O (zH O uB O qE O)<|ou O (qP O uB (zYc b n zB) (oy O))<|ou O (qP O uB (AM (dL a.L n) (dL b.L n) (JZ hra.2 n) (JZ hrb.2 n)) (oy O))<|ou O (yS O O)<|ou O (kI O O O)<|ou O (kI O O O)<|ou O (yK O O)<|ou O (yK O O)<|yY<|zA<|zF<|oo O O<|kQ O<|zA<|zK O ?_ ?_<;>intro c4<;>try simp only [sx] at c4
    ·have c4:(jD (dL a.L n) (dL b.L n)).2=false:=by simpa using c4
     refine Y O<|yO [none,some 2] O U qe<|ow 2 oZ O<|om O<|zM<|oJ (zY yV O (J 2 O) O) (ox O) ?_
     rw [add_2 hla hlb c2 (YU hn c4)];rfl
    ·have c4:(jD (dL a.L n) (dL b.L n)).2=true:=by simpa using c4
     have hcs:(jD (dL a.L n) (dL b.L n)).1=tV a.L b.L n:=Lg c4
     refine zJ<|oo O O<|yL O<|zA<|zK O ?_ ?_<;>intro c5<;>try simp only [sx] at c5
     ·refine yE 9 mixed uB O O<|ou O (zG O kA O)<|ou O (zH O uB O (J 1 O) O)<|ou O (zQ O O)<|ou O (zQ O O)<|ou O (qI O oR O O zB (oI hn))<|ou O (zH O uB O qE O)<|ou O (zQ O O)<|ou O (LU O te uf O)<|ou O (kV O N te O O O O)<|yY<|oM O (qZ 0 O N O O O (by simp only [pc,zg,qp,pw,qw,ap,cu];omega) (by simp only [pc,zg,qp,pw,qw,ap,cu];omega)) λsv5=>zC O kA<|ow 1 AA O<|zA<|zP O<|G O<|qH O ⟨zB,zB⟩<|G O<|zA ?_
      refine ⟨⟨k+1,sv5⟩,⟨zB,FM hn hp c4⟩,(by show (ue a.L b.L).length-(k+1)<(ue a.L b.L).length-k;omega),oz [true,true,true,true,true] oH (by show _=[E.vec sv5 _ 2 ((sT a.L b.L ((ue a.L b.L).take (k+1))).map Mono.cells),E.row b4 _ [cI (jD a.K b.K).1,.lit sv5]]++_;rw [BU hn,<-hcs,aa c5,ah];rfl)⟩
     ·refine zJ<|zP O<|G O<|qH O ⟨zB,zB⟩<|G O<|zA ?_
      refine ⟨⟨k+1,sv⟩,⟨zB,FM hn hp c4⟩,(by show (ue a.L b.L).length-(k+1)<(ue a.L b.L).length-k;omega),oz [true,true,true,true,true] oH (by show _=[E.vec sv _ 2 ((sT a.L b.L ((ue a.L b.L).take (k+1))).map Mono.cells),E.row b4 _ [cI (jD a.K b.K).1,.lit sv]]++_;rw [BU hn,<-hcs,ab c5,rk];rfl)⟩
   ·rw [yG (l:=(ue a.L b.L)) (k:=k) zB] at hp
    rw [yG (l:=(ue a.L b.L)) (k:=k) zB]
    refine zT _ (yJ 0 O (regs':=[]) (μ':=[_,_,_,_]) T ⟨EFle.row (ds:=[_,_]) ⟨.inl O,.inr ⟨O,O⟩,T⟩,EFle.refl _,EFle.refl _,EFle.refl _,T⟩)<|qL<|Y O<|zN yV (J 0 O) O<|ow 1 oZ O<|om O<|zM<|oJ (zY yV O (J 1 O) O) (ox O) ?_
    rw [add_3 hla hlb c2 hp];rfl
def zHp (n:Int) (hn:oQ n):
    oK cfg 91 [vI n] (qu n.natAbs):=by
 refine zW func91 O ntmps91 results91 O ?_
 intro z hz
 unfold oQ at hn
 refine ol O O<|zF<|oo O O<|yC O<|zA<|zK O ?_ ?_<;>intro c1<;>try simp only [sx] at c1
 ·refine oo O O<|qH O ⟨zB,zB⟩<|zX O (we O O ⟨zB,zB⟩)<|zX O (zKa O uB SI O (show IntKind.u64.wrap (-(n+1))=(((-(n+1)).toNat:Nat):Int) by rw [VT];omega))<|zX O (wD (b:=1) O O O zB)<|om O<|zM<|zV O ?_
  exact ai qu zB
 ·refine zJ<|oo O O<|zX O (zKa O uB SI O (show IntKind.u64.wrap n=((n.natAbs:Nat):Int) by rw [VT];omega))<|om O<|zM<|zV O ?_
  rfl
def zKm (w:List Nat) (at_ N:Nat) (hw:w.length=6) (ho:gX w) (ha:at_<=6) (hN:N<18446744073709551616):
    oK cfg 154 [vW w,vI at_,qu N] (vW (jJ w at_ N)):=by
 refine zW func154 O ntmps154 results154 O λz hz=>Y O<|oi O λb1=>oM O (yA O Ab) λb2=>zA<|ol O O<|zF<|oo O O<|om O<|zS<|zT ⟨[(8,.c _),(7,.c _),(2,.c _),(3,.c _),(6,.c _)],[_,_]⟩ (oz [true,true] oH O)<|qG 3 2 O O (Nat×List Nat×Nat×Nat) (λ⟨i,ds,c,n⟩=>[(8,vI i),(7,qu c),(2,qu n)]) (λ⟨i,ds,c,n⟩=>[E.row b2 156 (dg0.map cU),E.row b1 156 (ds.map cU)]) (λ⟨i,ds,c,n⟩=>i<=6/\ds.length=6/\gX ds/\c<=2/\n<18446744073709551616/\jJ w at_ N=ds.take i++mE (ds.drop i) c n) (λ⟨i,ds,c,n⟩=>6-i) ⟨⟨at_,w,0,N⟩,⟨ha,hw,ho,uA,hN,O⟩,oz [true,true] oH O⟩ ?_
 rintro ⟨i,ds,c,n⟩ ⟨hi,hl,hd,hc,hn,hq⟩
 refine zF<|oo O O<|yC O<|zA<|zK O ?_ ?_<;>intro c1<;>try simp only [sx] at c1
 ·obtain ⟨x,hx⟩:=qX ds i zB
  have hxl:=hd x (qD hx)
  refine zJ<|zF<|zS<|oo O O<|zX O (kM O uj O O zB zB)<|zX O (zH O uB O (J 1 O) (S7 hx))<|G O<|zX O (zWg (b:=4294967296) O O O uA)<|zX O (wD O O O zB)<|G O<|zX O (wD O O O zB)<|om O<|oo O O<|G O<|zX O (zWg (b:=4294967296) O O O uA)<|zX O (kM O uj O O zB zB)<|wO O O (yP O So O O O (SC 1 O (Kc zB _) (CC zB)))<|zA<|oo O O<|zX O (zWh (b:=4294967296) O O O ⟨uA,zB⟩)<|om O<|zP O<|G O<|zX O (zWh (b:=4294967296) O O O ⟨uA,hn⟩)<|om O<|zP O<|G O<|qH O ⟨zB,zB⟩<|G O<|zA ?_
  refine ⟨⟨i+1,ds.set i ((x+n%4294967296+c)%4294967296),(x+n%4294967296+c)/4294967296,n/4294967296⟩,⟨zB,by rw [ep];exact hl,wi hd (g7 _ uA),zB,zB,Pj hq hx⟩,(by show 6-(i+1)<6-i;omega),oz [true,true] oH O⟩
 ·have hE:=TH hq zB
  obtain ⟨a1,a2,a3,a4,a5,a6,rfl⟩:=wj hl
  refine qL<|Y O<|zN D5 (J 1 O) O<|ow 0 OI O<|zA<|zM<|pu (zY D5 O (J 0 O) O) ?_
  rw [hE];rfl
def zNu (w:List Nat) (a b:Nat) (hw:w.length=6) (ho:gX w) (ha:a<18446744073709551616) (hb:b<18446744073709551616):
    oK cfg 90 [vW w,qu a,qu b] (vW (vF w a b)):=by
 refine zW func90 O ntmps90 results90 O ?_
 intro z hz
 obtain ⟨p1,p2,p3,p4⟩:=uZ ha hb
 have l1:=Ol (at_:=0) (N:=a%4294967296*(b%4294967296)) hw ho
 have o1:gX (jJ w 0 (a%4294967296*(b%4294967296))):=z8 ho
 have l2:(jJ (jJ w 0 (a%4294967296*(b%4294967296))) 1 (a%4294967296*(b/4294967296))).length=6:=Ol l1 o1
 have o2:gX (jJ (jJ w 0 (a%4294967296*(b%4294967296))) 1 (a%4294967296*(b/4294967296))):=z8 o1
 have l3:(jJ (jJ (jJ w 0 (a%4294967296*(b%4294967296))) 1 (a%4294967296*(b/4294967296))) 1 (a/4294967296*(b%4294967296))).length=6:=Ol l2 o2
 have o3:gX (jJ (jJ (jJ w 0 (a%4294967296*(b%4294967296))) 1 (a%4294967296*(b/4294967296))) 1 (a/4294967296*(b%4294967296))):=z8 o2
 have l4:=(Hm (a:=a) (b:=b) hw ho).1
 refine Y O<|oi O λb1=>oM O (yA O Ab) λb2=>zA<|oo O O<|zX O (zWg (b:=4294967296) O O O uA)<|G O<|zX O (zWh (b:=4294967296) O O O ⟨uA,ha⟩)<|G O<|zX O (zWg (b:=4294967296) O O O uA)<|G O<|zX O (zWh (b:=4294967296) O O O ⟨uA,hb⟩)<|G O<|G O<|G O<|om O<|Y O<|zX O (Oz O D5 O (J 1 O) (OH _) (Af hw))<|G O<|G O<|zX O (wZ O O O zB)<|qK O uB (zKm w 0 _ hw ho uA zB) (oy O)<|wO O O (yP O OI O O (Y3 l1) (SC 1 O (Y2 (Af hw) l1) (Y1 (Af hw) l1)))<|zA<|Y O<|zX O (Oz O D5 O (J 1 O) (OH _) (Af l1))<|G O<|G O<|zX O (wZ O O O zB)<|qK O uB (zKm (jJ w 0 (a%4294967296*(b%4294967296))) 1 _ l1 o1 uA zB) (oy O)<|wO O O (yP O OI O O (Y3 l2) (SC 1 O (Y2 (Af l1) l2) (Y1 (Af l1) l2)))<|zA<|Y O<|zX O (Oz O D5 O (J 1 O) (OH _) (Af l2))<|G O<|G O<|zX O (wZ O O O zB)<|qK O uB (zKm (jJ (jJ w 0 (a%4294967296*(b%4294967296))) 1 (a%4294967296*(b/4294967296))) 1 _ l2 o2 uA zB) (oy O)<|wO O O (yP O OI O O (Y3 l3) (SC 1 O (Y2 (Af l2) l3) (Y1 (Af l2) l3)))<|zA<|Y O<|zX O (Oz O D5 O (J 1 O) (OH _) (Af l3))<|G O<|G O<|zX O (wZ O O O zB)<|qK O uB (zKm (jJ (jJ (jJ w 0 (a%4294967296*(b%4294967296))) 1 (a%4294967296*(b/4294967296))) 1 (a/4294967296*(b%4294967296))) 2 _ l3 o3 uA zB) (oy O) ?_
 obtain ⟨a1,a2,a3,a4,a5,a6,h6⟩:=wj l4
 have h6:jJ (jJ (jJ (jJ w 0 (a%4294967296*(b%4294967296))) 1 (a%4294967296*(b/4294967296))) 1 (a/4294967296*(b%4294967296))) 2 (a/4294967296*(b/4294967296))=[a1,a2,a3,a4,a5,a6]:=h6
 rw [h6]
 refine ow 0 OI O<|zA<|zM<|pu (zY D5 O (J 0 O) O) ?_
 rw [show vF w a b=[a1,a2,a3,a4,a5,a6] from h6];rfl
def IK (env:List Bd) (s:nq) (hel:env.length<=1000000):
    oK cfg 92 [gJ env,vS s] (.tup [vI ((lU env s).getD 0),vB (lU env s).isSome]):=by
 refine zW func92 O ntmps92 results92 O ?_
 exact r6
def DF (env:List Bd) (s:nq) (hel:env.length<=1000000):
    oK cfg 85 [gJ env,vS s] (.tup [vI ((lU env s).getD 0),vB (lU env s).isSome]):=by
 refine zW func85 O ntmps85 results85 O ?_
 exact r6
def IL (a b:List Nat) (h1:a.length=6) (h2:b.length=6) (ha:gX a) (hb:gX b):
    oK cfg 93 [vW a,vW b] (vB (decide (pk a<pk b))):=by
 refine zW func93 O ntmps93 results93 O λz hz=>Y O<|oi O λb1=>oi O λb2=>om O<|zF<|ol O O<|zS<|zT ⟨[(5,.c _),(2,.c _),(3,.c _)],[_,_]⟩ (oz [true,true] oH O)<|qG 1 0 O O (Nat) (λq=>[(5,vI ((q:Int)-1))]) (λq=>[]) (λq=>q<=6/\a.drop q=b.drop q) (λq=>q) ⟨6,⟨aC _,by rw [bn zB,bn zB]⟩,oz [true,true] oH O⟩ ?_
 rintro q ⟨hk,hq⟩
 refine zF<|oo O O<|zX O (wN O O O)<|zA<|zK O ?_ ?_<;>intro c1<;>try simp only [sx] at c1
 ·obtain ⟨j,rfl⟩:∃j,q=j+1:=⟨q-1,zB⟩
  obtain ⟨x,hx⟩:=qX a j zB
  obtain ⟨y,hy⟩:=qX b j zB
  rw [show (((j+1:Nat):Int)-1)=(j:Int) by omega]
  refine zJ<|zF<|zS<|zF<|yE 7 mixed uB O O<|ou O (zQ O O)<|ou O (kM O uj O O zB zB)<|ou O (zH O uB O (J 1 O) (S7 hx))<|ou O (zQ O O)<|ou O (kM O uj O O zB zB)<|ou O (zH O uB O (J 0 O) (S7 hy))<|ou O (wI O O O)<|yY<|zA<|zK O ?_ ?_<;>intro c2<;>try simp only [sx] at c2
  ·refine zF<|yE 8 mixed uB O O<|ou O (zQ O O)<|ou O (kM O uj O O zB zB)<|ou O (zH O uB O (J 1 O) (S7 hx))<|ou O (zQ O O)<|ou O (kM O uj O O zB zB)<|ou O (zH O uB O (J 0 O) (S7 hy))<|ou O (Ad O O O)<|ou O (yK O O)<|yY<|zA<|zM<|zV O ?_
   rw [<-TE (h1.trans h2.symm) ha hb hx hy zB hq]
   exact ai vB (dk.2 zB)
  ·obtain rfl:x=y:=by omega
   refine zJ<|zP O<|G O<|zX O (yM O O O ⟨zB,zB⟩)<|G O<|zA ?_
   refine ⟨j,⟨zB,TG hx hy hq⟩,zB,oz [true,true] ⟨VLe.of_eq ((ai vI zB)),zD,zD,T⟩ O⟩
 ·obtain rfl:q=0:=by omega
  refine qL<|ol O O<|zM<|zV O ?_
  rw [TF hq]
def zYb (a b:List Nat) (h1:a.length=6) (h2:b.length=6) (ha:gX a) (hb:gX b):
    oK cfg 94 [vW a,vW b] (vW (xA a b)):=by
 refine zW func94 O ntmps94 results94 O λz hz=>Y O<|oi O λb1=>oi O λb2=>oM O (yA O Ab) λb3=>zA<|ol O O<|zF<|ol O O<|zS<|zT ⟨[(6,.c _),(5,.c _),(2,.c _),(3,.c _),(4,.c _)],[_,_,_]⟩ (oz [true,true,true] oH O)<|qG 2 3 O O (Nat×List Nat×Nat) (λ⟨i,ds,c⟩=>[(6,vI i),(5,qu c)]) (λ⟨i,ds,c⟩=>[E.row b3 156 (dg0.map cU),E.row b2 156 (b.map cU),E.row b1 156 (ds.map cU)]) (λ⟨i,ds,c⟩=>i<=6/\ds.length=6/\gX ds/\c<=1/\xA a b=ds.take i++mO (ds.drop i) (b.drop i) c) (λ⟨i,ds,c⟩=>6-i) ⟨⟨0,a,0⟩,⟨uA,h1,ha,uA,O⟩,oz [true,true,true] oH O⟩ ?_
 rintro ⟨i,ds,c⟩ ⟨hi,hl,hd,hc,hq⟩
 refine zF<|oo O O<|yC O<|zA<|zK O ?_ ?_<;>intro c1<;>try simp only [sx] at c1
 ·obtain ⟨x,hx⟩:=qX ds i zB
  obtain ⟨y,hy⟩:=qX b i zB
  have hxl:=hd x (qD hx)
  have hyl:=hb y (qD hy)
  refine zJ<|zF<|zS<|oo O O<|zX O (kM O uj O O zB zB)<|zX O (zH O uB O (J 1 O) (S7 hy))<|G O<|zX O (wD O O O zB)<|om O<|ol O O<|zF<|oo O O<|zX O (kM O uj O O zB zB)<|zX O (zH O uB O (J 2 O) (S7 hx))<|G O<|yC O<|zA<|zK O ?_ ?_<;>intro c2<;>try simp only [sx] at c2
  ·have hx2:(ds.set i (x+4294967296))[i]? =some (x+4294967296):=bc zB
   have hx3:i<(ds.set i (x+4294967296)).length:=by rw [ep];omega
   refine oo O O<|zX O (kM O uj O O zB zB)<|zX O (zH O uB O (J 2 O) (S7 hx))<|zX O (wD (b:=4294967296) O O O zB)<|zX O (kM O uj O O zB zB)<|wO O O (yP O So O O O (SC 2 O (Kc zB _) (CC zB)))<|zA<|zP O<|om O<|zP O<|G O<|zX O (kM O uj O O zB zB)<|zX O (zH O uB O (J 2 O) (S7 hx2))<|G O<|zX O (wg O O O ⟨zB,zB⟩)<|zX O (kM O uj O O zB zB)<|wO O O (yP O So O O O (SC 2 O (Kc hx3 _) (CC hx3)))<|zA<|zP O<|G O<|qH O ⟨zB,zB⟩<|G O<|zA ?_
   refine ⟨⟨i+1,ds.set i (x+4294967296-(y+c)),1⟩,⟨zB,by rw [ep];exact hl,wi hd zB,uA,FA hq hx hy (by rw [ab zB]) (by rw [ab zB])⟩,(by show 6-(i+1)<6-i;omega),oz [true,true,true] oH (by rw [ip];rfl)⟩
  ·have hx2:=hx
   have hx3:i<ds.length:=by omega
   refine zJ<|zP O<|G O<|zX O (kM O uj O O zB zB)<|zX O (zH O uB O (J 2 O) (S7 hx2))<|G O<|zX O (wg O O O ⟨zB,zB⟩)<|zX O (kM O uj O O zB zB)<|wO O O (yP O So O O O (SC 2 O (Kc hx3 _) (CC hx3)))<|zA<|zP O<|G O<|qH O ⟨zB,zB⟩<|G O<|zA ?_
   refine ⟨⟨i+1,ds.set i (x-(y+c)),0⟩,⟨zB,by rw [ep];exact hl,wi hd zB,uA,FA hq hx hy (by rw [aa zB]) (by rw [aa zB])⟩,(by show 6-(i+1)<6-i;omega),oz [true,true,true] oH O⟩
 ·have hE:=Um hq zB
  obtain ⟨a1,a2,a3,a4,a5,a6,rfl⟩:=wj hl
  refine qL<|Y O<|zN D5 (J 2 O) O<|ow 0 OI O<|zA<|zM<|pu (zY D5 O (J 0 O) O) ?_
  rw [hE];rfl
def zSq (l:Lf) (env:List Bd) (hel:env.length<=1000000) (her:∀x,x∈env->oQ x.Val) (hl:l.L.length<=5864062014805) (hr:l.rng):
    oK cfg 37 [dF l,gJ env] (.tup [vI (dV l env).1,vI (dV l env).2]):=by
 refine zW func37 O ntmps37 results37 O λz hz=>Y O<|oi O λb1=>G O<|om O<|zF<|Y O<|zN yV (J 0 O) O<|qK O uB (zJh l zB) (oy O)<|yL O<|zA<|zK O ?_ ?_<;>intro c1<;>try simp only [sx] at c1
 ·have hE:dV l env=(0,1):=Pv c1
  exact Zz
 ·refine zJ<|Y O<|oM O (yA O Ab) λb2=>oM O (yA O Ab) λb3=>zA<|zT ⟨[(1,.c _),(2,.c _),(6,.c _),(7,.c _)],[_,_,_]⟩ (oz [true,true,true] oH O)<|OP [E.row b3 156 ((erQ l.K).map cU),E.row b2 156 ((erP l.K).map cU),E.row b1 59 l.cells] ?_ ?_
  ·refine Y O<|zC O ui<|zE W (J 2 O) O<|yC O<|zA<|zK O ?_ ?_<;>intro c2<;>try simp only [sx] at c2
   ·refine yE 5 mixed uB O O<|ou O (qA O D5 O (J 0 O) O)<|ou O (zG O ui O)<|ou O (zH O W O (J 2 O) O)<|ou O (qP O uB (zHp l.K hr.1) (oy O))<|ou O (qP O uB (zNu dg0 l.K.natAbs 1 O OJ (by have:=Cd hr.1;omega) uA) (oy O))<|yY<|wO O O (yP O OI O O (Y3 (Hm O OJ).1) (SC 0 O (Y2 O (Hm O OJ).1) (Y1 O (Hm O OJ).1)))<|zA ?_
    exact ⟨O,oz [true,true,true] oH (by unfold erP erQ;rw [ab c2,ab c2];rfl)⟩
   ·refine yE 5 mixed uB O O<|ou O (qA O D5 O (J 1 O) O)<|ou O (zG O ui O)<|ou O (zH O W O (J 2 O) O)<|ou O (qP O uB (zHp l.K hr.1) (oy O))<|ou O (qP O uB (zNu dg0 l.K.natAbs 1 O OJ (by have:=Cd hr.1;omega) uA) (oy O))<|yY<|wO O O (yP O OI O O (Y3 (Hm O OJ).1) (SC 1 O (Y2 O (Hm O OJ).1) (Y1 O (Hm O OJ).1)))<|zA ?_
    exact ⟨O,oz [true,true,true] oH (by unfold erP erQ;rw [aa (show ¬l.K<0 by omega),aa (show ¬l.K<0 by omega)];rfl)⟩
  ·refine zF<|ol O O<|zS<|zT ⟨[(8,.c _),(1,.c _),(2,.c _),(6,.c _),(7,.c _)],[_,_,_]⟩ (oz [true,true,true] oH O)<|qG 1 2 O O (Nat×List Nat×List Nat×Int) (λ⟨k,P,Q,z⟩=>[(8,vI k)]) (λ⟨k,P,Q,z⟩=>[E.row b3 156 (Q.map cU),E.row b2 156 (P.map cU)]) (λ⟨k,P,Q,z⟩=>k<=l.L.length/\(ErJ l env k P Q z)) (λ⟨k,P,Q,z⟩=>l.L.length-k) ⟨⟨0,erP l.K,erQ l.K,0⟩,⟨zB,Pr hr.1⟩,oz [true,true,true] oH O⟩ ?_
   rintro ⟨k,P,Q,z⟩ ⟨hk,hj⟩
   show oU _ _ _ _ _ ⟨[(8,vI k)]++_,[E.row b3 156 (Q.map cU),E.row b2 156 (P.map cU)]++_⟩
   refine zF<|oo O O<|zC O kA<|zE uB (J 2 O) O<|qC O N<|yC O<|zA<|zK O ?_ ?_<;>intro c3<;>try simp only [sx] at c3
   ·obtain ⟨m,hm⟩:=qX l.L k zB
    have hbr:=hr.2 m (qD hm)
    have h1:=Cd hbr
    refine zJ<|zF<|zS<|oo O O<|zC O kA<|zE uB (J 2 O) O<|G O<|qF O N zB (oI hm)<|qS O wH<|zE uB qE O<|qK O uB (IK env m.Name zB) (oy O)<|qW O<|yF O<|yF O<|G O<|om O<|zF<|oo O O<|kQ O<|zA<|zK O ?_ ?_<;>intro c4<;>try simp only [sx] at c4
    ·have hE:=Km c1 hm (by simpa using c4)
     exact Zz
    ·obtain ⟨v,hv⟩:=la.1 (show (lU env m.Name).isSome=true by simpa using c4)
     rw [hv]
     have hvr:=V9 her hv
     have h2:=Cd hvr
     refine zJ<|oo O O<|yC O<|zC O kA<|zE uB (J 2 O) O<|G O<|qF O N zB (oI hm)<|qS O AD<|zE W qE O<|yC O<|zX O (zKz O WJ O O)<|zA<|zK O (λc5=>?_) (λc5=>?_)
     ·have hs:=bne_t c5
      have hv9:=QZ hj.ql hj.qo (Wa (l:=l) hvr hbr (show k<=5864062014805 by omega) hj.qb)
      have hp9:=Hm (a:=v.natAbs) (b:=m.By.natAbs) hj.ql hj.qo
      have hn9:=XO hr hj hm hv hvr hs hp9.1 hp9.2 hv9
      refine yE 11 mixed uB O O<|ou O (Oz O D5 O (J 0 O) (OH _) (Af hj.ql))<|ou O (zQ O O)<|ou O (qP O uB (zHp v hvr) (oy O))<|ou O (zG O kA O)<|ou O (zH O uB O (J 2 O) O)<|ou O (zQ O O)<|ou O (qI O N O O zB (oI hm))<|ou O (qO O AD O)<|ou O (zH O W O qE O)<|ou O (qP O uB (zHp m.By hbr) (oy O))<|ou O (qP O uB (zNu Q v.natAbs m.By.natAbs hj.ql hj.qo zB zB) (oy O))<|yY<|wO O O (yP O OI O O (Y3 (Hm hj.ql hj.qo).1) (SC 0 O (Y2 (Af hj.ql) (Hm hj.ql hj.qo).1) (Y1 (Af hj.ql) (Hm hj.ql hj.qo).1)))<|zA<|zP O<|G O<|qH O ⟨zB,zB⟩<|G O<|zA ?_
      refine ⟨⟨k+1,P,vF Q v.natAbs m.By.natAbs,z+m.By*v⟩,⟨zB,hn9⟩,(by show l.L.length-(k+1)<l.L.length-k;omega),oz [true,true,true] oH O⟩
     ·have hs:=bne_f c5
      have hv9:=QZ hj.pl hj.po (Wa (l:=l) hvr hbr (show k<=5864062014805 by omega) hj.pb)
      have hp9:=Hm (a:=v.natAbs) (b:=m.By.natAbs) hj.pl hj.po
      have hn9:=XP hr hj hm hv hvr hs hp9.1 hp9.2 hv9
      refine yE 11 mixed uB O O<|ou O (Oz O D5 O (J 1 O) (OH _) (Af hj.pl))<|ou O (zQ O O)<|ou O (qP O uB (zHp v hvr) (oy O))<|ou O (zG O kA O)<|ou O (zH O uB O (J 2 O) O)<|ou O (zQ O O)<|ou O (qI O N O O zB (oI hm))<|ou O (qO O AD O)<|ou O (zH O W O qE O)<|ou O (qP O uB (zHp m.By hbr) (oy O))<|ou O (qP O uB (zNu P v.natAbs m.By.natAbs hj.pl hj.po zB zB) (oy O))<|yY<|wO O O (yP O OI O O (Y3 (Hm hj.pl hj.po).1) (SC 1 O (Y2 (Af hj.pl) (Hm hj.pl hj.po).1) (Y1 (Af hj.pl) (Hm hj.pl hj.po).1)))<|zA<|zP O<|G O<|qH O ⟨zB,zB⟩<|G O<|zA ?_
      refine ⟨⟨k+1,vF P v.natAbs m.By.natAbs,Q,z+m.By*v⟩,⟨zB,hn9⟩,(by show l.L.length-(k+1)<l.L.length-k;omega),oz [true,true,true] oH O⟩
   ·refine qL<|zF<|Y O<|zX O (Oz O D5 O (J 1 O) (OH _) (Af hj.pl))<|zX O (Oz O D5 O (J 0 O) (OH _) (Af hj.ql))<|qK O uB (IL P Q hj.pl hj.ql hj.po hj.qo) (oy O)<|zA<|zK O ?_ ?_<;>intro c6<;>try simp only [sx] at c6
    ·have hM:=Wr hj.ql hj.pl hj.qo hj.po zB
     refine Y O<|zX O (Oz O D5 O (J 0 O) (OH _) (Af hj.ql))<|zX O (Oz O D5 O (J 1 O) (OH _) (Af hj.pl))<|qK O uB (zYb Q P hj.ql hj.pl hj.qo hj.po) (oy O)<|qB O O (yA O Ab) ?_
     rintro _ _ ⟨b4,rfl,rfl⟩
     obtain ⟨a1,a2,a3,a4,a5,a6,hM6⟩:=wj hM.2.2
     rw [hM6]
     rw [hM6] at hM
     have q1:=hM.2.1 a1 uF
     have q2:=hM.2.1 a2 uF
     refine ow 0 OI O<|zA<|Y O<|zX O (kM O uj O O uA uA)<|zE uB (J 0 O) O<|zX O (kM O uj O O uA uA)<|zE uB (J 0 O) O<|zX O (wZ (b:=4294967296) O O O zB)<|zX O (wD O O O zB)<|om O<|zF<|Y O<|zX O (kM O uj O O uA uA)<|zE uB (J 0 O) O<|yL O<|G O<|oL O (λg19_3=>kM O uj O O uA uA) O<|oG 99 O (λg19_3=>zH O uB O (J 0 O) O) O<|oG 100 O (λg19_3=>wI O O O) O<|oN O (λh=>(oY h))<|G O<|oL O (λg19_8=>kM O uj O O uA uA) O<|oG 104 O (λg19_8=>zH O uB O (J 0 O) O) O<|oG 105 O (λg19_8=>wI O O O) O<|oN O (λh=>(oY h))<|G O<|oL O (λg19_13=>kM O uj O O uA uA) O<|oG 109 O (λg19_13=>zH O uB O (J 0 O) O) O<|oG 110 O (λg19_13=>wI O O O) O<|oN O (λh=>(oY h))<|G O<|oL O (λg19_18=>zQ O O) O<|oG 114 O (λg19_18=>kE O O O) O<|oN O (λh=>(oY h))<|zA<|zK O ?_ ?_<;>intro c7<;>try simp only [sx] at c7
     ·have hB:=XN hM.2.1 hM.1 zB
      have hE:=Pq hj (show l.L.length<=k by omega) c1 Sk
      exact Zz
     ·have hB:=EL hM.2.1 hM.1 zB
      refine zJ<|oo O O<|zX O (wg (b:=1) O O O ⟨zB,zB⟩)<|zX O (zKa O uB PR O (show IntKind.i64.wrap ((a1+a2*4294967296-1:Nat):Int)=((a1+a2*4294967296-1:Nat):Int) from Om Sk))<|zX O (we O O ⟨zB,zB⟩)<|zX O (yM O O O ⟨zB,zB⟩)<|G O<|om O<|zM<|oJ (ox O) (ox O) ?_
      rw [Wb hj (show l.L.length<=k by omega) c1 (n:= -((a1+a2*4294967296-1:Nat):Int)-1) zB Sk]
    ·have hM:=Wr hj.pl hj.ql hj.po hj.qo zB
     refine zJ<|Y O<|zX O (Oz O D5 O (J 1 O) (OH _) (Af hj.pl))<|zX O (Oz O D5 O (J 0 O) (OH _) (Af hj.ql))<|qK O uB (zYb P Q hj.pl hj.ql hj.po hj.qo) (oy O)<|qB O O (yA O Ab) ?_
     rintro _ _ ⟨b5,rfl,rfl⟩
     obtain ⟨a1,a2,a3,a4,a5,a6,hM6⟩:=wj hM.2.2
     rw [hM6]
     rw [hM6] at hM
     have q1:=hM.2.1 a1 uF
     have q2:=hM.2.1 a2 uF
     refine ow 0 OI O<|zA<|Y O<|zX O (kM O uj O O uA uA)<|zE uB (J 0 O) O<|zX O (kM O uj O O uA uA)<|zE uB (J 0 O) O<|zX O (wZ (b:=4294967296) O O O zB)<|zX O (wD O O O zB)<|om O<|zF<|Y O<|zX O (kM O uj O O uA uA)<|zE uB (J 0 O) O<|yL O<|G O<|oL O (λg24_3=>kM O uj O O uA uA) O<|oG 135 O (λg24_3=>zH O uB O (J 0 O) O) O<|oG 136 O (λg24_3=>wI O O O) O<|oN O (λh=>(oY h))<|G O<|oL O (λg24_8=>kM O uj O O uA uA) O<|oG 140 O (λg24_8=>zH O uB O (J 0 O) O) O<|oG 141 O (λg24_8=>wI O O O) O<|oN O (λh=>(oY h))<|G O<|oL O (λg24_13=>kM O uj O O uA uA) O<|oG 145 O (λg24_13=>zH O uB O (J 0 O) O) O<|oG 146 O (λg24_13=>wI O O O) O<|oN O (λh=>(oY h))<|G O<|oL O (λg24_18=>zQ O O) O<|oG 150 O (λg24_18=>kE O O O) O<|oN O (λh=>(oY h))<|zA<|zK O ?_ ?_<;>intro c8<;>try simp only [sx] at c8
     ·have hB:=TI hM.2.1 hM.1 zB
      have hE:=Pq hj (show l.L.length<=k by omega) c1 Sk
      exact Zz
     ·have hB:=EL hM.2.1 hM.1 zB
      refine zJ<|oo O O<|zX O (zKa O uB PR O (show IntKind.i64.wrap ((a1+a2*4294967296:Nat):Int)=((a1+a2*4294967296:Nat):Int) from Om Sk))<|G O<|om O<|zM<|oJ (ox O) (ox O) ?_
      rw [Wb hj (show l.L.length<=k by omega) c1 (n:=((a1+a2*4294967296:Nat):Int)) zB Sk]
end Go.W
end
section
set_option maxRecDepth 10000
namespace Go.W
open Go Go.Eng Go.Proofs Go.L41 Go.Br Tryz
attribute [local irreducible] oU oX TD gF
def F3 (c:Cn) (env:List Bd) (hel:env.length<=1000000) (her:∀x,x∈env->oQ x.Val) (hl:c.Lin.L.length<=5864062014805) (hr:c.Lin.rng):
    oK cfg 86 [vCn c,gJ env] (.tup [vB (if (dV c.Lin env).2=0 then eT c (dV c.Lin env).1 else false),vI (dV c.Lin env).2]):=by
 refine zW func86 O ntmps86 results86 O λz hz=>Y O<|oi O λb1=>G O<|om O<|Y O<|zC O zZq<|zN yV (J 0 O) O<|G O<|qK O uB (zSq c.Lin env hel her hl hr) (oy O)<|qW O<|yF O<|yF O<|G O<|om O<|zF<|oo O O<|yL O<|zA<|zK O (λc1=>?_) (λc1=>?_)
 ·try simp only [sx] at c1
  refine oo O O<|G O<|om O<|zM<|oJ (ox O) (ox O) ?_
  rw [aa c1]
 ·exact j8
def zHa (p:Pg) (env:List Bd) (hel:env.length<=1000000) (her:∀x,x∈env->oQ x.Val) (hP:p.Ok) (hR:p.Rng):
    oK cfg 35 [rf p,gJ env] (vI (mF p env)):=by
 refine zW func35 O ntmps35 results35 O ?_
 intro z hz
 have hps:=hP.sizes
 have hpw:=hP.wh
 refine Y O<|oi O λb1=>om O<|zF<|oo O O<|qC O qa<|zC O ve<|zE uB (J 0 O) O<|qC O oR<|yL O<|zA<|zK O ?_ ?_<;>intro c1<;>try simp only [sx] at c1
 ·refine ol O O<|zM<|zV O ?_
  rw [JU zB]
 ·have hpl:env.length=p.Sizes.length:=by omega
  refine zJ<|zF<|ol O O<|zS<|zT ⟨[(5,.c _),(1,.c _),(2,.c _)],[_]⟩ (oz [true] oH O)<|qG 1 0 O O (Nat) (λk=>[(5,vI k)]) (λk=>[]) (λk=>k<=p.Sizes.length/\((p.Sizes.take k).all (nB env)=true)) (λk=>p.Sizes.length-k) ⟨0,⟨zB,O⟩,oz [true] oH O⟩ ?_
  rintro k ⟨hk,hp⟩
  refine zF<|oo O O<|zC O ve<|zE uB (J 0 O) O<|qC O oR<|yC O<|zA<|zK O ?_ ?_<;>intro c2<;>try simp only [sx] at c2
  ·obtain ⟨s,hs⟩:=qX p.Sizes k zB
   refine zJ<|zF<|zS<|oo O O<|zC O ve<|zE uB (J 0 O) O<|G O<|qF O oR zB (oI hs)<|zE uB qE O<|qK O uB (DF env s hel) (oy O)<|qW O<|yF O<|yF O<|G O<|om O<|oo O O<|kQ O<|G O<|oL O (λg7_2=>zQ O O) O<|oG 37 O (λg7_2=>Ad O O O) O<|oN O (λh=>(oY h))<|G O<|oL O (λg7_6=>zQ O O) O<|oG 41 O (λg7_6=>kE O O O) O<|oN O (λh=>(oY h))<|zA<|zK O (λc3=>?_) (λc3=>?_)
   ·have hG:=JT hpl hs (by have h9:=(Q8 env s).symm.trans c3;simpa using h9)
    refine ol O O<|zM<|zV O ?_
    rw [hG]
   ·have hG:nB env s=true:=by have h9:=(Q8 env s).symm.trans c3;simpa using h9
    refine zJ<|zP O<|G O<|qH O ⟨zB,zB⟩<|G O<|zA ?_
    refine ⟨k+1,⟨zB,AJ hs hp hG⟩,zB,oz [true] oH O⟩
  ·rw [yG zB] at hp
   have hZ:=O4 hpl hp
   refine qL<|zF<|ol O O<|zS<|zT ⟨[(8,.c _),(1,.c _),(2,.c _)],[_]⟩ (oz [true] oH O)<|qG 1 0 O O (Nat) (λj=>[(8,vI j)]) (λj=>[]) (λj=>j<=p.Where.length/\(zz env p.Where=zz env (p.Where.drop j))) (λj=>p.Where.length-j) ⟨0,⟨zB,O⟩,oz [true] oH O⟩ ?_
   rintro j ⟨hj,hq⟩
   refine zF<|oo O O<|zC O VW<|zE uB (J 0 O) O<|qC O wl<|yC O<|zA<|zK O ?_ ?_<;>intro c4<;>try simp only [sx] at c4
   ·obtain ⟨c,hc⟩:=qX p.Where j zB
    refine zJ<|zF<|zS<|Y O<|zC O VW<|zE uB (J 0 O) O<|G O<|qF O wl zB (oI hc)<|zN tp qE O<|G O<|qK O uB (F3 c env hel her (hP.whs c (qD hc)) (hR.wh c (qD hc))) (oy O)<|qW O<|yF O<|yF O<|G O<|om O<|zF<|oo O O<|yL O<|zA<|zK O ?_ ?_<;>intro c5<;>try simp only [sx] at c5
    ·have hW:=Sc hc hq c5
     refine oo O O<|om O<|zM<|zV O ?_
     rw [hZ,hW]
    ·refine zJ<|oo O O<|kQ O<|zA<|zK O ?_ ?_<;>intro c6<;>try simp only [sx] at c6
     ·rw [ab c5] at c6
      have hW:=WM hc hq c5 c6
      refine ol O O<|zM<|zV O ?_
      rw [hZ,hW]
     ·rw [ab c5] at c6
      refine zJ<|zP O<|G O<|qH O ⟨zB,zB⟩<|G O<|zA ?_
      refine ⟨j+1,⟨zB,LO hc hq c5 c6⟩,zB,oz [true] oH O⟩
   ·have hW:=Sb (show p.Where.length<=j by omega) hq
    refine qL<|ol O O<|zM<|zV O ?_
    rw [hZ,hW]
def Gd (p:Pg) (env:List Bd) (hel:env.length<=1000000) (her:∀x,x∈env->oQ x.Val) (hP:p.Ok) (hR:p.Rng):
    oK cfg 87 [rf p,gJ env] (vI (if (bK p).2=0 then mF p env else (bK p).2)):=by
 refine zW func87 O ntmps87 results87 O λz hz=>Y O<|oi O λb1=>om O<|zF<|Y O<|zN qv (J 0 O) O<|qK O uB (show oK cfg 34 [rf p] (.tup [vI (bK p).1,vI (bK p).2]) by rw [Sw];exact zJg p hP) (oy O)<|qW O<|yF O<|yF O<|G O<|om O<|oo O O<|yL O<|zA<|zK O ?_ ?_<;>intro c1<;>try simp only [sx] at c1
 ·refine oo O O<|om O<|zM<|zV O ?_
  rw [aa c1]
 ·refine zJ<|Y O<|zN qv (J 0 O) O<|G O<|qK O uB (zHa p env hel her hP hR) (oy O)<|om O<|zM<|zV O ?_
  rw [ab c1]
def Gc (p:Pg) (s:nq) (hP:p.Ok):
    oK cfg 151 [rf p,vS s] (.tup [mL (p.en.find s).dims,rq (p.en.find s).ty,vB (p.en.find s).ok]):=by
 refine zW func151 O ntmps151 results151 O ?_
 intro z hz
 have hpl:=hP.params
 have hpd:=hP.defs
 refine Y O<|oi O λb1=>qY 2 O<|oM O (yA O v) λb2=>om O<|zF<|ol O O<|zS<|zT ⟨[(7,.c _),(1,.c _),(2,.c _),(5,.c _)],[_,_]⟩ (oz [true,true] oH O)<|qG 1 0 O O (Nat) (λk=>[(7,vI k)]) (λk=>[]) (λk=>k<=p.Params.length/\(gC s p.Defs p.Params=gC s p.Defs (p.Params.drop k))) (λk=>p.Params.length-k) ⟨0,⟨zB,O⟩,oz [true,true] oH O⟩ ?_
 rintro k ⟨hk,hp⟩
 refine zF<|oo O O<|zC O uc<|zE uB (J 1 O) O<|qC O qg<|yC O<|zA<|zK O ?_ ?_<;>intro c1<;>try simp only [sx] at c1
 ·obtain ⟨x,hx⟩:=qX p.Params k zB
  refine zJ<|zF<|zS<|Y O<|zC O uc<|zE uB (J 1 O) O<|G O<|qF O qg zB (oI uC)<|qS O OE<|zE uB qE O<|G O<|wF O<|zA<|zK O (λc2=>?_) (λc2=>?_)
  ·try simp only [sx] at c2
   refine zF<|yE 13 mixed uB O O<|ou O (zG O uc O)<|ou O (zH O uB O (J 1 O) O)<|ou O (zQ O O)<|ou O (qI O qg O O zB (oI uC))<|ou O (qO O VU O)<|ou O (zH O uB O qE O)<|ou O (zG O uc O)<|ou O (zH O uB O (J 1 O) O)<|ou O (zQ O O)<|ou O (qI O qg O O zB (oI uC))<|ou O (qO O zZn O)<|ou O (qA O yD O qE O)<|ou O (yK O O)<|yY<|ow 0 D O<|om O<|zM<|tr (ox O) (zY yD O (J 0 O) O) (ox O) ?_
   exact v92
  ·exact v80
 ·have hF:p.en.find s=fI s p.Defs:=by rw [En.find,show p.en.pm=p.Params from rfl,show p.en.df=p.Defs from rfl,hp,z6 zB];rfl
  refine qL<|zF<|ol O O<|zS<|zT ⟨[(8,.c _),(1,.c _),(2,.c _),(5,.c _)],[_,_]⟩ (oz [true,true] oH O)<|qG 1 0 O O (Nat) (λk=>[(8,vI k)]) (λk=>[]) (λk=>k<=p.Defs.length/\(fI s p.Defs=fI s (p.Defs.drop k))) (λk=>p.Defs.length-k) ⟨0,⟨zB,O⟩,oz [true,true] oH O⟩ ?_
  rintro k ⟨hk,hq⟩
  refine zF<|oo O O<|zC O ry<|zE uB (J 1 O) O<|qC O pt<|yC O<|zA<|zK O ?_ ?_<;>intro c3<;>try simp only [sx] at c3
  ·obtain ⟨d,hd⟩:=qX p.Defs k zB
   refine zJ<|zF<|zS<|Y O<|zC O ry<|zE uB (J 1 O) O<|G O<|qF O pt zB (oI uC)<|qS O ub<|zE uB qE O<|G O<|wF O<|zA<|zK O (λc4=>?_) (λc4=>?_)
   ·try simp only [sx] at c4
    have hdd:=(hP.ds d (qD hd)).1
    refine oo O O<|yQ _ (kD 59 2)<|zA<|zF<|ol O O<|zS<|zT ⟨[(10,.c _),(9,.c _),(2,.c _),(5,.c _),(8,.c _)],[_,_,_]⟩ (oz [true,true,true] oH O)<|qG 2 1 O O (Nat×Value) (λ⟨j,sv⟩=>[(10,vI j),(9,.c (.lit sv))]) (λ⟨j,sv⟩=>[E.vec sv 59 2 ((d.Dims.take j).map λa=>a.Size.cells)]) (λ⟨j,sv⟩=>j<=d.Dims.length) (λ⟨j,sv⟩=>d.Dims.length-j) ⟨⟨0,(.slice none 0 0)⟩,zB,oz [true,true,true] oH O⟩ ?_
    rintro ⟨j,sv⟩ hj
    show oU _ _ _ _ _ ⟨[(10,vI j),(9,.c (.lit sv))]++_,[E.vec sv 59 2 ((d.Dims.take j).map λa=>a.Size.cells)]++_⟩
    refine zF<|oo O O<|zC O ry<|zE uB (J 2 O) O<|G O<|qF O pt zB (oI uC)<|qS O D8<|zE uB qE O<|qC O pg<|yC O<|zA<|zK O (λc5=>?_) (λc5=>?_)
    ·exact n7
    ·try simp only [sx] at c5
     refine qL<|zF<|yE 8 mixed uB O O<|ou O (zQ O O)<|ou O (zG O ry O)<|ou O (zH O uB O (J 2 O) O)<|ou O (zQ O O)<|ou O (qI O pt O O zB (oI uC))<|ou O (qO O On O)<|ou O (qA O yD O qE O)<|ou O (yK O O)<|yY<|ow 1 D O<|om O<|zT _ (yJ 0 O (regs':=[(9,_),(77,_),(4,_)]) (μ':=[_,_]) ⟨FLe.sl,FLe.sl,FLe.sl,T⟩ ⟨EFle.refl _,EFle.refl _,T⟩)<|zM<|tr (ox O) (zY yD O (J 0 O) O) (ox O) ?_
     rw [hF,hq,ER hd c4,yG (l:=d.Dims) (k:=j) zB];simp only [mL,fx];rfl
   ·exact v74
  ·refine qL<|Y O<|yI O v pr<|qY 2 O<|ow 0 D O<|om O<|zM<|tr (ox O) (zY yD O (J 0 O) O) (ox O) ?_
   rw [hF,hq,z6 (l:=p.Defs) zB];rfl
def Az (l:List Lf) (env:List Bd) (hel:env.length<=1000000) (her:∀x,x∈env->oQ x.Val) (hl:l.length<=4294967296) (hf:∀f,f∈l->f.L.length<=5864062014805/\f.rng):
    oK cfg 152 [mL l,gJ env] (.tup [ss (xH env l),vI (fO env l)]):=by
 refine zW func152 O ntmps152 results152 O λz hz=>Y O<|qY 1 O<|om O<|oo O O<|yQ _ (kD 3 1)<|zA<|zF<|ol O O<|zS<|zT ⟨[(7,.c _),(6,.c _),(0,.c _),(1,.c _)],[_]⟩ (oz [true] oH O)<|qG 2 1 O O (Nat×Value) (λ⟨k,sv⟩=>[(7,vI k),(6,.c (.lit sv))]) (λ⟨k,sv⟩=>[E.vec sv 3 1 ((fB env (l.take k)).map λn=>[cI n])]) (λ⟨k,sv⟩=>k<=l.length/\(fO env l=fO env (l.drop k))) (λ⟨k,sv⟩=>l.length-k) ⟨⟨0,(.slice none 0 0)⟩,⟨zB,O⟩,oz [true] oH O⟩ ?_
 rintro ⟨k,sv⟩ ⟨hk,hp⟩
 show oU _ _ _ _ _ ⟨[(7,vI k),(6,.c (.lit sv))]++_,[E.vec sv 3 1 ((fB env (l.take k)).map λn=>[cI n])]++_⟩
 refine zF<|oo O O<|G O<|qC O oS<|yC O<|zA<|zK O ?_ ?_<;>intro c1<;>try simp only [sx] at c1
 ·obtain ⟨f,hx⟩:=qX l k zB
  refine zJ<|zF<|zS<|oo O O<|G O<|qF O oS zB (oI hx)<|zN yV qE O<|G O<|qK O uB (zSq f env hel her (hf f (qD hx)).1 (hf f (qD hx)).2) (oy O)<|qW O<|yF O<|yF O<|G O<|om O<|zF<|oo O O<|yL O<|zA<|zK O ?_ ?_<;>intro c2<;>try simp only [sx] at c2
  ·have hE:=uP hx hp c2
   exact v81
  ·refine zJ<|zF<|oo O O<|yC O<|G O<|oL O (λg8_2=>zQ O O) O<|oG 31 O (λg8_2=>kE O O O) O<|oN O (λh=>(oY h))<|zA<|zK O ?_ ?_<;>intro c3<;>try simp only [sx] at c3
   ·have hE:=uN hx hp c2 WO
    exact v91
   ·have hn:=zWe hx hp c2 WO
    refine zJ<|zP O<|G O<|G O<|yT O pf Oq<|oM O (qZ 0 O pf O O O WP WP) λsv2=>om O<|zP O<|G O<|qH O ⟨zB,zB⟩<|G O<|zA ?_
    refine ⟨⟨k+1,sv2⟩,⟨zB,hn⟩,(by show l.length-(k+1)<l.length-k;omega),oz [true] oH (by exact SB (by rw [yB hx];unfold fB;rw [ah,ah];rfl))⟩
 ·have hE:=uO (show l.length<=k by omega) hp
  exact v23
def IW (l:List Int) (hl:l.length<=4294967296) (h:∀n,n∈l->1<=n/\n<=4096):
    oK cfg 153 [ss l] (vI (tO l)):=by
 refine zW func153 O ntmps153 results153 O λz hz=>ol O O<|ol O O<|zF<|ol O O<|zS<|zT ⟨[(4,.c _),(3,.c _),(0,.c _)],[]⟩ (oz [] oH O)<|qG 2 0 O O (Nat×Int) (λ⟨k,s⟩=>[(4,vI k),(3,vI s)]) (λ⟨k,s⟩=>[]) (λ⟨k,s⟩=>k<=l.length/\(1<=s/\s<=65537)/\(tO l=(l.drop k).foldl (λn d=>min (n*d) 65537) s)) (λ⟨k,s⟩=>l.length-k) ⟨⟨0,1⟩,⟨zB,⟨uA,uA⟩,O⟩,oz [] oH O⟩ ?_
 rintro ⟨k,s⟩ ⟨hk,hs,hp⟩
 show oU _ _ _ _ _ ⟨[(4,vI k),(3,vI s)]++_,[]++_⟩
 refine zF<|oo O O<|G O<|qC O pf<|yC O<|zA<|zK O ?_ ?_<;>intro c1<;>try simp only [sx] at c1
 ·obtain ⟨n,hn⟩:=qX l k zB
  have hnb:=h n (qD hn)
  have hmb:=gv hs.2 hnb.2 zB zB
  have hmb2:=gv (show 1<=s from hs.1) hnb.1 zB zB
  rw [qN hn,cp] at hp
  refine zJ<|zF<|zS<|zP O<|G O<|G O<|G O<|qF O pf zB (oI hn)<|zE uB qE O<|zX O (zOg O O O ⟨zB,zB⟩)<|zX O (J7 O O O)<|om O<|zP O<|G O<|qH O ⟨zB,zB⟩<|G O<|zA ?_
  refine ⟨⟨k+1,min (s*n) 65537⟩,⟨zB,⟨zB,zB⟩,hp⟩,(by show l.length-(k+1)<l.length-k;omega),oz [] oH O⟩
 ·rw [z6 zB] at hp
  refine qL<|oo O O<|om O<|zM<|zV O ?_
  rw [hp];rfl
def IV (p:Pg) (s:nq) (env:List Bd) (hel:env.length<=1000000) (her:∀x,x∈env->oQ x.Val) (hP:p.Ok) (hR:p.Rng):
    oK cfg 88 [rf p,gJ env,vS s] (.tup [ss (mT p env s).1,vI (mT p env s).2]):=by
 refine zW func88 O ntmps88 results88 O ?_
 intro z hz
 have hfd:=EV hP hR s
 refine Y O<|oi O λb1=>qY 1 O<|om O<|Y O<|zN qv (J 0 O) O<|G O<|qK O uB (Gc p s hP) (oy O)<|qW O<|yF O<|kG O<|yF O<|oM O (yA O v) λb2=>G O<|ow 0 D O<|om O<|zF<|oo O O<|kQ O<|zA<|zK O ?_ ?_<;>intro c1<;>try simp only [sx] at c1
 ·refine Y O<|qY 1 O<|om O<|zM<|oJ (ox O) (ox O) ?_
  rw [Pk c1];rfl
 ·refine zJ<|oo O O<|G O<|qK O uB (Az (p.en.find s).dims env hel her hfd.1 hfd.2) (oy O)<|qW O<|yF O<|yF O<|G O<|om O<|zF<|oo O O<|yR O<|G O<|oL O (λg5_2=>zQ O O) O<|oG 31 O (λg5_2=>qP O uB (show oK cfg 153 [ss (xH env (p.en.find s).dims)] (vI (tO (fB env (p.en.find s).dims))) by have h9:fO env (p.en.find s).dims=0:=(by simpa [Lz] using g5_2);rw [zUp h9];exact IW _ (by unfold fB;rw [pc];exact hfd.1) (zZt h9)) (oy O)) O<|oG 32 O (λg5_2=>kE O O O) O<|kF O (λh=>h)<|zA<|zK O ?_ ?_<;>intro c2<;>try simp only [sx] at c2
  ·obtain ⟨c2,c3⟩:fO env (p.en.find s).dims=0/\4096<tO (fB env (p.en.find s).dims):=by simpa using c2
   have hD:=V7 c1 c2 ((KV (zZt c2)).1 c3)
   refine Y O<|qY 1 O<|om O<|zM<|oJ (ox O) (ox O) ?_
   rw [hD];rfl
  ·have hD:mT p env s=(xH env (p.en.find s).dims,fO env (p.en.find s).dims):=UV c1 (λh9=>by rcases c2 with k|k;exact absurd h9 k;exact k)
   refine zJ<|oo O O<|G O<|G O<|om O<|zM<|oJ (ox O) (ox O) ?_
   rw [hD]
def zSn (p:Pg) (s:nq) (env:List Bd) (hel:env.length<=1000000) (her:∀x,x∈env->oQ x.Val) (hP:p.Ok) (hR:p.Rng):
    oK cfg 36 [rf p,gJ env,vS s] (.tup [ss (rR p env s).1,vI (rR p env s).2]):=by
 refine zW func36 O ntmps36 results36 O λz hz=>Y O<|oi O λb1=>qY 1 O<|om O<|zF<|Y O<|zN qv (J 0 O) O<|G O<|qK O uB (Gd p env hel her hP hR) (oy O)<|om O<|oo O O<|yL O<|zA<|zK O ?_ ?_<;>intro c1<;>try simp only [sx] at c1
 ·refine oo O O<|qY 1 O<|om O<|zM<|oJ (ox O) (ox O) ?_
  rw [Pn c1];rfl
 ·refine zJ<|Y O<|zN qv (J 0 O) O<|G O<|G O<|qK O uB (IV p s env hel her hP hR) (oy O)<|yF O<|yF O<|G O<|om O<|zM<|oJ (ox O) (ox O) ?_
  rw [Po c1]
def Gi (env:List Bd) (s:nq) (hel:env.length<=1000000):
    oK cfg 96 [gJ env,vS s] (vI (gI env s)):=by
 refine zW func96 O ntmps96 results96 O λz hz=>ol O O<|zF<|ol O O<|zS<|zT ⟨[(5,.c _),(0,.c _),(1,.c _)],[]⟩ (oz [] oH O)<|qG 1 0 O O (Nat) (λk=>[(5,vI k)]) (λk=>[]) (λk=>k<=env.length/\((env.take k).any (λy=>decide (y.Name=s))=false)) (λk=>env.length-k) ⟨0,⟨zB,O⟩,oz [] oH O⟩ ?_
 rintro k ⟨hk,hp⟩
 refine zF<|oo O O<|G O<|qC O qa<|yC O<|zA<|zK O ?_ ?_<;>intro c1<;>try simp only [sx] at c1
 ·obtain ⟨x,hx⟩:=qX env k zB
  refine zJ<|zF<|zS<|oo O O<|G O<|qF O qa zB (oI hx)<|qS O S9<|zE uB qE O<|G O<|wF O<|zA<|zK O (λc2=>?_) (λc2=>?_)
  ·try simp only [sx] at c2
   refine oo O O<|G O<|qF O qa zB (oI hx)<|qS O zUo<|zE W qE O<|om O<|zM<|zV O ?_
   rw [Kj hx c2 hp]
  ·exact v82
 ·refine qL<|ol O O<|zM<|zV O ?_
  rw [yG zB] at hp
  rw [Kk hp]
def F1 (t:Ty) (c:dO t=true) (h:t.Kind=2):
    oK cfg 201 [rq t] (vI (2^t.Frac.toNat)):=by
 refine zW func201 O ntmps201 results201 O λz hz=>Y O<|oi O λb1=>om O<|Y O<|zC O VV<|zE uB (J 0 O) O<|zX O (zKa O uB PS O (PG c h))<|zX O (EE O O O (Dv (DX c) h).1 (Dv (DX c) h).2)<|om O<|zM<|zV O ?_
 exact O
def No (t:Ty):
    oK cfg 158 [rq t] (.tup [tZ (fW t).1,vI (fW t).2]):=by
 refine zW func158 O ntmps158 results158 O λz hz=>Y O<|oi O λb1=>oM O (yA O qj) λb2=>om O<|zF<|Y O<|zN yD (J 1 O) O<|qK O uB (zIr _) (oy O)<|kQ O<|zA<|zK O ?_ ?_<;>intro c1<;>try simp only [sx] at c1
 ·refine Y O<|yI O qj sa<|ow 0 qq O<|om O<|zM<|oJ (zY rr O (J 0 O) O) (ox O) ?_
  rw [UE c1];rfl
 ·refine zJ<|Y O<|yI O qj sa<|oM O (yA O qj) λb3=>ow 0 qq O<|zA<|zF<|Y O<|zC O Hd<|zE uB (J 2 O) O<|yR O<|zA<|qQ O (λc2=>?_) (λc2=>?_)
  ·have hN:=YW c2
   refine zP O<|zN yD (J 2 O) O<|qK O uB (F1 t c1 c2) (oy O)<|zC O L3<|ow 0 sz2 O<|zA<|zF<|Y O<|zN yD (J 2 O) O<|zN rr (J 0 O) O<|qK O uB (vr t ⟨2^t.Frac.toNat,1⟩ c1) (oy O)<|kQ O<|zA<|zK O (λc3=>?_) (λc3=>?_)
   ·have hE:=QM c1 (by rw [hN];exact YT c3)
    refine Y O<|yI O qj sa<|ow 1 qq O<|om O<|zM<|oJ (zY rr O (J 1 O) O) (ox O) ?_
    rw [hE];rfl
   ·have hE:=La c1 (by rw [hN];exact YS c3)
    rw [hN] at hE
    refine zJ<|Y O<|zN rr (J 0 O) O<|ow 1 qq O<|om O<|zM<|oJ (zY rr O (J 1 O) O) (ox O) ?_
    rw [hE];rfl
  ·have hN:=YX c2
   refine zJ<|zF<|Y O<|zN yD (J 2 O) O<|zN rr (J 0 O) O<|qK O uB (vr t ⟨1,1⟩ c1) (oy O)<|kQ O<|zA<|zK O (λc3=>?_) (λc3=>?_)
   ·have hE:=QM c1 (by rw [hN];exact YT c3)
    refine Y O<|yI O qj sa<|ow 1 qq O<|om O<|zM<|oJ (zY rr O (J 1 O) O) (ox O) ?_
    rw [hE];rfl
   ·have hE:=La c1 (by rw [hN];exact YS c3)
    rw [hN] at hE
    refine zJ<|Y O<|zN rr (J 0 O) O<|ow 1 qq O<|om O<|zM<|oJ (zY rr O (J 1 O) O) (ox O) ?_
    rw [hE];rfl
def yw (f:Int) (t:Ty):
    oK cfg 98 [vI f,rq t] (.tup [tZ (sg f t).1,vB (sg f t).2]):=by
 refine zW func98 O ntmps98 results98 O λz hz=>Y O<|oi O λb1=>oM O (yA O qj) λb2=>om O<|zF<|Y O<|zN yD (J 1 O) O<|qK O uB (zIr _) (oy O)<|G O<|oL O (λg1_2=>zQ O O) O<|oG 11 O (λg1_2=>yU O O O) O<|oG 12 O (λg1_2=>zQ O O) O<|oV [] O oW T (λg1_5=>zQ O O) O<|oV [(14,_)] O oW ⟨O,O,T⟩ (λg1_5=>yU O O O) O<|oG 13 O (λg1_2=>tj O O O O (λh=>kO uC (oY h))) O<|kF O (λh=>h)<|zA<|zK O ?_ ?_<;>intro c1<;>try simp only [sx] at c1
 ·have c1:dO t=true/\(f=1∨f=5):=by simpa using c1
  have hE:=idR_2 c1.1 c1.2
  refine Y O<|zN yD (J 1 O) O<|qK O uB (IJ _) (oy O)<|ow 0 qq O<|om O<|zM<|oJ (zY rr O (J 0 O) O) (ox O) ?_
  rw [hE];rfl
 ·have c1:¬(dO t=true/\(f=1∨f=5)):=by rintro ⟨a,b⟩;rw [a] at c1;simp at c1;omega
  refine zJ<|zF<|oo O O<|yR O<|zA<|qQ O (λc2=>?_) (λc2=>?_)
  ·have hE:=idR_3 c1 c2
   refine Y O<|zN yD (J 1 O) O<|qK O uB (No _) (oy O)<|qW O<|kG O<|yF O<|oM O (yA O qj) λb3=>ow 0 qq O<|om O<|Y O<|zN rr (J 0 O) O<|G O<|yR O<|ow 1 qq O<|om O<|zM<|oJ (zY rr O (J 1 O) O) (ox O) ?_
   rw [hE];rfl
  ·have hE:=idR_4 c1 c2
   refine zJ<|Y O<|yI O qj sa<|ow 0 qq O<|om O<|zM<|oJ (zY rr O (J 0 O) O) (ox O) ?_
   rw [hE];rfl
def zOr (l:Lf):
    oK cfg 97 [dF l] (vE (nL l)):=by
 refine zW func97 O ntmps97 results97 O ?_
 exact l9
def I8 (p:Pg) (d:Df) (env:List Bd) (hel:env.length<=1000000) (her:∀x,x∈env->oQ x.Val) (hps:p.Sizes.length<=1000000) (hD:d.Dims.length<=6) (hR:d.Red.length<=6) (hbw:d.Body.wt<=1500) (hdR:d.Body.allF Lf.rng) (hnz:d.Name.size<=100000) (hns:∀s,s∈bD d->s.size<=16):
    oK cfg 39 [rf p,gJ env,SP d] (.tup [vE (lG (pA p env d)),vI (gM (pA p env d))]):=by
 refine zW func39 O ntmps39 results39 O ?_
 intro z hz
 have hnl:=ye d
 refine Y O<|oi O λb1=>oi O λb2=>oM O (qJ nt O pd O) λb3=>om O<|Y O<|zC O ww<|zN yX (J 1 O) O<|oM O (qJ nt O pd O) λb4=>ow 0 ph O<|zA<|zF<|ol O O<|zS<|zT ⟨[(9,.c _),(1,.c _),(3,.c _),(5,.c _),(6,.c _),(8,.c _)],[_,_,_,_]⟩ (oz [true,true,true,true] oH O)<|qG 1 1 O O (Nat×Ex) (λ⟨k,e1⟩=>[(9,vI k)]) (λ⟨k,e1⟩=>[E.row b4 62 e1.cs]) (λ⟨k,e1⟩=>k<=p.Sizes.length/\(SbJ (λs:nq=>(⟨gI env s,[]⟩:Lf)) p.Sizes d.Body k e1)) (λ⟨k,e1⟩=>p.Sizes.length-k) ⟨⟨0,d.Body⟩,⟨zB,zQj hdR⟩,oz [true,true,true,true] oH O⟩ ?_
 rintro ⟨k,e1⟩ ⟨hk,hs1⟩
 show oU _ _ _ _ _ ⟨[(9,vI k)]++_,[E.row b4 62 e1.cs]++_⟩
 refine zF<|oo O O<|zC O ve<|zE uB (J 3 O) O<|qC O oR<|yC O<|zA<|zK O ?_ ?_<;>intro c1<;>try simp only [sx] at c1
 ·obtain ⟨s,hs⟩:=qX p.Sizes k zB
  refine zJ<|zF<|zS<|zF<|yN 20 1 [⟨0,.q [1]⟩,⟨1,.q []⟩,⟨2,.q [4]⟩,⟨3,.q []⟩,⟨4,.q []⟩,⟨5,.q []⟩,⟨6,.q []⟩,⟨7,.q []⟩,⟨8,.q [4]⟩,⟨9,.q []⟩,⟨10,.q []⟩,⟨11,.q []⟩,⟨12,.q []⟩,⟨13,.q []⟩,⟨14,.q []⟩,⟨15,.q []⟩,⟨16,.q []⟩,⟨17,.q []⟩,⟨18,.e 0 []⟩,⟨19,.e 0 []⟩] mixed uB uB O O O<|zR O<|zR O<|zR O<|zR O<|zR O<|zR O<|zR O<|zR O<|zR O<|zR O<|zR O<|zR O<|zR O<|zR O<|zR O<|zR O<|zR O<|zR O<|zR O<|zR O<|wG<|ot O (qA O yX O (J 0 O) O)<|ot O (zG O ve O)<|ot O (zH O uB O (J 0 O) O)<|ot O (zQ O O)<|ot O (qI O oR O O zB (oI hs))<|ot O (zH O uB O qE O)<|ot O (zQ O O)<|ot O (zG O ve O)<|ot O (zH O uB O (J 0 O) O)<|ot O (zQ O O)<|ot O (qI O oR O O zB (oI hs))<|ot O (zH O uB O qE O)<|ot O (qP O uB (Gi env s hel) (oy O))<|ot O (LT [none,some 2] O U qe O O)<|ot O (qP O uB (show oK cfg 95 [vE e1,vS s,dF ⟨gI env s,[]⟩] (.tup [vE (lG (pj (λl=>bX l s ⟨gI env s,[]⟩) e1)),vI (gM (pj (λl=>bX l s ⟨gI env s,[]⟩) e1))]) by rw [<-sbR hs1.rg];exact zHc e1 s ⟨gI env s,[]⟩ (cb _) (Wl (Kl her s)) hs1.rg xK1) (oy O))<|ot O (yS O O)<|ot O (kK O O O)<|ot O (kI O O O)<|sk O O uA O O (qJ nt O pd O) ?_
  rintro _ _ ⟨b5,rfl,rfl⟩
  refine ⟨_,O,?_⟩
  refine uh O O uA O O (yP O ph O O O (tc 0 O O)) ?_
  rintro _ _ ⟨rfl,rfl⟩
  refine ⟨_,O,?_⟩
  refine wE O<|om O<|zF<|oo O O<|yL O<|zA<|zK O ?_ ?_<;>intro c2<;>try simp only [sx] at c2
  ·have hE:=Ct (u5 (u:=(λs:nq=>(⟨gI env s,[]⟩:Lf))) hs1 hs c2)
   exact v87
  ·refine zJ<|zP O<|zN yX (J 0 O) O<|ow 1 ph O<|zA<|zP O<|G O<|qH O ⟨zB,zB⟩<|G O<|zA ?_
   refine ⟨⟨k+1,lG (pj (λl=>bX l s ⟨gI env s,[]⟩) e1)⟩,⟨zB,zVr (u:=(λs:nq=>(⟨gI env s,[]⟩:Lf))) (λ_=>O) hs1 hs c2⟩,(by show p.Sizes.length-(k+1)<p.Sizes.length-k;omega),oz [false,true,true,true,true] oH O⟩
 ·have hB1:=u4 hs1 (show p.Sizes.length<=k by omega)
  have hE0:=JM hB1
  have hw9:=hs1.wt
  refine qL<|Y O<|zN Ec (J 2 O) O<|qK O uB (OwnR.pur (zHb d zB zB)) (oy O)<|om O<|zF<|ol O O<|zS<|zT ⟨[(13,.c _),(5,.c _),(6,.c _),(8,.c _),(12,.c _)],[_,_,_]⟩ (oz [true,true,true,false] oH O)<|qG 1 1 O O (Nat×Ex) (λ⟨q,e2⟩=>[(13,vI q)]) (λ⟨q,e2⟩=>[E.row b4 62 e2.cs]) (λ⟨q,e2⟩=>q<=16/\VbJ (vR d) (pZ (bD d) q) (pA p env d) 6144000 e2) (λ⟨q,e2⟩=>q) ⟨⟨16,e1⟩,⟨aC _,by rw [hE0];exact N6 hs1.rg zB zB⟩,oz [true,true,true] oH O⟩ ?_
  rintro ⟨q,e2⟩ ⟨hq,hv1⟩
  refine zF<|oo O O<|sf O<|zA<|zK O ?_ ?_<;>intro c3<;>try simp only [sx] at c3
  ·obtain ⟨n,rfl⟩:∃n,q=n+1:=⟨q-1,zB⟩
   have hv1:VbJ (vR d) (vC (bD d) n 0) (pA p env d) 6144000 e2:=hv1
   refine zJ<|zF<|zS<|ol O O<|zS<|zT ⟨[(14,.c _),(5,.c _),(6,.c _),(8,.c _),(12,.c _),(13,.c _)],[_,_,_]⟩ (oz [true,true,true] oH O)<|qG 1 1 O O (Nat×Ex) (λ⟨i,e2⟩=>[(14,vI i)]) (λ⟨i,e2⟩=>[E.row b4 62 e2.cs]) (λ⟨i,e2⟩=>i<=(bD d).length/\(VbJ (vR d) (vC (bD d) n i) (pA p env d) 6144000 e2)) (λ⟨i,e2⟩=>(bD d).length-i) ⟨⟨0,e2⟩,⟨zB,hv1⟩,oz [true,true,true] oH O⟩ ?_
   rintro ⟨i,e2⟩ ⟨hi,hv1⟩
   show oU _ _ _ _ _ ⟨[(14,vI i)]++_,[E.row b4 62 e2.cs]++_⟩
   refine zF<|oo O O<|G O<|qC O oR<|yC O<|zA<|zK O ?_ ?_<;>intro c4<;>try simp only [sx] at c4
   ·obtain ⟨s,hs⟩:=qX (bD d) i zB
    refine zJ<|zF<|zS<|zF<|oo O O<|G O<|qF O oR zB (oI hs)<|zE uB qE O<|zX O (SW O Hi O)<|G O<|yL O<|zA<|zK O ?_ ?_<;>intro c5<;>try simp only [sx] at c5
    ·have hv1:=Rh (n:=n) hs zB ▸ hv1
     refine qL<|zP O<|G O<|qH O ⟨zB,zB⟩<|G O<|zA ?_
     refine ⟨⟨i+1,e2⟩,⟨zB,hv1⟩,(by show (bD d).length-(i+1)<(bD d).length-i;omega),oz [true,true,true] oH O⟩
    ·rw [U2 hs zB] at hv1
     refine zJ<|zF<|yN 19 1 [⟨0,.q [1]⟩,⟨1,.q []⟩,⟨2,.q []⟩,⟨3,.q []⟩,⟨4,.q []⟩,⟨5,.q []⟩,⟨6,.q [3]⟩,⟨7,.q []⟩,⟨8,.q []⟩,⟨9,.q []⟩,⟨10,.q []⟩,⟨11,.q []⟩,⟨12,.q []⟩,⟨13,.q []⟩,⟨14,.q []⟩,⟨15,.q []⟩,⟨16,.q []⟩,⟨17,.e 0 []⟩,⟨18,.e 0 []⟩] mixed uB uB O O O<|zR O<|zR O<|zR O<|zR O<|zR O<|zR O<|zR O<|zR O<|zR O<|zR O<|zR O<|zR O<|zR O<|zR O<|zR O<|zR O<|zR O<|zR O<|zR O<|wG<|ot O (qA O yX O (J 0 O) O)<|ot O (zQ O O)<|ot O (zQ O O)<|ot O (qI O oR O O zB (oI hs))<|ot O (zH O uB O qE O)<|ot O (zG O ub O)<|ot O (zH O uB O (J 0 O) O)<|ot O (zQ O O)<|ot O (zQ O O)<|ot O (qI O oR O O zB (oI hs))<|ot O (zH O uB O qE O)<|ot O (qP O uB (zEk d.Name s hnz (by have:=hns s (qD hs);omega)) (oy O))<|ot O (qP O uB (zCz (pi d.Name s)) (oy O))<|ot O (qP O uB (show oK cfg 95 [vE e2,vS s,dF (vR d s)] (.tup [vE (lG (pj (λl=>bX l s (vR d s)) e2)),vI (gM (pj (λl=>bX l s (vR d s)) e2))]) by rw [<-sbR hv1.rg];exact zHc e2 s (vR d s) (by have:=zPy (pi d.Name s);show (dK (pi d.Name s)).L.length<=_;omega) (zVi _) hv1.rg (by have:=ZF hv1;omega)) (oy O))<|ot O (yS O O)<|ot O (kK O O O)<|ot O (kI O O O)<|sk O O uA O O (qJ nt O pd O) ?_
     rintro _ _ ⟨b6,rfl,rfl⟩
     refine ⟨_,O,?_⟩
     refine uh O O uA O O (yP O ph O O O (tc 0 O O)) ?_
     rintro _ _ ⟨rfl,rfl⟩
     refine ⟨_,O,?_⟩
     refine wE O<|om O<|zF<|oo O O<|yL O<|zA<|zK O ?_ ?_<;>intro c6<;>try simp only [sx] at c6
     ·have hE:=Vr hv1 c6
      exact v87
     ·refine zJ<|zP O<|zN yX (J 0 O) O<|ow 1 ph O<|zA<|zP O<|G O<|qH O ⟨zB,zB⟩<|G O<|zA ?_
      refine ⟨⟨i+1,lG (pj (λl=>bX l s (vR d s)) e2)⟩,⟨zB,R5 (zPy _) hv1 c6⟩,(by show (bD d).length-(i+1)<(bD d).length-i;omega),oz [false,true,true,true] oH O⟩
   ·rw [U0 zB] at hv1
    refine qL<|zP O<|G O<|zX O (yM O O O ⟨zB,zB⟩)<|G O<|zA ?_
    refine ⟨⟨n,e2⟩,⟨zB,hv1⟩,(Nat.lt_succ_self _),oz [true,true,true] ⟨VLe.of_eq ((ai vI zB)),zD,zD,zD,zD,T⟩ O⟩
  ·obtain rfl:q=0:=by omega
   have hE:=Vq hv1
   refine qL<|Y O<|zN yX (J 0 O) O<|ow 1 ph O<|om O<|zM<|oJ (zY yX O (J 1 O) O) (ox O) ?_
   rw [hE];rfl
end Go.W
end
section
set_option maxRecDepth 10000
namespace Go.W
open Go Go.Eng Go.Proofs Go.L41 Go.Br Tryz
attribute [local irreducible] oU oX TD gF
def zMg (d:Df) (l:List Ax) (ext:List Int) (b:List St) (hlen:ext.length=l.length) (hnz:d.Name.size<=100000) (hax:∀x,x∈l->x.Name.size<=100000) (hll:l.length<=1000000):
    oK cfg 41 [SP d,.c (.sl 3 (l.map Ax.cells)),ss ext,fL b] (fL (fH (gU d.Name l ext) b)):=by
 refine zW func41 O ntmps41 results41 O λz hz=>Y O<|oi O λb1=>qY 20 O<|zA<|zF<|oo O O<|qC O pg<|zX O (yM O O O ⟨zB,zB⟩)<|om O<|zS<|zT ⟨[(9,.c _),(3,.c _),(1,.c _),(2,.c _),(4,.c _)],[_]⟩ (oz [true] oH O) ?_
 refine qG 2 0 O O (Nat) (λq=>[(9,vI ((q:Int)-1)),(3,fL (fH ((gU d.Name l ext).drop q) b))]) (λq=>[]) (λq=>q<=l.length) (λq=>q) ⟨l.length,(aC _),oz [true] ⟨zD,VLe.of_eq ((ai fL (by rw [<-FD (d:=d.Name) hlen];exact (Bw _ _).symm))),zD,zD,zD,T⟩ O⟩ ?_
 rintro q hq
 refine zF<|oo O O<|zX O (wN O O O)<|zA<|zK O ?_ ?_<;>intro c1<;>try simp only [sx] at c1
 ·obtain ⟨j,rfl⟩:∃j,q=j+1:=⟨q-1,zB⟩
  obtain ⟨x,hx⟩:=qX l j zB
  obtain ⟨n,hn⟩:=qX ext j zB
  have hz9:=K0 (d:=d.Name) hx hn
  rw [show (((j+1:Nat):Int)-1)=(j:Int) by omega]
  refine zJ<|zF<|zS<|yE 16 mixed uB O O<|ou O (zG O ub O)<|ou O (zH O uB O (J 0 O) O)<|ou O (zQ O O)<|ou O (zQ O O)<|ou O (qI O pg O O zB (oI hx))<|ou O (qO O L1 O)<|ou O (zH O uB O qE O)<|ou O (qP O uB (zEk d.Name x.Name hnz (hax x (qD hx))) (oy O))<|ou O (zQ O O)<|ou O (zQ O O)<|ou O (qI O pf O O zB (oI hn))<|ou O (zH O uB O qE O)<|ou O (zQ O O)<|ou O (LT oh O pp yr O O)<|ou O (kV O oT pp O O O O)<|ou O (yK O O)<|yY<|zA<|zP O<|G O<|zX O (yM O O O ⟨zB,zB⟩)<|G O<|zA ?_
  refine ⟨j,zB,zB,oz [true] ⟨VLe.of_eq ((ai vI zB)),VLe.of_eq ((by rw [xx hz9,<-zNw];rfl)),zD,zD,zD,T⟩ O⟩
 ·obtain rfl:q=0:=by omega
  refine qL<|oo O O<|om O<|zM<|zV O ?_
  rfl
set_option maxHeartbeats 4000000 in
def Gh (d:Df) (b:Ex) (red:List Int) (hlen:red.length=d.Red.length) (hD:d.Dims.length<=6) (hR:d.Red.length<=6) (hnz:d.Name.size<=100000) (hax:∀x,x∈d.Dims++d.Red->x.Name.size<=100000) (hbw:b.wt<=1000000) (hbr:b.allF Lf.rng) (h5:d.Fold=5->0<d.Dims.length):
    oK cfg 40 [SP d,vE b,ss red] (.tup [fL (mS (pI d (qc d) (gU d.Name d.Red red) b)),vI (xI (pI d (qc d) (gU d.Name d.Red red) b))]):=by
 refine zW func40 O ntmps40 results40 O λz hz=>Y O<|oi O λb1=>oi O λb2=>qY 20 O<|om O<|oo O O<|yQ _ (kD 93 4)<|zA<|zF<|ol O O<|zS<|zT ⟨[(9,.c _),(8,.c _),(2,.c _),(3,.c _),(4,.c _)],[_,_,_]⟩ (oz [true,true,true] oH O)<|qG 2 1 O O (Nat×Value) (λ⟨k,sv⟩=>[(9,vI k),(8,.c (.lit sv))]) (λ⟨k,sv⟩=>[E.vec sv 93 4 (((d.Dims.take k).map (λx=>(⟨dK (pi d.Name x.Name),bs [],[]⟩:Ix))).map Ix.cells)]) (λ⟨k,sv⟩=>k<=d.Dims.length) (λ⟨k,sv⟩=>d.Dims.length-k) ⟨⟨0,(.slice none 0 0)⟩,zB,oz [true,true,true] oH O⟩ ?_
 rintro ⟨k,sv⟩ hk
 show oU _ _ _ _ _ ⟨[(9,vI k),(8,.c (.lit sv))]++_,[E.vec sv 93 4 (((d.Dims.take k).map (λx=>(⟨dK (pi d.Name x.Name),bs [],[]⟩:Ix))).map Ix.cells)]++_⟩
 refine zF<|oo O O<|zC O D8<|zE uB (J 2 O) O<|qC O pg<|yC O<|zA<|zK O ?_ ?_<;>intro c1<;>try simp only [sx] at c1
 ·obtain ⟨x,hx⟩:=qX d.Dims k zB
  refine zJ<|zF<|zS<|yE 13 mixed uB O O<|ou O (zQ O O)<|ou O (zG O ub O)<|ou O (zH O uB O (J 2 O) O)<|ou O (zG O D8 O)<|ou O (zH O uB O (J 2 O) O)<|ou O (zQ O O)<|ou O (qI O pg O O zB (oI hx))<|ou O (qO O L1 O)<|ou O (zH O uB O qE O)<|ou O (qP O uB (zEk d.Name x.Name hnz (hax x (d7 _ (qD hx)))) (oy O))<|ou O (qP O uB (zCz (pi d.Name x.Name)) (oy O))<|ou O (LT oe O qk FU O O)<|ou O (kV O oO qk O O O O)<|yY<|oM O (qZ 0 O oO O O O uE uE) λsv4=>om O<|zP O<|G O<|qH O ⟨zB,zB⟩<|G O<|zA ?_
  refine ⟨⟨k+1,sv4⟩,zB,(by show d.Dims.length-(k+1)<d.Dims.length-k;omega),oz [true,true,true] oH (by exact SB (by rw [yB hx,ah,ah];rfl))⟩
 ·rw [yG (l:=d.Dims) (k:=k) zB]
  rw [show (d.Dims.map (λx=>(⟨dK (pi d.Name x.Name),bs [],[]⟩:Ix)))=qc d from rfl]
  refine zT _ (yJ 0 O (regs':=[(8,_)]) (μ':=[_,_]) ⟨FLe.sl,T⟩ ⟨EFle.refl _,EFle.refl _,T⟩)<|qL<|Y O<|zC O ub<|zE uB (J 1 O) O<|G O<|zN yX (J 0 O) O<|yO nz O pp yr<|oM O (qJ nx O pp O) λb5=>ow 0 uo O<|zNs (μ':=[E.row b5 64 (lR d (qc d) b).cs,E.row b2 62 b.cs,E.row b1 70 d.cells]) O<|zA<|zF<|Y O<|zC O L2<|zE uB (J 2 O) O<|yR O<|zA<|qQ O (λc2=>?_) (λc2=>?_)
  ·refine Y O<|zN uq (J 0 O) O<|yT O oT pp<|G O<|om O<|zM<|oJ (ox O) (ox O) ?_
   rw [PU c2]
   exact ai (λv=>V.tup [v,vI 0]) (zNw (lR d (qc d) b))
  ·refine zJ<|zF<|Y O<|zC O L2<|zE uB (J 2 O) O<|yR O<|zA<|qQ O (λc3=>?_) (λc3=>?_)
   ·obtain ⟨x,hx⟩:=qX d.Dims (d.Dims.length-1) (by have:=h5 c3;omega)
    have hp5:=h5 c3
    have hil:(qc d).length=d.Dims.length:=by unfold qc;rw [pc]
    have hix:(qc d)[(qc d).length-1]? =some ⟨(dK (pi d.Name x.Name)),bs [],[]⟩:=by rw [hil];exact Xf hx
    refine oo O O<|G O<|zX O (zHv O oO O)<|zX O (yM O O O ⟨uI,uI⟩)<|qF O oO uI (ML hix)<|qS O vc<|zN yV qE O<|oM O (qJ [none,some 2] O U O) λb6=>ow 0 oZ O<|zA<|oo O O<|yQ _ (kD 93 4)<|zA<|oo O O<|G O<|G O<|zX O (zHv O oO O)<|zX O (yM O O O ⟨uI,uI⟩)<|zX O (ZZ (k:=(qc d).length-1) O oO O (ai (λn=>V.c (C.lit (.int .i64 n))) uI) (Nat.sub_le _ _))<|oM O (qZ 0 O oO O O O uE uE) λsv8=>om O<|oo O O<|zC O kA<|zE uB (J 1 O) O<|yI O U qe<|yO oe O qk FU<|yT O oO qk<|oM O (qZ 0 O oO O O O uE uE) λsv9=>om O<|Y O<|yQ _ (yJ 0 O (regs':=[(12,_),(77,_)]) (μ':=[_,_,_,_]) ⟨FLe.sl,FLe.sl,T⟩ ⟨EFle.refl _,EFle.refl _,EFle.refl _,EFle.refl _,T⟩)<|zC O ub<|zE uB (J 3 O) O<|G O<|zC O ub<|zE uB (J 3 O) O<|G O<|yO ny O pd qy<|yO nz O pp yr<|oM O (qJ nx O pp O) λb10=>ow 0 uo O<|zA<|zF<|yE 9 mixed uB O O<|ou O (qA O uq O (J 2 O) O)<|ou O (qA O yV O (J 1 O) O)<|ou O (qP O uB (zOr (dK (pi d.Name x.Name))) (oy O))<|ou O (qA O uq O (J 0 O) O)<|ou O (kV O oT pp O O O O)<|ou O (LT od O pp yr O O)<|ou O (kV O oT pp O O O O)<|ou O (yK O O)<|ou O (yK O O)<|yY<|zA<|zM<|oJ (ox O) (ox O) ?_
    rw [PV c3,U5 hx]
    refine Eq.trans ?_ (ai (λv=>V.tup [v,vI 0]) (NF (s:=lR d (qc d) b) (p:=nL (dK (pi d.Name x.Name))) (d:=d) (at_:=qc d) (L:=(qc d).take ((qc d).length-1)++[⟨⟨-1,(dK (pi d.Name x.Name)).L⟩,bs [],[]⟩]) (R:=([]++List.map Ix.cells (List.take ((qc d).length-1) (qc d))++[(⟨⟨-1,(dK (pi d.Name x.Name)).L⟩,bs [],[]⟩:Ix).cells])) (by rw [ah];rfl)))
    generalize List.map Ix.cells (List.take ((qc d).length-1) (qc d))=r9
    rfl
   ·refine zJ<|Y O<|zC O ub<|zE uB (J 2 O) O<|zC O L2<|zE uB (J 2 O) O<|G O<|zN yX (J 1 O) O<|yO nz O pp yr<|oM O (qJ nx O pp O) λb11=>ow 0 uo O<|zNs (μ':=[E.row b11 64 (gE d (qc d) d.Fold b).cs,E.row b5 64 (lR d (qc d) b).cs,E.row b2 62 b.cs,E.row b1 70 d.cells]) O<|zA<|zF<|Y O<|zC O L2<|zE uB (J 3 O) O<|zC O On<|zN yD (J 3 O) O<|qK O uB (yw d.Fold d.T) (oy O)<|qW O<|kG O<|yF O<|oM O (yA O qj) λb12=>ow 0 qq O<|om O<|ol O O<|zK O ?_ ?_<;>intro c4<;>try simp only [sx] at c4
    ·have hE:=inn_i (at_:=qc d) (red:=(gU d.Name d.Red red)) (body:=b) c2 c3 c4
     refine Y O<|zC O On<|zN yD (J 4 O) O<|zN rr (J 0 O) O<|yO nt O pd qy<|zC O D4<|ow 2 ph O<|zNs (μ':=[E.row b12 54 [cI (sg d.Fold d.T).1.N,cI (sg d.Fold d.T).1.D],E.row b11 64 (gE d (qc d) d.Fold b).cs,E.row b5 64 (lR d (qc d) (.mk 1 (bs []) (sg d.Fold d.T).1 d.T ⟨0,[]⟩ [] [])).cs,E.row b2 62 b.cs,E.row b1 70 d.cells]) O<|zA<|zF<|yN 9 1 [⟨0,.q [3]⟩,⟨2,.q [5]⟩,⟨3,.q []⟩,⟨4,.q [5]⟩,⟨5,.q []⟩,⟨6,.q [2]⟩,⟨7,.q []⟩,⟨8,.q []⟩,⟨1,.e 0 []⟩] mixed uB uB O O O<|zR O<|zR O<|zR O<|zR O<|zR O<|zR O<|zR O<|zR O<|zR O<|wG<|ot O (qA O uq O (J 0 O) O)<|ot O (qA O Ec O (J 0 O) O)<|ot O (zG O Ce O)<|ot O (zH O uB O (J 0 O) O)<|ot O (zQ O O)<|ot O (qA O uq O (J 0 O) O)<|ot O (kV O oT pp O O O O)<|ot O (qP O uB (zMg d d.Red red [(gE d (qc d) d.Fold b)] hlen hnz (λx hx=>hax x (dp _ hx)) zB) ⟨zD,O,zD,O,zD,O,VLe.of_eq (zNw (gE d (qc d) d.Fold b)),O,T⟩)<|sk O O uA O O (LS O oT pp O O O O) ?_
     rintro _ _ ⟨sv13,rfl,rfl⟩
     refine ⟨_,O,?_⟩
     refine wE O<|oM O (qZ 0 O oT O O O (by have:=W8 (gU d.Name d.Red red) [(gE d (qc d) d.Fold b)];simp only [pc,qp,pw,qw] at this⊢;omega) (by have:=W8 (gU d.Name d.Red red) [(gE d (qc d) d.Fold b)];simp only [pc,qp,pw,qw] at this⊢;omega)) λsv14=>G O<|om O<|zT _ (yJ 0 O (regs':=[(123,_),(6,_)]) (μ':=[_,_,_,_,_]) ⟨FLe.sl,FLe.sl,T⟩ ⟨EFle.refl _,EFle.refl _,EFle.refl _,EFle.refl _,EFle.refl _,T⟩)<|zM<|oJ (ox O) (ox O) ?_
     rw [hE]
     exact ai (λv=>V.tup [v,vI 0]) (WT (lR d (qc d) (.mk 1 (bs []) (sg d.Fold d.T).1 d.T ⟨0,[]⟩ [] [])) (fH (gU d.Name d.Red red) [gE d (qc d) d.Fold b]))
    ·refine zJ<|Y O<|yO [none,some 2] O U qe<|oM O (qJ [none,some 2] O U O) λb15=>ow 0 oZ O<|zA<|zF<|ol O O<|zS<|zT ⟨[(18,.c _),(2,.c _),(3,.c _),(10,.c _),(14,.c _),(17,.c _)],[_,_,_,_]⟩ (oz [true,false,true,true,false,true] oH O)<|qG 1 3 O O (Nat×Ex×Lf) (λ⟨i,e,s⟩=>[(18,vI i)]) (λ⟨i,e,s⟩=>[E.row b15 59 s.cells,E.row b11 64 (gE d (qc d) d.Fold b).cs,E.row b5 64 (lR d (qc d) e).cs]) (λ⟨i,e,s⟩=>i<=d.Red.length/\(SbJ (λ_:nq=>(⟨0,[]⟩:Lf)) ((gU d.Name d.Red red).map Bd.Name) b i e)/\(SmJ (gU d.Name d.Red red) i s)) (λ⟨i,e,s⟩=>d.Red.length-i) ⟨⟨0,b,⟨0,[]⟩⟩,⟨zB,zQj hbr,zQh (gU d.Name d.Red red)⟩,oz [true,true,true,true] oH O⟩ ?_
     rintro ⟨i,e,s⟩ ⟨hi,hs1,hs2⟩
     show oU _ _ _ _ _ ⟨[(18,vI i)]++_,[E.row b15 59 s.cells,E.row b11 64 (gE d (qc d) d.Fold b).cs,E.row b5 64 (lR d (qc d) e).cs]++_⟩
     refine zF<|oo O O<|zC O Ce<|zE uB (J 3 O) O<|qC O pg<|yC O<|zA<|zK O ?_ ?_<;>intro c5<;>try simp only [sx] at c5
     ·obtain ⟨x,hx⟩:=qX d.Red i zB
      obtain ⟨n,hn⟩:=qX red i zB
      have hz9:=K0 (d:=d.Name) hx hn
      have hz8:((gU d.Name d.Red red).map Bd.Name)[i]? =some (pi d.Name x.Name):=Xf hz9
      refine zJ<|zF<|zS<|zF<|yE 10 mixed uB O O<|ou O (zG O ub O)<|ou O (zH O uB O (J 3 O) O)<|ou O (zG O Ce O)<|ou O (zH O uB O (J 3 O) O)<|ou O (zQ O O)<|ou O (qI O pg O O zB (oI hx))<|ou O (qO O L1 O)<|ou O (zH O uB O qE O)<|ou O (qP O uB (zEk d.Name x.Name hnz (hax x (dp _ (qD hx)))) (oy O))<|ou O (yK O O)<|yY<|zA<|Y O<|zC O D4<|zN yX (J 2 O) O<|G O<|yO [none,some 2] O U qe<|qK O uB (show oK cfg 95 [vE e,vS (pi d.Name x.Name),dF ⟨0,[]⟩] (.tup [vE (lG (pj (λl=>bX l (pi d.Name x.Name) ⟨0,[]⟩) e)),vI (gM (pj (λl=>bX l (pi d.Name x.Name) ⟨0,[]⟩) e))]) by rw [<-sbR hs1.rg];exact zHc e (pi d.Name x.Name) ⟨0,[]⟩ (cb _) (zQh []).rg hs1.rg xK1) (oy O)<|qW O<|kG O<|yF O<|oM O (qJ nt O pd O) λb16=>ow 0 ph O<|om O<|zF<|oo O O<|yL O<|zA<|zK O ?_ ?_<;>intro c6<;>try simp only [sx] at c6
      ·have hE:=(E8 (at_:=qc d) c2 c3).trans (Ww (at_:=qc d) c4 (u5 (u:=(λ_:nq=>(⟨0,[]⟩:Lf))) hs1 hz8 c6))
       exact n5
      ·refine zJ<|Y O<|zN yX (J 0 O) O<|zC O D4<|ow 3 ph O<|zNs (μ':=[E.row b16 62 (lG (pj (λl=>bX l (pi d.Name x.Name) ⟨0,[]⟩) e)).cs,E.row b15 59 s.cells,E.row b11 64 (gE d (qc d) d.Fold b).cs,E.row b5 64 (lR d (qc d) (lG (pj (λl=>bX l (pi d.Name x.Name) ⟨0,[]⟩) e))).cs,E.row b1 70 d.cells]) O<|zA<|yN 8 0 [⟨0,.q [1]⟩,⟨1,.q []⟩,⟨2,.q []⟩,⟨3,.q []⟩,⟨4,.q []⟩,⟨5,.q []⟩,⟨6,.q []⟩,⟨7,.e 1 []⟩] mixed uB uB O O O<|zR O<|zR O<|zR O<|zR O<|zR O<|zR O<|zR O<|zR O<|wG<|ot O (qA O yV O (J 0 O) O)<|ot O (zQ O O)<|ot O (qP O uB (zCz (pi d.Name x.Name)) (oy O))<|ot O (qP O uB (Np s (dK (pi d.Name x.Name)) (by have:=hs2.ln;omega) (by have:=zPy (pi d.Name x.Name);omega) hs2.rg (zVi _)) (oy O))<|ot O (yS O O)<|ot O (kK O O O)<|ot O (kI O O O)<|uh O O uA O O (yP O oZ O O O (tc 0 O O)) ?_
       rintro _ _ ⟨rfl,rfl⟩
       refine ⟨_,O,?_⟩
       refine wE O<|zA<|zP O<|zNs (μ':=[E.row b16 62 (lG (pj (λl=>bX l (pi d.Name x.Name) ⟨0,[]⟩) e)).cs,E.row b15 59 (gS s (dK (pi d.Name x.Name))).1.cells,E.row b11 64 (gE d (qc d) d.Fold b).cs,E.row b5 64 (lR d (qc d) (lG (pj (λl=>bX l (pi d.Name x.Name) ⟨0,[]⟩) e))).cs,E.row b1 70 d.cells]) O<|G O<|qH O ⟨zB,zB⟩<|G O<|zA ?_
       refine ⟨⟨i+1,lG (pj (λl=>bX l (pi d.Name x.Name) ⟨0,[]⟩) e),(gS s (dK (pi d.Name x.Name))).1⟩,⟨zB,zVr (u:=(λ_:nq=>(⟨0,[]⟩:Lf))) (λ_=>O) hs1 hz8 c6,NP (m:=(pi d.Name x.Name)) hs2 hz9 O⟩,(by show d.Red.length-(i+1)<d.Red.length-i;omega),oz [false,true,true,true,true] oH O⟩
     ·have hrl:=FD (d:=d.Name) hlen
      have hE:=(E8 (at_:=qc d) c2 c3).trans (Q6 (at_:=qc d) c4 (u4 hs1 (by rw [pc];omega)) (Lw hs2 zB))
      refine qL<|zF<|yN 6 1 [⟨0,.q [1]⟩,⟨1,.q []⟩,⟨2,.q [2]⟩,⟨3,.q []⟩,⟨4,.q []⟩,⟨5,.f 0⟩] mixed uB uB O O O<|zR O<|zR O<|zR O<|zR O<|zR O<|SA O O (wY (qJ nx O pp O)) ⟨_,_,0,O,O⟩<|wG<|ot O (qA O yV O (J 0 O) O)<|ot O (qP O uB (zOr s) (oy O))<|ot O (qA O uq O (J 0 O) O)<|ot O (kV O oT pp O O O O)<|ot O (LT od O pp yr O O)<|Sx O O ?_
      rintro _ _ ⟨b17,rfl,rfl⟩
      refine wE O<|ow 0 uo O<|zA<|zF<|yN 9 1 [⟨0,.q [4]⟩,⟨2,.q [5]⟩,⟨3,.q []⟩,⟨4,.q [5]⟩,⟨5,.q []⟩,⟨6,.q [1]⟩,⟨7,.q []⟩,⟨8,.q []⟩,⟨1,.e 0 []⟩] mixed uB uB O O O<|zR O<|zR O<|zR O<|zR O<|zR O<|zR O<|zR O<|zR O<|zR O<|wG<|ot O (qA O uq O (J 0 O) O)<|ot O (qA O Ec O (J 0 O) O)<|ot O (zG O Ce O)<|ot O (zH O uB O (J 0 O) O)<|ot O (zQ O O)<|ot O (qA O uq O (J 0 O) O)<|ot O (kV O oT pp O O O O)<|ot O (qP O uB (zMg d d.Red red [ul (nL s) [(gE d (qc d) d.Fold b)]] hlen hnz (λx hx=>hax x (dp _ hx)) zB) ⟨zD,O,zD,O,zD,O,VLe.of_eq (Kw (nL s) (gE d (qc d) d.Fold b)),O,T⟩)<|sk O O uA O O (LS O oT pp O O O O) ?_
      rintro _ _ ⟨sv18,rfl,rfl⟩
      refine ⟨_,O,?_⟩
      refine wE O<|oM O (qZ 0 O oT O O O (by have:=W8 (gU d.Name d.Red red) [ul (nL s) [(gE d (qc d) d.Fold b)]];simp only [pc,qp,pw,qw] at this⊢;omega) (by have:=W8 (gU d.Name d.Red red) [ul (nL s) [(gE d (qc d) d.Fold b)]];simp only [pc,qp,pw,qw] at this⊢;omega)) λsv19=>G O<|om O<|zT _ (yJ 0 O (regs':=[(175,_),(6,_)]) (μ':=[_,_,_,_,_]) ⟨FLe.sl,FLe.sl,T⟩ ⟨EFle.refl _,EFle.refl _,EFle.refl _,EFle.refl _,EFle.refl _,T⟩)<|zM<|oJ (ox O) (ox O) ?_
      rw [hE]
      exact ai (λv=>V.tup [v,vI 0]) (WT (lR d (qc d) e) (fH (gU d.Name d.Red red) [ul (nL s) [gE d (qc d) d.Fold b]]))
end Go.W
end
section
set_option maxRecDepth 10000
namespace Go.W
open Go Go.Eng Go.Proofs Go.L41 Go.Br Tryz
attribute [local irreducible] oU oX TD gF
def zRv (a b:List St) (hE:∀x,x∈a->∀y,oK cfg 42 [GT x,GT y] (vB (decide (x=y)))) (ha:a.length<=4294967296):
    oK cfg 13 [fL a,fL b] (vB (decide (a=b))):=by
 refine zW func13 O ntmps13 results13 O λz hz=>ol O O<|zF<|oo O O<|qC O oT<|G O<|qC O oT<|yL O<|zA<|zK O (λc1=>?_) (λc1=>?_)
 ·exact v12
 ·try simp only [sx] at c1
  refine zJ<|zF<|ol O O<|zS<|zT ⟨[(5,.c _),(0,.c _),(1,.c _)],[]⟩ (oz [] oH O)<|qG 1 0 O O (Nat) (λk=>[(5,vI k)]) (λk=>[]) (λk=>k<=a.length/\(a.take k=b.take k)) (λk=>a.length-k) ⟨0,⟨zB,O⟩,oz [] oH O⟩ ?_
  rintro k ⟨hk,hp⟩
  refine zF<|oo O O<|G O<|qC O oT<|yC O<|zA<|zK O (λc2=>?_) (λc2=>?_)
  ·try simp only [sx] at c2
   obtain ⟨x,hx⟩:=qX a k zB
   obtain ⟨y,hy⟩:=qX b k zB
   refine zJ<|zF<|zS<|zF<|yE 10 mixed uB O O<|ou O (zQ O O)<|ou O (zQ O O)<|ou O (qI O oT O O zB (ta hx))<|ou O (qA O uq O qE O)<|ou O (zQ O O)<|ou O (zQ O O)<|ou O (qI O oT O O zB (ta hy))<|ou O (qA O uq O qE O)<|ou O (qP O uB (hE x (qD hx) y) (oy O))<|ou O (wM O O)<|yY<|zA<|zK O (λc3=>?_) (λc3=>?_)
   ·exact v36
   ·exact m8
  ·exact v16
def vq (a:St) (ih:∀x,x∈a.Body->x.wt<=4294967296->∀y,oK cfg 42 [GT x,GT y] (vB (decide (x=y)))) (ha:a.wt<=4294967296) (b:St):
    oK cfg 42 [GT a,GT b] (vB (decide (a=b))):=by
 refine zW func42 O ntmps42 results42 O ?_
 intro z hz
 have hw:=St.wt_eq a
 have hbl:=G9 a.Body
 refine Y O<|oi O λb1=>oi O λb2=>om O<|Y O<|zC O AG<|zE uB (J 1 O) O<|zC O AG<|zE uB (J 0 O) O<|yR O<|G O<|oL O (λg1_5=>zG O AF O) O<|oG 11 O (λg1_5=>zH O uB O (J 1 O) O) O<|oL O (λg1_5=>zG O AF O) O<|oG 13 O (λg1_5=>zH O uB O (J 0 O) O) O<|oV [(12,_),(14,_)] O oP ⟨O,O,O,O,T⟩ (λg1_5=>VL O O O) O<|kF O (λh=>h)<|G O<|oL O (λg1_12=>zG O Td O) O<|oG 18 O (λg1_12=>zH O uB O (J 1 O) O) O<|oL O (λg1_12=>zG O Td O) O<|oG 20 O (λg1_12=>zH O uB O (J 0 O) O) O<|oV [(19,_),(21,_)] O oP ⟨O,O,O,O,T⟩ (λg1_12=>yU O O O) O<|kF O (λh=>h)<|G O<|oL O (λg1_19=>zG O Xl O) O<|oG 25 O (λg1_19=>zH O uB O (J 1 O) O) O<|oL O (λg1_19=>zG O Xl O) O<|oG 27 O (λg1_19=>zH O uB O (J 0 O) O) O<|oV [(26,_),(28,_)] O oP ⟨O,O,O,O,T⟩ (λg1_19=>yU O O O) O<|kF O (λh=>h)<|G O<|oL O (λg1_26=>zG O Tc O) O<|oG 32 O (λg1_26=>zH O uB O (J 1 O) O) O<|oL O (λg1_26=>zG O Tc O) O<|oG 34 O (λg1_26=>zH O uB O (J 0 O) O) O<|oV [(33,_),(35,_)] O oP ⟨O,O,O,O,T⟩ (λg1_26=>yU O O O) O<|kF O (λh=>h)<|G O<|oL O (λg1_33=>zG O Tb O) O<|oG 39 O (λg1_33=>zH O uB O (J 1 O) O) O<|oL O (λg1_33=>zG O Tb O) O<|oG 41 O (λg1_33=>zH O uB O (J 0 O) O) O<|oV [(40,_),(42,_)] O oP ⟨O,O,O,O,T⟩ (λg1_33=>qP O uB (zUu a.Idx b.Idx zB zB) (oy O)) O<|kF O (λh=>h)<|G O<|oL O (λg1_40=>zG O D4 O) O<|oG 46 O (λg1_40=>qA O yX O (J 1 O) O) O<|oL O (λg1_40=>zG O D4 O) O<|oG 48 O (λg1_40=>qA O yX O (J 0 O) O) O<|oV [(47,_),(49,_)] O oP ⟨O,O,O,O,T⟩ (λg1_40=>qP O uB (AL a.E b.E zB) (oy O)) O<|kF O (λh=>h)<|G O<|oL O (λg1_47=>zG O Cf O) O<|oG 53 O (λg1_47=>zH O uB O (J 1 O) O) O<|oL O (λg1_47=>zG O Cf O) O<|oG 55 O (λg1_47=>zH O uB O (J 0 O) O) O<|oV [(54,_),(56,_)] O oP ⟨O,O,O,O,T⟩ (λg1_47=>qP O uB (zRv a.Body b.Body (λx hx y=>ih x hx (by have:=Og hx;omega) y) zB) (oy O)) O<|kF O (λh=>h)<|om O<|zM<|zV O ?_
 exact ai vB (st_eq a b)
def L9 (a b:St) (ha:a.wt<=4294967296):oK cfg 42 [GT a,GT b] (vB (decide (a=b))):=by
  induction a using St.ind generalizing b with
  |_ a ih=>exact vq a (λx hx h y=>ih x hx y h) ha b
def Hy (a b:List St) (ha:bR a<=4294967296):oK cfg 13 [fL a,fL b] (vB (decide (a=b))):=
  zRv a b (λx hx y=>L9 x y (by have:=Og hx;omega)) (by have:=G9 a;omega)
def L8 (a b:Ns) (ha:a.Ok):
    oK cfg 16 [va a,va b] (vB (decide (a=b))):=by
 refine zW func16 O ntmps16 results16 O ?_
 intro z hz
 have hab:=ha.bufs
 have hbw:=ha.body
 refine Y O<|oi O λb1=>oi O λb2=>om O<|zF<|Y O<|zC O rz<|zE uB (J 1 O) O<|qC O pq<|zC O rz<|zE uB (J 0 O) O<|qC O pq<|yL O<|zA<|zK O (λc1=>?_) (λc1=>?_)
 ·exact v12
 ·try simp only [sx] at c1
  refine zJ<|zF<|ol O O<|zS<|zT ⟨[(5,.c _),(2,.c _),(3,.c _)],[_,_]⟩ (oz [true,true] oH O)<|qG 1 0 O O (Nat) (λk=>[(5,vI k)]) (λk=>[]) (λk=>k<=a.Bufs.length/\(a.Bufs.take k=b.Bufs.take k)) (λk=>a.Bufs.length-k) ⟨0,⟨zB,O⟩,oz [true,true] oH O⟩ ?_
  rintro k ⟨hk,hp⟩
  refine zF<|oo O O<|zC O rz<|zE uB (J 1 O) O<|qC O pq<|yC O<|zA<|zK O ?_ ?_<;>intro c2<;>try simp only [sx] at c2
  ·obtain ⟨x,hx⟩:=qX a.Bufs k zB
   obtain ⟨y,hy⟩:=qX b.Bufs k zB
   refine zJ<|zF<|zS<|zF<|yN 13 2 [⟨0,.q []⟩,⟨1,.q [3]⟩,⟨2,.q []⟩,⟨3,.q []⟩,⟨4,.q []⟩,⟨5,.q []⟩,⟨6,.q [2]⟩,⟨7,.q []⟩,⟨8,.q []⟩,⟨9,.q []⟩,⟨10,.f 1⟩,⟨11,.f 0⟩,⟨12,.g 1 []⟩] mixed uB uB O O O<|zR O<|zR O<|zR O<|zR O<|zR O<|zR O<|zR O<|zR O<|zR O<|zR O<|SA O O (wY (qJ nu O pz O)) ⟨_,_,0,O,O⟩<|SA O O (wY (qJ nu O pz O)) ⟨_,_,0,O,O⟩<|zR O<|wG<|ot O (zG O rz O)<|ot O (zH O uB O (J 0 O) O)<|ot O (zQ O O)<|ot O (qI O pq O O zB (oI uC))<|ot O (qA O He O qE O)<|ot O (zG O rz O)<|ot O (zH O uB O (J 0 O) O)<|ot O (zQ O O)<|ot O (qI O pq O O zB (oI uC))<|ot O (qA O He O qE O)<|Sx O O ?_
   rintro _ _ ⟨b3,rfl,rfl⟩
   refine Sx O O ?_
   rintro _ _ ⟨b4,rfl,rfl⟩
   refine Wz O O uA O O O (yP O rm O O O (tc 0 O O)) O<|wE O<|ow 0 rm O<|zA<|Y O<|zC O SG<|zE uB (J 1 O) O<|zC O SG<|zE uB (J 0 O) O<|zX O (S4 O O O)<|G O<|oL O (λg7_5=>zG O S8 O) O<|oG 38 O (λg7_5=>qA O yD O (J 1 O) O) O<|oL O (λg7_5=>zG O S8 O) O<|oG 40 O (λg7_5=>qA O yD O (J 0 O) O) O<|oV [(39,_),(41,_)] O oP ⟨O,O,O,O,T⟩ (λg7_5=>JE O tf O O O) O<|oN O (λh=>(oY h))<|G O<|oL O (λg7_12=>zG O OF O) O<|oG 45 O (λg7_12=>zH O uB O (J 1 O) O) O<|oL O (λg7_12=>zG O OF O) O<|oG 47 O (λg7_12=>zH O uB O (J 0 O) O) O<|oV [(46,_),(48,_)] O oP ⟨O,O,O,O,T⟩ (λg7_12=>wI O O O) O<|oN O (λh=>(oY h))<|G O<|oL O (λg7_19=>zG O Ta O) O<|oG 52 O (λg7_19=>zH O uB O (J 1 O) O) O<|oL O (λg7_19=>zG O Ta O) O<|oG 54 O (λg7_19=>zH O uB O (J 0 O) O) O<|oV [(53,_),(55,_)] O oP ⟨O,O,O,O,T⟩ (λg7_19=>qP O uB (L6 x.Dims y.Dims (ha.dims x (qD hx))) (oy O)) O<|oG 56 O (λg7_19=>wM O O) O<|oN O (λh=>(oY h))<|zA<|zK O (λc3=>?_) (λc3=>?_)
   ·have c3:(!decide (x.Name=y.Name)|| !dG [cI x.T.Kind,cI x.T.Bits,cI x.T.Frac,cI x.T.Round,cI x.T.Over] [cI y.T.Kind,cI y.T.Bits,cI y.T.Frac,cI y.T.Round,cI y.T.Over]|| !decide (x.Use=y.Use)|| !decide (x.Dims=y.Dims))=true:=c3
    rw [V2] at c3
    have c3:¬x=y:=by simpa using c3
    refine ol O O<|zM<|zV O ?_
    rw [kH (λh=>zIe hx hy c3 (by rw [h]))]
   ·have c3:(!decide (x.Name=y.Name)|| !dG [cI x.T.Kind,cI x.T.Bits,cI x.T.Frac,cI x.T.Round,cI x.T.Over] [cI y.T.Kind,cI y.T.Bits,cI y.T.Frac,cI y.T.Round,cI y.T.Over]|| !decide (x.Use=y.Use)|| !decide (x.Dims=y.Dims))=false:=by first|exact c3|simpa using c3
    rw [V2] at c3
    have c3:x=y:=by simpa using c3
    refine zJ<|zP O<|G O<|qH O ⟨zB,zB⟩<|G O<|zA ?_
    refine ⟨k+1,⟨zB,zDl hx hy hp c3⟩,zB,oz [false,false,true,true] oH O⟩
  ·refine qL<|Y O<|zC O tm<|zE uB (J 1 O) O<|zC O tm<|zE uB (J 0 O) O<|qK O uB (Hy a.Body b.Body zB) (oy O)<|om O<|zM<|zV O ?_
   have hbe:=zGd hp zB zB
   exact ai vB (dk.2 (by rw [Ns.eq_iff];simp [hbe]))
set_option maxHeartbeats 4000000 in
def Nv (p:Pg) (env:List Bd) (hel:env.length<=1000000) (her:∀x,x∈env->oQ x.Val) (hP:p.Ok) (hR:p.Rng) (hS:p.Sm) (i:Int):
    oK cfg 12 [rf p,gJ env,vI i] (.tup [fL (mS (tP p env i)),vI (xI (tP p env i))]):=by
 refine zW func12 O ntmps12 results12 O ?_
 intro z hz
 have hps:=hS.sizes
 refine Y O<|oi O λb1=>qY 20 O<|om O<|zF<|Y O<|zN qv (J 0 O) O<|qK O uB (show oK cfg 34 [rf p] (.tup [vI (bK p).1,vI (bK p).2]) by rw [Sw];exact zJg p hP) (oy O)<|qW O<|yF O<|yF O<|G O<|om O<|oo O O<|yL O<|zA<|zK O ?_ ?_<;>intro c1<;>try simp only [sx] at c1
 ·have hE:=P9 (env:=env) (i:=i) c1
  exact n5
 ·refine zJ<|zF<|Y O<|zN qv (J 0 O) O<|G O<|qK O uB (zHa p env hel her hP hR) (oy O)<|om O<|oo O O<|yL O<|zA<|zK O ?_ ?_<;>intro c2<;>try simp only [sx] at c2
  ·have hE:=Qa (i:=i) c1 c2
   exact n5
  ·refine zJ<|zF<|oo O O<|yC O<|G O<|oL O (λg7_2=>zQ O O) O<|oL O (λg7_2=>zG O ry O) O<|oG 40 O (λg7_2=>zH O uB O (J 0 O) O) O<|oG 41 O (λg7_2=>yH O pt O) O<|oV [(39,_),(42,_)] O oP ⟨O,O,O,O,T⟩ (λg7_2=>wN O O O) O<|oN O (λh=>(oY h))<|zA<|zK O ?_ ?_<;>intro c3<;>try simp only [sx] at c3
   ·have hE:=P8 c1 c2 WO
    exact v78
   ·obtain ⟨di,rfl⟩:∃di:Nat,i=di:=⟨i.toNat,zB⟩
    obtain ⟨d,hd⟩:=qX p.Defs di zB
    have hdm:=qD hd
    have hdR:=(hR.ds d hdm).2.2
    have hsm:=hS.ds d hdm
    have hd6:=zLw c1 d hdm
    have hnz:d.Name.size<=100000:=aL (zQu (zr c1 d hdm)) uA
    have hax:∀x,x∈d.Dims++d.Red->x.Name.size<=100000:=λx hx=>aL (vm c1 hdm x hx) uA
    have hns:∀s,s∈bD d->s.size<=16:=λs hs=>by obtain ⟨x,hx,rfl⟩:=Us hs;exact vm c1 hdm x hx
    have hnl:=Ut c1 hdm
    have hE0:=uU c1 c2 hd
    refine zJ<|Y O<|zC O ry<|zE uB (J 0 O) O<|G O<|qF O pt zB (oI hd)<|zN Ec qE O<|oM O (qJ oa O Ot O) λb2=>ow 0 Vi O<|zA<|Y O<|zN qv (J 1 O) O<|G O<|zC O ub<|zE uB (J 0 O) O<|qK O uB (show oK cfg 36 [rf p,gJ env,vS d.Name] (.tup [ss (mT p env d.Name).1,vI (jQ p env d.Name)]) by have h9:=zSn p d.Name env hel her hP hR;rw [zOf c1 c2] at h9;exact h9) (oy O)<|qW O<|yF O<|yF O<|G O<|om O<|zF<|oo O O<|yL O<|zA<|zK O ?_ ?_<;>intro c4<;>try simp only [sx] at c4
    ·have hE:=hE0.trans (C3 c4)
     exact n5
    ·rw [Xm c4]
     refine zJ<|oo O O<|yQ _ (kD 3 1)<|zA<|zF<|ol O O<|zS<|zT ⟨[(15,.c _),(14,.c _),(1,.c _),(3,.c _),(11,.c _),(12,.c _)],[_,_,_]⟩ (oz [true,true,true] oH O)<|qG 2 1 O O (Nat×Value) (λ⟨k,sv⟩=>[(15,vI k),(14,.c (.lit sv))]) (λ⟨k,sv⟩=>[E.vec sv 3 1 ((fB env ((d.Red.take k).map Ax.Size)).map λn=>[cI n])]) (λ⟨k,sv⟩=>k<=d.Red.length/\(fO env (d.Red.map Ax.Size)=fO env ((d.Red.map Ax.Size).drop k))) (λ⟨k,sv⟩=>d.Red.length-k) ⟨⟨0,(.slice none 0 0)⟩,⟨zB,O⟩,oz [true,true,true] oH O⟩ ?_
     rintro ⟨k,sv⟩ ⟨hk,hp⟩
     show oU _ _ _ _ _ ⟨[(15,vI k),(14,.c (.lit sv))]++_,[E.vec sv 3 1 ((fB env ((d.Red.take k).map Ax.Size)).map λn=>[cI n])]++_⟩
     refine zF<|oo O O<|zC O Ce<|zE uB (J 1 O) O<|qC O pg<|yC O<|zA<|zK O ?_ ?_<;>intro c5<;>try simp only [sx] at c5
     ·obtain ⟨x,hx⟩:=qX d.Red k zB
      have hxx:(d.Red.map Ax.Size)[k]? =some x.Size:=Xf hx
      refine zJ<|zF<|zS<|Y O<|zC O Ce<|zE uB (J 1 O) O<|G O<|qF O pg zB (oI hx)<|qS O zZm<|zN yV qE O<|G O<|qK O uB (zSq x.Size env hel her ((hP.ds d hdm).2.2.2.1 x (qD hx)) ((hR.ds d hdm).2.1 x (qD hx))) (oy O)<|qW O<|yF O<|yF O<|G O<|om O<|zF<|oo O O<|yL O<|zA<|zK O ?_ ?_<;>intro c6<;>try simp only [sx] at c6
      ·have hX:=uP hxx hp c6
       have hE:=hE0.trans (C4 c4 (by rw [hX];exact c6))
       rw [hX] at hE
       exact n5
      ·refine zJ<|zF<|oo O O<|yC O<|G O<|oL O (λg20_2=>zQ O O) O<|oG 85 O (λg20_2=>kE O O O) O<|oN O (λh=>(oY h))<|zA<|zK O ?_ ?_<;>intro c7<;>try simp only [sx] at c7
       ·have hX:=uN hxx hp c6 (by simpa using c7)
        have hE:=hE0.trans (C4 c4 (by rw [hX];decide))
        rw [hX] at hE
        exact v78
       ·have hn:=zWe hxx hp c6 (by simpa using c7)
        refine zJ<|zP O<|G O<|G O<|yT O pf Oq<|oM O (qZ 0 O pf O O O WP WP) λsv4=>om O<|zP O<|G O<|qH O ⟨zB,zB⟩<|G O<|zA ?_
        refine ⟨⟨k+1,sv4⟩,⟨zB,hn⟩,(by show d.Red.length-(k+1)<d.Red.length-k;omega),oz [true,true,true] oH (by exact SB (by rw [yB hx,ah];unfold fB;rw [ah,ah];rfl))⟩
     ·have hX:=uO (show (d.Red.map Ax.Size).length<=k by rw [pc];omega) hp
      rw [yG (l:=d.Red) (k:=k) zB]
      refine zT _ (yJ 0 O (regs':=[(14,_)]) (μ':=[_,_]) ⟨FLe.sl,T⟩ ⟨EFle.refl _,EFle.refl _,T⟩)<|qL<|Y O<|zN Ec (J 0 O) O<|qK O uB (OwnR.pur (zHb d zB zB)) (oy O)<|om O<|zF<|ol O O<|zS<|zT ⟨[(19,.c _),(1,.c _),(3,.c _),(11,.c _),(12,.c _),(14,.c _),(18,.c _)],[_,_]⟩ (oz [true,true] oH O)<|qG 1 0 O O (Nat) (λj=>[(19,vI j)]) (λj=>[]) (λj=>j<=(bD d).length/\(((bD d).take j).any (λs=>decide (pi d.Name s=bs []))=false)) (λj=>(bD d).length-j) ⟨0,⟨zB,O⟩,oz [true,true] oH O⟩ ?_
      rintro j ⟨hj,hq⟩
      refine zF<|oo O O<|G O<|qC O oR<|yC O<|zA<|zK O ?_ ?_<;>intro c8<;>try simp only [sx] at c8
      ·obtain ⟨s,hs⟩:=qX (bD d) j zB
       refine zJ<|zF<|zS<|zF<|yE 8 mixed uB O O<|ou O (zG O ub O)<|ou O (zH O uB O (J 0 O) O)<|ou O (zQ O O)<|ou O (zQ O O)<|ou O (qI O oR O O zB (oI hs))<|ou O (zH O uB O qE O)<|ou O (qP O uB (zEk d.Name s hnz (by have:=hns s (qD hs);omega)) (oy O))<|ou O (VL O O O)<|yY<|zA<|zK O ?_ ?_<;>intro c9<;>try simp only [sx] at c9
       ·have hE:=hE0.trans (Qb c4 hX (qD hs) c9)
        exact v78
       ·refine zJ<|zP O<|G O<|qH O ⟨zB,zB⟩<|G O<|zA ?_
        refine ⟨j+1,⟨zB,ZW hs hq (am c9)⟩,zB,oz [true,true] oH O⟩
      ·rw [yG zB] at hq
       obtain ⟨hz1,hz2⟩:=Ux hq
       have hgd:=xe hz1 hz2
       have hE1:=hE0.trans (Ie c4 hX hz1 hz2)
       refine qL<|Y O<|zN qv (J 1 O) O<|G O<|zN Ec (J 0 O) O<|qK O uB (I8 p d env hel her zB hd6.1 hd6.2 zB hdR hnz hns) (oy O)<|qW O<|kG O<|yF O<|oM O (qJ nt O pd O) λb5=>ow 0 ph O<|om O<|zF<|oo O O<|yL O<|zA<|zK O ?_ ?_<;>intro c10<;>try simp only [sx] at c10
       ·obtain ⟨x,hx⟩:=TJ c10
        have hE:=hE1.trans (HB c1 hdm hdR hgd hx)
        rw [hx]
        exact n5
       ·obtain ⟨e0,hx⟩:=UF c10 (λx hx=>OU hx)
        obtain ⟨e1,hB1,rfl⟩:=Tm c1 hdm hdR hgd hx
        have hw9:=Ua zB hdR hB1
        rw [hx]
        refine zJ<|Y O<|zN Ec (J 1 O) O<|zN yX (J 0 O) O<|G O<|qK O uB (Gh d (qh (gP ((bD d).map (pi d.Name)) (bD d)) e1) (fB env (d.Red.map Ax.Size)) (by unfold fB;rw [pc,pc]) hd6.1 hd6.2 hnz hax hw9.1 hw9.2 (λh5=>zt c1 hdm h5)) (oy O)<|qW O<|yF O<|yF O<|G O<|om O<|zF<|oo O O<|yL O<|zA<|zK O ?_ ?_<;>intro c11<;>try simp only [sx] at c11
        ·obtain ⟨x,hx2⟩:=zZy c11
         have hE:=hE1.trans (Ub c1 hd hB1 hx2)
         rw [hx2]
         exact n5
        ·obtain ⟨l,hx2⟩:=wp (λx hx=>Ym hx) c11
         have hE:=hE1.trans (Uc c1 hd hB1 hx2)
         rw [hx2]
         refine zJ<|Y O<|zN Ec (J 1 O) O<|zC O D8<|zE uB (J 1 O) O<|G O<|G O<|qK O uB (zMg d d.Dims (fB env (p.en.find d.Name).dims) l (by unfold fB;rw [zNq c1 hd,pc,pc]) hnz (λx hx=>hax x (d7 _ hx)) zB) (oy O)<|G O<|om O<|zM<|oJ (ox O) (ox O) ?_
         rw [hE];rfl
set_option maxHeartbeats 4000000 in
def I7 (p:Pg) (env:List Bd) (hel:env.length<=1000000) (her:∀x,x∈env->oQ x.Val) (hP:p.Ok) (hR:p.Rng) (hS:p.Sm):
    oK cfg 15 [rf p,gJ env] (.tup [va (jM p env).1,vI (jM p env).2]):=by
 refine zW func15 O ntmps15 results15 O ?_
 intro z hz
 have hq1:=hS.outs
 have hq2:=hS.params
 have hq3:=hS.defs
 have hdR:∀d,d∈p.Defs->d.Body.allF Lf.rng:=λd hd=>(hR.ds d hd).2.2
 refine Y O<|oi O λb1=>oM O (qJ [some 8,some 20] O ri O) λb2=>om O<|zF<|Y O<|zN qv (J 1 O) O<|qK O uB (show oK cfg 34 [rf p] (.tup [vI (bK p).1,vI (bK p).2]) by rw [Sw];exact zJg p hP) (oy O)<|qW O<|yF O<|yF O<|G O<|om O<|oo O O<|yL O<|zA<|zK O ?_ ?_<;>intro c1<;>try simp only [sx] at c1
 ·have hE:=Qh (env:=env) c1
  exact v17
 ·refine zJ<|zF<|Y O<|zN qv (J 1 O) O<|G O<|qK O uB (zHa p env hel her hP hR) (oy O)<|om O<|oo O O<|yL O<|zA<|zK O ?_ ?_<;>intro c2<;>try simp only [sx] at c2
  ·have hE:=Qi c1 c2
   exact v17
  ·refine zJ<|Y O<|yI O ri um<|oM O (yA O ri) λb3=>ow 0 rv O<|zA<|zF<|Y O<|yQ _ (kD 66 8)<|yQ _ (kD 64 20)<|om O<|zS<|zT ⟨[(10,.c _),(1,.c _),(2,.c _),(4,.c _),(9,.c _)],[_,_,_,_,_]⟩ (oz [true,true,true,true,true] oH O)<|qG 1 0 O O (Nat) (λk=>[(10,vI k)]) (λk=>[]) (λk=>k<=p.Params.length/\((p.Params.take k).any (λx=>bQ p.Outs x.Name)=false)) (λk=>p.Params.length-k) ⟨0,⟨zB,O⟩,oz [true,true,true,true,true] oH O⟩ ?_
   rintro k ⟨hk,hp⟩
   refine zF<|oo O O<|zC O uc<|zE uB (J 4 O) O<|qC O qg<|yC O<|zA<|zK O ?_ ?_<;>intro c3<;>try simp only [sx] at c3
   ·obtain ⟨x,hx⟩:=qX p.Params k zB
    obtain ⟨x,hx⟩:=qX p.Params k zB
    refine zJ<|zF<|zS<|zF<|yE 9 mixed uB O O<|ou O (zG O Oo O)<|ou O (zH O uB O (J 4 O) O)<|ou O (zG O uc O)<|ou O (zH O uB O (J 4 O) O)<|ou O (zQ O O)<|ou O (qI O qg O O zB (oI hx))<|ou O (qO O OE O)<|ou O (zH O uB O qE O)<|ou O (qP O uB (VM p.Outs x.Name zB) (oy O))<|yY<|zA<|zK O ?_ ?_<;>intro c4<;>try simp only [sx] at c4
    ·have hE:=T9 c1 c2 (qD hx) c4
     refine Y O<|yO [some 8,some 20] O ri um<|ow 3 rv O<|om O<|zM<|oJ (zY ro O (J 3 O) O) (ox O) ?_
     rw [hE];rfl
    ·refine zJ<|zP O<|G O<|qH O ⟨zB,zB⟩<|G O<|zA ?_
     refine ⟨k+1,⟨zB,ZW hx hp c4⟩,zB,oz [true,true,true,true,true] oH O⟩
   ·rw [yG zB] at hp
    have hp:=Ng hp
    refine qL<|zF<|ol O O<|zS<|zT ⟨[(11,.c _),(1,.c _),(2,.c _),(4,.c _),(9,.c _)],[_,_,_,_,_]⟩ (oz [true,true,true,true,true] oH O)<|qG 1 3 O O (Nat×Value) (λ⟨i,sv⟩=>[(11,vI i)]) (λ⟨i,sv⟩=>[E.vec (.slice none 0 0) 64 20 ([]),E.vec sv 66 8 (((p.Params.take i).map (pH p env)).map Bf.cells),E.row b3 41 [.lit sv,.lit (.slice none 0 0)]]) (λ⟨i,sv⟩=>i<=p.Params.length/\(nK p env p.Params=nK p env (p.Params.drop i))) (λ⟨i,sv⟩=>p.Params.length-i) ⟨⟨0,(.slice none 0 0)⟩,⟨zB,O⟩,oz [true,true,true,true,true] oH O⟩ ?_
    rintro ⟨i,sv⟩ ⟨hi,hq⟩
    show oU _ _ _ _ _ ⟨[(11,vI i)]++_,[E.vec (.slice none 0 0) 64 20 ([]),E.vec sv 66 8 (((p.Params.take i).map (pH p env)).map Bf.cells),E.row b3 41 [.lit sv,.lit (.slice none 0 0)]]++_⟩
    refine zF<|oo O O<|zC O uc<|zE uB (J 4 O) O<|qC O qg<|yC O<|zA<|zK O ?_ ?_<;>intro c5<;>try simp only [sx] at c5
    ·obtain ⟨x,hx⟩:=qX p.Params i zB
     obtain ⟨x,hx⟩:=qX p.Params i zB
     refine zJ<|zF<|zS<|zF<|yE 14 mixed uB O O<|ou O (qA O qv O (J 4 O) O)<|ou O (zQ O O)<|ou O (zG O uc O)<|ou O (zH O uB O (J 4 O) O)<|ou O (zQ O O)<|ou O (qI O qg O O zB (oI hx))<|ou O (qO O OE O)<|ou O (zH O uB O qE O)<|ou O (qP O uB (show oK cfg 36 [rf p,gJ env,vS x.Name] (.tup [ss (mT p env x.Name).1,vI (jQ p env x.Name)]) by have h9:=zSn p x.Name env hel her hP hR;rw [zOf c1 c2] at h9;exact h9) (oy O))<|ou O (yS O O)<|ou O (kI O O O)<|ou O (kI O O O)<|ou O (yK O O)<|ou O (yK O O)<|yY<|zA<|zF<|oo O O<|yL O<|zA<|zK O ?_ ?_<;>intro c6<;>try simp only [sx] at c6
     ·have hE:=Qg c1 c2 hp (Lj hx hq c6) c6
      refine Y O<|yO [some 8,some 20] O ri um<|G O<|ow 3 rv O<|om O<|zM<|oJ (zY ro O (J 3 O) O) (ox O) ?_
      rw [hE];rfl
     ·rw [Xm c6]
      refine zJ<|yE 17 mixed uB O O<|ou O (zG O rz O)<|ou O (zH O uB O (J 2 O) O)<|ou O (zG O uc O)<|ou O (zH O uB O (J 4 O) O)<|ou O (zQ O O)<|ou O (qI O qg O O zB (oI hx))<|ou O (qO O OE O)<|ou O (zH O uB O qE O)<|ou O (zG O uc O)<|ou O (zH O uB O (J 4 O) O)<|ou O (zQ O O)<|ou O (qI O qg O O zB (oI hx))<|ou O (qO O zZn O)<|ou O (qA O yD O qE O)<|ou O (zQ O O)<|ou O (LU O pz QW O)<|ou O (kV O pq pz O O O O)<|yY<|oM O (qZ 1 O pq O O O uD uD) λsv4=>zC O rz<|ow 2 Jn O<|zA<|zP O<|G O<|qH O ⟨zB,zB⟩<|G O<|zA ?_
      refine ⟨⟨i+1,sv4⟩,⟨zB,FV hx hq c6⟩,(by show p.Params.length-(i+1)<p.Params.length-i;omega),oz [true,true,true,true,true] oH (by show _=[E.vec (.slice none 0 0) _ 20 [],E.vec sv4 _ 8 (((p.Params.take (i+1)).map (pH p env)).map Bf.cells),E.row b3 _ [.lit sv4,.lit (.slice none 0 0)]]++_;rw [yB hx,ah,ah];rfl)⟩
    ·have hQ:=Li hq (show p.Params.length<=i by omega)
     rw [yG (l:=p.Params) (k:=i) zB]
     refine qL<|zF<|ol O O<|zS<|zT ⟨[(14,.c _),(1,.c _),(2,.c _),(4,.c _),(9,.c _)],[_,_,_,_,_]⟩ (oz [true,true,true,true,true] oH O)<|qG 1 3 O O (Nat×Value×Value) (λ⟨j,sw,sx9⟩=>[(14,vI j)]) (λ⟨j,sw,sx9⟩=>[E.vec sw 64 20 (((p.Defs.take j).flatMap λd=>mS (gL p env d)).map St.cells),E.vec sx9 66 8 (((p.Params.map (pH p env))++(p.Defs.take j).map (mG p env)).map Bf.cells),E.row b3 41 [.lit sx9,.lit sw]]) (λ⟨j,sw,sx9⟩=>j<=p.Defs.length/\(mZ p env p.Defs=mZ p env (p.Defs.drop j))/\(bR ((p.Defs.take j).flatMap λd=>mS (gL p env d))<=j*3200)) (λ⟨j,sw,sx9⟩=>p.Defs.length-j) ⟨⟨0,(.slice none 0 0),sv⟩,⟨zB,O,cb _⟩,oz [true,true,true,true,true] oH (by show _=[E.vec (.slice none 0 0) _ 20 [],E.vec sv _ 8 ((p.Params.map (pH p env)++[]).map Bf.cells),E.row b3 _ [.lit sv,.lit (.slice none 0 0)]]++_;rw [rk];rfl)⟩ ?_
     rintro ⟨j,sw,sx9⟩ ⟨hj,hr,hr9⟩
     show oU _ _ _ _ _ ⟨[(14,vI j)]++_,[E.vec sw 64 20 (((p.Defs.take j).flatMap λd=>mS (gL p env d)).map St.cells),E.vec sx9 66 8 (((p.Params.map (pH p env))++(p.Defs.take j).map (mG p env)).map Bf.cells),E.row b3 41 [.lit sx9,.lit sw]]++_⟩
     refine zF<|oo O O<|zC O ry<|zE uB (J 4 O) O<|qC O pt<|yC O<|zA<|zK O ?_ ?_<;>intro c7<;>try simp only [sx] at c7
     ·obtain ⟨d,hd⟩:=qX p.Defs j zB
      obtain ⟨d,hd⟩:=qX p.Defs j zB
      refine zJ<|zF<|zS<|Y O<|zN qv (J 4 O) O<|G O<|G O<|qK O uB (show oK cfg 12 [rf p,gJ env,vI (j:Int)] (.tup [fL (mS (gL p env d)),vI (xI (gL p env d))]) by rw [<-uU c1 c2 hd];exact Nv p env hel her hP hR hS j) (oy O)<|qW O<|yF O<|yF O<|G O<|om O<|zF<|oo O O<|yL O<|zA<|zK O ?_ ?_<;>intro c8<;>try simp only [sx] at c8
      ·obtain ⟨x9,hx9⟩:=zZy c8
       have hE:=Qd c1 c2 hp hQ (J2 hd hr hx9) (uV hx9)
       rw [hx9]
       refine Y O<|yO [some 8,some 20] O ri um<|G O<|ow 3 rv O<|om O<|zM<|oJ (zY ro O (J 3 O) O) (ox O) ?_
       rw [hE];rfl
      ·obtain ⟨x9,hx9⟩:=wp (λx hx=>uV hx) c8
       have hd0:=Fr hx9
       rw [hx9]
       have hlw:=GJ hS c1 hdR hr9 hd hx9
       have hl7:=DR hS c1 hdR (qD hd) hx9
       have hl8:=G9 ((p.Defs.take j).flatMap λd=>mS (gL p env d))
       have hl9:(mS (Except.ok x9)).length<=bR x9:=G9 x9
       refine zJ<|zF<|yE 14 mixed uB O O<|ou O (qA O qv O (J 4 O) O)<|ou O (zQ O O)<|ou O (zG O ry O)<|ou O (zH O uB O (J 4 O) O)<|ou O (zQ O O)<|ou O (qI O pt O O zB (oI hd))<|ou O (qO O ub O)<|ou O (zH O uB O qE O)<|ou O (qP O uB (show oK cfg 36 [rf p,gJ env,vS d.Name] (.tup [ss (mT p env d.Name).1,vI (jQ p env d.Name)]) by have h9:=zSn p d.Name env hel her hP hR;rw [zOf c1 c2] at h9;exact h9) (oy O))<|ou O (yS O O)<|ou O (kI O O O)<|ou O (kI O O O)<|ou O (yK O O)<|ou O (yK O O)<|yY<|zA<|zF<|yN 15 1 [⟨0,.q []⟩,⟨1,.q [5]⟩,⟨2,.q []⟩,⟨3,.q []⟩,⟨4,.q []⟩,⟨5,.q []⟩,⟨6,.q []⟩,⟨7,.q [5]⟩,⟨8,.q []⟩,⟨9,.q []⟩,⟨10,.q []⟩,⟨11,.q []⟩,⟨12,.q []⟩,⟨13,.q []⟩,⟨14,.f 0⟩] mixed uB uB O O O<|zR O<|zR O<|zR O<|zR O<|zR O<|zR O<|zR O<|zR O<|zR O<|zR O<|zR O<|zR O<|zR O<|zR O<|SA O O (wY (qJ nu O pz O)) ⟨_,_,0,O,O⟩<|wG<|ot O (zG O ry O)<|ot O (zH O uB O (J 0 O) O)<|ot O (zQ O O)<|ot O (qI O pt O O zB (oI hd))<|ot O (qO O ub O)<|ot O (zH O uB O qE O)<|ot O (zG O ry O)<|ot O (zH O uB O (J 0 O) O)<|ot O (zQ O O)<|ot O (qI O pt O O zB (oI hd))<|ot O (qO O On O)<|ot O (qA O yD O qE O)<|ot O (zQ O O)<|ot O (LU O pz QW O)<|Sx O O ?_
       rintro _ _ ⟨b5,rfl,rfl⟩
       refine wE O<|ow 0 rm O<|zA<|zF<|Y O<|zC O Oo<|zE uB (J 5 O) O<|zC O SG<|zE uB (J 0 O) O<|qK O uB (VM p.Outs d.Name zB) (oy O)<|zA<|zK O ?_ ?_<;>intro c9<;>try simp only [sx] at c9
       ·rw [Xm hd0]
        have hbf:=V3 (p:=p) (env:=env) c9
        refine zP O<|zC O OF<|ow 0 sz3 O<|zA<|Y O<|zC O rz<|zE uB (J 3 O) O<|zN He (J 0 O) O<|yT O pq pz<|oM O (qZ 2 O pq O O O uD uD) λsv6=>zC O rz<|ow 3 Jn O<|zA<|zP O<|zC O tm<|zE uB (J 3 O) O<|G O<|oM O (qZ 1 O oT O O O uI uI) λsv7=>zC O tm<|ow 3 RO O<|zA<|zP O<|G O<|qH O ⟨zB,zB⟩<|G O<|zA ?_
        refine ⟨⟨j+1,sv7,sv6⟩,⟨zB,zWl hd hr hx9,hlw⟩,(by show p.Defs.length-(j+1)<p.Defs.length-j;omega),oz [false,true,true,true,true,true] oH (by show _=[E.vec sv7 _ 20 (((p.Defs.take (j+1)).flatMap λd=>mS (gL p env d)).map St.cells),E.vec sv6 _ 8 ((p.Params.map (pH p env)++(p.Defs.take (j+1)).map (mG p env)).map Bf.cells),E.row b3 _ [.lit sv6,.lit sv7]]++_;rw [C5 hd hx9,C6 hd hbf];rfl)⟩
       ·rw [Xm hd0]
        have hbf:=V4 (p:=p) (env:=env) c9
        refine zJ<|Y O<|zC O rz<|zE uB (J 3 O) O<|zN He (J 0 O) O<|yT O pq pz<|oM O (qZ 2 O pq O O O uD uD) λsv8=>zC O rz<|ow 3 Jn O<|zA<|zP O<|zC O tm<|zE uB (J 3 O) O<|G O<|oM O (qZ 1 O oT O O O uI uI) λsv9=>zC O tm<|ow 3 RO O<|zA<|zP O<|G O<|qH O ⟨zB,zB⟩<|G O<|zA ?_
        refine ⟨⟨j+1,sv9,sv8⟩,⟨zB,zWl hd hr hx9,hlw⟩,(by show p.Defs.length-(j+1)<p.Defs.length-j;omega),oz [false,true,true,true,true,true] oH (by show _=[E.vec sv9 _ 20 (((p.Defs.take (j+1)).flatMap λd=>mS (gL p env d)).map St.cells),E.vec sv8 _ 8 ((p.Params.map (pH p env)++(p.Defs.take (j+1)).map (mG p env)).map Bf.cells),E.row b3 _ [.lit sv8,.lit sv9]]++_;rw [C5 hd hx9,C6 hd hbf];rfl)⟩
     ·have hD:=J1 hr (show p.Defs.length<=j by omega)
      rw [yG (l:=p.Defs) (k:=j) zB]
      refine zT _ (yJ 0 O (regs':=[]) (μ':=[_,_,_,_]) T ⟨EFle.refl _,EFle.row (ds:=[_,_]) ⟨.inl O,.inr ⟨O,O⟩,T⟩,EFle.refl _,EFle.refl _,T⟩)<|zT _ (yJ 0 O (regs':=[]) (μ':=[_,_,_]) T ⟨EFle.row (ds:=[_,_]) ⟨.inr ⟨O,O⟩,.inl O,T⟩,EFle.refl _,EFle.refl _,T⟩) ?_
      have hok:=If (env:=env) hS c1 hdR
      refine qL<|zF<|Y O<|zN ro (J 0 O) O<|qK O uB (yz (rF p env) hok.1 hok.2) (oy O)<|qW O<|yF O<|yF O<|G O<|om O<|oo O O<|yL O<|zA<|zK O (λc10=>?_) (λc10=>?_)
      ·exact v83
      ·try simp only [sx] at c10
       have hE:=KL c1 c2 hp hQ hD c10
       refine zJ<|Y O<|zN ro (J 0 O) O<|ow 1 rv O<|om O<|zM<|oJ (zY ro O (J 1 O) O) (ox O) ?_
       rw [hE];rfl
def law_LowerProgs (p:Pg) (env:List Bd) (hp:p.Fit) (hF:p.Frm) (hR:p.Rng) (hl:env.length<=140737488355328) (her:∀x,x∈env->oQ x.Val):
    oK cfg 5 [rf p,gJ env] (vB true):=by
 refine zW func5 O ntmps5 results5 O λz hz=>Y O<|oi O λb1=>om O<|zF<|Y O<|zN qv (J 0 O) O<|qK O uB (Ff p hp) (oy O)<|kQ O<|G O<|oL O (λg1_3=>zQ O O) O<|oG 13 O (λg1_3=>yH O qa O) O<|oG 14 O (λg1_3=>kE O O O) O<|oN O (λh=>(oY h))<|zA<|zK O (λc1=>?_) (λc1=>?_)
 ·refine Y O<|qK O uB zOv T<|om O<|zM<|zV O ?_
  exact O
 ·try simp only [sx] at c1
  obtain ⟨c1,c1b⟩:=c1
  have hS:=Zl c1 hF
  have hq1:=hS.params
  have hq2:=hS.defs
  have hdR:∀d,d∈p.Defs->d.Body.allF Lf.rng:=λd hd=>(hR.ds d hd).2.2
  refine zJ<|Y O<|zN qv (J 0 O) O<|G O<|qK O uB (zTh p env zB her hS.ok hR hS) (oy O)<|qW O<|kG O<|yF O<|oM O (qJ [some 8,some 20] O ri O) λb2=>ow 0 rv O<|om O<|Y O<|zN qv (J 1 O) O<|G O<|qK O uB (I7 p env zB her hS.ok hR hS) (oy O)<|qW O<|kG O<|yF O<|oM O (qJ [some 8,some 20] O ri O) λb3=>ow 0 rv O<|om O<|Y O<|zN ro (J 1 O) O<|zN ro (J 0 O) O<|qK O uB (L8 (jM p env).1 (jM p env).1 (Qf hS hdR)) (oy O)<|G O<|oL O (λg5_3=>zQ O O) O<|oL O (λg5_3=>zQ O O) O<|oV [(34,_),(35,_)] O oP ⟨O,O,O,O,T⟩ (λg5_3=>yU O O O) O<|kF O (λh=>h)<|G O<|oL O (λg5_8=>qP O uB zOv T) O<|kF O (λh=>h)<|om O<|zM<|zV O ?_
  exact ai vB uF
end Go.W
end
