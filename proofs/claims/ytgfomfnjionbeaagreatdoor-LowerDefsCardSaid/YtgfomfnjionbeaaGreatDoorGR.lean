/-
  What functions compute.
  And what the laws need besides.
  Conditions: none.
-/
import Derived.Test.YtgfomfnjionbeaaGreatDoorGL
import Derived.Test.YtgfomfnjionbeaaGreatDoorPlainL
set_option linter.unusedSimpArgs false
set_option linter.unusedVariables false
set_option linter.defProp false
section
set_option maxRecDepth 10000
namespace Go.W
open Go Go.Eng Go.Proofs Go.L41 Go.Br Tryz
attribute [local irreducible] AWP RWP TD fY
def plus_c1 {a b:Int} (hb:r64 b) (c:(0<b/\9223372036854775807-b<a)∨(b<0/\a< -9223372036854775808-b)):hY a b=(0,false):=by
  unfold hY;rw [aa (by unfold r64;omega)]
def plus_c0 {a b:Int} (ha:r64 a) (hb:r64 b) (c:¬((0<b/\9223372036854775807-b<a)∨(b<0/\a< -9223372036854775808-b))):hY a b=(a+b,true):=by
  unfold hY;rw [ab (by unfold r64 at *;omega)]
def swR (l:List nn) (s:nn) (i:Nat):List (List C):=fM (l.take i++s::l.drop i)
variable {l:List nn} {i:Nat} {s:nn}
def zQu (h:i<=l.length):(swR l s i).length=l.length+1:=by
  unfold swR fM;simp;omega
def swR_at (h:i<=l.length):(swR l s i)[i]? =some [cS s]:=by
  unfold swR fM
  rw [ah,cy (by rw [lLm,aq];omega)]
  simp [bf h]
variable {y:nn}
def swR_at1 (h:i<=l.length) (h0:0<i) (hy:l[i-1]? =some y):(swR l s i)[i-1]? =some [cS y]:=by
  unfold swR fM
  rw [ah,aV uD,cb,ay,ab zB,hy];rfl
def swR_step (h:i<=l.length) (h0:0<i) (hy:l[i-1]? =some y):((swR l s i).set i [cS y]).set (i-1) [cS s]=swR l s (i-1):=by
  have e1:l.take i=l.take (i-1)++[y]:=by
    have:=yA hy
    rwa [show i-1+1=i by omega] at this
  have e2:l.drop (i-1)=y::l.drop i:=by
    have:=qJ hy
    rwa [show i-1+1=i by omega] at this
  unfold swR
  rw [e1,e2]
  simp only [fM,ah,aH,bp,lAa,lCa,lNa]
  have hl:(List.map (fun s=>[cS s]) (l.take (i-1))).length=i-1:=by simp;omega
  rw [fi _ _ zB,fi _ _ zB,hl]
  rw [show i-(i-1)=1 by omega,show i-1-(i-1)=0 by omega]
  rfl
def ins_has (ha:tV l) (h:bQ l s=true):nF l s=l:=
  asc_ext5 (insW_asc s ha) ha fun t=>by
    rw [insW_mem]
    constructor
    · rintro (h1|rfl)
      · exact h1
      · exact zEb.1 h
    · exact .inl
def swR_next (h0:0<i) (hy:l[i-1]? =some y) (c:bF s y=true) (hb:∀z,z∈l.drop i->bF s z=true):∀z,z∈l.drop (i-1)->bF s z=true:=by
  have e2:l.drop (i-1)=y::l.drop i:=by
    have:=qJ hy
    rwa [show i-1+1=i by omega] at this
  rw [e2]
  intro z hz
  rcases ag.1 hz with rfl|hz
  · exact c
  · exact hb z hz
def lt_of_no {a b:nn} (h:bF a b=false) (k:¬a=b):bF b a=true:=by
  cases q:bF b a with
  |true=>rfl
  |false=>exact absurd (zBr h q) k
def no_of_lt {a b:nn} (h:bF a b=false->a=b):bF b a=false:=by
  cases k:bF a b with
  |true=>exact zQy k
  |false=>rw [h k];exact zCj _
def set_other {A:List (List C)} {r x:List C} (h0:0<i) (h:A[i-1]? =some x):(A.set i r)[i-1]? =some x:=by
  rw [ct zB,h]
def coeff_r {l:List Mono} (h:∀m,m∈l->r64 m.By) (s:nn):r64 (dG l s):=by
  induction l with
  |nil=>show r64 0;unfold r64;omega
  |cons x r ih=>
    rw [dG]
    split
    · exact h x (bm ..)
    · exact ih fun m hm=>h m (aJ _ hm)
def nmM (l:Lf):List nn:=l.L.map Mono.Name
variable {k:Nat}
def nm_step {l:List Mono} {m:Mono} (h:l[k]? =some m) (w:List nn):nF (gY [] (w++(l.take k).map Mono.Name)) m.Name=gY [] (w++(l.take (k+1)).map Mono.Name):=by
  rw [yA h,ah,←lAa,insWs_append [] (w++(l.take k).map Mono.Name)];rfl
variable {a:Lf}
def nm_in {ls:List Lf} (h:ls[k]? =some a):(ls.take (k+1)).flatMap nmM=(ls.take k).flatMap nmM++a.L.map Mono.Name:=by
  rw [yA h,dp];simp [nmM]
def nm_bd (w:List nn):(gY [] w).length<=w.length:=insWs0_len w
def lL (ls:List Lf):Nat:=(ls.flatMap nmM).length
def tot_at {ls:List Lf} (h:ls[k]? =some a):((ls.take k).flatMap nmM).length+a.L.length<=lL ls:=by
  have e:=nm_in h
  have h1:ls.flatMap nmM=(ls.take (k+1)).flatMap nmM++(ls.drop (k+1)).flatMap nmM:=by rw [←dp,aZ]
  unfold lL
  rw [h1,e]
  simp only [lLa,lLm];omega
def okS_no {a b:List Mono} {N:List nn} {n:nn} (h:N[k]? =some n) (c:(hY (dG a n) (dG b n)).2=false):okS a b N=false:=by
  rw [zRi] at c
  exact zYh h (p:=fun n=>decide (r64 (tS a b n))) c
def okS_next {a b:List Mono} {N:List nn} {n:nn} (h:N[k]? =some n) (hp:okS a b (N.take k)=true) (c:(hY (dG a n) (dG b n)).2=true):okS a b (N.take (k+1))=true:=by
  rw [zRi] at c
  unfold okS at hp⊢
  rw [yA h,ce,hp,bi,e8,ck,aQ]
  exact c
variable {b:Lf}
def add_0 (h:¬dH a=0∨¬dH b=0):gQ a b=(zL,1):=addL_bad fun h2=>by
  unfold dH at h
  rw [h2.1,h2.2] at h
  rcases h with h|h<;>exact h rfl
def add_1 (ha:bG a=true) (hb:bG b=true) (h:(hY a.K b.K).2=false):gQ a b=(zL,3):=by
  rw [zRi] at h
  rw [addL_is ha hb,aa (by simpa using h)]
def add_2 (ha:bG a=true) (hb:bG b=true) (h:(hY a.K b.K).2=true) (h2:okS a.L b.L (nmU a.L b.L)=false):gQ a b=(zL,3):=by
  rw [zRi] at h
  rw [addL_is ha hb,ab (by simpa using h),aa (by rw [h2];simp)]
def add_3 (ha:bG a=true) (hb:bG b=true) (h:(hY a.K b.K).2=true) (h2:okS a.L b.L (nmU a.L b.L)=true):gQ a b=(⟨(hY a.K b.K).1,sQ a.L b.L (nmU a.L b.L)⟩,0):=by
  have e:=plusT_1 h
  rw [zRi] at h
  rw [addL_is ha hb,ab (by simpa using h),ab h2,e]
def awp_seqJ {X:Cfg} {n:Nat} {z:Z} {Q:Exit->S->Prop} {x y:Code} {regs:List (Nat×V)} {μ:List E} (μ':List E) (h:AWP X n z x (fun e τ=>e=.normal/\Weak τ ⟨regs,μ'⟩) ⟨regs,μ⟩) (k:AWP X n z y Q ⟨regs,μ'⟩):AWP X n z (.seq x y) Q ⟨regs,μ⟩:=
  zF (awp_mono h fun e τ ⟨he,hw⟩=>by subst he;exact zW _ hw k)
def det_usub {X:Cfg} {o:Oper} {e:nq->V} {μ:List E} {t ty:np} {x y:nq} {a b:Nat} (ho:o.op=.binOp .sub t x y ty) (hx:e x=vUn a) (hy:e y=vUn b) (h:b<=a/\a<18446744073709551616):Det X o e μ (vUn (a-b)) μ:=by
  have h1:=zXs (X:=X) (μ:=μ) ho hx hy
  rw [←Int.ofNat_sub h.1,zTr zB] at h1
  exact h1
def zEv:nJ prog 156=some 6:=by kernel_rfl
def zGd:iF prog 156=some (6,154,1):=by kernel_rfl
def zTe:(prog.info? 156).map (·.size)=some 6:=by kernel_rfl
def zr156:dZ prog 156=some [(Value.int IntKind.u64 0),(Value.int IntKind.u64 0),(Value.int IntKind.u64 0),(Value.int IntKind.u64 0),(Value.int IntKind.u64 0),(Value.int IntKind.u64 0)]:=by kernel_rfl
def base_Plus (a b:Int) (ha:r64 a) (hb:r64 b):
    Pur cfg 159 [vI a,vI b] (.tup [vI (hY a b).1,vB (hY a b).2]):=by
 refine zV func159 O ntmps159 results159 O ?_
 intro z hz
 have ha2:=ha
 have hb2:=hb
 unfold r64 at ha2 hb2
 refine ol O O<|oi O<|zF<|ol O O<|zT O (yN O O O)<|G O<|rL0 O (fun g1_2=>zQ O O) O<|rL0 O (fun g1_2=>zQ O O) O<|rL1 10 O (fun g1_2=>zXs O O O) O<|rLz [(9,_),(11,_)] O gv1 ⟨O,O,O,O,T⟩ (fun g1_2=>yN O O O) O<|kH O (fun h=>h)<|G O<|rL0 O (fun g1_8=>zQ O O) O<|rL1 15 O (fun g1_8=>zAz O O O) O<|rL1 16 O (fun g1_8=>zQ O O) O<|rLz [] O gv2 T (fun g1_11=>zQ O O) O<|rLz [] O gv2 T (fun g1_11=>zQ O O) O<|rLz [(19,_)] O gv2 ⟨O,O,T⟩ (fun g1_11=>zXs O O O) O<|rLz [(18,_),(20,_)] O gv2 ⟨O,O,O,O,T⟩ (fun g1_11=>zAz O O O) O<|rL1 17 O (fun g1_8=>zAd O O O (fun h=>kR uC h) O) O<|r_or O (fun h=>(lzf h))<|zA<|zK O (fun c1=>?_) (fun c1=>?_)
 ·have c1:(0<b/\w64 (9223372036854775807-b)<a)∨(b<0/\a<w64 (-9223372036854775808-b)):=by simpa [w64] using c1
  rw [zGz,zGz] at c1
  have c1:(0<b/\9223372036854775807-b<a)∨(b<0/\a< -9223372036854775808-b):=by omega
  refine ol O O<|oi O<|zM<|fin2 (rs_c O) (rs_c O) ?_
  rw [plus_c1 hb c1]
 ·have c1:¬((0<b/\w64 (9223372036854775807-b)<a)∨(b<0/\a<w64 (-9223372036854775808-b))):=by simpa [w64] using c1
  rw [zGz,zGz] at c1
  have c1:¬((0<b/\9223372036854775807-b<a)∨(b<0/\a< -9223372036854775808-b)):=by omega
  have hpl:=plus_c0 ha hb c1
  have hrr:r64 (a+b):=by unfold r64;omega
  unfold r64 at hrr
  refine zH<|ol O O<|G O<|qH O ⟨zB,zB⟩<|G O<|oi O<|zM<|fin2 (rs_c O) (rs_c O) ?_
  rw [hpl]
def zIj (l:Lf) (hl:l.L.length<=5864062014805):
    Pur cfg 89 [dC l] (vI (dH l)):=by
 refine zV func89 O ntmps89 results89 O fun z hz=>Y O<|og O fun b1=>oi O<|zF<|Y O<|zN yV (J 0 O) O<|qL O uB (zCh l zB) (vlr O)<|kU O<|zA<|zK O ?_ ?_<;>intro c1<;>try simp only [sx] at c1
 ·refine oh O O<|zM<|zX O ?_
  rw [show dH l=1 by unfold dH;rw [c1];rfl]
 ·refine zH<|oh O O<|zM<|zX O ?_
  rw [show dH l=0 by unfold dH;rw [c1];rfl]
def ref05_insert (sv:Value) (l:List nn) (s:nn) (hl:l.length<=1000000000) (ha:tV l):
    Con cfg 203 [.c (.lit sv),vS s] [.vec sv 9 1 (fM l)] fun r μ'=>∃sv',r=.c (.lit sv')/\μ'=[.vec sv' 9 1 (fM (nF l s))]:=by
 refine zV func203 O ntmps203 results203 O fun z hz=>Y O<|qY 1 O<|zA<|zF<|ol O O<|G O<|zT O (zCg 0 O uB O (zNf l s zB) O ⟨.inl ⟨O,O⟩,.inr ⟨zD,O⟩,T⟩)<|zA<|zK O ?_ ?_<;>intro c1<;>try simp only [sx] at c1
 ·refine ol O O<|oi O<|zM<|zX O ?_
  exact ⟨_,O,by rw [ins_has ha c1]⟩
 ·have hno:bQ l s=false:=by simpa using c1
  have hsl:(fM l++[[C.lit (Value.string s)]]).length=l.length+1:=by simp [fM]
  refine zH<|ol O O<|G O<|yY O el25 zr9<|qA O O (yB 0 O el25 O O O (by simp only [fM,lLm,lLa,lLc,lLn,aq,cq];omega) (by simp only [fM,lLm,lLa,lLc,lLn,aq,cq];omega)) ?_
  rintro _ _ ⟨sv1,rfl,rfl⟩
  refine oi O<|zF<|ol O O<|zT O (kT 0 O el25 O O)<|zT O (yL O O O ⟨zB,zB⟩)<|oi O<|zS<|zW ⟨[(5,.c _),(0,.c _)],[_]⟩ (Weak.mk [true] ⟨zD,zD,T⟩ O) ?_
  refine qG 1 1 O O (Nat) (fun i=>[(5,vI i)]) (fun i=>[E.vec sv1 9 1 (swR l s i)]) (fun i=>i<=l.length/\(∀y,y∈l.drop i->bF s y=true)) (fun i=>i) ⟨l.length,⟨aA _,fun y hy=>by rw [gz] at hy;cases hy⟩,Weak.mk [true] ⟨VLe.of_eq (ai (fun n=>V.c (C.lit (.int .i64 n))) (by simp [fM])),zD,T⟩ (by show [E.vec sv1 _ 1 _]=[E.vec sv1 _ 1 (swR l s l.length)];unfold swR;rw [aB (aA _),gz];simp only [fM,ah,aH,bp])⟩ ?_
  rintro i ⟨hk,hb⟩
  have hi1:((i:Int)-1).toNat=i-1:=by omega
  refine zF<|zF<|yH 14 mixed uB O O<|oo O (zQ O O)<|oo O (yN O O O)<|oo O (zQ O O)<|qU [] O O O O gv1 T (fun g5_2=>zQ O O) O<|qU [] O O O O gv1 T (fun g5_2=>zQ O O) O<|qU [(22,_)] O O O O gv1 ⟨O,O,T⟩ (fun g5_2=>yL O O O ⟨zB,zB⟩) O<|qU [(21,_),(23,_)] O O O O gv1 ⟨O,O,O,O,T⟩ (fun g5_2=>qT 0 O el25 O O O (by simp only [Lz,aD,av,sx] at g5_2;omega) (by rw [zQu hk];have h0:(0:Int)<i:=(by simp only [Lz,aD,av,sx] at g5_2;omega);omega)) O<|qU [(24,_)] O O O O gv1 ⟨O,O,T⟩ (fun g5_2=>zJ O one9 O (kQ 0 O (by have h0:(0:Int)<i:=(by simp only [Lz,aD,av,sx] at g5_2;omega);rw [hi1];exact swR_at1 hk zB (atB_get (l:=l) (k:=i-1) zB))) O) O<|qU [] O O O O gv1 T (fun g5_2=>zQ O O) O<|qU [] O O O O gv1 T (fun g5_2=>zQ O O) O<|qU [(26,_),(27,_)] O O O O gv1 ⟨O,O,O,O,T⟩ (fun g5_2=>qT 0 O el25 O O O zB (by rw [zQu hk];omega)) O<|qU [(28,_)] O O O O gv1 ⟨O,O,T⟩ (fun g5_2=>zJ O one9 O (kQ 0 O (by rw [bq];exact swR_at hk)) O) O<|qU [(25,_),(29,_)] O O O O gv1 ⟨O,O,O,O,T⟩ (fun g5_2=>det_sgtr O O O) O<|oo O (zAd O O O (fun h=>h) O)<|kE<|zA<|zK O (fun c2=>?_) (fun c2=>?_)
  ·have c2:0<i/\bF (atB l (i-1)) s=false/\¬atB l (i-1)=s:=by simpa using c2
   have c2:0<i/\bF s (atB l (i-1))=true:=⟨c2.1,lt_of_no c2.2.1 c2.2.2⟩
   have hy:=atB_get (l:=l) (k:=i-1) zB
   refine zH<|zF<|zS<|ol O O<|G O<|zT O (qT 0 O el25 O O O zB (by rw [zQu hk];omega))<|zE one9 (kQ 0 O (by rw [bq];exact swR_at hk)) O<|oi O<|ol O O<|G O<|G O<|G O<|zT O (yL O O O ⟨zB,zB⟩)<|zT O (qT 0 O el25 O O O zB (by rw [zQu hk];omega))<|zE one9 (kQ 0 O (by rw [hi1];exact swR_at1 hk c2.1 hy)) O<|zT O (qT 0 O el25 O O O zB (by rw [zQu hk];omega))<|wI O O (yO O sz9 O O O (zEw 0 O (by rw [bq];exact swR_at hk) O))<|zA<|zP O<|G O<|G O<|zT O (yL O O O ⟨zB,zB⟩)<|G O<|zT O (qT 0 O el25 O O O zB (by rw [ej,zQu hk];omega))<|wI O O (yO O sz9 O O O (zEw 0 O (by rw [hi1,bq];exact set_other c2.1 (swR_at1 hk c2.1 hy)) O))<|zA<|zP O<|G O<|zT O (yL O O O ⟨zB,zB⟩)<|G O<|zA ?_
   refine ⟨i-1,⟨zB,swR_next c2.1 hy c2.2 hb⟩,zB,Weak.mk [true] ⟨VLe.of_eq (ai (fun n=>V.c (C.lit (.int .i64 n))) zB),zD,T⟩ (by simp only [bq,hi1];show [E.vec sv1 _ 1 (((swR l s i).set i [cS (atB l (i-1))]).set (i-1) [cS s])]=[E.vec sv1 _ 1 (swR l s (i-1))];rw [swR_step hk c2.1 hy])⟩
  ·have c2:0<i->bF (atB l (i-1)) s=false->atB l (i-1)=s:=by simpa using c2
   have c2:0<i->bF s (atB l (i-1))=false:=fun h0=>no_of_lt (c2 h0)
   refine qM<|ol O O<|oi O<|zM<|zX O ?_
   exact ⟨_,O,by rw [ins_at ha hk hb hno (fun y h0 hy=>by have h1:=c2 h0;have h2:=atB_get (l:=l) (k:=i-1) zB;rw [hy] at h2;injection h2 with h2;rw [h2];exact h1)];rfl⟩
def ref05_Names (ls:List Lf) (hl:ls.length<=1000000) (ht:lL ls<=1000000):
    OwnR cfg 160 [.c (.sl 2 (ls.map Lf.cells))] 9 1 (fM (gY [] (ls.flatMap nmM))):=by
 refine zV func160 O ntmps160 results160 O fun z hz=>Y O<|qY 1 O<|zA<|ol O O<|yP _ (kF 9 1)<|zA<|zF<|oh O O<|zS<|zW ⟨[(4,.c _),(3,.c _),(0,.c _)],[_]⟩ (Weak.mk [true] ⟨zD,zD,zD,T⟩ O)<|qG 2 1 O O (Nat×Value) (fun ⟨k,sv⟩=>[(4,vI k),(3,.c (.lit sv))]) (fun ⟨k,sv⟩=>[E.vec sv 9 1 (fM (gY [] ((ls.take k).flatMap nmM)))]) (fun ⟨k,sv⟩=>k<=ls.length) (fun ⟨k,sv⟩=>ls.length-k) ⟨⟨0,(.slice none 0 0)⟩,zB,Weak.mk [true] ⟨zD,zD,zD,T⟩ O⟩ ?_
 rintro ⟨k,sv⟩ hk
 show AWP _ _ _ _ _ ⟨[(4,vI k),(3,.c (.lit sv))]++_,[E.vec sv 9 1 (fM (gY [] ((ls.take k).flatMap nmM)))]++_⟩
 refine zF<|ol O O<|G O<|qC O el72<|yC O<|zA<|zK O ?_ ?_<;>intro c1<;>try simp only [sx] at c1
 ·obtain ⟨a,ha⟩:=qX ls k zB
  have htot:=tot_at ha
  refine zH<|zF<|zS<|oh O O<|zS<|zW ⟨[(5,.c _),(3,.c _),(0,.c _),(4,.c _)],[_]⟩ (Weak.mk [true] ⟨zD,zD,zD,zD,T⟩ O)<|qG 2 1 O O (Nat×Value) (fun ⟨j,sw⟩=>[(5,vI j),(3,.c (.lit sw))]) (fun ⟨j,sw⟩=>[E.vec sw 9 1 (fM (gY [] ((ls.take k).flatMap nmM++(a.L.take j).map Mono.Name)))]) (fun ⟨j,sw⟩=>j<=a.L.length) (fun ⟨j,sw⟩=>a.L.length-j) ⟨⟨0,sv⟩,zB,Weak.mk [true] ⟨zD,zD,zD,zD,T⟩ (by show _=[E.vec sv _ 1 (fM (gY [] ((ls.take k).flatMap nmM++[])))]++_;rw [show (ls.take k).flatMap nmM++[]=(ls.take k).flatMap nmM from lAn _];rfl)⟩ ?_
  rintro ⟨j,sw⟩ hj
  show AWP _ _ _ _ _ ⟨[(5,vI j),(3,.c (.lit sw))]++_,[E.vec sw 9 1 (fM (gY [] ((ls.take k).flatMap nmM++(a.L.take j).map Mono.Name)))]++_⟩
  refine zF<|ol O O<|G O<|G O<|qE O el72 zB (getm ha)<|qR O kC<|zE wA qF O<|qC O D<|yC O<|zA<|zK O ?_ ?_<;>intro c2<;>try simp only [sx] at c2
  ·obtain ⟨m,hm⟩:=qX a.L j zB
   refine zH<|zF<|zS<|zP O<|G O<|G O<|G O<|qE O el72 zB (getm ha)<|qR O kC<|zE wA qF O<|G O<|qE O D zB (getm hm)<|qR O wE<|zE one9 qF O<|qA O O (ope_call_vec 0 O O uB (ref05_insert _ (gY [] ((ls.take k).flatMap nmM++(a.L.take j).map Mono.Name)) m.Name (by have h1:=nm_bd ((ls.take k).flatMap nmM++(a.L.take j).map Mono.Name);simp only [lLa,lLm,aq] at h1;omega) (insWs0_asc _)) (vlr O)) ?_
   rintro _ _ ⟨sv2,rfl,rfl⟩
   refine oi O<|zP O<|G O<|qH O ⟨zB,zB⟩<|G O<|zA ?_
   refine ⟨⟨j+1,sv2⟩,zB,(by show a.L.length-(j+1)<a.L.length-j;omega),Weak.mk [true] ⟨zD,zD,zD,zD,T⟩ (by show _=[E.vec sv2 _ 1 (fM (gY [] ((ls.take k).flatMap nmM++(a.L.take (j+1)).map Mono.Name)))]++_;rw [←nm_step hm];rfl)⟩
  ·rw [yI (l:=a.L) (k:=j) zB,←nm_in ha]
   refine qM<|zP O<|G O<|qH O ⟨zB,zB⟩<|G O<|zA ?_
   refine ⟨⟨k+1,sw⟩,zB,(by show ls.length-(k+1)<ls.length-k;omega),Weak.mk [true] ⟨zD,zD,zD,T⟩ O⟩
 ·refine qM<|ol O O<|oi O<|zM<|zX O ?_
  exact ⟨_,O,by rw [yI (l:=ls) (k:=k) zB];rfl⟩
def ref05_Add (a b:Lf) (ha:a.L.length<=100000) (hb:b.L.length<=100000) (hra:a.rng) (hrb:b.rng):
    Pur cfg 99 [dC a,dC b] (.tup [dC (gQ a b).1,vI (gQ a b).2]):=by
 refine zV func99 O ntmps99 results99 O ?_
 intro z hz
 have hnl:=nmU_len a.L b.L
 refine Y O<|og O fun b1=>og O fun b2=>qA O O (qI [none,some 2] O U O) ?_
 rintro _ _ ⟨b3,rfl,rfl⟩
 refine oi O<|zF<|Y O<|zN yV (J 2 O) O<|qL O uB (zIj a zB) (vlr O)<|yM O<|G O<|rL0 O (fun g1_3=>qB O yV O (J 1 O) O) O<|rL1 17 O (fun g1_3=>qP O uB (zIj b zB) (vlr O)) O<|rL1 18 O (fun g1_3=>wW O O O) O<|r_or O (fun h=>(lzf h))<|zA<|zK O ?_ ?_<;>intro c1<;>try simp only [sx] at c1
 ·have hbad:=add_0 c1
  refine Y O<|yQ [none,some 2] O U pl59<|rStR 0 sz59 O<|oi O<|zM<|fin2 (zZ yV O (J 0 O) O) (rs_c O) ?_
  rw [hbad];rfl
 ·have hla:=zFh c1.1
  have hlb:=zFh c1.2
  refine zH<|Y O<|zC O zCc<|zE W (J 2 O) O<|zC O zCc<|zE W (J 1 O) O<|qL O uB (base_Plus a.K b.K hra.1 hrb.1) (vlr O)<|qW O<|yF O<|yF O<|G O<|oi O<|zF<|ol O O<|kU O<|zA<|zK O ?_ ?_<;>intro c2<;>try simp only [sx] at c2
  ·have c2:(hY a.K b.K).2=false:=by simpa using c2
   refine Y O<|yQ [none,some 2] O U pl59<|rStR 0 sz59 O<|oi O<|zM<|fin2 (zZ yV O (J 0 O) O) (rs_c O) ?_
   rw [add_1 hla hlb c2];rfl
  ·have c2:(hY a.K b.K).2=true:=by simpa using c2
   refine zH<|ol O O<|yJ O U pl59<|qA O O (qI [none,some 2] O U O) ?_
   rintro _ _ ⟨b4,rfl,rfl⟩
   refine rStR 0 sz59 O<|zA<|Y O<|zN yV (J 3 O) O<|zN yV (J 2 O) O<|yY O el72 U<|qL O uB (OwnR.pur (show OwnR cfg 160 [.c (.sl 2 [a.cells,b.cells])] 9 1 (fM (nmU a.L b.L)) by have h:=ref05_Names [a,b] uF (by simp [lL,nmM];omega);simpa [nmU,nmM] using h)) (vlr O)<|oi O<|zF<|Y O<|yP _ (kF 139 2)<|oi O<|zS<|zW ⟨[(10,.c _),(2,.c _),(3,.c _),(4,.c _),(8,.c _),(9,.c _)],[_,_,_,_,_]⟩ (Weak.mk [true,true,true,true,true] ⟨zD,zD,zD,zD,zD,zD,T⟩ O)<|qG 1 2 O O (Nat×Value) (fun ⟨k,sv⟩=>[(10,vI k)]) (fun ⟨k,sv⟩=>[E.vec sv 139 2 ((sQ a.L b.L ((nmU a.L b.L).take k)).map Mono.cells),E.row b4 59 [cI (hY a.K b.K).1,.lit sv]]) (fun ⟨k,sv⟩=>k<=(nmU a.L b.L).length/\(okS a.L b.L ((nmU a.L b.L).take k)=true)) (fun ⟨k,sv⟩=>(nmU a.L b.L).length-k) ⟨⟨0,(.slice none 0 0)⟩,⟨zB,O⟩,Weak.mk [true,true,true,true,true] ⟨zD,zD,zD,zD,zD,zD,T⟩ O⟩ ?_
   rintro ⟨k,sv⟩ ⟨hk,hp⟩
   show AWP _ _ _ _ _ ⟨[(10,vI k)]++_,[E.vec sv 139 2 ((sQ a.L b.L ((nmU a.L b.L).take k)).map Mono.cells),E.row b4 59 [cI (hY a.K b.K).1,.lit sv]]++_⟩
   refine zF<|ol O O<|G O<|qC O el25<|yC O<|zA<|zK O ?_ ?_<;>intro c3<;>try simp only [sx] at c3
   ·obtain ⟨n,hn⟩:=qX (nmU a.L b.L) k zB
    have hsl:=sumN_len a.L b.L ((nmU a.L b.L).take k)
    rw [aq] at hsl
    refine zH<|zF<|zS<|zF<|yH 18 mixed uB O O<|oo O (qB O yV O (J 4 O) O)<|oo O (zQ O O)<|oo O (zQ O O)<|oo O (qK O el25 O O zB (getm hn))<|oo O (zJ O one9 O qF O)<|oo O (qP O uB (zVt a n zB) (vlr O))<|oo O (qB O yV O (J 3 O) O)<|oo O (zQ O O)<|oo O (zQ O O)<|oo O (qK O el25 O O zB (getm hn))<|oo O (zJ O one9 O qF O)<|oo O (qP O uB (zVt b n zB) (vlr O))<|oo O (qP O uB (base_Plus (dG a.L n) (dG b.L n) (coeff_r hra.2 n) (coeff_r hrb.2 n)) (vlr O))<|oo O (yW O O)<|oo O (kM O O O)<|oo O (kM O O O)<|oo O (yR O O)<|oo O (yR O O)<|kE<|zA<|zF<|ol O O<|kU O<|zA<|zK O ?_ ?_<;>intro c4<;>try simp only [sx] at c4
    ·have c4:(hY (dG a.L n) (dG b.L n)).2=false:=by simpa using c4
     refine Y O<|yQ [none,some 2] O U pl59<|rStR 2 sz59 O<|oi O<|zM<|fin2 (zZ yV O (J 2 O) O) (rs_c O) ?_
     rw [add_2 hla hlb c2 (okS_no hn c4)];rfl
    ·have c4:(hY (dG a.L n) (dG b.L n)).2=true:=by simpa using c4
     have hcs:(hY (dG a.L n) (dG b.L n)).1=tS a.L b.L n:=plusT_1 c4
     refine zH<|ol O O<|yM O<|zA<|zK O ?_ ?_<;>intro c5<;>try simp only [sx] at c5
     ·refine yH 9 mixed uB O O<|oo O (zG O kC O)<|oo O (zJ O wA O (J 1 O) O)<|oo O (zQ O O)<|oo O (zQ O O)<|oo O (qK O el25 O O zB (getm hn))<|oo O (zJ O one9 O qF O)<|oo O (zQ O O)<|oo O (zBx O zEk pl139 O)<|oo O (kW O D zEk O O O O)<|kE<|qA O O (yB 0 O D O O O (by simp only [lLm,sumN_len,lLa,lLc,lLn,aq,cq];omega) (by simp only [lLm,sumN_len,lLa,lLc,lLn,aq,cq];omega)) ?_
      rintro _ _ ⟨sv5,rfl,rfl⟩
      refine zC O kC<|rStR 1 sz57 O<|zA<|zP O<|G O<|qH O ⟨zB,zB⟩<|G O<|zA ?_
      refine ⟨⟨k+1,sv5⟩,⟨zB,okS_next hn hp c4⟩,(by show (nmU a.L b.L).length-(k+1)<(nmU a.L b.L).length-k;omega),Weak.mk [true,true,true,true,true] ⟨zD,zD,zD,zD,zD,zD,T⟩ (by show _=[E.vec sv5 _ 2 ((sQ a.L b.L ((nmU a.L b.L).take (k+1))).map Mono.cells),E.row b4 _ [cI (hY a.K b.K).1,.lit sv5]]++_;rw [sumN_next hn,←hcs,aa c5,ah];rfl)⟩
     ·refine zH<|zP O<|G O<|qH O ⟨zB,zB⟩<|G O<|zA ?_
      refine ⟨⟨k+1,sv⟩,⟨zB,okS_next hn hp c4⟩,(by show (nmU a.L b.L).length-(k+1)<(nmU a.L b.L).length-k;omega),Weak.mk [true,true,true,true,true] ⟨zD,zD,zD,zD,zD,zD,T⟩ (by show _=[E.vec sv _ 2 ((sQ a.L b.L ((nmU a.L b.L).take (k+1))).map Mono.cells),E.row b4 _ [cI (hY a.K b.K).1,.lit sv]]++_;rw [sumN_next hn,←hcs,ab c5,lAn];rfl)⟩
   ·rw [yI (l:=(nmU a.L b.L)) (k:=k) zB] at hp
    rw [yI (l:=(nmU a.L b.L)) (k:=k) zB]
    refine zW _ (yK 0 O (regs':=[]) (μ':=[_,_,_,_]) T ⟨EFle.row (ds:=[_,_]) ⟨.inl O,.inr ⟨O,O⟩,T⟩,EFle.refl _,EFle.refl _,EFle.refl _,T⟩)<|qM<|Y O<|zN yV (J 0 O) O<|rStR 1 sz59 O<|oi O<|zM<|fin2 (zZ yV O (J 1 O) O) (rs_c O) ?_
    rw [add_3 hla hlb c2 hp];rfl
def zGr (n:Int) (hn:r64 n):
    Pur cfg 91 [vI n] (vUn n.natAbs):=by
 refine zV func91 O ntmps91 results91 O ?_
 intro z hz
 unfold r64 at hn
 refine oh O O<|zF<|ol O O<|yC O<|zA<|zK O ?_ ?_<;>intro c1<;>try simp only [sx] at c1
 ·refine ol O O<|qH O ⟨zB,zB⟩<|zT O (det_neg_nw O O ⟨zB,zB⟩)<|zT O (zJc O us2 zWx O (show IntKind.u64.wrap (-(n+1))=(((-(n+1)).toNat:Nat):Int) by rw [zOt];omega))<|zT O (kZ (b:=1) O O O zB)<|oi O<|zM<|zX O ?_
  exact ai vUn zB
 ·refine zH<|ol O O<|zT O (zJc O us2 zWx O (show IntKind.u64.wrap n=((n.natAbs:Nat):Int) by rw [zOt];omega))<|oi O<|zM<|zX O ?_
  rfl
def zJp (w:List Nat) (at_ N:Nat) (hw:w.length=6) (ho:gU w) (ha:at_<=6) (hN:N<18446744073709551616):
    Pur cfg 154 [vW w,vI at_,vUn N] (vW (jF w at_ N)):=by
 refine zV func154 O ntmps154 results154 O fun z hz=>Y O<|og O fun b1=>qA O O (qZ O zr156) ?_
 rintro _ _ ⟨b2,rfl,rfl⟩
 refine zA<|oh O O<|zF<|ol O O<|oi O<|zS<|zW ⟨[(8,.c _),(7,.c _),(2,.c _),(3,.c _),(6,.c _)],[_,_]⟩ (Weak.mk [true,true] ⟨zD,zD,zD,zD,zD,T⟩ O)<|qG 3 2 O O (Nat×List Nat×Nat×Nat) (fun ⟨i,ds,c,n⟩=>[(8,vI i),(7,vUn c),(2,vUn n)]) (fun ⟨i,ds,c,n⟩=>[E.row b2 156 (dg0.map cU),E.row b1 156 (ds.map cU)]) (fun ⟨i,ds,c,n⟩=>i<=6/\ds.length=6/\gU ds/\c<=2/\n<18446744073709551616/\jF w at_ N=ds.take i++lW (ds.drop i) c n) (fun ⟨i,ds,c,n⟩=>6-i) ⟨⟨at_,w,0,N⟩,⟨ha,hw,ho,uA,hN,O⟩,Weak.mk [true,true] ⟨zD,zD,zD,zD,zD,T⟩ O⟩ ?_
 rintro ⟨i,ds,c,n⟩ ⟨hi,hl,hd,hc,hn,hq⟩
 refine zF<|ol O O<|yC O<|zA<|zK O ?_ ?_<;>intro c1<;>try simp only [sx] at c1
 ·obtain ⟨x,hx⟩:=qX ds i zB
  have hxl:=hd x (qD hx)
  refine zH<|zF<|zS<|ol O O<|zT O (kJ O zGd O O zB zB)<|zT O (zJ O kA O (J 1 O) (zIn hx))<|G O<|zT O (zUh (b:=4294967296) O O O uA)<|zT O (kZ O O O zB)<|G O<|zT O (kZ O O O zB)<|oi O<|ol O O<|G O<|zT O (zUh (b:=4294967296) O O O uA)<|zT O (kJ O zGd O O zB zB)<|wI O O (yO O zAe O O O (zHb 1 O (dg_le zB _) (dg_spl zB)))<|zA<|ol O O<|zT O (zUi (b:=4294967296) O O O ⟨uA,zB⟩)<|oi O<|zP O<|G O<|zT O (zUi (b:=4294967296) O O O ⟨uA,hn⟩)<|oi O<|zP O<|G O<|qH O ⟨zB,zB⟩<|G O<|zA ?_
  refine ⟨⟨i+1,ds.set i ((x+n%4294967296+c)%4294967296),(x+n%4294967296+c)/4294967296,n/4294967296⟩,⟨zB,by rw [ej];exact hl,dgOk_set hd (gv _ uA),zB,zB,dgt_next hq hx⟩,(by show 6-(i+1)<6-i;omega),Weak.mk [true,true] ⟨zD,zD,zD,zD,zD,T⟩ O⟩
 ·have hE:=dgt_end hq zB
  obtain ⟨a1,a2,a3,a4,a5,a6,rfl⟩:=dg_six hl
  refine qM<|Y O<|zN zEv (J 1 O) O<|rStR 0 zTe O<|zA<|zM<|fin1 (zZ zEv O (J 0 O) O) ?_
  rw [hE];rfl
def zMw (w:List Nat) (a b:Nat) (hw:w.length=6) (ho:gU w) (ha:a<18446744073709551616) (hb:b<18446744073709551616):
    Pur cfg 90 [vW w,vUn a,vUn b] (vW (vC w a b)):=by
 refine zV func90 O ntmps90 results90 O ?_
 intro z hz
 obtain ⟨p1,p2,p3,p4⟩:=part_le ha hb
 have l1:=zFj (at_:=0) (N:=a%4294967296*(b%4294967296)) hw ho
 have o1:gU (jF w 0 (a%4294967296*(b%4294967296))):=zCz ho
 have l2:(jF (jF w 0 (a%4294967296*(b%4294967296))) 1 (a%4294967296*(b/4294967296))).length=6:=zFj l1 o1
 have o2:gU (jF (jF w 0 (a%4294967296*(b%4294967296))) 1 (a%4294967296*(b/4294967296))):=zCz o1
 have l3:(jF (jF (jF w 0 (a%4294967296*(b%4294967296))) 1 (a%4294967296*(b/4294967296))) 1 (a/4294967296*(b%4294967296))).length=6:=zFj l2 o2
 have o3:gU (jF (jF (jF w 0 (a%4294967296*(b%4294967296))) 1 (a%4294967296*(b/4294967296))) 1 (a/4294967296*(b%4294967296))):=zCz o2
 have l4:=(zGi (a:=a) (b:=b) hw ho).1
 refine Y O<|og O fun b1=>qA O O (qZ O zr156) ?_
 rintro _ _ ⟨b2,rfl,rfl⟩
 refine zA<|ol O O<|zT O (zUh (b:=4294967296) O O O uA)<|G O<|zT O (zUi (b:=4294967296) O O O ⟨uA,ha⟩)<|G O<|zT O (zUh (b:=4294967296) O O O uA)<|G O<|zT O (zUi (b:=4294967296) O O O ⟨uA,hb⟩)<|G O<|G O<|G O<|oi O<|Y O<|zT O (wU O zEv O (J 1 O) (zKv _) (zDh hw))<|G O<|G O<|zT O (wR O O O zB)<|qL O uB (zJp w 0 _ hw ho uA zB) (vlr O)<|wI O O (yO O zTe O O (zXr l1) (zHb 1 O (zXq (zDh hw) l1) (zXp (zDh hw) l1)))<|zA<|Y O<|zT O (wU O zEv O (J 1 O) (zKv _) (zDh l1))<|G O<|G O<|zT O (wR O O O zB)<|qL O uB (zJp (jF w 0 (a%4294967296*(b%4294967296))) 1 _ l1 o1 uA zB) (vlr O)<|wI O O (yO O zTe O O (zXr l2) (zHb 1 O (zXq (zDh l1) l2) (zXp (zDh l1) l2)))<|zA<|Y O<|zT O (wU O zEv O (J 1 O) (zKv _) (zDh l2))<|G O<|G O<|zT O (wR O O O zB)<|qL O uB (zJp (jF (jF w 0 (a%4294967296*(b%4294967296))) 1 (a%4294967296*(b/4294967296))) 1 _ l2 o2 uA zB) (vlr O)<|wI O O (yO O zTe O O (zXr l3) (zHb 1 O (zXq (zDh l2) l3) (zXp (zDh l2) l3)))<|zA<|Y O<|zT O (wU O zEv O (J 1 O) (zKv _) (zDh l3))<|G O<|G O<|zT O (wR O O O zB)<|qL O uB (zJp (jF (jF (jF w 0 (a%4294967296*(b%4294967296))) 1 (a%4294967296*(b/4294967296))) 1 (a/4294967296*(b%4294967296))) 2 _ l3 o3 uA zB) (vlr O) ?_
 obtain ⟨a1,a2,a3,a4,a5,a6,h6⟩:=dg_six l4
 have h6:jF (jF (jF (jF w 0 (a%4294967296*(b%4294967296))) 1 (a%4294967296*(b/4294967296))) 1 (a/4294967296*(b%4294967296))) 2 (a/4294967296*(b/4294967296))=[a1,a2,a3,a4,a5,a6]:=h6
 rw [h6]
 refine rStR 0 zTe O<|zA<|zM<|fin1 (zZ zEv O (J 0 O) O) ?_
 rw [show vC w a b=[a1,a2,a3,a4,a5,a6] from h6];rfl
def ref05_find (env:List Bd) (s:nn) (hel:env.length<=1000000):
    Pur cfg 92 [jR env,vS s] (.tup [vI ((lM env s).getD 0),vB (lM env s).isSome]):=by
 refine zV func92 O ntmps92 results92 O ?_
 exact r5
def ref19_number (env:List Bd) (s:nn) (hel:env.length<=1000000):
    Pur cfg 85 [jR env,vS s] (.tup [vI ((lM env s).getD 0),vB (lM env s).isSome]):=by
 refine zV func85 O ntmps85 results85 O ?_
 exact r5
def ref05_less (a b:List Nat) (h1:a.length=6) (h2:b.length=6) (ha:gU a) (hb:gU b):
    Pur cfg 93 [vW a,vW b] (vB (decide (dgV a<dgV b))):=by
 refine zV func93 O ntmps93 results93 O fun z hz=>Y O<|og O fun b1=>og O fun b2=>oi O<|zF<|oh O O<|zS<|zW ⟨[(5,.c _),(2,.c _),(3,.c _)],[_,_]⟩ (Weak.mk [true,true] ⟨zD,zD,zD,T⟩ O)<|qG 1 0 O O (Nat) (fun q=>[(5,vI ((q:Int)-1))]) (fun q=>[]) (fun q=>q<=6/\a.drop q=b.drop q) (fun q=>q) ⟨6,⟨aA _,by rw [bk zB,bk zB]⟩,Weak.mk [true,true] ⟨zD,zD,zD,T⟩ O⟩ ?_
 rintro q ⟨hk,hq⟩
 refine zF<|ol O O<|zT O (wG O O O)<|zA<|zK O ?_ ?_<;>intro c1<;>try simp only [sx] at c1
 ·obtain ⟨j,rfl⟩:∃j,q=j+1:=⟨q-1,zB⟩
  obtain ⟨x,hx⟩:=qX a j zB
  obtain ⟨y,hy⟩:=qX b j zB
  rw [show (((j+1:Nat):Int)-1)=(j:Int) by omega]
  refine zH<|zF<|zS<|zF<|yH 7 mixed uB O O<|oo O (zQ O O)<|oo O (kJ O zGd O O zB zB)<|oo O (zJ O kA O (J 1 O) (zIn hx))<|oo O (zQ O O)<|oo O (kJ O zGd O O zB zB)<|oo O (zJ O kA O (J 0 O) (zIn hy))<|oo O (wW O O O)<|kE<|zA<|zK O ?_ ?_<;>intro c2<;>try simp only [sx] at c2
  ·refine zF<|yH 8 mixed uB O O<|oo O (zQ O O)<|oo O (kJ O zGd O O zB zB)<|oo O (zJ O kA O (J 1 O) (zIn hx))<|oo O (zQ O O)<|oo O (kJ O zGd O O zB zB)<|oo O (zJ O kA O (J 0 O) (zIn hy))<|oo O (zAz O O O)<|oo O (yR O O)<|kE<|zA<|zM<|zX O ?_
   rw [←dg_less (h1.trans h2.symm) ha hb hx hy zB hq]
   exact ai vB (dl.2 zB)
  ·obtain rfl:x=y:=by omega
   refine zH<|zP O<|G O<|zT O (yL O O O ⟨zB,zB⟩)<|G O<|zA ?_
   refine ⟨j,⟨zB,dg_step hx hy hq⟩,zB,Weak.mk [true,true] ⟨VLe.of_eq ((ai vI zB)),zD,zD,T⟩ O⟩
 ·obtain rfl:q=0:=by omega
  refine qM<|oh O O<|zM<|zX O ?_
  rw [dg_same hq]
def zVs (a b:List Nat) (h1:a.length=6) (h2:b.length=6) (ha:gU a) (hb:gU b):
    Pur cfg 94 [vW a,vW b] (vW (vY a b)):=by
 refine zV func94 O ntmps94 results94 O fun z hz=>Y O<|og O fun b1=>og O fun b2=>qA O O (qZ O zr156) ?_
 rintro _ _ ⟨b3,rfl,rfl⟩
 refine zA<|oh O O<|zF<|oh O O<|zS<|zW ⟨[(6,.c _),(5,.c _),(2,.c _),(3,.c _),(4,.c _)],[_,_,_]⟩ (Weak.mk [true,true,true] ⟨zD,zD,zD,zD,zD,T⟩ O)<|qG 2 3 O O (Nat×List Nat×Nat) (fun ⟨i,ds,c⟩=>[(6,vI i),(5,vUn c)]) (fun ⟨i,ds,c⟩=>[E.row b3 156 (dg0.map cU),E.row b2 156 (b.map cU),E.row b1 156 (ds.map cU)]) (fun ⟨i,ds,c⟩=>i<=6/\ds.length=6/\gU ds/\c<=1/\vY a b=ds.take i++mE (ds.drop i) (b.drop i) c) (fun ⟨i,ds,c⟩=>6-i) ⟨⟨0,a,0⟩,⟨uA,h1,ha,uA,O⟩,Weak.mk [true,true,true] ⟨zD,zD,zD,zD,zD,T⟩ O⟩ ?_
 rintro ⟨i,ds,c⟩ ⟨hi,hl,hd,hc,hq⟩
 refine zF<|ol O O<|yC O<|zA<|zK O ?_ ?_<;>intro c1<;>try simp only [sx] at c1
 ·obtain ⟨x,hx⟩:=qX ds i zB
  obtain ⟨y,hy⟩:=qX b i zB
  have hxl:=hd x (qD hx)
  have hyl:=hb y (qD hy)
  refine zH<|zF<|zS<|ol O O<|zT O (kJ O zGd O O zB zB)<|zT O (zJ O kA O (J 1 O) (zIn hy))<|G O<|zT O (kZ O O O zB)<|oi O<|oh O O<|zF<|ol O O<|zT O (kJ O zGd O O zB zB)<|zT O (zJ O kA O (J 2 O) (zIn hx))<|G O<|yC O<|zA<|zK O ?_ ?_<;>intro c2<;>try simp only [sx] at c2
  ·have hx2:(ds.set i (x+4294967296))[i]? =some (x+4294967296):=bc zB
   have hx3:i<(ds.set i (x+4294967296)).length:=by rw [ej];omega
   refine ol O O<|zT O (kJ O zGd O O zB zB)<|zT O (zJ O kA O (J 2 O) (zIn hx))<|zT O (kZ (b:=4294967296) O O O zB)<|zT O (kJ O zGd O O zB zB)<|wI O O (yO O zAe O O O (zHb 2 O (dg_le zB _) (dg_spl zB)))<|zA<|zP O<|oi O<|zP O<|G O<|zT O (kJ O zGd O O zB zB)<|zT O (zJ O kA O (J 2 O) (zIn hx2))<|G O<|zT O (det_usub O O O ⟨zB,zB⟩)<|zT O (kJ O zGd O O zB zB)<|wI O O (yO O zAe O O O (zHb 2 O (dg_le hx3 _) (dg_spl hx3)))<|zA<|zP O<|G O<|qH O ⟨zB,zB⟩<|G O<|zA ?_
   refine ⟨⟨i+1,ds.set i (x+4294967296-(y+c)),1⟩,⟨zB,by rw [ej];exact hl,dgOk_set hd zB,uA,mns_next hq hx hy (by rw [ab zB]) (by rw [ab zB])⟩,(by show 6-(i+1)<6-i;omega),Weak.mk [true,true,true] ⟨zD,zD,zD,zD,zD,T⟩ (by rw [ij];rfl)⟩
  ·have hx2:=hx
   have hx3:i<ds.length:=by omega
   refine zH<|zP O<|G O<|zT O (kJ O zGd O O zB zB)<|zT O (zJ O kA O (J 2 O) (zIn hx2))<|G O<|zT O (det_usub O O O ⟨zB,zB⟩)<|zT O (kJ O zGd O O zB zB)<|wI O O (yO O zAe O O O (zHb 2 O (dg_le hx3 _) (dg_spl hx3)))<|zA<|zP O<|G O<|qH O ⟨zB,zB⟩<|G O<|zA ?_
   refine ⟨⟨i+1,ds.set i (x-(y+c)),0⟩,⟨zB,by rw [ej];exact hl,dgOk_set hd zB,uA,mns_next hq hx hy (by rw [aa zB]) (by rw [aa zB])⟩,(by show 6-(i+1)<6-i;omega),Weak.mk [true,true,true] ⟨zD,zD,zD,zD,zD,T⟩ O⟩
 ·have hE:=mns_end hq zB
  obtain ⟨a1,a2,a3,a4,a5,a6,rfl⟩:=dg_six hl
  refine qM<|Y O<|zN zEv (J 2 O) O<|rStR 0 zTe O<|zA<|zM<|fin1 (zZ zEv O (J 0 O) O) ?_
  rw [hE];rfl
def zRe (l:Lf) (env:List Bd) (hel:env.length<=1000000) (her:∀x,x∈env->r64 x.Val) (hl:l.L.length<=5864062014805) (hr:l.rng):
    Pur cfg 37 [dC l,jR env] (.tup [vI (dR l env).1,vI (dR l env).2]):=by
 refine zV func37 O ntmps37 results37 O fun z hz=>Y O<|og O fun b1=>G O<|oi O<|zF<|Y O<|zN yV (J 0 O) O<|qL O uB (zIj l zB) (vlr O)<|yM O<|zA<|zK O ?_ ?_<;>intro c1<;>try simp only [sx] at c1
 ·have hE:dR l env=(0,1):=ev_bad c1
  exact v16
 ·refine zH<|Y O<|qA O O (qZ O zr156) ?_
  rintro _ _ ⟨b2,rfl,rfl⟩
  refine qA O O (qZ O zr156) ?_
  rintro _ _ ⟨b3,rfl,rfl⟩
  refine zA<|zW ⟨[(1,.c _),(2,.c _),(6,.c _),(7,.c _)],[_,_,_]⟩ (Weak.mk [true,true,true] ⟨zD,zD,zD,zD,T⟩ O)<|awp_seqJ [E.row b3 156 ((erQ l.K).map cU),E.row b2 156 ((erP l.K).map cU),E.row b1 59 l.cells] ?_ ?_
  ·refine Y O<|zC O zCc<|zE W (J 2 O) O<|yC O<|zA<|zK O ?_ ?_<;>intro c2<;>try simp only [sx] at c2
   ·refine yH 5 mixed uB O O<|oo O (qB O zEv O (J 0 O) O)<|oo O (zG O zCc O)<|oo O (zJ O W O (J 2 O) O)<|oo O (qP O uB (zGr l.K hr.1) (vlr O))<|oo O (qP O uB (zMw dg0 l.K.natAbs 1 O zTk (by have:=zBt hr.1;omega) uA) (vlr O))<|kE<|wI O O (yO O zTe O O (zXr (zGi O zTk).1) (zHb 0 O (zXq O (zGi O zTk).1) (zXp O (zGi O zTk).1)))<|zA ?_
    exact ⟨O,Weak.mk [true,true,true] ⟨zD,zD,zD,zD,T⟩ (by unfold erP erQ;rw [ab c2,ab c2];rfl)⟩
   ·refine yH 5 mixed uB O O<|oo O (qB O zEv O (J 1 O) O)<|oo O (zG O zCc O)<|oo O (zJ O W O (J 2 O) O)<|oo O (qP O uB (zGr l.K hr.1) (vlr O))<|oo O (qP O uB (zMw dg0 l.K.natAbs 1 O zTk (by have:=zBt hr.1;omega) uA) (vlr O))<|kE<|wI O O (yO O zTe O O (zXr (zGi O zTk).1) (zHb 1 O (zXq O (zGi O zTk).1) (zXp O (zGi O zTk).1)))<|zA ?_
    exact ⟨O,Weak.mk [true,true,true] ⟨zD,zD,zD,zD,T⟩ (by unfold erP erQ;rw [aa (show ¬l.K<0 by omega),aa (show ¬l.K<0 by omega)];rfl)⟩
  ·refine zF<|oh O O<|zS<|zW ⟨[(8,.c _),(1,.c _),(2,.c _),(6,.c _),(7,.c _)],[_,_,_]⟩ (Weak.mk [true,true,true] ⟨zD,zD,zD,zD,zD,T⟩ O)<|qG 1 2 O O (Nat×List Nat×List Nat×Int) (fun ⟨k,P,Q,z⟩=>[(8,vI k)]) (fun ⟨k,P,Q,z⟩=>[E.row b3 156 (Q.map cU),E.row b2 156 (P.map cU)]) (fun ⟨k,P,Q,z⟩=>k<=l.L.length/\(ErJ l env k P Q z)) (fun ⟨k,P,Q,z⟩=>l.L.length-k) ⟨⟨0,erP l.K,erQ l.K,0⟩,⟨zB,er_start hr.1⟩,Weak.mk [true,true,true] ⟨zD,zD,zD,zD,zD,T⟩ O⟩ ?_
   rintro ⟨k,P,Q,z⟩ ⟨hk,hj⟩
   show AWP _ _ _ _ _ ⟨[(8,vI k)]++_,[E.row b3 156 (Q.map cU),E.row b2 156 (P.map cU)]++_⟩
   refine zF<|ol O O<|zC O kC<|zE wA (J 2 O) O<|qC O D<|yC O<|zA<|zK O ?_ ?_<;>intro c3<;>try simp only [sx] at c3
   ·obtain ⟨m,hm⟩:=qX l.L k zB
    have hbr:=hr.2 m (qD hm)
    have h1:=zBt hbr
    refine zH<|zF<|zS<|ol O O<|zC O kC<|zE wA (J 2 O) O<|G O<|qE O D zB (getm hm)<|qR O wE<|zE one9 qF O<|qL O uB (ref05_find env m.Name zB) (vlr O)<|qW O<|yF O<|yF O<|G O<|oi O<|zF<|ol O O<|kU O<|zA<|zK O ?_ ?_<;>intro c4<;>try simp only [sx] at c4
    ·have hE:=ev_none c1 hm (by simpa using c4)
     exact v16
    ·obtain ⟨v,hv⟩:=kx.1 (show (lM env m.Name).isSome=true by simpa using c4)
     rw [hv]
     have hvr:=env_r her hv
     have h2:=zBt hvr
     refine zH<|ol O O<|yC O<|zC O kC<|zE wA (J 2 O) O<|G O<|qE O D zB (getm hm)<|qR O zBm<|zE W qF O<|yC O<|zT O (zKf O un4 O O)<|zA<|zK O (fun c5=>?_) (fun c5=>?_)
     ·have hs:=bne_t c5
      have hv9:=plu_v hj.ql hj.qo (er_bd (l:=l) hvr hbr (show k<=5864062014805 by omega) hj.qb)
      have hp9:=zGi (a:=v.natAbs) (b:=m.By.natAbs) hj.ql hj.qo
      have hn9:=er_neg hr hj hm hv hvr hs hp9.1 hp9.2 hv9
      refine yH 11 mixed uB O O<|oo O (wU O zEv O (J 0 O) (zKv _) (zDh hj.ql))<|oo O (zQ O O)<|oo O (qP O uB (zGr v hvr) (vlr O))<|oo O (zG O kC O)<|oo O (zJ O wA O (J 2 O) O)<|oo O (zQ O O)<|oo O (qK O D O O zB (getm hm))<|oo O (qV O zBm O)<|oo O (zJ O W O qF O)<|oo O (qP O uB (zGr m.By hbr) (vlr O))<|oo O (qP O uB (zMw Q v.natAbs m.By.natAbs hj.ql hj.qo zB zB) (vlr O))<|kE<|wI O O (yO O zTe O O (zXr (zGi hj.ql hj.qo).1) (zHb 0 O (zXq (zDh hj.ql) (zGi hj.ql hj.qo).1) (zXp (zDh hj.ql) (zGi hj.ql hj.qo).1)))<|zA<|zP O<|G O<|qH O ⟨zB,zB⟩<|G O<|zA ?_
      refine ⟨⟨k+1,P,vC Q v.natAbs m.By.natAbs,z+m.By*v⟩,⟨zB,hn9⟩,(by show l.L.length-(k+1)<l.L.length-k;omega),Weak.mk [true,true,true] ⟨zD,zD,zD,zD,zD,T⟩ O⟩
     ·have hs:=bne_f c5
      have hv9:=plu_v hj.pl hj.po (er_bd (l:=l) hvr hbr (show k<=5864062014805 by omega) hj.pb)
      have hp9:=zGi (a:=v.natAbs) (b:=m.By.natAbs) hj.pl hj.po
      have hn9:=er_pos hr hj hm hv hvr hs hp9.1 hp9.2 hv9
      refine yH 11 mixed uB O O<|oo O (wU O zEv O (J 1 O) (zKv _) (zDh hj.pl))<|oo O (zQ O O)<|oo O (qP O uB (zGr v hvr) (vlr O))<|oo O (zG O kC O)<|oo O (zJ O wA O (J 2 O) O)<|oo O (zQ O O)<|oo O (qK O D O O zB (getm hm))<|oo O (qV O zBm O)<|oo O (zJ O W O qF O)<|oo O (qP O uB (zGr m.By hbr) (vlr O))<|oo O (qP O uB (zMw P v.natAbs m.By.natAbs hj.pl hj.po zB zB) (vlr O))<|kE<|wI O O (yO O zTe O O (zXr (zGi hj.pl hj.po).1) (zHb 1 O (zXq (zDh hj.pl) (zGi hj.pl hj.po).1) (zXp (zDh hj.pl) (zGi hj.pl hj.po).1)))<|zA<|zP O<|G O<|qH O ⟨zB,zB⟩<|G O<|zA ?_
      refine ⟨⟨k+1,vC P v.natAbs m.By.natAbs,Q,z+m.By*v⟩,⟨zB,hn9⟩,(by show l.L.length-(k+1)<l.L.length-k;omega),Weak.mk [true,true,true] ⟨zD,zD,zD,zD,zD,T⟩ O⟩
   ·refine qM<|zF<|Y O<|zT O (wU O zEv O (J 1 O) (zKv _) (zDh hj.pl))<|zT O (wU O zEv O (J 0 O) (zKv _) (zDh hj.ql))<|qL O uB (ref05_less P Q hj.pl hj.ql hj.po hj.qo) (vlr O)<|zA<|zK O ?_ ?_<;>intro c6<;>try simp only [sx] at c6
    ·have hM:=mns_v hj.ql hj.pl hj.qo hj.po zB
     refine Y O<|zT O (wU O zEv O (J 0 O) (zKv _) (zDh hj.ql))<|zT O (wU O zEv O (J 1 O) (zKv _) (zDh hj.pl))<|qL O uB (zVs Q P hj.ql hj.pl hj.qo hj.po) (vlr O)<|qA O O (qZ O zr156) ?_
     rintro _ _ ⟨b4,rfl,rfl⟩
     obtain ⟨a1,a2,a3,a4,a5,a6,hM6⟩:=dg_six hM.2.2
     rw [hM6]
     rw [hM6] at hM
     have q1:=hM.2.1 a1 uF
     have q2:=hM.2.1 a2 uF
     refine rStR 0 zTe O<|zA<|Y O<|zT O (kJ O zGd O O uA uA)<|zE kA (J 0 O) O<|zT O (kJ O zGd O O uA uA)<|zE kA (J 0 O) O<|zT O (wR (b:=4294967296) O O O zB)<|zT O (kZ O O O zB)<|oi O<|zF<|Y O<|zT O (kJ O zGd O O uA uA)<|zE kA (J 0 O) O<|yM O<|G O<|rL0 O (fun g19_3=>kJ O zGd O O uA uA) O<|rL1 99 O (fun g19_3=>zJ O kA O (J 0 O) O) O<|rL1 100 O (fun g19_3=>wW O O O) O<|r_or O (fun h=>(lzf h))<|G O<|rL0 O (fun g19_8=>kJ O zGd O O uA uA) O<|rL1 104 O (fun g19_8=>zJ O kA O (J 0 O) O) O<|rL1 105 O (fun g19_8=>wW O O O) O<|r_or O (fun h=>(lzf h))<|G O<|rL0 O (fun g19_13=>kJ O zGd O O uA uA) O<|rL1 109 O (fun g19_13=>zJ O kA O (J 0 O) O) O<|rL1 110 O (fun g19_13=>wW O O O) O<|r_or O (fun h=>(lzf h))<|G O<|rL0 O (fun g19_18=>zQ O O) O<|rL1 114 O (fun g19_18=>yN O O O) O<|r_or O (fun h=>(lzf h))<|zA<|zK O ?_ ?_<;>intro c7<;>try simp only [sx] at c7
     ·have hB:=er_big hM.2.1 hM.1 zB
      have hE:=er_out hj (show l.L.length<=k by omega) c1 (by unfold r64;omega)
      exact v16
     ·have hB:=er_small hM.2.1 hM.1 zB
      refine zH<|ol O O<|zT O (det_usub (b:=1) O O O ⟨zB,zB⟩)<|zT O (zJc O zIh ik2 O (show IntKind.i64.wrap ((a1+a2*4294967296-1:Nat):Int)=((a1+a2*4294967296-1:Nat):Int) from zIo (by unfold r64;omega)))<|zT O (det_neg_nw O O ⟨zB,zB⟩)<|zT O (yL O O O ⟨zB,zB⟩)<|G O<|oi O<|zM<|fin2 (rs_c O) (rs_c O) ?_
      rw [er_in hj (show l.L.length<=k by omega) c1 (n:= -((a1+a2*4294967296-1:Nat):Int)-1) zB (by unfold r64;omega)]
    ·have hM:=mns_v hj.pl hj.ql hj.po hj.qo zB
     refine zH<|Y O<|zT O (wU O zEv O (J 1 O) (zKv _) (zDh hj.pl))<|zT O (wU O zEv O (J 0 O) (zKv _) (zDh hj.ql))<|qL O uB (zVs P Q hj.pl hj.ql hj.po hj.qo) (vlr O)<|qA O O (qZ O zr156) ?_
     rintro _ _ ⟨b5,rfl,rfl⟩
     obtain ⟨a1,a2,a3,a4,a5,a6,hM6⟩:=dg_six hM.2.2
     rw [hM6]
     rw [hM6] at hM
     have q1:=hM.2.1 a1 uF
     have q2:=hM.2.1 a2 uF
     refine rStR 0 zTe O<|zA<|Y O<|zT O (kJ O zGd O O uA uA)<|zE kA (J 0 O) O<|zT O (kJ O zGd O O uA uA)<|zE kA (J 0 O) O<|zT O (wR (b:=4294967296) O O O zB)<|zT O (kZ O O O zB)<|oi O<|zF<|Y O<|zT O (kJ O zGd O O uA uA)<|zE kA (J 0 O) O<|yM O<|G O<|rL0 O (fun g24_3=>kJ O zGd O O uA uA) O<|rL1 135 O (fun g24_3=>zJ O kA O (J 0 O) O) O<|rL1 136 O (fun g24_3=>wW O O O) O<|r_or O (fun h=>(lzf h))<|G O<|rL0 O (fun g24_8=>kJ O zGd O O uA uA) O<|rL1 140 O (fun g24_8=>zJ O kA O (J 0 O) O) O<|rL1 141 O (fun g24_8=>wW O O O) O<|r_or O (fun h=>(lzf h))<|G O<|rL0 O (fun g24_13=>kJ O zGd O O uA uA) O<|rL1 145 O (fun g24_13=>zJ O kA O (J 0 O) O) O<|rL1 146 O (fun g24_13=>wW O O O) O<|r_or O (fun h=>(lzf h))<|G O<|rL0 O (fun g24_18=>zQ O O) O<|rL1 150 O (fun g24_18=>yN O O O) O<|r_or O (fun h=>(lzf h))<|zA<|zK O ?_ ?_<;>intro c8<;>try simp only [sx] at c8
     ·have hB:=er_big2 hM.2.1 hM.1 zB
      have hE:=er_out hj (show l.L.length<=k by omega) c1 (by unfold r64;omega)
      exact v16
     ·have hB:=er_small hM.2.1 hM.1 zB
      refine zH<|ol O O<|zT O (zJc O zIh ik2 O (show IntKind.i64.wrap ((a1+a2*4294967296:Nat):Int)=((a1+a2*4294967296:Nat):Int) from zIo (by unfold r64;omega)))<|G O<|oi O<|zM<|fin2 (rs_c O) (rs_c O) ?_
      rw [er_in hj (show l.L.length<=k by omega) c1 (n:=((a1+a2*4294967296:Nat):Int)) zB (by unfold r64;omega)]
end Go.W
end
section
set_option maxRecDepth 10000
namespace Go.W
open Go Go.Eng Go.Proofs Go.L41 Go.Br Tryz
attribute [local irreducible] AWP RWP TD fY
def ref06_Holds (c:Cn) (env:List Bd) (hel:env.length<=1000000) (her:∀x,x∈env->r64 x.Val) (hl:c.Lin.L.length<=5864062014805) (hr:c.Lin.rng):
    Pur cfg 86 [vCn c,jR env] (.tup [vB (if (dR c.Lin env).2=0 then eR c (dR c.Lin env).1 else false),vI (dR c.Lin env).2]):=by
 refine zV func86 O ntmps86 results86 O fun z hz=>Y O<|og O fun b1=>G O<|oi O<|Y O<|zC O zXf<|zN yV (J 0 O) O<|G O<|qL O uB (zRe c.Lin env hel her hl hr) (vlr O)<|qW O<|yF O<|yF O<|G O<|oi O<|zF<|ol O O<|yM O<|zA<|zK O (fun c1=>?_) (fun c1=>?_)
 ·try simp only [sx] at c1
  refine ol O O<|G O<|oi O<|zM<|fin2 (rs_c O) (rs_c O) ?_
  rw [aa c1]
 ·exact j5
def zKo (p:Pg) (env:List Bd) (hel:env.length<=1000000) (her:∀x,x∈env->r64 x.Val) (hP:p.Ok) (hR:p.Rng):
    Pur cfg 35 [vPg p,jR env] (vI (lX p env)):=by
 refine zV func35 O ntmps35 results35 O ?_
 intro z hz
 have hps:=hP.sizes
 have hpw:=hP.wh
 refine Y O<|og O fun b1=>oi O<|zF<|ol O O<|qC O el31<|zC O zCt<|zE zBp (J 0 O) O<|qC O el25<|yM O<|zA<|zK O ?_ ?_<;>intro c1<;>try simp only [sx] at c1
 ·refine oh O O<|zM<|zX O ?_
  rw [chk_len zB]
 ·have hpl:env.length=p.Sizes.length:=by omega
  refine zH<|zF<|oh O O<|zS<|zW ⟨[(5,.c _),(1,.c _),(2,.c _)],[_]⟩ (Weak.mk [true] ⟨zD,zD,zD,T⟩ O)<|qG 1 0 O O (Nat) (fun k=>[(5,vI k)]) (fun k=>[]) (fun k=>k<=p.Sizes.length/\((p.Sizes.take k).all (mR env)=true)) (fun k=>p.Sizes.length-k) ⟨0,⟨zB,O⟩,Weak.mk [true] ⟨zD,zD,zD,T⟩ O⟩ ?_
  rintro k ⟨hk,hp⟩
  refine zF<|ol O O<|zC O zCt<|zE zBp (J 0 O) O<|qC O el25<|yC O<|zA<|zK O ?_ ?_<;>intro c2<;>try simp only [sx] at c2
  ·obtain ⟨s,hs⟩:=qX p.Sizes k zB
   refine zH<|zF<|zS<|ol O O<|zC O zCt<|zE zBp (J 0 O) O<|G O<|qE O el25 zB (getm hs)<|zE one9 qF O<|qL O uB (ref19_number env s hel) (vlr O)<|qW O<|yF O<|yF O<|G O<|oi O<|ol O O<|kU O<|G O<|rL0 O (fun g7_2=>zQ O O) O<|rL1 37 O (fun g7_2=>zAz O O O) O<|r_or O (fun h=>(lzf h))<|G O<|rL0 O (fun g7_6=>zQ O O) O<|rL1 41 O (fun g7_6=>yN O O O) O<|r_or O (fun h=>(lzf h))<|zA<|zK O (fun c3=>?_) (fun c3=>?_)
   ·have hG:=chk_bad hpl hs (by have h9:=(ref_sz env s).symm.trans c3;simpa using h9)
    refine oh O O<|zM<|zX O ?_
    rw [hG]
   ·have hG:mR env s=true:=by have h9:=(ref_sz env s).symm.trans c3;simpa using h9
    refine zH<|zP O<|G O<|qH O ⟨zB,zB⟩<|G O<|zA ?_
    refine ⟨k+1,⟨zB,allz_next hs hp hG⟩,zB,Weak.mk [true] ⟨zD,zD,zD,T⟩ O⟩
  ·rw [yI zB] at hp
   have hZ:=chk_wh hpl hp
   refine qM<|zF<|oh O O<|zS<|zW ⟨[(8,.c _),(1,.c _),(2,.c _)],[_]⟩ (Weak.mk [true] ⟨zD,zD,zD,T⟩ O)<|qG 1 0 O O (Nat) (fun j=>[(8,vI j)]) (fun j=>[]) (fun j=>j<=p.Where.length/\(whE env p.Where=whE env (p.Where.drop j))) (fun j=>p.Where.length-j) ⟨0,⟨zB,O⟩,Weak.mk [true] ⟨zD,zD,zD,T⟩ O⟩ ?_
   rintro j ⟨hj,hq⟩
   refine zF<|ol O O<|zC O zPy<|zE one26 (J 0 O) O<|qC O el26<|yC O<|zA<|zK O ?_ ?_<;>intro c4<;>try simp only [sx] at c4
   ·obtain ⟨c,hc⟩:=qX p.Where j zB
    refine zH<|zF<|zS<|Y O<|zC O zPy<|zE one26 (J 0 O) O<|G O<|qE O el26 zB (getm hc)<|zN agg123 qF O<|G O<|qL O uB (ref06_Holds c env hel her (hP.whs c (qD hc)) (hR.wh c (qD hc))) (vlr O)<|qW O<|yF O<|yF O<|G O<|oi O<|zF<|ol O O<|yM O<|zA<|zK O ?_ ?_<;>intro c5<;>try simp only [sx] at c5
    ·have hW:=wh_err hc hq c5
     refine ol O O<|oi O<|zM<|zX O ?_
     rw [hZ,hW]
    ·refine zH<|ol O O<|kU O<|zA<|zK O ?_ ?_<;>intro c6<;>try simp only [sx] at c6
     ·rw [ab c5] at c6
      have hW:=wh_no hc hq c5 c6
      refine oh O O<|zM<|zX O ?_
      rw [hZ,hW]
     ·rw [ab c5] at c6
      refine zH<|zP O<|G O<|qH O ⟨zB,zB⟩<|G O<|zA ?_
      refine ⟨j+1,⟨zB,wh_next hc hq c5 c6⟩,zB,Weak.mk [true] ⟨zD,zD,zD,T⟩ O⟩
   ·have hW:=wh_end (show p.Where.length<=j by omega) hq
    refine qM<|oh O O<|zM<|zX O ?_
    rw [hZ,hW]
def ref19_asked (p:Pg) (env:List Bd) (hel:env.length<=1000000) (her:∀x,x∈env->r64 x.Val) (hP:p.Ok) (hR:p.Rng):
    Pur cfg 87 [vPg p,jR env] (vI (if (bK p).2=0 then lX p env else (bK p).2)):=by
 refine zV func87 O ntmps87 results87 O fun z hz=>Y O<|og O fun b1=>oi O<|zF<|Y O<|zN zBa (J 0 O) O<|qL O uB (show Pur cfg 34 [vPg p] (.tup [vI (bK p).1,vI (bK p).2]) by rw [zFm];exact zNo p hP) (vlr O)<|qW O<|yF O<|yF O<|G O<|oi O<|ol O O<|yM O<|zA<|zK O ?_ ?_<;>intro c1<;>try simp only [sx] at c1
 ·refine ol O O<|oi O<|zM<|zX O ?_
  rw [aa c1]
 ·refine zH<|Y O<|zN zBa (J 0 O) O<|G O<|qL O uB (zKo p env hel her hP hR) (vlr O)<|oi O<|zM<|zX O ?_
  rw [ab c1]
def ref19_Forms (p:Pg) (s:nn) (hP:p.Ok):
    Pur cfg 151 [vPg p,vS s] (.tup [mN (p.en.find s).dims,vTy (p.en.find s).ty,vB (p.en.find s).ok]):=by
 refine zV func151 O ntmps151 results151 O ?_
 intro z hz
 have hpl:=hP.params
 have hpd:=hP.defs
 refine Y O<|og O fun b1=>qY 2 O<|qA O O (qZ O v) ?_
 rintro _ _ ⟨b2,rfl,rfl⟩
 refine oi O<|zF<|oh O O<|zS<|zW ⟨[(7,.c _),(1,.c _),(2,.c _),(5,.c _)],[_,_]⟩ (Weak.mk [true,true] ⟨zD,zD,zD,zD,T⟩ O)<|qG 1 0 O O (Nat) (fun k=>[(7,vI k)]) (fun k=>[]) (fun k=>k<=p.Params.length/\(fV s p.Defs p.Params=fV s p.Defs (p.Params.drop k))) (fun k=>p.Params.length-k) ⟨0,⟨zB,O⟩,Weak.mk [true,true] ⟨zD,zD,zD,zD,T⟩ O⟩ ?_
 rintro k ⟨hk,hp⟩
 refine zF<|ol O O<|zC O zDu<|zE zIk (J 1 O) O<|qC O el27<|yC O<|zA<|zK O ?_ ?_<;>intro c1<;>try simp only [sx] at c1
 ·obtain ⟨x,hx⟩:=qX p.Params k zB
  refine zH<|zF<|zS<|Y O<|zC O zDu<|zE zIk (J 1 O) O<|G O<|qE O el27 zB (getm uC)<|qR O zPw<|zE one9 qF O<|G O<|wC O<|zA<|zK O (fun c2=>?_) (fun c2=>?_)
  ·try simp only [sx] at c2
   refine zF<|yH 13 mixed uB O O<|oo O (zG O zDu O)<|oo O (zJ O zIk O (J 1 O) O)<|oo O (zQ O O)<|oo O (qK O el27 O O zB (getm uC))<|oo O (qV O zPv O)<|oo O (zJ O zBs O qF O)<|oo O (zG O zDu O)<|oo O (zJ O zIk O (J 1 O) O)<|oo O (zQ O O)<|oo O (qK O el27 O O zB (getm uC))<|oo O (qV O fd74_1 O)<|oo O (qB O yE O qF O)<|oo O (yR O O)<|kE<|rStR 0 N O<|oi O<|zM<|fin3 (rs_c O) (zZ yE O (J 0 O) O) (rs_c O) ?_
   exact v83
  ·exact v71
 ·have hF:p.en.find s=dY s p.Defs:=by rw [En.find,show p.en.pm=p.Params from rfl,show p.en.df=p.Defs from rfl,hp,zAa zB];rfl
  refine qM<|zF<|oh O O<|zS<|zW ⟨[(8,.c _),(1,.c _),(2,.c _),(5,.c _)],[_,_]⟩ (Weak.mk [true,true] ⟨zD,zD,zD,zD,T⟩ O)<|qG 1 0 O O (Nat) (fun k=>[(8,vI k)]) (fun k=>[]) (fun k=>k<=p.Defs.length/\(dY s p.Defs=dY s (p.Defs.drop k))) (fun k=>p.Defs.length-k) ⟨0,⟨zB,O⟩,Weak.mk [true,true] ⟨zD,zD,zD,zD,T⟩ O⟩ ?_
  rintro k ⟨hk,hq⟩
  refine zF<|ol O O<|zC O zAo<|zE zDr (J 1 O) O<|qC O el28<|yC O<|zA<|zK O ?_ ?_<;>intro c3<;>try simp only [sx] at c3
  ·obtain ⟨d,hd⟩:=qX p.Defs k zB
   refine zH<|zF<|zS<|Y O<|zC O zAo<|zE zDr (J 1 O) O<|G O<|qE O el28 zB (getm uC)<|qR O zCn<|zE one9 qF O<|G O<|wC O<|zA<|zK O (fun c4=>?_) (fun c4=>?_)
   ·try simp only [sx] at c4
    have hdd:=(hP.ds d (qD hd)).1
    refine ol O O<|yP _ (kF 59 2)<|zA<|zF<|oh O O<|zS<|zW ⟨[(10,.c _),(9,.c _),(2,.c _),(5,.c _),(8,.c _)],[_,_,_]⟩ (Weak.mk [true,true,true] ⟨zD,zD,zD,zD,zD,T⟩ O)<|qG 2 1 O O (Nat×Value) (fun ⟨j,sv⟩=>[(10,vI j),(9,.c (.lit sv))]) (fun ⟨j,sv⟩=>[E.vec sv 59 2 ((d.Dims.take j).map fun a=>a.Size.cells)]) (fun ⟨j,sv⟩=>j<=d.Dims.length) (fun ⟨j,sv⟩=>d.Dims.length-j) ⟨⟨0,(.slice none 0 0)⟩,zB,Weak.mk [true,true,true] ⟨zD,zD,zD,zD,zD,T⟩ O⟩ ?_
    rintro ⟨j,sv⟩ hj
    show AWP _ _ _ _ _ ⟨[(10,vI j),(9,.c (.lit sv))]++_,[E.vec sv 59 2 ((d.Dims.take j).map fun a=>a.Size.cells)]++_⟩
    refine zF<|ol O O<|zC O zAo<|zE zDr (J 2 O) O<|G O<|qE O el28 zB (getm uC)<|qR O zDg<|zE zAn qF O<|qC O el68<|yC O<|zA<|zK O (fun c5=>?_) (fun c5=>?_)
    ·exact n5
    ·try simp only [sx] at c5
     refine qM<|zF<|yH 8 mixed uB O O<|oo O (zQ O O)<|oo O (zG O zAo O)<|oo O (zJ O zDr O (J 2 O) O)<|oo O (zQ O O)<|oo O (qK O el28 O O zB (getm uC))<|oo O (qV O zKt O)<|oo O (qB O yE O qF O)<|oo O (yR O O)<|kE<|rStR 1 N O<|oi O<|zW _ (yK 0 O (regs':=[(9,_),(77,_),(4,_)]) (μ':=[_,_]) ⟨FLe.sl,FLe.sl,FLe.sl,T⟩ ⟨EFle.refl _,EFle.refl _,T⟩)<|zM<|fin3 (rs_c O) (zZ yE O (J 0 O) O) (rs_c O) ?_
     rw [hF,hq,findD_at hd c4,yI (l:=d.Dims) (k:=j) zB];simp only [mN,fq];rfl
   ·exact v65
  ·refine qM<|Y O<|yJ O v pl56<|qY 2 O<|rStR 0 N O<|oi O<|zM<|fin3 (rs_c O) (zZ yE O (J 0 O) O) (rs_c O) ?_
   rw [hF,hq,zAa (l:=p.Defs) zB];rfl
def ref19_extents (l:List Lf) (env:List Bd) (hel:env.length<=1000000) (her:∀x,x∈env->r64 x.Val) (hl:l.length<=4294967296) (hf:∀f,f∈l->f.L.length<=5864062014805/\f.rng):
    Pur cfg 152 [mN l,jR env] (.tup [vIs (xE env l),vI (fG env l)]):=by
 refine zV func152 O ntmps152 results152 O fun z hz=>Y O<|qY 1 O<|oi O<|ol O O<|yP _ (kF 3 1)<|zA<|zF<|oh O O<|zS<|zW ⟨[(7,.c _),(6,.c _),(0,.c _),(1,.c _)],[_]⟩ (Weak.mk [true] ⟨zD,zD,zD,zD,T⟩ O)<|qG 2 1 O O (Nat×Value) (fun ⟨k,sv⟩=>[(7,vI k),(6,.c (.lit sv))]) (fun ⟨k,sv⟩=>[E.vec sv 3 1 ((dU env (l.take k)).map fun n=>[cI n])]) (fun ⟨k,sv⟩=>k<=l.length/\(fG env l=fG env (l.drop k))) (fun ⟨k,sv⟩=>l.length-k) ⟨⟨0,(.slice none 0 0)⟩,⟨zB,O⟩,Weak.mk [true] ⟨zD,zD,zD,zD,T⟩ O⟩ ?_
 rintro ⟨k,sv⟩ ⟨hk,hp⟩
 show AWP _ _ _ _ _ ⟨[(7,vI k),(6,.c (.lit sv))]++_,[E.vec sv 3 1 ((dU env (l.take k)).map fun n=>[cI n])]++_⟩
 refine zF<|ol O O<|G O<|qC O el72<|yC O<|zA<|zK O ?_ ?_<;>intro c1<;>try simp only [sx] at c1
 ·obtain ⟨f,hx⟩:=qX l k zB
  refine zH<|zF<|zS<|ol O O<|G O<|qE O el72 zB (getm hx)<|zN yV qF O<|G O<|qL O uB (zRe f env hel her (hf f (qD hx)).1 (hf f (qD hx)).2) (vlr O)<|qW O<|yF O<|yF O<|G O<|oi O<|zF<|ol O O<|yM O<|zA<|zK O ?_ ?_<;>intro c2<;>try simp only [sx] at c2
  ·have hE:=ext_err hx hp c2
   exact v72
  ·refine zH<|zF<|ol O O<|yC O<|G O<|rL0 O (fun g8_2=>zQ O O) O<|rL1 31 O (fun g8_2=>yN O O O) O<|r_or O (fun h=>(lzf h))<|zA<|zK O ?_ ?_<;>intro c3<;>try simp only [sx] at c3
   ·have hE:=ext_bad hx hp c2 (by simpa using c3)
    exact v82
   ·have hn:=zUe hx hp c2 (by simpa using c3)
    refine zH<|zP O<|G O<|G O<|yY O el46 zr3<|qA O O (yB 0 O el46 O O O (by simp [dU];omega) (by simp [dU];omega)) ?_
    rintro _ _ ⟨sv2,rfl,rfl⟩
    refine oi O<|zP O<|G O<|qH O ⟨zB,zB⟩<|G O<|zA ?_
    refine ⟨⟨k+1,sv2⟩,⟨zB,hn⟩,(by show l.length-(k+1)<l.length-k;omega),Weak.mk [true] ⟨zD,zD,zD,zD,T⟩ (by exact zOg (by rw [yA hx];unfold dU;rw [ah,ah];rfl))⟩
 ·have hE:=ext_end (show l.length<=k by omega) hp
  exact v15
def ref19_many (l:List Int) (hl:l.length<=4294967296) (h:∀n,n∈l->1<=n/\n<=4096):
    Pur cfg 153 [vIs l] (vI (tL l)):=by
 refine zV func153 O ntmps153 results153 O fun z hz=>oh O O<|oh O O<|zF<|oh O O<|zS<|zW ⟨[(4,.c _),(3,.c _),(0,.c _)],[]⟩ (Weak.mk [] ⟨zD,zD,zD,T⟩ O)<|qG 2 0 O O (Nat×Int) (fun ⟨k,s⟩=>[(4,vI k),(3,vI s)]) (fun ⟨k,s⟩=>[]) (fun ⟨k,s⟩=>k<=l.length/\(1<=s/\s<=65537)/\(tL l=(l.drop k).foldl (fun n d=>min (n*d) 65537) s)) (fun ⟨k,s⟩=>l.length-k) ⟨⟨0,1⟩,⟨zB,⟨uA,uA⟩,O⟩,Weak.mk [] ⟨zD,zD,zD,T⟩ O⟩ ?_
 rintro ⟨k,s⟩ ⟨hk,hs,hp⟩
 show AWP _ _ _ _ _ ⟨[(4,vI k),(3,vI s)]++_,[]++_⟩
 refine zF<|ol O O<|G O<|qC O el46<|yC O<|zA<|zK O ?_ ?_<;>intro c1<;>try simp only [sx] at c1
 ·obtain ⟨n,hn⟩:=qX l k zB
  have hnb:=h n (qD hn)
  have hmb:=iq hs.2 hnb.2 zB zB
  have hmb2:=iq (show 1<=s from hs.1) hnb.1 zB zB
  rw [qJ hn,cv] at hp
  refine zH<|zF<|zS<|zP O<|G O<|G O<|G O<|qE O el46 zB (getm hn)<|zE one3 qF O<|zT O (zSg O O O ⟨zB,zB⟩)<|zT O (det_min O O O)<|oi O<|zP O<|G O<|qH O ⟨zB,zB⟩<|G O<|zA ?_
  refine ⟨⟨k+1,min (s*n) 65537⟩,⟨zB,⟨zB,zB⟩,hp⟩,(by show l.length-(k+1)<l.length-k;omega),Weak.mk [] ⟨zD,zD,zD,T⟩ O⟩
 ·rw [zAa zB] at hp
  refine qM<|ol O O<|oi O<|zM<|zX O ?_
  rw [hp];rfl
def ref19_dims (p:Pg) (s:nn) (env:List Bd) (hel:env.length<=1000000) (her:∀x,x∈env->r64 x.Val) (hP:p.Ok) (hR:p.Rng):
    Pur cfg 88 [vPg p,jR env,vS s] (.tup [vIs (mU p env s).1,vI (mU p env s).2]):=by
 refine zV func88 O ntmps88 results88 O ?_
 intro z hz
 have hfd:=find_fit hP hR s
 refine Y O<|og O fun b1=>qY 1 O<|oi O<|Y O<|zN zBa (J 0 O) O<|G O<|qL O uB (ref19_Forms p s hP) (vlr O)<|qW O<|yF O<|zT O (yD O O O)<|yF O<|qA O O (qZ O v) ?_
 rintro _ _ ⟨b2,rfl,rfl⟩
 refine G O<|rStR 0 N O<|oi O<|zF<|ol O O<|kU O<|zA<|zK O ?_ ?_<;>intro c1<;>try simp only [sx] at c1
 ·refine Y O<|qY 1 O<|oi O<|zM<|fin2 (rs_c O) (rs_c O) ?_
  rw [dim_no c1];rfl
 ·refine zH<|ol O O<|G O<|qL O uB (ref19_extents (p.en.find s).dims env hel her hfd.1 hfd.2) (vlr O)<|qW O<|yF O<|yF O<|G O<|oi O<|zF<|ol O O<|yT O<|G O<|rL0 O (fun g5_2=>zQ O O) O<|rL1 31 O (fun g5_2=>qP O uB (show Pur cfg 153 [vIs (xE env (p.en.find s).dims)] (vI (tL (dU env (p.en.find s).dims))) by have h9:fG env (p.en.find s).dims=0:=(by simpa [Lz] using g5_2);rw [zSz h9];exact ref19_many _ (by unfold dU;rw [lLm];exact hfd.1) (zXi h9)) (vlr O)) O<|rL1 32 O (fun g5_2=>yN O O O) O<|kH O (fun h=>h)<|zA<|zK O ?_ ?_<;>intro c2<;>try simp only [sx] at c2
  ·obtain ⟨c2,c3⟩:fG env (p.en.find s).dims=0/\4096<tL (dU env (p.en.find s).dims):=by simpa using c2
   have hD:=dim_b c1 c2 ((many_is (zXi c2)).1 c3)
   refine Y O<|qY 1 O<|oi O<|zM<|fin2 (rs_c O) (rs_c O) ?_
   rw [hD];rfl
  ·have hD:mU p env s=(xE env (p.en.find s).dims,fG env (p.en.find s).dims):=ref_dim c1 (fun h9=>by rcases c2 with k|k;exact absurd h9 k;exact k)
   refine zH<|ol O O<|G O<|G O<|oi O<|zM<|fin2 (rs_c O) (rs_c O) ?_
   rw [hD]
def ref19_Dims (p:Pg) (s:nn) (env:List Bd) (hel:env.length<=1000000) (her:∀x,x∈env->r64 x.Val) (hP:p.Ok) (hR:p.Rng):
    Pur cfg 36 [vPg p,jR env,vS s] (.tup [vIs (rM p env s).1,vI (rM p env s).2]):=by
 refine zV func36 O ntmps36 results36 O fun z hz=>Y O<|og O fun b1=>qY 1 O<|oi O<|zF<|Y O<|zN zBa (J 0 O) O<|G O<|qL O uB (ref19_asked p env hel her hP hR) (vlr O)<|oi O<|ol O O<|yM O<|zA<|zK O ?_ ?_<;>intro c1<;>try simp only [sx] at c1
 ·refine ol O O<|qY 1 O<|oi O<|zM<|fin2 (rs_c O) (rs_c O) ?_
  rw [dmT_no c1];rfl
 ·refine zH<|Y O<|zN zBa (J 0 O) O<|G O<|G O<|qL O uB (ref19_dims p s env hel her hP hR) (vlr O)<|yF O<|yF O<|G O<|oi O<|zM<|fin2 (rs_c O) (rs_c O) ?_
  rw [dmT_ok c1]
def ref32_value (env:List Bd) (s:nn) (hel:env.length<=1000000):
    Pur cfg 96 [jR env,vS s] (vI (gC env s)):=by
 refine zV func96 O ntmps96 results96 O fun z hz=>oh O O<|zF<|oh O O<|zS<|zW ⟨[(5,.c _),(0,.c _),(1,.c _)],[]⟩ (Weak.mk [] ⟨zD,zD,zD,T⟩ O)<|qG 1 0 O O (Nat) (fun k=>[(5,vI k)]) (fun k=>[]) (fun k=>k<=env.length/\((env.take k).any (fun y=>decide (y.Name=s))=false)) (fun k=>env.length-k) ⟨0,⟨zB,O⟩,Weak.mk [] ⟨zD,zD,zD,T⟩ O⟩ ?_
 rintro k ⟨hk,hp⟩
 refine zF<|ol O O<|G O<|qC O el31<|yC O<|zA<|zK O ?_ ?_<;>intro c1<;>try simp only [sx] at c1
 ·obtain ⟨x,hx⟩:=qX env k zB
  refine zH<|zF<|zS<|ol O O<|G O<|qE O el31 zB (getm hx)<|qR O zNu<|zE one9 qF O<|G O<|wC O<|zA<|zK O (fun c2=>?_) (fun c2=>?_)
  ·try simp only [sx] at c2
   refine ol O O<|G O<|qE O el31 zB (getm hx)<|qR O zSy<|zE W qF O<|oi O<|zM<|zX O ?_
   rw [envD_at hx c2 hp]
  ·exact v73
 ·refine qM<|oh O O<|zM<|zX O ?_
  rw [yI zB] at hp
  rw [envD_no hp]
def ref04_stepL (t:Ty) (c:dJ t=true) (h:t.Kind=2):
    Pur cfg 201 [vTy t] (vI (2^t.Frac.toNat)):=by
 refine zV func201 O ntmps201 results201 O fun z hz=>Y O<|og O fun b1=>oi O<|Y O<|zC O zPx<|zE one3 (J 0 O) O<|zT O (zJc O us3 ik240 O (frac_u64 c h))<|zT O (det_shlE O O O (one_sh (tyErr_0 c) h).1 (one_sh (tyErr_0 c) h).2)<|oi O<|zM<|zX O ?_
 exact O
def ref04_One (t:Ty):
    Pur cfg 158 [vTy t] (.tup [tW (fP t).1,vI (fP t).2]):=by
 refine zV func158 O ntmps158 results158 O fun z hz=>Y O<|og O fun b1=>qA O O (qZ O zr54) ?_
 rintro _ _ ⟨b2,rfl,rfl⟩
 refine oi O<|zF<|Y O<|zN yE (J 1 O) O<|qL O uB (zJf _) (vlr O)<|kU O<|zA<|zK O ?_ ?_<;>intro c1<;>try simp only [sx] at c1
 ·refine Y O<|yJ O zr54 pl54<|rStR 0 sz54 O<|oi O<|zM<|fin2 (zZ zBy O (J 0 O) O) (rs_c O) ?_
  rw [oneR_no c1];rfl
 ·refine zH<|Y O<|yJ O zr54 pl54<|qA O O (qZ O zr54) ?_
  rintro _ _ ⟨b3,rfl,rfl⟩
  refine rStR 0 sz54 O<|zA<|zF<|Y O<|zC O zGm<|zE one3 (J 2 O) O<|yT O<|zA<|qO O (fun c2=>?_) (fun c2=>?_)
  ·have hN:=oneN_2 c2
   refine zP O<|zN yE (J 2 O) O<|qL O uB (ref04_stepL t c1 c2) (vlr O)<|zC O zIb<|rStR 0 sz2 O<|zA<|zF<|Y O<|zN yE (J 2 O) O<|zN zBy (J 0 O) O<|qL O uB (base_Val t ⟨2^t.Frac.toNat,1⟩ c1) (vlr O)<|kU O<|zA<|zK O (fun c3=>?_) (fun c3=>?_)
   ·have hE:=oneR_r c1 (by rw [hN];exact notT c3)
    refine Y O<|yJ O zr54 pl54<|rStR 1 sz54 O<|oi O<|zM<|fin2 (zZ zBy O (J 1 O) O) (rs_c O) ?_
    rw [hE];rfl
   ·have hE:=oneR_ok c1 (by rw [hN];exact notF c3)
    rw [hN] at hE
    refine zH<|Y O<|zN zBy (J 0 O) O<|rStR 1 sz54 O<|oi O<|zM<|fin2 (zZ zBy O (J 1 O) O) (rs_c O) ?_
    rw [hE];rfl
  ·have hN:=oneN_n c2
   refine zH<|zF<|Y O<|zN yE (J 2 O) O<|zN zBy (J 0 O) O<|qL O uB (base_Val t ⟨1,1⟩ c1) (vlr O)<|kU O<|zA<|zK O (fun c3=>?_) (fun c3=>?_)
   ·have hE:=oneR_r c1 (by rw [hN];exact notT c3)
    refine Y O<|yJ O zr54 pl54<|rStR 1 sz54 O<|oi O<|zM<|fin2 (zZ zBy O (J 1 O) O) (rs_c O) ?_
    rw [hE];rfl
   ·have hE:=oneR_ok c1 (by rw [hN];exact notF c3)
    rw [hN] at hE
    refine zH<|Y O<|zN zBy (J 0 O) O<|rStR 1 sz54 O<|oi O<|zM<|fin2 (zZ zBy O (J 1 O) O) (rs_c O) ?_
    rw [hE];rfl
def ref04_Identity (f:Int) (t:Ty):
    Pur cfg 98 [vI f,vTy t] (.tup [tW (idT f t).1,vB (idT f t).2]):=by
 refine zV func98 O ntmps98 results98 O fun z hz=>Y O<|og O fun b1=>qA O O (qZ O zr54) ?_
 rintro _ _ ⟨b2,rfl,rfl⟩
 refine oi O<|zF<|Y O<|zN yE (J 1 O) O<|qL O uB (zJf _) (vlr O)<|G O<|rL0 O (fun g1_2=>zQ O O) O<|rL1 11 O (fun g1_2=>yX O O O) O<|rL1 12 O (fun g1_2=>zQ O O) O<|rLz [] O gv2 T (fun g1_5=>zQ O O) O<|rLz [(14,_)] O gv2 ⟨O,O,T⟩ (fun g1_5=>yX O O O) O<|rL1 13 O (fun g1_2=>zCo O O O O (fun h=>kR uC (lzf h))) O<|kH O (fun h=>h)<|zA<|zK O ?_ ?_<;>intro c1<;>try simp only [sx] at c1
 ·have c1:dJ t=true/\(f=1∨f=5):=by simpa using c1
  have hE:=idR_2 c1.1 c1.2
  refine Y O<|zN yE (J 1 O) O<|qL O uB (ref04_Zero _) (vlr O)<|rStR 0 sz54 O<|oi O<|zM<|fin2 (zZ zBy O (J 0 O) O) (rs_c O) ?_
  rw [hE];rfl
 ·have c1:¬(dJ t=true/\(f=1∨f=5)):=by rintro ⟨a,b⟩;rw [a] at c1;simp at c1;omega
  refine zH<|zF<|ol O O<|yT O<|zA<|qO O (fun c2=>?_) (fun c2=>?_)
  ·have hE:=idR_3 c1 c2
   refine Y O<|zN yE (J 1 O) O<|qL O uB (ref04_One _) (vlr O)<|qW O<|zT O (yD O O O)<|yF O<|qA O O (qZ O zr54) ?_
   rintro _ _ ⟨b3,rfl,rfl⟩
   refine rStR 0 sz54 O<|oi O<|Y O<|zN zBy (J 0 O) O<|G O<|yT O<|rStR 1 sz54 O<|oi O<|zM<|fin2 (zZ zBy O (J 1 O) O) (rs_c O) ?_
   rw [hE];rfl
  ·have hE:=idR_4 c1 c2
   refine zH<|Y O<|yJ O zr54 pl54<|rStR 0 sz54 O<|oi O<|zM<|fin2 (zZ zBy O (J 0 O) O) (rs_c O) ?_
   rw [hE];rfl
def zNn (l:Lf):
    Pur cfg 97 [dC l] (vE (nA l)):=by
 refine zV func97 O ntmps97 results97 O ?_
 exact l5
def ref32_body (p:Pg) (d:Df) (env:List Bd) (hel:env.length<=1000000) (her:∀x,x∈env->r64 x.Val) (hps:p.Sizes.length<=1000000) (hD:d.Dims.length<=6) (hR:d.Red.length<=6) (hbw:d.Body.wt<=1500) (hdR:d.Body.allF Lf.rng) (hnz:d.Name.size<=100000) (hns:∀s,s∈bD d->s.size<=16):
    Pur cfg 39 [vPg p,jR env,vDf d] (.tup [vE (jZ (nS p env d)),vI (gG (nS p env d))]):=by
 refine zV func39 O ntmps39 results39 O ?_
 intro z hz
 have hnl:=namesD_len d
 refine Y O<|og O fun b1=>og O fun b2=>qA O O (qI nr O zr62 O) ?_
 rintro _ _ ⟨b3,rfl,rfl⟩
 refine oi O<|Y O<|zC O fd70_5<|zN yZ (J 1 O) O<|qA O O (qI nr O zr62 O) ?_
 rintro _ _ ⟨b4,rfl,rfl⟩
 refine rStR 0 sz62 O<|zA<|zF<|oh O O<|zS<|zW ⟨[(9,.c _),(1,.c _),(3,.c _),(5,.c _),(6,.c _),(8,.c _)],[_,_,_,_]⟩ (Weak.mk [true,true,true,true] ⟨zD,zD,zD,zD,zD,zD,T⟩ O)<|qG 1 1 O O (Nat×Ex) (fun ⟨k,e1⟩=>[(9,vI k)]) (fun ⟨k,e1⟩=>[E.row b4 62 e1.cs]) (fun ⟨k,e1⟩=>k<=p.Sizes.length/\(SbJ (fun s:nn=>(⟨gC env s,[]⟩:Lf)) p.Sizes d.Body k e1)) (fun ⟨k,e1⟩=>p.Sizes.length-k) ⟨⟨0,d.Body⟩,⟨zB,zPb hdR⟩,Weak.mk [true,true,true,true] ⟨zD,zD,zD,zD,zD,zD,T⟩ O⟩ ?_
 rintro ⟨k,e1⟩ ⟨hk,hs1⟩
 show AWP _ _ _ _ _ ⟨[(9,vI k)]++_,[E.row b4 62 e1.cs]++_⟩
 refine zF<|ol O O<|zC O zCt<|zE zBp (J 3 O) O<|qC O el25<|yC O<|zA<|zK O ?_ ?_<;>intro c1<;>try simp only [sx] at c1
 ·obtain ⟨s,hs⟩:=qX p.Sizes k zB
  refine zH<|zF<|zS<|zF<|yS 20 1 [⟨0,.q [1]⟩,⟨1,.q []⟩,⟨2,.q [4]⟩,⟨3,.q []⟩,⟨4,.q []⟩,⟨5,.q []⟩,⟨6,.q []⟩,⟨7,.q []⟩,⟨8,.q [4]⟩,⟨9,.q []⟩,⟨10,.q []⟩,⟨11,.q []⟩,⟨12,.q []⟩,⟨13,.q []⟩,⟨14,.q []⟩,⟨15,.q []⟩,⟨16,.q []⟩,⟨17,.q []⟩,⟨18,.e 0 []⟩,⟨19,.e 0 []⟩] mixed uB uB O O O<|zR O<|zR O<|zR O<|zR O<|zR O<|zR O<|zR O<|zR O<|zR O<|zR O<|zR O<|zR O<|zR O<|zR O<|zR O<|zR O<|zR O<|zR O<|zR O<|zR O<|wQ<|om O (qB O yZ O (J 0 O) O)<|om O (zG O zCt O)<|om O (zJ O zBp O (J 0 O) O)<|om O (zQ O O)<|om O (qK O el25 O O zB (getm hs))<|om O (zJ O one9 O qF O)<|om O (zQ O O)<|om O (zG O zCt O)<|om O (zJ O zBp O (J 0 O) O)<|om O (zQ O O)<|om O (qK O el25 O O zB (getm hs))<|om O (zJ O one9 O qF O)<|om O (qP O uB (ref32_value env s hel) (vlr O))<|om O (zAu [none,some 2] O U pl59 O O)<|om O (qP O uB (show Pur cfg 95 [vE e1,vS s,dC ⟨gC env s,[]⟩] (.tup [vE (jZ (mEx (fun l=>bU l s ⟨gC env s,[]⟩) e1)),vI (gG (mEx (fun l=>bU l s ⟨gC env s,[]⟩) e1))]) by rw [←sbR hs1.rg];exact zGg e1 s ⟨gC env s,[]⟩ (bu _) (k_rng (env_rng her s)) hs1.rg (by have:=hs1.wt;omega)) (vlr O))<|om O (yW O O)<|om O (yD O O O)<|om O (kM O O O)<|zEm O O uA O O (qI nr O zr62 O) ?_
  rintro _ _ ⟨b5,rfl,rfl⟩
  refine ⟨_,O,?_⟩
  refine zCk O O uA O O (yO O sz62 O O O (zBo 0 O O)) ?_
  rintro _ _ ⟨rfl,rfl⟩
  refine ⟨_,O,?_⟩
  refine wP O<|oi O<|zF<|ol O O<|yM O<|zA<|zK O ?_ ?_<;>intro c2<;>try simp only [sx] at c2
  ·have hE:=bodyR_e (sbJ_err (u:=(fun s:nn=>(⟨gC env s,[]⟩:Lf))) hs1 hs c2)
   exact v79
  ·refine zH<|zP O<|zN yZ (J 0 O) O<|rStR 1 sz62 O<|zA<|zP O<|G O<|qH O ⟨zB,zB⟩<|G O<|zA ?_
   refine ⟨⟨k+1,jZ (mEx (fun l=>bU l s ⟨gC env s,[]⟩) e1)⟩,⟨zB,zTx (u:=(fun s:nn=>(⟨gC env s,[]⟩:Lf))) (fun _=>O) hs1 hs c2⟩,(by show p.Sizes.length-(k+1)<p.Sizes.length-k;omega),Weak.mk [false,true,true,true,true] ⟨zD,zD,zD,zD,zD,zD,T⟩ O⟩
 ·have hB1:=sbJ_end hs1 (show p.Sizes.length<=k by omega)
  have hE0:=bodyR_s hB1
  have hw9:=hs1.wt
  refine qM<|Y O<|zN zLa (J 2 O) O<|qL O uB (OwnR.pur (zGf d zB zB)) (vlr O)<|oi O<|zF<|oh O O<|zS<|zW ⟨[(13,.c _),(5,.c _),(6,.c _),(8,.c _),(12,.c _)],[_,_,_]⟩ (Weak.mk [true,true,true,false] ⟨zD,zD,zD,zD,zD,T⟩ O)<|qG 1 1 O O (Nat×Ex) (fun ⟨q,e2⟩=>[(13,vI q)]) (fun ⟨q,e2⟩=>[E.row b4 62 e2.cs]) (fun ⟨q,e2⟩=>q<=16/\VbJ (vR d) (pR (bD d) q) (nS p env d) 6144000 e2) (fun ⟨q,e2⟩=>q) ⟨⟨16,e1⟩,⟨aA _,by rw [hE0];exact vbJ_first hs1.rg zB zB⟩,Weak.mk [true,true,true] ⟨zD,zD,zD,zD,zD,T⟩ O⟩ ?_
  rintro ⟨q,e2⟩ ⟨hq,hv1⟩
  refine zF<|ol O O<|zT O (yN O O O)<|zA<|zK O ?_ ?_<;>intro c3<;>try simp only [sx] at c3
  ·obtain ⟨n,rfl⟩:∃n,q=n+1:=⟨q-1,zB⟩
   have hv1:VbJ (vR d) (tY (bD d) n 0) (nS p env d) 6144000 e2:=hv1
   refine zH<|zF<|zS<|oh O O<|zS<|zW ⟨[(14,.c _),(5,.c _),(6,.c _),(8,.c _),(12,.c _),(13,.c _)],[_,_,_]⟩ (Weak.mk [true,true,true] ⟨zD,zD,zD,zD,zD,zD,T⟩ O)<|qG 1 1 O O (Nat×Ex) (fun ⟨i,e2⟩=>[(14,vI i)]) (fun ⟨i,e2⟩=>[E.row b4 62 e2.cs]) (fun ⟨i,e2⟩=>i<=(bD d).length/\(VbJ (vR d) (tY (bD d) n i) (nS p env d) 6144000 e2)) (fun ⟨i,e2⟩=>(bD d).length-i) ⟨⟨0,e2⟩,⟨zB,hv1⟩,Weak.mk [true,true,true] ⟨zD,zD,zD,zD,zD,zD,T⟩ O⟩ ?_
   rintro ⟨i,e2⟩ ⟨hi,hv1⟩
   show AWP _ _ _ _ _ ⟨[(14,vI i)]++_,[E.row b4 62 e2.cs]++_⟩
   refine zF<|ol O O<|G O<|qC O el25<|yC O<|zA<|zK O ?_ ?_<;>intro c4<;>try simp only [sx] at c4
   ·obtain ⟨s,hs⟩:=qX (bD d) i zB
    refine zH<|zF<|zS<|zF<|ol O O<|G O<|qE O el25 zB (getm hs)<|zE one9 qF O<|zT O (zBn O un9 O)<|G O<|yM O<|zA<|zK O ?_ ?_<;>intro c5<;>try simp only [sx] at c5
    ·have hv1:=rst_skip (n:=n) hs zB ▸ hv1
     refine qM<|zP O<|G O<|qH O ⟨zB,zB⟩<|G O<|zA ?_
     refine ⟨⟨i+1,e2⟩,⟨zB,hv1⟩,(by show (bD d).length-(i+1)<(bD d).length-i;omega),Weak.mk [true,true,true] ⟨zD,zD,zD,zD,zD,zD,T⟩ O⟩
    ·rw [rst_hit hs zB] at hv1
     refine zH<|zF<|yS 19 1 [⟨0,.q [1]⟩,⟨1,.q []⟩,⟨2,.q []⟩,⟨3,.q []⟩,⟨4,.q []⟩,⟨5,.q []⟩,⟨6,.q [3]⟩,⟨7,.q []⟩,⟨8,.q []⟩,⟨9,.q []⟩,⟨10,.q []⟩,⟨11,.q []⟩,⟨12,.q []⟩,⟨13,.q []⟩,⟨14,.q []⟩,⟨15,.q []⟩,⟨16,.q []⟩,⟨17,.e 0 []⟩,⟨18,.e 0 []⟩] mixed uB uB O O O<|zR O<|zR O<|zR O<|zR O<|zR O<|zR O<|zR O<|zR O<|zR O<|zR O<|zR O<|zR O<|zR O<|zR O<|zR O<|zR O<|zR O<|zR O<|zR O<|wQ<|om O (qB O yZ O (J 0 O) O)<|om O (zQ O O)<|om O (zQ O O)<|om O (qK O el25 O O zB (getm hs))<|om O (zJ O one9 O qF O)<|om O (zG O zCn O)<|om O (zJ O one9 O (J 0 O) O)<|om O (zQ O O)<|om O (zQ O O)<|om O (qK O el25 O O zB (getm hs))<|om O (zJ O one9 O qF O)<|om O (qP O uB (zDp d.Name s hnz (by have:=hns s (qD hs);omega)) (vlr O))<|om O (qP O uB (zCp (lnT d.Name s)) (vlr O))<|om O (qP O uB (show Pur cfg 95 [vE e2,vS s,dC (vR d s)] (.tup [vE (jZ (mEx (fun l=>bU l s (vR d s)) e2)),vI (gG (mEx (fun l=>bU l s (vR d s)) e2))]) by rw [←sbR hv1.rg];exact zGg e2 s (vR d s) (by have:=zOq (lnT d.Name s);show (dF (lnT d.Name s)).L.length<=_;omega) (zTo _) hv1.rg (by have:=vbJ_wt hv1;omega)) (vlr O))<|om O (yW O O)<|om O (yD O O O)<|om O (kM O O O)<|zEm O O uA O O (qI nr O zr62 O) ?_
     rintro _ _ ⟨b6,rfl,rfl⟩
     refine ⟨_,O,?_⟩
     refine zCk O O uA O O (yO O sz62 O O O (zBo 0 O O)) ?_
     rintro _ _ ⟨rfl,rfl⟩
     refine ⟨_,O,?_⟩
     refine wP O<|oi O<|zF<|ol O O<|yM O<|zA<|zK O ?_ ?_<;>intro c6<;>try simp only [sx] at c6
     ·have hE:=vbJ_err hv1 c6
      exact v79
     ·refine zH<|zP O<|zN yZ (J 0 O) O<|rStR 1 sz62 O<|zA<|zP O<|G O<|qH O ⟨zB,zB⟩<|G O<|zA ?_
      refine ⟨⟨i+1,jZ (mEx (fun l=>bU l s (vR d s)) e2)⟩,⟨zB,vbJ_next (zOq _) hv1 c6⟩,(by show (bD d).length-(i+1)<(bD d).length-i;omega),Weak.mk [false,true,true,true] ⟨zD,zD,zD,zD,zD,zD,T⟩ O⟩
   ·rw [rst_end zB] at hv1
    refine qM<|zP O<|G O<|zT O (yL O O O ⟨zB,zB⟩)<|G O<|zA ?_
    refine ⟨⟨n,e2⟩,⟨zB,hv1⟩,(Nat.lt_succ_self _),Weak.mk [true,true,true] ⟨VLe.of_eq ((ai vI zB)),zD,zD,zD,zD,T⟩ O⟩
  ·obtain rfl:q=0:=by omega
   have hE:=vbJ_end hv1
   refine qM<|Y O<|zN yZ (J 0 O) O<|rStR 1 sz62 O<|oi O<|zM<|fin2 (zZ yZ O (J 1 O) O) (rs_c O) ?_
   rw [hE];rfl
end Go.W
end
section
set_option maxRecDepth 10000
namespace Go.W
open Go Go.Eng Go.Proofs Go.L41 Go.Br Tryz
attribute [local irreducible] AWP RWP TD fY
def zLn (d:Df) (l:List Ax) (ext:List Int) (b:List St) (hlen:ext.length=l.length) (hnz:d.Name.size<=100000) (hax:∀x,x∈l->x.Name.size<=100000) (hll:l.length<=1000000):
    Pur cfg 41 [vDf d,.c (.sl 3 (l.map Ax.cells)),vIs ext,gJ b] (gJ (dW (gR d.Name l ext) b)):=by
 refine zV func41 O ntmps41 results41 O fun z hz=>Y O<|og O fun b1=>qY 20 O<|zA<|zF<|ol O O<|qC O el68<|zT O (yL O O O ⟨zB,zB⟩)<|oi O<|zS<|zW ⟨[(9,.c _),(3,.c _),(1,.c _),(2,.c _),(4,.c _)],[_]⟩ (Weak.mk [true] ⟨zD,zD,zD,zD,zD,T⟩ O) ?_
 refine qG 2 0 O O (Nat) (fun q=>[(9,vI ((q:Int)-1)),(3,gJ (dW ((gR d.Name l ext).drop q) b))]) (fun q=>[]) (fun q=>q<=l.length) (fun q=>q) ⟨l.length,(aA _),Weak.mk [true] ⟨zD,VLe.of_eq ((ai gJ (by rw [←nmdL_len (d:=d.Name) hlen];exact (loops_end _ _).symm))),zD,zD,zD,T⟩ O⟩ ?_
 rintro q hq
 refine zF<|ol O O<|zT O (wG O O O)<|zA<|zK O ?_ ?_<;>intro c1<;>try simp only [sx] at c1
 ·obtain ⟨j,rfl⟩:∃j,q=j+1:=⟨q-1,zB⟩
  obtain ⟨x,hx⟩:=qX l j zB
  obtain ⟨n,hn⟩:=qX ext j zB
  have hz9:=nmdL_at (d:=d.Name) hx hn
  rw [show (((j+1:Nat):Int)-1)=(j:Int) by omega]
  refine zH<|zF<|zS<|yH 16 mixed uB O O<|oo O (zG O zCn O)<|oo O (zJ O one9 O (J 0 O) O)<|oo O (zQ O O)<|oo O (zQ O O)<|oo O (qK O el68 O O zB (getm hx))<|oo O (qV O zHy O)<|oo O (zJ O one9 O qF O)<|oo O (qP O uB (zDp d.Name x.Name hnz (hax x (qD hx))) (vlr O))<|oo O (zQ O O)<|oo O (zQ O O)<|oo O (qK O el46 O O zB (getm hn))<|oo O (zJ O one3 O qF O)<|oo O (zQ O O)<|oo O (zAu oe O zr64 pl64 O O)<|oo O (kW O el33 zr64 O O O O)<|oo O (yR O O)<|kE<|zA<|zP O<|G O<|zT O (yL O O O ⟨zB,zB⟩)<|G O<|zA ?_
  refine ⟨j,zB,zB,Weak.mk [true] ⟨VLe.of_eq ((ai vI zB)),VLe.of_eq ((by rw [loops_back hz9,←zMx];rfl)),zD,zD,zD,T⟩ O⟩
 ·obtain rfl:q=0:=by omega
  refine qM<|ol O O<|oi O<|zM<|zX O ?_
  rfl
set_option maxHeartbeats 4000000 in
def ref32_inner (d:Df) (b:Ex) (red:List Int) (hlen:red.length=d.Red.length) (hD:d.Dims.length<=6) (hR:d.Red.length<=6) (hnz:d.Name.size<=100000) (hax:∀x,x∈d.Dims++d.Red->x.Name.size<=100000) (hbw:b.wt<=1000000) (hbr:b.allF Lf.rng) (h5:d.Fold=5->0<d.Dims.length):
    Pur cfg 40 [vDf d,vE b,vIs red] (.tup [gJ (nL (pA d (ixD d) (gR d.Name d.Red red) b)),vI (xX (pA d (ixD d) (gR d.Name d.Red red) b))]):=by
 refine zV func40 O ntmps40 results40 O fun z hz=>Y O<|og O fun b1=>og O fun b2=>qY 20 O<|oi O<|ol O O<|yP _ (kF 93 4)<|zA<|zF<|oh O O<|zS<|zW ⟨[(9,.c _),(8,.c _),(2,.c _),(3,.c _),(4,.c _)],[_,_,_]⟩ (Weak.mk [true,true,true] ⟨zD,zD,zD,zD,zD,T⟩ O)<|qG 2 1 O O (Nat×Value) (fun ⟨k,sv⟩=>[(9,vI k),(8,.c (.lit sv))]) (fun ⟨k,sv⟩=>[E.vec sv 93 4 (((d.Dims.take k).map (fun x=>(⟨dF (lnT d.Name x.Name),bs [],[]⟩:Ix))).map Ix.cells)]) (fun ⟨k,sv⟩=>k<=d.Dims.length) (fun ⟨k,sv⟩=>d.Dims.length-k) ⟨⟨0,(.slice none 0 0)⟩,zB,Weak.mk [true,true,true] ⟨zD,zD,zD,zD,zD,T⟩ O⟩ ?_
 rintro ⟨k,sv⟩ hk
 show AWP _ _ _ _ _ ⟨[(9,vI k),(8,.c (.lit sv))]++_,[E.vec sv 93 4 (((d.Dims.take k).map (fun x=>(⟨dF (lnT d.Name x.Name),bs [],[]⟩:Ix))).map Ix.cells)]++_⟩
 refine zF<|ol O O<|zC O zDg<|zE zAn (J 2 O) O<|qC O el68<|yC O<|zA<|zK O ?_ ?_<;>intro c1<;>try simp only [sx] at c1
 ·obtain ⟨x,hx⟩:=qX d.Dims k zB
  refine zH<|zF<|zS<|yH 13 mixed uB O O<|oo O (zQ O O)<|oo O (zG O zCn O)<|oo O (zJ O one9 O (J 2 O) O)<|oo O (zG O zDg O)<|oo O (zJ O zAn O (J 2 O) O)<|oo O (zQ O O)<|oo O (qK O el68 O O zB (getm hx))<|oo O (qV O zHy O)<|oo O (zJ O one9 O qF O)<|oo O (qP O uB (zDp d.Name x.Name hnz (hax x (dy _ (qD hx)))) (vlr O))<|oo O (qP O uB (zCp (lnT d.Name x.Name)) (vlr O))<|oo O (zAu oc O zr93 pl93 O O)<|oo O (kW O el52 zr93 O O O O)<|kE<|qA O O (yB 0 O el52 O O O uE uE) ?_
  rintro _ _ ⟨sv4,rfl,rfl⟩
  refine oi O<|zP O<|G O<|qH O ⟨zB,zB⟩<|G O<|zA ?_
  refine ⟨⟨k+1,sv4⟩,zB,(by show d.Dims.length-(k+1)<d.Dims.length-k;omega),Weak.mk [true,true,true] ⟨zD,zD,zD,zD,zD,T⟩ (by exact zOg (by rw [yA hx,ah,ah];rfl))⟩
 ·rw [yI (l:=d.Dims) (k:=k) zB]
  rw [show (d.Dims.map (fun x=>(⟨dF (lnT d.Name x.Name),bs [],[]⟩:Ix)))=ixD d from rfl]
  refine zW _ (yK 0 O (regs':=[(8,_)]) (μ':=[_,_]) ⟨FLe.sl,T⟩ ⟨EFle.refl _,EFle.refl _,T⟩)<|qM<|Y O<|zC O zCn<|zE one9 (J 1 O) O<|G O<|zN yZ (J 0 O) O<|yQ nv O zr64 pl64<|qA O O (qI nt O zr64 O) ?_
  rintro _ _ ⟨b5,rfl,rfl⟩
  refine rStR 0 sz64 O<|zMu (μ':=[E.row b5 64 (lJ d (ixD d) b).cs,E.row b2 62 b.cs,E.row b1 70 d.cells]) O<|zA<|zF<|Y O<|zC O zHz<|zE one3 (J 2 O) O<|yT O<|zA<|qO O (fun c2=>?_) (fun c2=>?_)
  ·refine Y O<|zN zHt (J 0 O) O<|yY O el33 zr64<|G O<|oi O<|zM<|fin2 (rs_c O) (rs_c O) ?_
   rw [inn_0 c2]
   exact ai (fun v=>V.tup [v,vI 0]) (zMx (lJ d (ixD d) b))
  ·refine zH<|zF<|Y O<|zC O zHz<|zE one3 (J 2 O) O<|yT O<|zA<|qO O (fun c3=>?_) (fun c3=>?_)
   ·obtain ⟨x,hx⟩:=qX d.Dims (d.Dims.length-1) (by have:=h5 c3;omega)
    have hp5:=h5 c3
    have hil:(ixD d).length=d.Dims.length:=by unfold ixD;rw [lLm]
    have hix:(ixD d)[(ixD d).length-1]? =some ⟨(dF (lnT d.Name x.Name)),bs [],[]⟩:=by rw [hil];exact zLz hx
    refine ol O O<|G O<|zT O (zGx O el52 O)<|zT O (yL O O O ⟨uH,uH⟩)<|qE O el52 uH (last_get2 hix)<|qR O zCy<|zN yV qF O<|qA O O (qI [none,some 2] O U O) ?_
    rintro _ _ ⟨b6,rfl,rfl⟩
    refine rStR 0 sz59 O<|zA<|ol O O<|yP _ (kF 93 4)<|zA<|ol O O<|G O<|G O<|zT O (zGx O el52 O)<|zT O (yL O O O ⟨uH,uH⟩)<|zT O (zDa (k:=(ixD d).length-1) O el52 O (ai (fun n=>V.c (C.lit (.int .i64 n))) uH) (Nat.sub_le _ _))<|qA O O (yB 0 O el52 O O O uE uE) ?_
    rintro _ _ ⟨sv8,rfl,rfl⟩
    refine oi O<|ol O O<|zC O kC<|zE wA (J 1 O) O<|yJ O U pl59<|yQ oc O zr93 pl93<|yY O el52 zr93<|qA O O (yB 0 O el52 O O O uE uE) ?_
    rintro _ _ ⟨sv9,rfl,rfl⟩
    refine oi O<|Y O<|yP _ (yK 0 O (regs':=[(12,_),(77,_)]) (μ':=[_,_,_,_]) ⟨FLe.sl,FLe.sl,T⟩ ⟨EFle.refl _,EFle.refl _,EFle.refl _,EFle.refl _,T⟩)<|zC O zCn<|zE one9 (J 3 O) O<|G O<|zC O zCn<|zE one9 (J 3 O) O<|G O<|yQ nz O zr62 pl62<|yQ nv O zr64 pl64<|qA O O (qI nt O zr64 O) ?_
    rintro _ _ ⟨b10,rfl,rfl⟩
    refine rStR 0 sz64 O<|zA<|zF<|yH 9 mixed uB O O<|oo O (qB O zHt O (J 2 O) O)<|oo O (qB O yV O (J 1 O) O)<|oo O (qP O uB (zNn (dF (lnT d.Name x.Name))) (vlr O))<|oo O (qB O zHt O (J 0 O) O)<|oo O (kW O el33 zr64 O O O O)<|oo O (zAu oa O zr64 pl64 O O)<|oo O (kW O el33 zr64 O O O O)<|oo O (yR O O)<|oo O (yR O O)<|kE<|zA<|zM<|fin2 (rs_c O) (rs_c O) ?_
    rw [inn_5 c3,scnR_is hx]
    refine Eq.trans ?_ (ai (fun v=>V.tup [v,vI 0]) (scn_valsR (s:=lJ d (ixD d) b) (p:=nA (dF (lnT d.Name x.Name))) (d:=d) (at_:=ixD d) (L:=(ixD d).take ((ixD d).length-1)++[⟨⟨-1,(dF (lnT d.Name x.Name)).L⟩,bs [],[]⟩]) (R:=([]++List.map Ix.cells (List.take ((ixD d).length-1) (ixD d))++[(⟨⟨-1,(dF (lnT d.Name x.Name)).L⟩,bs [],[]⟩:Ix).cells])) (by rw [ah];rfl)))
    generalize List.map Ix.cells (List.take ((ixD d).length-1) (ixD d))=r9
    rfl
   ·refine zH<|Y O<|zC O zCn<|zE one9 (J 2 O) O<|zC O zHz<|zE one3 (J 2 O) O<|G O<|zN yZ (J 1 O) O<|yQ nv O zr64 pl64<|qA O O (qI nt O zr64 O) ?_
    rintro _ _ ⟨b11,rfl,rfl⟩
    refine rStR 0 sz64 O<|zMu (μ':=[E.row b11 64 (fX d (ixD d) d.Fold b).cs,E.row b5 64 (lJ d (ixD d) b).cs,E.row b2 62 b.cs,E.row b1 70 d.cells]) O<|zA<|zF<|Y O<|zC O zHz<|zE one3 (J 3 O) O<|zC O zKt<|zN yE (J 3 O) O<|qL O uB (ref04_Identity d.Fold d.T) (vlr O)<|qW O<|zT O (yD O O O)<|yF O<|qA O O (qZ O zr54) ?_
    rintro _ _ ⟨b12,rfl,rfl⟩
    refine rStR 0 sz54 O<|oi O<|oh O O<|zK O ?_ ?_<;>intro c4<;>try simp only [sx] at c4
    ·have hE:=inn_i (at_:=ixD d) (red:=(gR d.Name d.Red red)) (body:=b) c2 c3 c4
     refine Y O<|zC O zKt<|zN yE (J 4 O) O<|zN zBy (J 0 O) O<|yQ nr O zr62 pl62<|zC O zGk<|rStR 2 sz62 O<|zMu (μ':=[E.row b12 54 [cI (idT d.Fold d.T).1.N,cI (idT d.Fold d.T).1.D],E.row b11 64 (fX d (ixD d) d.Fold b).cs,E.row b5 64 (lJ d (ixD d) (.mk 1 (bs []) (idT d.Fold d.T).1 d.T ⟨0,[]⟩ [] [])).cs,E.row b2 62 b.cs,E.row b1 70 d.cells]) O<|zA<|zF<|yS 9 1 [⟨0,.q [3]⟩,⟨2,.q [5]⟩,⟨3,.q []⟩,⟨4,.q [5]⟩,⟨5,.q []⟩,⟨6,.q [2]⟩,⟨7,.q []⟩,⟨8,.q []⟩,⟨1,.e 0 []⟩] mixed uB uB O O O<|zR O<|zR O<|zR O<|zR O<|zR O<|zR O<|zR O<|zR O<|zR O<|wQ<|om O (qB O zHt O (J 0 O) O)<|om O (qB O zLa O (J 0 O) O)<|om O (zG O zCb O)<|om O (zJ O zAn O (J 0 O) O)<|om O (zQ O O)<|om O (qB O zHt O (J 0 O) O)<|om O (kW O el33 zr64 O O O O)<|om O (qP O uB (zLn d d.Red red [(fX d (ixD d) d.Fold b)] hlen hnz (fun x hx=>hax x (dh _ hx)) zB) ⟨zD,O,zD,O,zD,O,VLe.of_eq (zMx (fX d (ixD d) d.Fold b)),O,T⟩)<|zEm O O uA O O (zAt O el33 zr64 O O O O) ?_
     rintro _ _ ⟨sv13,rfl,rfl⟩
     refine ⟨_,O,?_⟩
     refine wP O<|qA O O (yB 0 O el33 O O O (by have:=zGb (gR d.Name d.Red red) [(fX d (ixD d) d.Fold b)];simp only [lLm,lLa,lLc,lLn] at this⊢;omega) (by have:=zGb (gR d.Name d.Red red) [(fX d (ixD d) d.Fold b)];simp only [lLm,lLa,lLc,lLn] at this⊢;omega)) ?_
     rintro _ _ ⟨sv14,rfl,rfl⟩
     refine G O<|oi O<|zW _ (yK 0 O (regs':=[(123,_),(6,_)]) (μ':=[_,_,_,_,_]) ⟨FLe.sl,FLe.sl,T⟩ ⟨EFle.refl _,EFle.refl _,EFle.refl _,EFle.refl _,EFle.refl _,T⟩)<|zM<|fin2 (rs_c O) (rs_c O) ?_
     rw [hE]
     exact ai (fun v=>V.tup [v,vI 0]) (zBh (lJ d (ixD d) (.mk 1 (bs []) (idT d.Fold d.T).1 d.T ⟨0,[]⟩ [] [])) (dW (gR d.Name d.Red red) [fX d (ixD d) d.Fold b]))
    ·refine zH<|Y O<|yQ [none,some 2] O U pl59<|qA O O (qI [none,some 2] O U O) ?_
     rintro _ _ ⟨b15,rfl,rfl⟩
     refine rStR 0 sz59 O<|zA<|zF<|oh O O<|zS<|zW ⟨[(18,.c _),(2,.c _),(3,.c _),(10,.c _),(14,.c _),(17,.c _)],[_,_,_,_]⟩ (Weak.mk [true,false,true,true,false,true] ⟨zD,zD,zD,zD,zD,zD,T⟩ O)<|qG 1 3 O O (Nat×Ex×Lf) (fun ⟨i,e,s⟩=>[(18,vI i)]) (fun ⟨i,e,s⟩=>[E.row b15 59 s.cells,E.row b11 64 (fX d (ixD d) d.Fold b).cs,E.row b5 64 (lJ d (ixD d) e).cs]) (fun ⟨i,e,s⟩=>i<=d.Red.length/\(SbJ (fun _:nn=>(⟨0,[]⟩:Lf)) ((gR d.Name d.Red red).map Bd.Name) b i e)/\(SmJ (gR d.Name d.Red red) i s)) (fun ⟨i,e,s⟩=>d.Red.length-i) ⟨⟨0,b,⟨0,[]⟩⟩,⟨zB,zPb hbr,zOz (gR d.Name d.Red red)⟩,Weak.mk [true,true,true,true] ⟨zD,zD,zD,zD,zD,zD,T⟩ O⟩ ?_
     rintro ⟨i,e,s⟩ ⟨hi,hs1,hs2⟩
     show AWP _ _ _ _ _ ⟨[(18,vI i)]++_,[E.row b15 59 s.cells,E.row b11 64 (fX d (ixD d) d.Fold b).cs,E.row b5 64 (lJ d (ixD d) e).cs]++_⟩
     refine zF<|ol O O<|zC O zCb<|zE zAn (J 3 O) O<|qC O el68<|yC O<|zA<|zK O ?_ ?_<;>intro c5<;>try simp only [sx] at c5
     ·obtain ⟨x,hx⟩:=qX d.Red i zB
      obtain ⟨n,hn⟩:=qX red i zB
      have hz9:=nmdL_at (d:=d.Name) hx hn
      have hz8:((gR d.Name d.Red red).map Bd.Name)[i]? =some (lnT d.Name x.Name):=zLz hz9
      refine zH<|zF<|zS<|zF<|yH 10 mixed uB O O<|oo O (zG O zCn O)<|oo O (zJ O one9 O (J 3 O) O)<|oo O (zG O zCb O)<|oo O (zJ O zAn O (J 3 O) O)<|oo O (zQ O O)<|oo O (qK O el68 O O zB (getm hx))<|oo O (qV O zHy O)<|oo O (zJ O one9 O qF O)<|oo O (qP O uB (zDp d.Name x.Name hnz (hax x (dh _ (qD hx)))) (vlr O))<|oo O (yR O O)<|kE<|zA<|Y O<|zC O zGk<|zN yZ (J 2 O) O<|G O<|yQ [none,some 2] O U pl59<|qL O uB (show Pur cfg 95 [vE e,vS (lnT d.Name x.Name),dC ⟨0,[]⟩] (.tup [vE (jZ (mEx (fun l=>bU l (lnT d.Name x.Name) ⟨0,[]⟩) e)),vI (gG (mEx (fun l=>bU l (lnT d.Name x.Name) ⟨0,[]⟩) e))]) by rw [←sbR hs1.rg];exact zGg e (lnT d.Name x.Name) ⟨0,[]⟩ (bu _) (zOz []).rg hs1.rg (by have:=hs1.wt;omega)) (vlr O)<|qW O<|zT O (yD O O O)<|yF O<|qA O O (qI nr O zr62 O) ?_
      rintro _ _ ⟨b16,rfl,rfl⟩
      refine rStR 0 sz62 O<|oi O<|zF<|ol O O<|yM O<|zA<|zK O ?_ ?_<;>intro c6<;>try simp only [sx] at c6
      ·have hE:=(inn_r (at_:=ixD d) c2 c3).trans (red_e (at_:=ixD d) c4 (sbJ_err (u:=(fun _:nn=>(⟨0,[]⟩:Lf))) hs1 hz8 c6))
       exact o8
      ·refine zH<|Y O<|zN yZ (J 0 O) O<|zC O zGk<|rStR 3 sz62 O<|zMu (μ':=[E.row b16 62 (jZ (mEx (fun l=>bU l (lnT d.Name x.Name) ⟨0,[]⟩) e)).cs,E.row b15 59 s.cells,E.row b11 64 (fX d (ixD d) d.Fold b).cs,E.row b5 64 (lJ d (ixD d) (jZ (mEx (fun l=>bU l (lnT d.Name x.Name) ⟨0,[]⟩) e))).cs,E.row b1 70 d.cells]) O<|zA<|yS 8 0 [⟨0,.q [1]⟩,⟨1,.q []⟩,⟨2,.q []⟩,⟨3,.q []⟩,⟨4,.q []⟩,⟨5,.q []⟩,⟨6,.q []⟩,⟨7,.e 1 []⟩] mixed uB uB O O O<|zR O<|zR O<|zR O<|zR O<|zR O<|zR O<|zR O<|zR O<|wQ<|om O (qB O yV O (J 0 O) O)<|om O (zQ O O)<|om O (qP O uB (zCp (lnT d.Name x.Name)) (vlr O))<|om O (qP O uB (ref05_Add s (dF (lnT d.Name x.Name)) (by have:=hs2.ln;omega) (by have:=zOq (lnT d.Name x.Name);omega) hs2.rg (zTo _)) (vlr O))<|om O (yW O O)<|om O (yD O O O)<|om O (kM O O O)<|zCk O O uA O O (yO O sz59 O O O (zBo 0 O O)) ?_
       rintro _ _ ⟨rfl,rfl⟩
       refine ⟨_,O,?_⟩
       refine wP O<|zA<|zP O<|zMu (μ':=[E.row b16 62 (jZ (mEx (fun l=>bU l (lnT d.Name x.Name) ⟨0,[]⟩) e)).cs,E.row b15 59 (gQ s (dF (lnT d.Name x.Name))).1.cells,E.row b11 64 (fX d (ixD d) d.Fold b).cs,E.row b5 64 (lJ d (ixD d) (jZ (mEx (fun l=>bU l (lnT d.Name x.Name) ⟨0,[]⟩) e))).cs,E.row b1 70 d.cells]) O<|G O<|qH O ⟨zB,zB⟩<|G O<|zA ?_
       refine ⟨⟨i+1,jZ (mEx (fun l=>bU l (lnT d.Name x.Name) ⟨0,[]⟩) e),(gQ s (dF (lnT d.Name x.Name))).1⟩,⟨zB,zTx (u:=(fun _:nn=>(⟨0,[]⟩:Lf))) (fun _=>O) hs1 hz8 c6,smJ_nextN (m:=(lnT d.Name x.Name)) hs2 hz9 O⟩,(by show d.Red.length-(i+1)<d.Red.length-i;omega),Weak.mk [false,true,true,true,true] ⟨zD,zD,zD,zD,zD,zD,T⟩ O⟩
     ·have hrl:=nmdL_len (d:=d.Name) hlen
      have hE:=(inn_r (at_:=ixD d) c2 c3).trans (red_ok (at_:=ixD d) c4 (sbJ_end hs1 (by rw [lLm];omega)) (smJ_end hs2 zB))
      refine qM<|zF<|yS 6 1 [⟨0,.q [1]⟩,⟨1,.q []⟩,⟨2,.q [2]⟩,⟨3,.q []⟩,⟨4,.q []⟩,⟨5,.f 0⟩] mixed uB uB O O O<|zR O<|zR O<|zR O<|zR O<|zR O<|zNb O O (zBe (qI nt O zr64 O)) ⟨_,_,0,O,O⟩<|wQ<|om O (qB O yV O (J 0 O) O)<|om O (qP O uB (zNn s) (vlr O))<|om O (qB O zHt O (J 0 O) O)<|om O (kW O el33 zr64 O O O O)<|om O (zAu oa O zr64 pl64 O O)<|zMt O O ?_
      rintro _ _ ⟨b17,rfl,rfl⟩
      refine wP O<|rStR 0 sz64 O<|zA<|zF<|yS 9 1 [⟨0,.q [4]⟩,⟨2,.q [5]⟩,⟨3,.q []⟩,⟨4,.q [5]⟩,⟨5,.q []⟩,⟨6,.q [1]⟩,⟨7,.q []⟩,⟨8,.q []⟩,⟨1,.e 0 []⟩] mixed uB uB O O O<|zR O<|zR O<|zR O<|zR O<|zR O<|zR O<|zR O<|zR O<|zR O<|wQ<|om O (qB O zHt O (J 0 O) O)<|om O (qB O zLa O (J 0 O) O)<|om O (zG O zCb O)<|om O (zJ O zAn O (J 0 O) O)<|om O (zQ O O)<|om O (qB O zHt O (J 0 O) O)<|om O (kW O el33 zr64 O O O O)<|om O (qP O uB (zLn d d.Red red [lIf (nA s) [(fX d (ixD d) d.Fold b)]] hlen hnz (fun x hx=>hax x (dh _ hx)) zB) ⟨zD,O,zD,O,zD,O,VLe.of_eq (if_rows (nA s) (fX d (ixD d) d.Fold b)),O,T⟩)<|zEm O O uA O O (zAt O el33 zr64 O O O O) ?_
      rintro _ _ ⟨sv18,rfl,rfl⟩
      refine ⟨_,O,?_⟩
      refine wP O<|qA O O (yB 0 O el33 O O O (by have:=zGb (gR d.Name d.Red red) [lIf (nA s) [(fX d (ixD d) d.Fold b)]];simp only [lLm,lLa,lLc,lLn] at this⊢;omega) (by have:=zGb (gR d.Name d.Red red) [lIf (nA s) [(fX d (ixD d) d.Fold b)]];simp only [lLm,lLa,lLc,lLn] at this⊢;omega)) ?_
      rintro _ _ ⟨sv19,rfl,rfl⟩
      refine G O<|oi O<|zW _ (yK 0 O (regs':=[(175,_),(6,_)]) (μ':=[_,_,_,_,_]) ⟨FLe.sl,FLe.sl,T⟩ ⟨EFle.refl _,EFle.refl _,EFle.refl _,EFle.refl _,EFle.refl _,T⟩)<|zM<|fin2 (rs_c O) (rs_c O) ?_
      rw [hE]
      exact ai (fun v=>V.tup [v,vI 0]) (zBh (lJ d (ixD d) e) (dW (gR d.Name d.Red red) [lIf (nA s) [fX d (ixD d) d.Fold b]]))
end Go.W
end
section
set_option maxRecDepth 10000
namespace Go.W
open Go Go.Eng Go.Proofs Go.L41 Go.Br Tryz
attribute [local irreducible] AWP RWP TD fY
def zQm (a b:List St) (hE:∀x,x∈a->∀y,Pur cfg 42 [vSt x,vSt y] (vB (decide (x=y)))) (ha:a.length<=4294967296):
    Pur cfg 13 [gJ a,gJ b] (vB (decide (a=b))):=by
 refine zV func13 O ntmps13 results13 O fun z hz=>oh O O<|zF<|ol O O<|qC O el33<|G O<|qC O el33<|yM O<|zA<|zK O (fun c1=>?_) (fun c1=>?_)
 ·exact v38
 ·try simp only [sx] at c1
  refine zH<|zF<|oh O O<|zS<|zW ⟨[(5,.c _),(0,.c _),(1,.c _)],[]⟩ (Weak.mk [] ⟨zD,zD,zD,T⟩ O)<|qG 1 0 O O (Nat) (fun k=>[(5,vI k)]) (fun k=>[]) (fun k=>k<=a.length/\(a.take k=b.take k)) (fun k=>a.length-k) ⟨0,⟨zB,O⟩,Weak.mk [] ⟨zD,zD,zD,T⟩ O⟩ ?_
  rintro k ⟨hk,hp⟩
  refine zF<|ol O O<|G O<|qC O el33<|yC O<|zA<|zK O (fun c2=>?_) (fun c2=>?_)
  ·try simp only [sx] at c2
   obtain ⟨x,hx⟩:=qX a k zB
   obtain ⟨y,hy⟩:=qX b k zB
   refine zH<|zF<|zS<|zF<|yH 10 mixed uB O O<|oo O (zQ O O)<|oo O (zQ O O)<|oo O (qK O el33 O O zB (zGo hx))<|oo O (qB O zHt O qF O)<|oo O (zQ O O)<|oo O (zQ O O)<|oo O (qK O el33 O O zB (zGo hy))<|oo O (qB O zHt O qF O)<|oo O (qP O uB (hE x (qD hx) y) (vlr O))<|oo O (wV O O)<|kE<|zA<|zK O (fun c3=>?_) (fun c3=>?_)
   ·exact v57
   ·exact k7
  ·exact v29
def base_Stmt_step (a:St) (ih:∀x,x∈a.Body->x.wt<=4294967296->∀y,Pur cfg 42 [vSt x,vSt y] (vB (decide (x=y)))) (ha:a.wt<=4294967296) (b:St):
    Pur cfg 42 [vSt a,vSt b] (vB (decide (a=b))):=by
 refine zV func42 O ntmps42 results42 O ?_
 intro z hz
 have hw:=St.wt_eq a
 have hbl:=zCi a.Body
 refine Y O<|og O fun b1=>og O fun b2=>oi O<|Y O<|zC O zIz<|zE one3 (J 1 O) O<|zC O zIz<|zE one3 (J 0 O) O<|yT O<|G O<|rL0 O (fun g1_5=>zG O zIy O) O<|rL1 11 O (fun g1_5=>zJ O one9 O (J 1 O) O) O<|rL0 O (fun g1_5=>zG O zIy O) O<|rL1 13 O (fun g1_5=>zJ O one9 O (J 0 O) O) O<|rLz [(12,_),(14,_)] O gv1 ⟨O,O,O,O,T⟩ (fun g1_5=>zKe O O O) O<|kH O (fun h=>h)<|G O<|rL0 O (fun g1_12=>zG O fd64_2 O) O<|rL1 18 O (fun g1_12=>zJ O one3 O (J 1 O) O) O<|rL0 O (fun g1_12=>zG O fd64_2 O) O<|rL1 20 O (fun g1_12=>zJ O one3 O (J 0 O) O) O<|rLz [(19,_),(21,_)] O gv1 ⟨O,O,O,O,T⟩ (fun g1_12=>yX O O O) O<|kH O (fun h=>h)<|G O<|rL0 O (fun g1_19=>zG O fd64_3 O) O<|rL1 25 O (fun g1_19=>zJ O one3 O (J 1 O) O) O<|rL0 O (fun g1_19=>zG O fd64_3 O) O<|rL1 27 O (fun g1_19=>zJ O one3 O (J 0 O) O) O<|rLz [(26,_),(28,_)] O gv1 ⟨O,O,O,O,T⟩ (fun g1_19=>yX O O O) O<|kH O (fun h=>h)<|G O<|rL0 O (fun g1_26=>zG O zXc O) O<|rL1 32 O (fun g1_26=>zJ O one3 O (J 1 O) O) O<|rL0 O (fun g1_26=>zG O zXc O) O<|rL1 34 O (fun g1_26=>zJ O one3 O (J 0 O) O) O<|rLz [(33,_),(35,_)] O gv1 ⟨O,O,O,O,T⟩ (fun g1_26=>yX O O O) O<|kH O (fun h=>h)<|G O<|rL0 O (fun g1_33=>zG O zSx O) O<|rL1 39 O (fun g1_33=>zJ O wX O (J 1 O) O) O<|rL0 O (fun g1_33=>zG O zSx O) O<|rL1 41 O (fun g1_33=>zJ O wX O (J 0 O) O) O<|rLz [(40,_),(42,_)] O gv1 ⟨O,O,O,O,T⟩ (fun g1_33=>qP O uB (zTc a.Idx b.Idx zB zB) (vlr O)) O<|kH O (fun h=>h)<|G O<|rL0 O (fun g1_40=>zG O zGk O) O<|rL1 46 O (fun g1_40=>qB O yZ O (J 1 O) O) O<|rL0 O (fun g1_40=>zG O zGk O) O<|rL1 48 O (fun g1_40=>qB O yZ O (J 0 O) O) O<|rLz [(47,_),(49,_)] O gv1 ⟨O,O,O,O,T⟩ (fun g1_40=>qP O uB (base_Expr a.E b.E zB) (vlr O)) O<|kH O (fun h=>h)<|G O<|rL0 O (fun g1_47=>zG O zGc O) O<|rL1 53 O (fun g1_47=>zJ O zDq O (J 1 O) O) O<|rL0 O (fun g1_47=>zG O zGc O) O<|rL1 55 O (fun g1_47=>zJ O zDq O (J 0 O) O) O<|rLz [(54,_),(56,_)] O gv1 ⟨O,O,O,O,T⟩ (fun g1_47=>qP O uB (zQm a.Body b.Body (fun x hx y=>ih x hx (by have:=zCu hx;omega) y) zB) (vlr O)) O<|kH O (fun h=>h)<|oi O<|zM<|zX O ?_
 exact ai vB (st_eq a b)
def base_Stmt (a b:St) (ha:a.wt<=4294967296):Pur cfg 42 [vSt a,vSt b] (vB (decide (a=b))):=by
  induction a using St.ind generalizing b with
  |_ a ih=>exact base_Stmt_step a (fun x hx h y=>ih x hx y h) ha b
def base_Stmts (a b:List St) (ha:bS a<=4294967296):Pur cfg 13 [gJ a,gJ b] (vB (decide (a=b))):=
  zQm a b (fun x hx y=>base_Stmt x y (by have:=zCu hx;omega)) (by have:=zCi a;omega)
set_option maxHeartbeats 4000000 in
def ref32_Def (p:Pg) (env:List Bd) (hel:env.length<=1000000) (her:∀x,x∈env->r64 x.Val) (hP:p.Ok) (hR:p.Rng) (hS:p.Sm) (i:Int):
    Pur cfg 12 [vPg p,jR env,vI i] (.tup [gJ (nL (sE p env i)),vI (xX (sE p env i))]):=by
 refine zV func12 O ntmps12 results12 O ?_
 intro z hz
 have hps:=hS.sizes
 refine Y O<|og O fun b1=>qY 20 O<|oi O<|zF<|Y O<|zN zBa (J 0 O) O<|qL O uB (show Pur cfg 34 [vPg p] (.tup [vI (bK p).1,vI (bK p).2]) by rw [zFm];exact zNo p hP) (vlr O)<|qW O<|yF O<|yF O<|G O<|oi O<|ol O O<|yM O<|zA<|zK O ?_ ?_<;>intro c1<;>try simp only [sx] at c1
 ·have hE:=lowD_v (env:=env) (i:=i) c1
  exact o8
 ·refine zH<|zF<|Y O<|zN zBa (J 0 O) O<|G O<|qL O uB (zKo p env hel her hP hR) (vlr O)<|oi O<|ol O O<|yM O<|zA<|zK O ?_ ?_<;>intro c2<;>try simp only [sx] at c2
  ·have hE:=lowD_z (i:=i) c1 c2
   exact o8
  ·refine zH<|zF<|ol O O<|yC O<|G O<|rL0 O (fun g7_2=>zQ O O) O<|rL0 O (fun g7_2=>zG O zAo O) O<|rL1 40 O (fun g7_2=>zJ O zDr O (J 0 O) O) O<|rL1 41 O (fun g7_2=>yG O el28 O) O<|rLz [(39,_),(42,_)] O gv1 ⟨O,O,O,O,T⟩ (fun g7_2=>wG O O O) O<|r_or O (fun h=>(lzf h))<|zA<|zK O ?_ ?_<;>intro c3<;>try simp only [sx] at c3
   ·have hE:=lowD_n c1 c2 (by simpa using c3)
    exact v68
   ·obtain ⟨di,rfl⟩:∃di:Nat,i=di:=⟨i.toNat,zB⟩
    obtain ⟨d,hd⟩:=qX p.Defs di zB
    have hdm:=qD hd
    have hdR:=(hR.ds d hdm).2.2
    have hsm:=hS.ds d hdm
    have hd6:=zLd c1 d hdm
    have hnz:d.Name.size<=100000:=aL (zPo (valid_defs c1 d hdm)) uA
    have hax:∀x,x∈d.Dims++d.Red->x.Name.size<=100000:=fun x hx=>aL (axn_size c1 hdm x hx) uA
    have hns:∀s,s∈bD d->s.size<=16:=fun s hs=>by obtain ⟨x,hx,rfl⟩:=name_ax hs;exact axn_size c1 hdm x hx
    have hnl:=names12 c1 hdm
    have hE0:=lowD_at c1 c2 hd
    refine zH<|Y O<|zC O zAo<|zE zDr (J 0 O) O<|G O<|qE O el28 zB (getm hd)<|zN zLa qF O<|qA O O (qI nx O zr70 O) ?_
    rintro _ _ ⟨b2,rfl,rfl⟩
    refine rStR 0 sz70 O<|zA<|Y O<|zN zBa (J 1 O) O<|G O<|zC O zCn<|zE one9 (J 0 O) O<|qL O uB (show Pur cfg 36 [vPg p,jR env,vS d.Name] (.tup [vIs (mU p env d.Name).1,vI (jQ p env d.Name)]) by have h9:=ref19_Dims p d.Name env hel her hP hR;rw [zUf c1 c2] at h9;exact h9) (vlr O)<|qW O<|yF O<|yF O<|G O<|oi O<|zF<|ol O O<|yM O<|zA<|zK O ?_ ?_<;>intro c4<;>try simp only [sx] at c4
    ·have hE:=hE0.trans (lowE_d c4)
     exact o8
    ·rw [dimL_1 c4]
     refine zH<|ol O O<|yP _ (kF 3 1)<|zA<|zF<|oh O O<|zS<|zW ⟨[(15,.c _),(14,.c _),(1,.c _),(3,.c _),(11,.c _),(12,.c _)],[_,_,_]⟩ (Weak.mk [true,true,true] ⟨zD,zD,zD,zD,zD,zD,T⟩ O)<|qG 2 1 O O (Nat×Value) (fun ⟨k,sv⟩=>[(15,vI k),(14,.c (.lit sv))]) (fun ⟨k,sv⟩=>[E.vec sv 3 1 ((dU env ((d.Red.take k).map Ax.Size)).map fun n=>[cI n])]) (fun ⟨k,sv⟩=>k<=d.Red.length/\(fG env (d.Red.map Ax.Size)=fG env ((d.Red.map Ax.Size).drop k))) (fun ⟨k,sv⟩=>d.Red.length-k) ⟨⟨0,(.slice none 0 0)⟩,⟨zB,O⟩,Weak.mk [true,true,true] ⟨zD,zD,zD,zD,zD,zD,T⟩ O⟩ ?_
     rintro ⟨k,sv⟩ ⟨hk,hp⟩
     show AWP _ _ _ _ _ ⟨[(15,vI k),(14,.c (.lit sv))]++_,[E.vec sv 3 1 ((dU env ((d.Red.take k).map Ax.Size)).map fun n=>[cI n])]++_⟩
     refine zF<|ol O O<|zC O zCb<|zE zAn (J 1 O) O<|qC O el68<|yC O<|zA<|zK O ?_ ?_<;>intro c5<;>try simp only [sx] at c5
     ·obtain ⟨x,hx⟩:=qX d.Red k zB
      have hxx:(d.Red.map Ax.Size)[k]? =some x.Size:=zLz hx
      refine zH<|zF<|zS<|Y O<|zC O zCb<|zE zAn (J 1 O) O<|G O<|qE O el68 zB (getm hx)<|qR O zXb<|zN yV qF O<|G O<|qL O uB (zRe x.Size env hel her ((hP.ds d hdm).2.2.2.1 x (qD hx)) ((hR.ds d hdm).2.1 x (qD hx))) (vlr O)<|qW O<|yF O<|yF O<|G O<|oi O<|zF<|ol O O<|yM O<|zA<|zK O ?_ ?_<;>intro c6<;>try simp only [sx] at c6
      ·have hX:=ext_err hxx hp c6
       have hE:=hE0.trans (lowE_e c4 (by rw [hX];exact c6))
       rw [hX] at hE
       exact o8
      ·refine zH<|zF<|ol O O<|yC O<|G O<|rL0 O (fun g20_2=>zQ O O) O<|rL1 85 O (fun g20_2=>yN O O O) O<|r_or O (fun h=>(lzf h))<|zA<|zK O ?_ ?_<;>intro c7<;>try simp only [sx] at c7
       ·have hX:=ext_bad hxx hp c6 (by simpa using c7)
        have hE:=hE0.trans (lowE_e c4 (by rw [hX];decide))
        rw [hX] at hE
        exact v68
       ·have hn:=zUe hxx hp c6 (by simpa using c7)
        refine zH<|zP O<|G O<|G O<|yY O el46 zr3<|qA O O (yB 0 O el46 O O O (by simp [dU];omega) (by simp [dU];omega)) ?_
        rintro _ _ ⟨sv4,rfl,rfl⟩
        refine oi O<|zP O<|G O<|qH O ⟨zB,zB⟩<|G O<|zA ?_
        refine ⟨⟨k+1,sv4⟩,⟨zB,hn⟩,(by show d.Red.length-(k+1)<d.Red.length-k;omega),Weak.mk [true,true,true] ⟨zD,zD,zD,zD,zD,zD,T⟩ (by exact zOg (by rw [yA hx,ah];unfold dU;rw [ah,ah];rfl))⟩
     ·have hX:=ext_end (show (d.Red.map Ax.Size).length<=k by rw [lLm];omega) hp
      rw [yI (l:=d.Red) (k:=k) zB]
      refine zW _ (yK 0 O (regs':=[(14,_)]) (μ':=[_,_]) ⟨FLe.sl,T⟩ ⟨EFle.refl _,EFle.refl _,T⟩)<|qM<|Y O<|zN zLa (J 0 O) O<|qL O uB (OwnR.pur (zGf d zB zB)) (vlr O)<|oi O<|zF<|oh O O<|zS<|zW ⟨[(19,.c _),(1,.c _),(3,.c _),(11,.c _),(12,.c _),(14,.c _),(18,.c _)],[_,_]⟩ (Weak.mk [true,true] ⟨zD,zD,zD,zD,zD,zD,zD,T⟩ O)<|qG 1 0 O O (Nat) (fun j=>[(19,vI j)]) (fun j=>[]) (fun j=>j<=(bD d).length/\(((bD d).take j).any (fun s=>decide (lnT d.Name s=bs []))=false)) (fun j=>(bD d).length-j) ⟨0,⟨zB,O⟩,Weak.mk [true,true] ⟨zD,zD,zD,zD,zD,zD,zD,T⟩ O⟩ ?_
      rintro j ⟨hj,hq⟩
      refine zF<|ol O O<|G O<|qC O el25<|yC O<|zA<|zK O ?_ ?_<;>intro c8<;>try simp only [sx] at c8
      ·obtain ⟨s,hs⟩:=qX (bD d) j zB
       refine zH<|zF<|zS<|zF<|yH 8 mixed uB O O<|oo O (zG O zCn O)<|oo O (zJ O one9 O (J 0 O) O)<|oo O (zQ O O)<|oo O (zQ O O)<|oo O (qK O el25 O O zB (getm hs))<|oo O (zJ O one9 O qF O)<|oo O (qP O uB (zDp d.Name s hnz (by have:=hns s (qD hs);omega)) (vlr O))<|oo O (zKe O O O)<|kE<|zA<|zK O ?_ ?_<;>intro c9<;>try simp only [sx] at c9
       ·have hE:=hE0.trans (lowE_bad c4 hX (qD hs) c9)
        exact v68
       ·refine zH<|zP O<|G O<|qH O ⟨zB,zB⟩<|G O<|zA ?_
        refine ⟨j+1,⟨zB,zDf hs hq (am c9)⟩,zB,Weak.mk [true,true] ⟨zD,zD,zD,zD,zD,zD,zD,T⟩ O⟩
      ·rw [yI zB] at hq
       obtain ⟨hz1,hz2⟩:=nmd_all hq
       have hgd:=good_all hz1 hz2
       have hE1:=hE0.trans (lowE_b c4 hX hz1 hz2)
       refine qM<|Y O<|zN zBa (J 1 O) O<|G O<|zN zLa (J 0 O) O<|qL O uB (ref32_body p d env hel her zB hd6.1 hd6.2 zB hdR hnz hns) (vlr O)<|qW O<|zT O (yD O O O)<|yF O<|qA O O (qI nr O zr62 O) ?_
       rintro _ _ ⟨b5,rfl,rfl⟩
       refine rStR 0 sz62 O<|oi O<|zF<|ol O O<|yM O<|zA<|zK O ?_ ?_<;>intro c10<;>try simp only [sx] at c10
       ·obtain ⟨x,hx⟩:=errE_er c10
        have hE:=hE1.trans (bodyR_lowB c1 hdm hdR hgd hx)
        rw [hx]
        exact o8
       ·obtain ⟨e0,hx⟩:=outE_ok c10 (fun x hx=>bodyR_ne hx)
        obtain ⟨e1,hB1,rfl⟩:=bodyR_k c1 hdm hdR hgd hx
        have hw9:=lowU_wt zB hdR hB1
        rw [hx]
        refine zH<|Y O<|zN zLa (J 1 O) O<|zN yZ (J 0 O) O<|G O<|qL O uB (ref32_inner d (gEx (gK ((bD d).map (lnT d.Name)) (bD d)) e1) (dU env (d.Red.map Ax.Size)) (by unfold dU;rw [lLm,lLm]) hd6.1 hd6.2 hnz hax hw9.1 hw9.2 (fun h5=>valid_five c1 hdm h5)) (vlr O)<|qW O<|yF O<|yF O<|G O<|oi O<|zF<|ol O O<|yM O<|zA<|zK O ?_ ?_<;>intro c11<;>try simp only [sx] at c11
        ·obtain ⟨x,hx2⟩:=errL_er c11
         have hE:=hE1.trans (low_inE c1 hd hB1 hx2)
         rw [hx2]
         exact o8
        ·obtain ⟨l,hx2⟩:=errL_0 (fun x hx=>inn_ne hx) c11
         have hE:=hE1.trans (low_inO c1 hd hB1 hx2)
         rw [hx2]
         refine zH<|Y O<|zN zLa (J 1 O) O<|zC O zDg<|zE zAn (J 1 O) O<|G O<|G O<|qL O uB (zLn d d.Dims (dU env (p.en.find d.Name).dims) l (by unfold dU;rw [zMr c1 hd,lLm,lLm]) hnz (fun x hx=>hax x (dy _ hx)) zB) (vlr O)<|G O<|oi O<|zM<|fin2 (rs_c O) (rs_c O) ?_
         rw [hE];rfl
def law_LowerDefs (p:Pg) (env:List Bd) (i:Int) (hp:p.Fit) (hF:p.Frm) (hR:p.Rng) (hl:env.length<=140737488355328) (her:∀x,x∈env->r64 x.Val):
    Pur cfg 4 [vPg p,jR env,vI i] (vB true):=by
 refine zV func4 O ntmps4 results4 O fun z hz=>Y O<|og O fun b1=>oi O<|zF<|Y O<|zN zBa (J 0 O) O<|qL O uB (law20_Small p hp) (vlr O)<|kU O<|G O<|rL0 O (fun g1_3=>zQ O O) O<|rL1 15 O (fun g1_3=>yG O el31 O) O<|rL1 16 O (fun g1_3=>yN O O O) O<|r_or O (fun h=>(lzf h))<|zA<|zK O (fun c1=>?_) (fun c1=>?_)
 ·refine Y O<|qL O uB zNr T<|oi O<|zM<|zX O ?_
  exact O
 ·try simp only [sx] at c1
  obtain ⟨c1,c1b⟩:=c1
  have hS:=sml_is c1 hF
  have hq1:=hS.params
  have hq2:=hS.defs
  have hdR:∀d,d∈p.Defs->d.Body.allF Lf.rng:=fun d hd=>(hR.ds d hd).2.2
  refine zH<|Y O<|zN zBa (J 0 O) O<|G O<|G O<|qL O uB (lower_Def p env zB her hS.ok hR hS i) (vlr O)<|qW O<|yF O<|yF O<|G O<|oi O<|Y O<|zN zBa (J 0 O) O<|G O<|G O<|qL O uB (ref32_Def p env zB her hS.ok hR hS i) (vlr O)<|qW O<|yF O<|yF O<|G O<|oi O<|ol O O<|G O<|qL O uB (base_Stmts (nL (sE p env i)) (nL (sE p env i)) (by have:=lowD_w (env:=env) (i:=i) hS hdR;omega)) (vlr O)<|G O<|rL0 O (fun g5_3=>zQ O O) O<|rL0 O (fun g5_3=>zQ O O) O<|rLz [(38,_),(39,_)] O gv1 ⟨O,O,O,O,T⟩ (fun g5_3=>yX O O O) O<|kH O (fun h=>h)<|G O<|rL0 O (fun g5_8=>qP O uB zNr T) O<|kH O (fun h=>h)<|oi O<|zM<|zX O ?_
  exact ai vB uF
end Go.W
end
