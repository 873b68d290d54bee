/-
  Walks: what functions of the program compute. Printed by wip/gen/mk2.py.
  Conditions: none.
-/
import Derived.Test.YtlfjpejkoccibaaGreatDoorPJ
set_option linter.unusedSimpArgs false
set_option linter.unusedVariables false
set_option maxRecDepth 10000
namespace Go.W
open Go Go.Eng Go.Proofs Go.L41 Go.Br
attribute [local irreducible] AWP RWP TD finQ
/-! The reference's removal of guards. -/
def valB (A:List Bd) (s:ByteArray):Int:=A.foldl (fun v d=>if d.Name=s then d.Val else v) 0
theorem zKw {A:List Bd} {s:ByteArray} {j:Nat} {z:Bd} (h:A[j]? =some z):valB (A.take (j+1)) s=if z.Name=s then z.Val else valB (A.take j) s:=by
  unfold valB;rw [yF h,List.foldl_append];rfl
theorem valB_app (A:List Bd) (z:Bd) (s:ByteArray):valB (A++[z]) s=if z.Name=s then z.Val else valB A s:=by
  unfold valB;rw [List.foldl_append];rfl
def lowR (A:List Bd):List Mono->Int->Int×Bool
  |[],lo=>(lo,true)
  |x::r,lo=>if 0<x.By then lowR A r lo else if (timesT x.By (w64 (valB A x.Name-1))).2=true/\(plusT lo (timesT x.By (w64 (valB A x.Name-1))).1).2=true then lowR A r (plusT lo (timesT x.By (w64 (valB A x.Name-1))).1).1 else (0,false)
def leafR (A:List Bd) (o:Int) (a b:Ex):Bool:=
  if (((!decide (o=13)&& !decide (o=14))|| !decide (a.Op=2))|| !decide (b.Op=2))=true then false
  else if (scaleL a.Lin (-1)).2=0/\(addL b.Lin (scaleL a.Lin (-1)).1).2=0 then
    (lowR A (addL b.Lin (scaleL a.Lin (-1)).1).1.L (addL b.Lin (scaleL a.Lin (-1)).1).1.K).2&&(decide (1<=(lowR A (addL b.Lin (scaleL a.Lin (-1)).1).1.L (addL b.Lin (scaleL a.Lin (-1)).1).1.K).1)||(decide ((lowR A (addL b.Lin (scaleL a.Lin (-1)).1).1.L (addL b.Lin (scaleL a.Lin (-1)).1).1.K).1=0)&&decide (o=14)))
  else false
mutual
def redR (A:List Bd):Ex->Bool
  |.mk o _ _ _ _ _ Q=>if o=16 then (redRL A Q).getD 0 false&&(redRL A Q).getD 1 false else leafR A o (Q.getD 0 zEx) (Q.getD 1 zEx)
def redRL (A:List Bd):List Ex->List Bool
  |[]=>[]
  |a::r=>redR A a::redRL A r
end
theorem zRp (A:List Bd):∀l:List Ex,redRL A l=l.map (redR A)
  |[]=>by rw [redRL];rfl
  |a::r=>by rw [redRL,zRp A r];rfl
theorem redR_and {A:List Bd} {e a b:Ex} (h:e.Op=16) (ha:e.Args[0]? =some a) (hb:e.Args[1]? =some b):redR A e=(redR A a&&redR A b):=by
  cases e
  simp only [Ex.Op,Ex.Args] at h ha hb
  rw [redR,if_pos h,zRp]
  simp [List.getD_eq_getElem?_getD,ha,hb]
theorem redR_lf {A:List Bd} {e a b:Ex} (h:¬e.Op=16) (ha:e.Args.getD 0 zEx=a) (hb:e.Args.getD 1 zEx=b):redR A e=leafR A e.Op a b:=by
  cases e
  simp only [Ex.Op,Ex.Args] at h ha hb⊢
  rw [redR,if_neg h,ha,hb]
theorem leafR_1 {A:List Bd} {o:Int} {a b:Ex} (h:(((!decide (o=13)&& !decide (o=14))|| !decide (a.Op=2))|| !decide (b.Op=2))=true):leafR A o a b=false:=if_pos h
theorem leafR_2 {A:List Bd} {o:Int} {a b:Ex} {sc d:Lf×Int} (h:(((!decide (o=13)&& !decide (o=14))|| !decide (a.Op=2))|| !decide (b.Op=2))=false) (hs:scaleL a.Lin (-1)=sc) (hd:addL b.Lin sc.1=d) (c:¬(sc.2=0/\d.2=0)):leafR A o a b=false:=by
  unfold leafR;rw [if_neg (by rw [h];simp),hs,hd,if_neg c]
theorem leafR_3 {A:List Bd} {o:Int} {a b:Ex} {sc d:Lf×Int} {R:Int×Bool} (h:(((!decide (o=13)&& !decide (o=14))|| !decide (a.Op=2))|| !decide (b.Op=2))=false) (hs:scaleL a.Lin (-1)=sc) (hd:addL b.Lin sc.1=d) (c:sc.2=0/\d.2=0) (hR:lowR A d.1.L d.1.K=R):leafR A o a b=(R.2&&(decide (1<=R.1)||(decide (R.1=0)&&decide (o=14)))):=by
  unfold leafR;rw [if_neg (by rw [h];simp),hs,hd,if_pos c,hR]
theorem lowR_skip {A:List Bd} {R:Int×Bool} {l:List Mono} {k:Nat} {x:Mono} {lo:Int} (h:l[k]? =some x) (hp:R=lowR A (l.drop k) lo) (c:0<x.By):R=lowR A (l.drop (k+1)) lo:=by
  rw [hp,qR h,lowR,if_pos c]
theorem lowR_next {A:List Bd} {R:Int×Bool} {l:List Mono} {k:Nat} {x:Mono} {lo:Int} (h:l[k]? =some x) (hp:R=lowR A (l.drop k) lo) (c:¬0<x.By) (c2:(timesT x.By (w64 (valB A x.Name-1))).2=true/\(plusT lo (timesT x.By (w64 (valB A x.Name-1))).1).2=true):R=lowR A (l.drop (k+1)) (plusT lo (timesT x.By (w64 (valB A x.Name-1))).1).1:=by
  rw [hp,qR h,lowR,if_neg c,if_pos c2]
theorem lowR_no {A:List Bd} {R:Int×Bool} {l:List Mono} {k:Nat} {x:Mono} {lo:Int} (h:l[k]? =some x) (hp:R=lowR A (l.drop k) lo) (c:¬0<x.By) (c2:¬((timesT x.By (w64 (valB A x.Name-1))).2=true/\(plusT lo (timesT x.By (w64 (valB A x.Name-1))).1).2=true)):R=(0,false):=by
  rw [hp,qR h,lowR,if_neg c,if_neg c2]
theorem lowR_end {A:List Bd} {R:Int×Bool} {l:List Mono} {k:Nat} {lo:Int} (hp:R=lowR A (l.drop k) lo) (c:¬k<l.length):R=(lo,true):=by
  rw [hp,kC c,lowR]
theorem timesT_r (x y:Int):r64 (timesT x y).1:=by
  unfold timesT
  split
  · next h=>exact h
  · show r64 0;unfold r64;omega
theorem plusT_r (x y:Int):r64 (plusT x y).1:=by
  unfold plusT
  split
  · next h=>exact h
  · show r64 0;unfold r64;omega
mutual
def clrS:List Bd->St->List St×Nat
  |A,.mk o nm mn mk fo i e b=>
    if o=4/\redR A e=true then ((clrL (if o=1 then A++[⟨nm,mn⟩] else A) b).1,(clrL (if o=1 then A++[⟨nm,mn⟩] else A) b).2+1)
    else ([.mk o nm mn mk fo i e (clrL (if o=1 then A++[⟨nm,mn⟩] else A) b).1],(clrL (if o=1 then A++[⟨nm,mn⟩] else A) b).2)
def clrL:List Bd->List St->List St×Nat
  |_,[]=>([],0)
  |A,s::r=>((clrS A s).1++(clrL A r).1,(clrS A s).2+(clrL A r).2)
end
def bdIn (A:List Bd) (s:St):List Bd:=if s.Op=1 then A++[⟨s.Name,s.Many⟩] else A
theorem clrS_yes {A:List Bd} {s:St} (h:s.Op=4/\redR A s.E=true):clrS A s=((clrL (bdIn A s) s.Body).1,(clrL (bdIn A s) s.Body).2+1):=by
  cases s;rw [clrS];exact if_pos h
theorem clrS_no {A:List Bd} {s:St} (h:¬(s.Op=4/\redR A s.E=true)):clrS A s=([setB s (clrL (bdIn A s) s.Body).1],(clrL (bdIn A s) s.Body).2):=by
  cases s;rw [clrS];exact if_neg h
theorem clrL_app (A:List Bd):∀(a b:List St),clrL A (a++b)=((clrL A a).1++(clrL A b).1,(clrL A a).2+(clrL A b).2)
  |[],b=>by rw [List.nil_append,clrL];simp
  |s::r,b=>by
    rw [List.cons_append,clrL,clrL_app A r b,clrL]
    simp only [List.append_assoc,Nat.add_assoc]
theorem zDp {A:List Bd} {l:List St} {k:Nat} {s:St} (h:l[k]? =some s):clrL A (l.take (k+1))=((clrL A (l.take k)).1++(clrS A s).1,(clrL A (l.take k)).2+(clrS A s).2):=by
  rw [yF h,clrL_app,clrL,clrL];simp
mutual
theorem clrS_bd:∀(A:List Bd) (s:St),(clrS A s).2<=stN s/\stsWt (clrS A s).1<=s.wt
  |A,.mk o nm mn mk fo i e b=>by
    rw [clrS,stN]
    obtain ⟨h1,h2⟩:=clrL_bd (if o=1 then A++[⟨nm,mn⟩] else A) b
    generalize (if o=1 then A++[⟨nm,mn⟩] else A)=m1 at *
    split
    · exact ⟨by show _+1<=_;omega,by show stsWt (clrL m1 b).1<=_;rw [St.wt];omega⟩
    · refine ⟨by show (clrL m1 b).2<=_;omega,?_⟩
      show stsWt [St.mk o nm mn mk fo i e (clrL m1 b).1]<=_
      simp only [stsWt,St.wt];omega
theorem clrL_bd:∀(A:List Bd) (l:List St),(clrL A l).2<=stsN l/\stsWt (clrL A l).1<=stsWt l
  |A,[]=>by rw [clrL];simp [stsN,stsWt]
  |A,s::r=>by
    rw [clrL,stsN,stsWt]
    obtain ⟨h1,h2⟩:=clrS_bd A s
    obtain ⟨h3,h4⟩:=clrL_bd A r
    exact ⟨by show (clrS A s).2+(clrL A r).2<=_;omega,by show stsWt ((clrS A s).1++(clrL A r).1)<=_;rw [zJr];omega⟩
end
def remR (n:Ns):Ns×Int:=if (validN n).2=0 then (⟨n.Bufs,(clrL [] n.Body).1⟩,((clrL [] n.Body).2:Nat)) else (zNs,0)
theorem remR_1 {n:Ns} (h:¬(validN n).2=0):remR n=(zNs,0):=by unfold remR;rw [if_neg h]
theorem remR_2 {n:Ns} (h:(validN n).2=0):remR n=((⟨n.Bufs,(clrL [] n.Body).1⟩:Ns),(((clrL [] n.Body).2:Nat):Int)):=by unfold remR;rw [if_pos h]
theorem fd80_1:fieldT Tryz.prog 80 1=some (1,2):=by kernel_rfl
theorem ok68:callOk Tryz.prog 68=true:=by kernel_rfl
theorem ok121:callOk Tryz.prog 121=true:=by kernel_rfl
theorem redR_step (A:List Bd) (hA:A.length<=1000000) (e:Ex) (ih:∀a,a∈e.Args->arE a=true->a.allF Lf.rng->a.wt<=10000->Pur cfg 121 [vE a,vBds A] (vB (redR A a))) (har:arE e=true) (hr:e.allF Lf.rng) (he:e.wt<=10000):
    Pur cfg 121 [vE e,vBds A] (vB (redR A e)):=by
 refine zR Tryz.func121 O Tryz.ntmps121 Tryz.results121 O ?_
 intro z hz
 have hew:=Ex.wt_eq e
 obtain ⟨a,ha0⟩:∃x,e.Args.getD 0 zEx=x:=⟨_,rfl⟩
 obtain ⟨b,hb0⟩:∃x,e.Args.getD 1 zEx=x:=⟨_,rfl⟩
 obtain ⟨sc,hs0⟩:∃x,scaleL a.Lin (-1)=x:=⟨_,rfl⟩
 obtain ⟨d,hd0⟩:∃x,addL b.Lin sc.1=x:=⟨_,rfl⟩
 obtain ⟨hsr,hsl⟩:=zHz a.Lin (-1)
 rw [hs0] at hsr hsl
 obtain ⟨hdr,hdl⟩:=zTt b.Lin sc.1
 rw [hd0] at hdr hdl
 refine G O<|zU O O (qM O O) ?_
 rintro _ _ ⟨b1,rfl,rfl⟩
 refine F O<|I<|zJ<|G O<|zH O kQ<|zK J (Y 0 O) O<|yE O<|I<|zF O (fun c1=>?_) (fun c1=>?_)
 ·try simp only [R] at c1
  have h2:=zDs har (.inr (.inr c1))
  have ha:=exG (k:=0) (by omega) ha0
  have hb:=exG (k:=1) (by omega) hb0
  have haw:=Ex.arg_wt (zZ ha)
  have hbw:=Ex.arg_wt (zZ hb)
  refine G O<|zH O kZ<|zK zAj (Y 0 O) O<|qC O g (by omega) (zCk ha)<|zO yX qA O<|F O<|qJ O ok121 (ih a (zZ ha) (arE_arg har (zZ ha)) (Ex.allF_arg hr (zZ ha)) (by omega)) ⟨H,O,H,O,T⟩<|F O<|rL0 O (fun g2_6=>zD O kZ O) O<|B 27 O (fun g2_6=>Q O zAj O (Y 0 O) O) O<|B 28 O (fun g2_6=>qD O g O O (by omega) (zCk hb)) O<|B 29 O (fun g2_6=>zY O yX O qA O) O<|rL0 O (fun g2_6=>zN O O) O<|rLz [(30,_),(31,_)] O gv1 ⟨O,O,O,O,T⟩ (fun g2_6=>qL O ok121 (ih b (zZ hb) (arE_arg har (zZ hb)) (Ex.allF_arg hr (zZ hb)) (by omega)) ⟨H,O,H,O,T⟩) O<|yQ O (fun h=>h)<|F O<|I<|o<|X O ?_
  rw [redR_and c1 ha hb]
 ·try simp only [R] at c1
  refine zI<|zJ<|G O<|zH O kQ<|zK J (Y 0 O) O<|yR O<|F O<|rL0 O (fun g3_3=>zD O kQ O) O<|B 38 O (fun g3_3=>Q O J O (Y 0 O) O) O<|B 39 O (fun g3_3=>kH O O O) O<|yQ O (fun h=>h)<|F O<|rL0 O (fun g3_8=>zD O kZ O) O<|B 43 O (fun g3_8=>Q O zAj O (Y 0 O) O) O<|B 44 O (fun g3_8=>qD O g O O (by have hq:=zDs har (by simp only [Lz,cond_true,cond_false,Bool.and_eq_true,Bool.or_eq_true,Bool.not_eq_true',Bool.not_eq_false',Bool.or_eq_false_iff,Bool.and_eq_false_iff,decide_eq_true_eq,decide_eq_false_iff_not,Bool.not_eq_true,Bool.not_eq_false] at g3_8;omega);omega) (zCk (exG (by have hq:=zDs har (by simp only [Lz,cond_true,cond_false,Bool.and_eq_true,Bool.or_eq_true,Bool.not_eq_true',Bool.not_eq_false',Bool.or_eq_false_iff,Bool.and_eq_false_iff,decide_eq_true_eq,decide_eq_false_iff_not,Bool.not_eq_true,Bool.not_eq_false] at g3_8;omega);omega) ha0))) O<|B 45 O (fun g3_8=>qI O kQ O) O<|B 46 O (fun g3_8=>Q O J O qA O) O<|B 47 O (fun g3_8=>kH O O O) O<|r_or O (fun h=>(lzf h))<|F O<|rL0 O (fun g3_16=>zD O kZ O) O<|B 51 O (fun g3_16=>Q O zAj O (Y 0 O) O) O<|B 52 O (fun g3_16=>qD O g O O (by have hq:=zDs har (by simp only [Lz,cond_true,cond_false,Bool.and_eq_true,Bool.or_eq_true,Bool.not_eq_true',Bool.not_eq_false',Bool.or_eq_false_iff,Bool.and_eq_false_iff,decide_eq_true_eq,decide_eq_false_iff_not,Bool.not_eq_true,Bool.not_eq_false] at g3_16;omega);omega) (zCk (exG (by have hq:=zDs har (by simp only [Lz,cond_true,cond_false,Bool.and_eq_true,Bool.or_eq_true,Bool.not_eq_true',Bool.not_eq_false',Bool.or_eq_false_iff,Bool.and_eq_false_iff,decide_eq_true_eq,decide_eq_false_iff_not,Bool.not_eq_true,Bool.not_eq_false] at g3_16;omega);omega) hb0))) O<|B 53 O (fun g3_16=>qI O kQ O) O<|B 54 O (fun g3_16=>Q O J O qA O) O<|B 55 O (fun g3_16=>kH O O O) O<|r_or O (fun h=>(lzf h))<|I<|zF O (fun c2=>?_) (fun c2=>?_)
  ·refine G O<|F O<|I<|o<|X O ?_
   rw [redR_lf c1 ha0 hb0,leafR_1 c2]
  ·have h2:=zDs har (by simp only [Lz,cond_true,cond_false,Bool.and_eq_true,Bool.or_eq_true,Bool.not_eq_true',Bool.not_eq_false',Bool.or_eq_false_iff,Bool.and_eq_false_iff,decide_eq_true_eq,decide_eq_false_iff_not,Bool.not_eq_true,Bool.not_eq_false] at c2;omega)
   have ha:=exG (k:=0) (by omega) ha0
   have hb:=exG (k:=1) (by omega) hb0
   have haw:=Ex.arg_wt (zZ ha)
   have hbw:=Ex.arg_wt (zZ hb)
   have hae:=Ex.wt_eq a
   have hbe:=Ex.wt_eq b
   refine zI<|G O<|zH O kZ<|zK zAj (Y 0 O) O<|qC O g (by omega) (zCk ha)<|qQ O zCq<|zO yY qA O<|qJ O ok117 (show Pur cfg 117 [vLin a.Lin,vI (-1)] (.tup [vLin sc.1,vI sc.2]) by rw [←hs0];exact ref05_Scale a.Lin (-1) (by omega) (Ex.allF_lin (Ex.allF_arg hr (zZ ha))) (by unfold r64;omega)) ⟨H,O,H,O,T⟩<|qP O<|yO O<|qT O<|zU O O (qE [none,some 2] O zr41 O) ?_
   rintro _ _ ⟨b2,rfl,rfl⟩
   refine D 0 sz41 O<|F O<|I<|zJ<|kJ 12 1 [⟨0,.q []⟩,⟨1,.q [2]⟩,⟨2,.q []⟩,⟨3,.q []⟩,⟨4,.q []⟩,⟨5,.q [1]⟩,⟨6,.q []⟩,⟨7,.q []⟩,⟨8,.q []⟩,⟨9,.q []⟩,⟨10,.e 0 []⟩,⟨11,.e 0 []⟩] mixed (by kernel_rfl) (by kernel_rfl) O O O<|t O<|t O<|t O<|t O<|t O<|t O<|t O<|t O<|t O<|t O<|t O<|t O<|zBj<|v O (by decide) O O (zD O kZ O)<|v O (by decide) O O (Q O zAj O (Y 0 O) O)<|v O (by decide) O O (qD O g O O (by omega) (zCk hb))<|v O (by decide) O O (qI O zCq O)<|v O (by decide) O O (zY O yY O qA O)<|v O (by decide) O O (zY O yY O (Y 0 O) O)<|v O (by decide) O O (qL O ok118 (show Pur cfg 118 [vLin b.Lin,vLin sc.1] (.tup [vLin d.1,vI d.2]) by rw [←hd0];exact ref05_Add b.Lin sc.1 (by omega) (by omega) (Ex.allF_lin (Ex.allF_arg hr (zZ hb))) hsr) ⟨H,O,H,O,T⟩)<|v O (by decide) O O (kK O O)<|v O (by decide) O O (wF O O O)<|v O (by decide) O O (wI O O O)<|zHq O O (by decide) O O (qE [none,some 2] O zr41 O) ?_
   rintro _ _ ⟨b3,rfl,rfl⟩
   refine ⟨_,O,?_⟩
   refine zFg O O (by decide) O O (yV O sz41 O O O (zFf 0 O O)) ?_
   rintro _ _ ⟨rfl,rfl⟩
   refine ⟨_,O,?_⟩
   refine zBd O<|F O<|I<|zJ<|G O<|F O<|yR O<|F O<|rL0 O (fun g7_2=>zN O O) O<|B 80 O (fun g7_2=>kH O O O) O<|r_or O (fun h=>(lzf h))<|I<|zF O (fun c3=>?_) (fun c3=>?_)
   ·try simp only [R] at c3
    have c3:¬(sc.2=0/\d.2=0):=by omega
    refine G O<|F O<|I<|o<|X O ?_
    rw [redR_lf c1 ha0 hb0,leafR_2 c2 hs0 hd0 c3]
   ·try simp only [R] at c3
    refine zI<|G O<|zH O zCw<|zK W (Y 0 O) O<|F O<|I<|zJ<|G O<|F O<|I<|zQ<|zW ⟨[(10,.c _),(9,.c _),(1,.c _),(2,.c _),(7,.c _)],[_,_]⟩ (Weak.mk [true,false,true] ⟨H,H,H,H,H,T⟩ O)<|qK 2 0 O O (Nat×Int) (fun ⟨k,lo⟩=>[(10,vI k),(9,vI lo)]) (fun ⟨k,lo⟩=>[]) (fun ⟨k,lo⟩=>k<=d.1.L.length/\(lowR A d.1.L d.1.K=lowR A (d.1.L.drop k) lo)/\(r64 lo)) (fun ⟨k,lo⟩=>d.1.L.length-k) ⟨⟨0,d.1.K⟩,⟨by omega,O,hdr.1⟩,Weak.mk [true,true] ⟨H,H,H,H,H,T⟩ O⟩ ?_
    rintro ⟨k,lo⟩ ⟨hk,hp,hlo⟩
    show AWP _ _ _ _ _ ⟨[(10,vI k),(9,vI lo)]++_,[]++_⟩
    refine zJ<|G O<|F O<|zH O kM<|zK wX (Y 0 O) O<|qB O U<|yH O<|I<|zF O (fun c4=>?_) (fun c4=>?_)
    ·try simp only [R] at c4
     obtain ⟨x,hx⟩:=qW d.1.L k (by omega)
     refine zI<|zJ<|zQ<|zJ<|G O<|zH O kM<|zK wX (Y 0 O) O<|F O<|qC O U (by omega) (N (by assumption))<|qQ O zDo<|zK W qA O<|zX O (yC O O O)<|I<|zF O (fun c5=>?_) (fun c5=>?_)
     ·try simp only [R] at c5
      refine qN<|zS O<|F O<|qH O ⟨by omega,by omega⟩<|F O<|I ?_
      refine ⟨⟨k+1,lo⟩,⟨by omega,(by first|exact lowR_skip hx hp c5|exact lowR_next hx hp (by omega) c8),(by first|exact hlo|exact plusT_r _ _)⟩,(by show d.1.L.length-(k+1)<d.1.L.length-k;omega),Weak.mk [true,true] ⟨H,H,H,H,H,T⟩ O⟩
     ·try simp only [R] at c5
      refine zI<|G O<|F O<|I<|zJ<|G O<|F O<|I<|zQ<|zW ⟨[(12,.c _),(11,.c _),(1,.c _),(2,.c _),(7,.c _),(9,.c _),(10,.c _)],[_,_]⟩ (Weak.mk [true,true] ⟨H,H,H,H,H,H,H,T⟩ O)<|qK 2 0 O O (Nat) (fun j=>[(12,vI j),(11,vI (valB (A.take j) x.Name))]) (fun j=>[]) (fun j=>j<=A.length) (fun j=>A.length-j) ⟨0,(by omega),Weak.mk [true,true] ⟨H,VLe.of_eq (O),H,H,H,H,H,T⟩ O⟩ ?_
      rintro j hj
      refine zJ<|G O<|F O<|F O<|zX O (zJk O el73 O)<|yH O<|I<|zF O (fun c6=>?_) (fun c6=>?_)
      ·try simp only [R] at c6
       obtain ⟨z,hz⟩:=qW A j (by omega)
       refine zI<|zJ<|zQ<|zJ<|qX 12 mixed (by kernel_rfl) O O<|M O O (zN O O)<|M O O (zN O O)<|M O O (qD O el73 O O (by omega) (N hz))<|M O O (qI O fd80_0 O)<|M O O (Q O one9 O qA O)<|M O O (zD O kM O)<|M O O (Q O wX O (Y 0 O) O)<|M O O (zN O O)<|M O O (qD O U O O (by omega) (N (by assumption)))<|M O O (qI O zAl O)<|M O O (Q O one9 O qA O)<|M O O (yU O O O)<|kB<|I<|zF O (fun c7=>?_) (fun c7=>?_)
       ·try simp only [R] at c7
        refine zS O<|F O<|F O<|qC O el73 (by omega) (N hz)<|qQ O fd80_1<|zK W qA O<|F O<|I<|zS O<|F O<|qH O ⟨by omega,by omega⟩<|F O<|I ?_
        refine ⟨j+1,(by omega),(by omega),Weak.mk [true,true] ⟨H,VLe.of_eq (by first|exact congrArg vI ((zKw hz).trans (if_pos c7)).symm|exact congrArg vI ((zKw hz).trans (if_neg c7)).symm),H,H,H,H,H,T⟩ O⟩
       ·try simp only [R] at c7
        refine zI<|zS O<|F O<|qH O ⟨by omega,by omega⟩<|F O<|I ?_
        refine ⟨j+1,(by omega),(by omega),Weak.mk [true,true] ⟨H,VLe.of_eq (by first|exact congrArg vI ((zKw hz).trans (if_pos c7)).symm|exact congrArg vI ((zKw hz).trans (if_neg c7)).symm),H,H,H,H,H,T⟩ O⟩
      ·try simp only [R] at c6
       rw [yL (l:=A) (k:=j) (by omega)]
       refine qN<|G O<|zH O kM<|zK wX (Y 0 O) O<|F O<|qC O U (by omega) (N (by assumption))<|qQ O zDo<|zK W qA O<|F O<|zX O (zGu O O O)<|qJ O ok73 (zNz x.By (w64 (valB A x.Name-1)) (hdr.2 x (zZ hx)) (w64_r _)) ⟨H,O,H,O,T⟩<|qP O<|qT O<|qT O<|F O<|F O<|I<|G O<|F O<|F O<|qJ O ok153 (zTo lo (timesT x.By (w64 (valB A x.Name-1))).1 hlo (timesT_r _ _)) ⟨H,O,H,O,T⟩<|qP O<|qT O<|qT O<|F O<|F O<|I<|zJ<|G O<|F O<|kO O<|F O<|rL0 O (fun g22_2=>zN O O) O<|B 143 O (fun g22_2=>kV O O) O<|r_or O (fun h=>(lzf h))<|I<|zF O (fun c8=>?_) (fun c8=>?_)
       ·try simp only [R] at c8
        have c8:¬((timesT x.By (w64 (valB A x.Name-1))).2=true/\(plusT lo (timesT x.By (w64 (valB A x.Name-1))).1).2=true):=by intro h;simp [h.1,h.2] at c8
        refine G O<|F O<|I<|o<|X O ?_
        rw [redR_lf c1 ha0 hb0,leafR_3 c2 hs0 hd0 c3 (lowR_no hx hp (by omega) c8)];rfl
       ·try simp only [R] at c8
        have c8:(timesT x.By (w64 (valB A x.Name-1))).2=true/\(plusT lo (timesT x.By (w64 (valB A x.Name-1))).1).2=true:=by simpa using c8
        refine zI<|zS O<|F O<|F O<|I<|zS O<|F O<|qH O ⟨by omega,by omega⟩<|F O<|I ?_
        refine ⟨⟨k+1,(plusT lo (timesT x.By (w64 (valB A x.Name-1))).1).1⟩,⟨by omega,(by first|exact lowR_skip hx hp c5|exact lowR_next hx hp (by omega) c8),(by first|exact hlo|exact plusT_r _ _)⟩,(by show d.1.L.length-(k+1)<d.1.L.length-k;omega),Weak.mk [true,true] ⟨H,H,H,H,H,T⟩ O⟩
    ·try simp only [R] at c4
     have hR:=lowR_end hp (by omega)
     refine qN<|G O<|F O<|zX O (wG O O O)<|F O<|rL0 O (fun g25_2=>zN O O) O<|B 150 O (fun g25_2=>yG O O O) O<|B 151 O (fun g25_2=>zN O O) O<|rLz [] O P T (fun g25_5=>zD O kQ O) O<|rLz [(153,_)] O P ⟨O,O,T⟩ (fun g25_5=>Q O J O (Y 1 O) O) O<|rLz [(154,_)] O P ⟨O,O,T⟩ (fun g25_5=>yG O O O) O<|B 152 O (fun g25_2=>kW O O O (fun h=>kA (by assumption) h) O) O<|r_or O (fun h=>(lzf h))<|F O<|I<|o<|X O ?_
     rw [redR_lf c1 ha0 hb0,leafR_3 c2 hs0 hd0 c3 hR];simp
theorem zId (A:List Bd) (hA:A.length<=1000000) (e:Ex) (har:arE e=true) (hr:e.allF Lf.rng) (he:e.wt<=10000):Pur cfg 121 [vE e,vBds A] (vB (redR A e)):=by
  induction e using Ex.ind with
  |_ e ih=>exact redR_step A hA e ih har hr he
theorem clear_step (l:List St) (ih:∀s,s∈l->∀A:List Bd,A.length+stsWt s.Body<=10000->Pur cfg 68 [vSts s.Body,vBds A] (.tup [vSts (clrL A s.Body).1,vI ((clrL A s.Body).2:Nat)])) (hg:gdL l=true) (hr:allSs Lf.rng l) (A:List Bd) (hA:A.length+stsWt l<=10000):
    Pur cfg 68 [vSts l,vBds A] (.tup [vSts (clrL A l).1,vI ((clrL A l).2:Nat)]):=by
 refine zR Tryz.func68 O Tryz.ntmps68 Tryz.results68 O ?_
 intro z hz
 have hll:=kN l
 have hN:=zEd l
 refine G O<|yA 20 O<|F O<|I<|G O<|F O<|yN _ (kX 46 20)<|I<|G O<|F O<|I<|zJ<|G O<|F O<|I<|zQ<|zW ⟨[(8,.c _),(6,.c _),(7,.c _),(0,.c _),(1,.c _)],[_]⟩ (Weak.mk [true] ⟨H,H,H,H,H,T⟩ O)<|qK 3 1 O O (Nat×Value) (fun ⟨k,sv⟩=>[(8,vI k),(6,.c (.lit sv)),(7,vI ((clrL A (l.take k)).2:Nat))]) (fun ⟨k,sv⟩=>[E.vec sv 46 20 ((clrL A (l.take k)).1.map St.cells)]) (fun ⟨k,sv⟩=>k<=l.length) (fun ⟨k,sv⟩=>l.length-k) ⟨⟨0,(.slice none 0 0)⟩,(by omega),Weak.mk [true] ⟨H,H,VLe.of_eq (by rw [List.take_zero,clrL];rfl),H,H,T⟩ (by show [E.vec (.slice none 0 0) _ _ []]=[E.vec _ _ _ ((clrL A (l.take 0)).1.map St.cells)];rw [List.take_zero,clrL];rfl)⟩ ?_
 rintro ⟨k,sv⟩ hk
 show AWP _ _ _ _ _ ⟨[(8,vI k),(6,.c (.lit sv)),(7,vI ((clrL A (l.take k)).2:Nat))]++_,[E.vec sv 46 20 ((clrL A (l.take k)).1.map St.cells)]++_⟩
 refine zJ<|G O<|F O<|F O<|zX O (zJk O K O)<|yH O<|I<|zF O (fun c1=>?_) (fun c1=>?_)
 ·try simp only [R] at c1
  obtain ⟨s,hs⟩:=qW l k (by omega)
  have hsw:=yI (zZ hs)
  have hse:=St.wt_eq s
  have hPs:=St.allF_eq (wE hr s (zZ hs))
  have hgs:=zKp hg (zZ hs)
  obtain ⟨hb1,hb2⟩:=clrL_bd A (l.take k)
  obtain ⟨hb3,hb4⟩:=clrL_bd (bdIn A s) s.Body
  have hst:=zQr hs
  have hsN:=zGz s
  have hlx:=kN (clrL A (l.take k)).1
  have hly:=kN (clrL (bdIn A s) s.Body).1
  have htk:=takeWt l k
  have hbi:(bdIn A s).length<=A.length+1:=by unfold bdIn;split<;>simp
  refine zI<|zJ<|zQ<|G O<|F O<|F O<|qC O K (by omega) (wJ hs)<|zO zBx qA O<|zU O O (qE [none,none,none,none,none,some 4,none,none,none,none,none,none,none,none,none,none,some 2,some 4,some 13,some 20] O j O) ?_
  rintro _ _ ⟨b2,rfl,rfl⟩
  refine D 0 sz46 O<|I<|G O<|F O<|F O<|I<|zJ<|G O<|zH O zAb<|zK J (Y 0 O) O<|yE O<|I<|zF O (fun c2=>?_) (fun c2=>?_)
  ·try simp only [R] at c2
   refine G O<|F O<|yN _ (kX 80 2)<|I<|G O<|F O<|F O<|zU O O (yD 0 O el73 O O O (by simp only [List.length_map,List.length_append,List.length_cons,List.length_nil,List.length_take,List.length_drop];omega) (by simp only [List.length_map,List.length_append,List.length_cons,List.length_nil,List.length_take,List.length_drop];omega)) ?_
   rintro _ _ ⟨sv4,rfl,rfl⟩
   refine F O<|I<|zS O<|F O<|zH O zAf<|zK one9 (Y 1 O) O<|zH O zAd<|zK J (Y 1 O) O<|yP O zr80 pl80<|zX O (qS O el73 zr80 O O O O)<|zU O O (yD 0 O el73 O O O (by simp only [List.length_map,List.length_append,List.length_cons,List.length_nil,List.length_take,List.length_drop];omega) (by simp only [List.length_map,List.length_append,List.length_cons,List.length_nil,List.length_take,List.length_drop];omega)) ?_
   rintro _ _ ⟨sv5,rfl,rfl⟩
   refine F O<|I<|zJ<|zW _ (yS 0 O (regs':=[(10,_),(37,_)]) (μ':=[_,_]) ⟨FLe.sl,FLe.sl,T⟩ ⟨EFle.refl _,EFle.refl _,T⟩)<|zS O<|zH O kP<|zK kT (Y 0 O) O<|F O ?_
   refine qJ O ok68 (ih s (zZ hs) (bdIn A s) (by omega)) ⟨H,O,VLe.of_eq ((by first|(refine Eq.trans ?_ (congrArg vBds (show A++[⟨s.Name,s.Many⟩]=bdIn A s from (if_pos c2).symm));show V.c (C.sl 2 _)=V.c (C.sl 2 _);rw [List.map_append];rfl)|(exact congrArg vBds (show A=bdIn A s from (if_neg c2).symm)))),O,T⟩ ?_
   refine qP O<|qT O<|qT O<|F O<|F O<|I<|G O<|F O<|F O<|qH O ⟨by omega,by omega⟩<|F O<|I<|zJ<|G O<|zH O zAb<|zK J (Y 0 O) O<|yE O<|F O<|rL0 O (fun g14_3=>zD O zAp O) O<|B 52 O (fun g14_3=>zY O yX O (Y 0 O) O) O<|rL0 O (fun g14_3=>zN O O) O<|rLz [(53,_),(54,_)] O gv1 ⟨O,O,O,O,T⟩ (fun g14_3=>qL O ok121 (zId A (by omega) s.E (gdS_if hgs (by simp only [Lz,cond_true,cond_false,Bool.and_eq_true,Bool.or_eq_true,Bool.not_eq_true',Bool.not_eq_false',Bool.or_eq_false_iff,Bool.and_eq_false_iff,decide_eq_true_eq,decide_eq_false_iff_not,Bool.not_eq_true,Bool.not_eq_false] at g14_3;omega)) hPs.2.1 (by omega)) ⟨H,O,H,O,T⟩) O<|yQ O (fun h=>h)<|I<|zF O (fun c3=>?_) (fun c3=>?_)
   ·have hcl:=clrS_yes (A:=A) (s:=s) (by simpa using c3)
    refine G O<|F O<|qH O ⟨by omega,by omega⟩<|F O<|I<|G O<|F O<|F O<|zU O O (yD 1 O K O O O (by simp only [List.length_map,List.length_append,List.length_cons,List.length_nil,List.length_take,List.length_drop];omega) (by simp only [List.length_map,List.length_append,List.length_cons,List.length_nil,List.length_take,List.length_drop];omega)) ?_
    rintro _ _ ⟨sv6,rfl,rfl⟩
    refine F O<|I<|qN<|zS O<|F O<|qH O ⟨by omega,by omega⟩<|F O<|I ?_
    refine ⟨⟨k+1,sv6⟩,(by omega),(by show l.length-(k+1)<l.length-k;omega),Weak.mk [false,true] ⟨H,H,VLe.of_eq (by rw [zDp hs,hcl];exact congrArg (fun n=>V.c (C.lit (.int .i64 n))) (by dsimp only;omega)),H,H,T⟩ (by have e:=zDp (A:=A) hs;rw [hcl] at e;show _=[E.vec sv6 _ 20 ((clrL A (l.take (k+1))).1.map St.cells)]++_;rw [e];simp only [List.map_append,List.map_cons,List.map_nil,St.cells_eq (setB _ _)];rfl)⟩
   ·have hcl:=clrS_no (A:=A) (s:=s) (by simpa using c3)
    refine zI<|G O<|F O<|zH O kP<|D 0 sz23 O<|I<|zS O<|F O<|zO zBx (Y 0 O) O<|zX O (qS O K j O O O O)<|zU O O (yD 1 O K O O O (by simp only [List.length_map,List.length_append,List.length_cons,List.length_nil,List.length_take,List.length_drop];omega) (by simp only [List.length_map,List.length_append,List.length_cons,List.length_nil,List.length_take,List.length_drop];omega)) ?_
    rintro _ _ ⟨sv7,rfl,rfl⟩
    refine F O<|I<|zS O<|F O<|qH O ⟨by omega,by omega⟩<|F O<|I ?_
    refine ⟨⟨k+1,sv7⟩,(by omega),(by show l.length-(k+1)<l.length-k;omega),Weak.mk [false,true] ⟨H,H,VLe.of_eq (by rw [zDp hs,hcl];exact congrArg (fun n=>V.c (C.lit (.int .i64 n))) (by dsimp only;omega)),H,H,T⟩ (by have e:=zDp (A:=A) hs;rw [hcl] at e;show _=[E.vec sv7 _ 20 ((clrL A (l.take (k+1))).1.map St.cells)]++_;rw [e];simp only [List.map_append,List.map_cons,List.map_nil,St.cells_eq (setB _ _)];rfl)⟩
  ·try simp only [R] at c2
   refine zI<|G O<|zH O kP<|zK kT (Y 0 O) O<|F O ?_
   refine qJ O ok68 (ih s (zZ hs) (bdIn A s) (by omega)) ⟨H,O,VLe.of_eq ((by first|(refine Eq.trans ?_ (congrArg vBds (show A++[⟨s.Name,s.Many⟩]=bdIn A s from (if_pos c2).symm));show V.c (C.sl 2 _)=V.c (C.sl 2 _);rw [List.map_append];rfl)|(exact congrArg vBds (show A=bdIn A s from (if_neg c2).symm)))),O,T⟩ ?_
   refine qP O<|qT O<|qT O<|F O<|F O<|I<|G O<|F O<|F O<|qH O ⟨by omega,by omega⟩<|F O<|I<|zJ<|G O<|zH O zAb<|zK J (Y 0 O) O<|yE O<|F O<|rL0 O (fun g14_3=>zD O zAp O) O<|B 52 O (fun g14_3=>zY O yX O (Y 0 O) O) O<|rL0 O (fun g14_3=>zN O O) O<|rLz [(53,_),(54,_)] O gv1 ⟨O,O,O,O,T⟩ (fun g14_3=>qL O ok121 (zId A (by omega) s.E (gdS_if hgs (by simp only [Lz,cond_true,cond_false,Bool.and_eq_true,Bool.or_eq_true,Bool.not_eq_true',Bool.not_eq_false',Bool.or_eq_false_iff,Bool.and_eq_false_iff,decide_eq_true_eq,decide_eq_false_iff_not,Bool.not_eq_true,Bool.not_eq_false] at g14_3;omega)) hPs.2.1 (by omega)) ⟨H,O,H,O,T⟩) O<|yQ O (fun h=>h)<|I<|zF O (fun c3=>?_) (fun c3=>?_)
   ·have hcl:=clrS_yes (A:=A) (s:=s) (by simpa using c3)
    refine G O<|F O<|qH O ⟨by omega,by omega⟩<|F O<|I<|G O<|F O<|F O<|zU O O (yD 1 O K O O O (by simp only [List.length_map,List.length_append,List.length_cons,List.length_nil,List.length_take,List.length_drop];omega) (by simp only [List.length_map,List.length_append,List.length_cons,List.length_nil,List.length_take,List.length_drop];omega)) ?_
    rintro _ _ ⟨sv8,rfl,rfl⟩
    refine F O<|I<|qN<|zS O<|F O<|qH O ⟨by omega,by omega⟩<|F O<|I ?_
    refine ⟨⟨k+1,sv8⟩,(by omega),(by show l.length-(k+1)<l.length-k;omega),Weak.mk [false,true] ⟨H,H,VLe.of_eq (by rw [zDp hs,hcl];exact congrArg (fun n=>V.c (C.lit (.int .i64 n))) (by dsimp only;omega)),H,H,T⟩ (by have e:=zDp (A:=A) hs;rw [hcl] at e;show _=[E.vec sv8 _ 20 ((clrL A (l.take (k+1))).1.map St.cells)]++_;rw [e];simp only [List.map_append,List.map_cons,List.map_nil,St.cells_eq (setB _ _)];rfl)⟩
   ·have hcl:=clrS_no (A:=A) (s:=s) (by simpa using c3)
    refine zI<|G O<|F O<|zH O kP<|D 0 sz23 O<|I<|zS O<|F O<|zO zBx (Y 0 O) O<|zX O (qS O K j O O O O)<|zU O O (yD 1 O K O O O (by simp only [List.length_map,List.length_append,List.length_cons,List.length_nil,List.length_take,List.length_drop];omega) (by simp only [List.length_map,List.length_append,List.length_cons,List.length_nil,List.length_take,List.length_drop];omega)) ?_
    rintro _ _ ⟨sv9,rfl,rfl⟩
    refine F O<|I<|zS O<|F O<|qH O ⟨by omega,by omega⟩<|F O<|I ?_
    refine ⟨⟨k+1,sv9⟩,(by omega),(by show l.length-(k+1)<l.length-k;omega),Weak.mk [false,true] ⟨H,H,VLe.of_eq (by rw [zDp hs,hcl];exact congrArg (fun n=>V.c (C.lit (.int .i64 n))) (by dsimp only;omega)),H,H,T⟩ (by have e:=zDp (A:=A) hs;rw [hcl] at e;show _=[E.vec sv9 _ 20 ((clrL A (l.take (k+1))).1.map St.cells)]++_;rw [e];simp only [List.map_append,List.map_cons,List.map_nil,St.cells_eq (setB _ _)];rfl)⟩
 ·try simp only [R] at c1
  refine qN<|G O<|F O<|F O<|F O<|F O<|I<|zW _ (yS 0 O (regs':=[(6,_),(68,_),(4,_)]) (μ':=[]) ⟨FLe.sl,FLe.sl,FLe.sl,T⟩ T)<|o<|w (p O) (p O) ?_
  rw [yL (l:=l) (k:=k) (by omega)]
theorem clear_body (s:St) (hg:gdL s.Body=true) (hr:allSs Lf.rng s.Body):∀A:List Bd,A.length+stsWt s.Body<=10000->Pur cfg 68 [vSts s.Body,vBds A] (.tup [vSts (clrL A s.Body).1,vI ((clrL A s.Body).2:Nat)]):=by
  induction s using St.ind with
  |_ s ih=>exact fun A hA=>clear_step s.Body (fun a ha=>ih a ha (zPs (zKp hg ha)) (St.allF_eq (wE hr a ha)).2.2) hg hr A hA
theorem ref36_clear (l:List St) (hg:gdL l=true) (hr:allSs Lf.rng l) (A:List Bd) (hA:A.length+stsWt l<=10000):Pur cfg 68 [vSts l,vBds A] (.tup [vSts (clrL A l).1,vI ((clrL A l).2:Nat)]):=
  clear_step l (fun s hs=>clear_body s (zPs (zKp hg hs)) (St.allF_eq (wE hr s hs)).2.2) hg hr A hA
theorem zLi (n:Ns) (hn:n.Ok) (hl:stsWt n.Body<=1000) (hr:allSs Lf.rng n.Body) (hg:(validN n).2=0->gdL n.Body=true):
    Pur cfg 25 [vNs n] (.tup [vNs (remR n).1,vI (remR n).2]):=by
 refine zR Tryz.func25 O Tryz.ntmps25 Tryz.results25 O ?_
 intro z hz
 refine G O<|zU O O (qM O O) ?_
 rintro _ _ ⟨b1,rfl,rfl⟩
 refine zU O O (qE [some 8,some 20] O d O) ?_
 rintro _ _ ⟨b2,rfl,rfl⟩
 refine F O<|I<|zJ<|G O<|zO kG (Y 1 O) O<|qJ O ok58 (ref30_Validate n hn (by omega)) ⟨H,O,T⟩<|qP O<|qT O<|qT O<|F O<|F O<|I<|G O<|F O<|yR O<|I<|zF O (fun c1=>?_) (fun c1=>?_)
 ·try simp only [R] at c1
  refine G O<|qV [some 8,some 20] O d pl25<|D 0 i O<|F O<|I<|o<|w (zV kG O (Y 0 O) O) (p O) ?_
  rw [remR_1 c1];rfl
 ·try simp only [R] at c1
  refine zI<|G O<|zH O zAc<|zK kT (Y 1 O) O<|qJ O ok68 (show Pur cfg 68 [vSts n.Body,vBds []] _ from ref36_clear n.Body (hg c1) hr [] (by simp;omega)) ⟨H,O,VLe.nil,O,T⟩<|qP O<|qT O<|qT O<|F O<|F O<|I<|G O<|zH O zAg<|zK zDm (Y 1 O) O<|F O<|yP O d pl25<|F O<|D 0 i O<|F O<|I<|o<|w (zV kG O (Y 0 O) O) (p O) ?_
  rw [remR_2 c1];rfl
end Go.W
