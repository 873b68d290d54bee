/-
  What functions compute.
  What functions compute.
  What functions compute.
  What functions compute.
  Conditions: none.
-/
import Derived.Test.YthgichbbgocmoaaGreatDoorGY
import Derived.Test.YthgichbbgocmoaaGreatDoorPlainU
set_option linter.unusedSimpArgs false
set_option linter.unusedVariables false
section
set_option maxRecDepth 10000
namespace Go.W
open Go Go.Eng Go.Proofs Go.L41 Go.Br
attribute [local irreducible] AWP RWP TD fH
theorem ref04_Zero1 {t:Ty} (h:bV t=true):Pur cfg 64 [vTy t] (gL ⟨0,1⟩):=by
  have e:=ref04_Zero t
  rw [xU,h] at e;exact e
theorem zFj:mO Tryz.prog 121=some 7:=by kernel_rfl
theorem el26:dX Tryz.prog 26=some (125,8,104):=by kernel_rfl
theorem zGi:dX Tryz.prog 119=some (46,2,16):=by kernel_rfl
theorem zKu:bH Tryz.prog 121 0=some (0,48):=by kernel_rfl
theorem zFd:bH Tryz.prog 121 1=some (5,38):=by kernel_rfl
theorem zFc:bH Tryz.prog 121 2=some (6,119):=by kernel_rfl
theorem fd125_0:bH Tryz.prog 125 0=some (0,9):=by kernel_rfl
theorem zWl:bH Tryz.prog 125 1=some (1,121):=by kernel_rfl
theorem ok12:bA Tryz.prog 12=true:=by kernel_rfl
theorem ok62:bA Tryz.prog 62=true:=by kernel_rfl
theorem ok63:bA Tryz.prog 63=true:=by kernel_rfl
theorem ok64:bA Tryz.prog 64=true:=by kernel_rfl
theorem ok66:bA Tryz.prog 66=true:=by kernel_rfl
theorem ok94:bA Tryz.prog 94=true:=by kernel_rfl
theorem ok97:bA Tryz.prog 97=true:=by kernel_rfl
theorem ok124:bA Tryz.prog 124=true:=by kernel_rfl
theorem ok125:bA Tryz.prog 125=true:=by kernel_rfl
theorem zMf:lX Tryz.prog 119=true:=by kernel_rfl
theorem pl121:fP Tryz.prog 121=some [(0,5),(5,1),(6,1)]:=by kernel_rfl
theorem pl125:fP Tryz.prog 125=some [(0,1),(1,7)]:=by kernel_rfl
theorem sz119:(Tryz.prog.info? 119).map (·.size)=some 1:=by kernel_rfl
theorem zPv:(Tryz.prog.info? 121).map (·.size)=some 7:=by kernel_rfl
theorem zNc:fF Tryz.prog 121=some [(Value.int IntKind.i64 0),(Value.int IntKind.i64 0),(Value.int IntKind.i64 0),(Value.int IntKind.i64 0),(Value.int IntKind.i64 0),(Value.slice none 0 0),(Value.slice none 0 0)]:=by kernel_rfl
theorem zr125:fF Tryz.prog 125=some [(Value.string (ByteArray.mk #[])),(Value.int IntKind.i64 0),(Value.int IntKind.i64 0),(Value.int IntKind.i64 0),(Value.int IntKind.i64 0),(Value.int IntKind.i64 0),(Value.slice none 0 0),(Value.slice none 0 0)]:=by kernel_rfl
theorem zHe (mem:List Nmd) (s:ByteArray) (hm:mem.length<=140737488355328)  :
    Pur cfg 63 [gI mem,vS s] (.tup [vTn ((dM mem s).getD zTn),vB (dM mem s).isSome]):=by
 refine zR Tryz.func63 O Tryz.ntmps63 Tryz.results63 O ?_
 intro z hz
 refine G O<|zV O O (qH [none,none,none,none,none,some 1,some 2] O zNc O) ?_
 rintro _ _ ⟨b1,rfl,rfl⟩
 refine A O<|Y<|zJ<|G O<|A O<|Y<|zQ<|zY ⟨[(6,.c _),(0,.c _),(1,.c _),(4,.c _)],[_]⟩ (Weak.mk [true] ⟨R,R,R,R,T⟩ O)<|qK 1 0 O O (Nat) (fun k=>[(6,vI k)]) (fun k=>[]) (fun k=>k<=mem.length/\(dM mem s=dM (mem.drop k) s)) (fun k=>mem.length-k) ⟨0,⟨zA,O⟩,Weak.mk [true] ⟨R,R,R,R,T⟩ O⟩ ?_
 rintro k ⟨hk,hp⟩
 refine zJ<|G O<|A O<|A O<|qB O el26<|yG O<|Y<|zE O (fun c1=>?_) (fun c1=>?_)
 ·try simp only [sx] at c1
  obtain ⟨x,hx⟩:=qY mem k zA
  refine zK<|zJ<|zQ<|G O<|A O<|A O<|qC O el26 zA (getm uB)<|qQ O fd125_0<|zI one9 zZ O<|A O<|wL O<|Y<|zE O (fun c2=>?_) (fun c2=>?_)
  ·try simp only [sx] at c2
   refine G O<|A O<|A O<|qC O el26 zA (getm uB)<|qQ O zWl<|zM zFj zZ O<|rStR 0 zPv O<|A O<|Y<|zH<|fin2 (zP zFj O (J 0 O) O) (rs_c O) ?_
   rw [hp,fndT_at hx c2];rfl
  ·try simp only [sx] at c2
   refine zK<|zT O<|A O<|qI O ⟨zA,zA⟩<|A O<|Y ?_
   refine ⟨k+1,⟨zA,hp.trans (fndT_nx hx c2)⟩,zA,Weak.mk [true] ⟨R,R,R,R,T⟩ O⟩
 ·try simp only [sx] at c1
  refine qN<|G O<|yF [none,none,none,none,none,some 1,some 2] O zNc pl121<|rStR 0 zPv O<|A O<|Y<|zH<|fin2 (zP zFj O (J 0 O) O) (rs_c O) ?_
  rw [hp,fndT_end zA];rfl
theorem ref12_Shape (d:List Int) (hl:d.length<=17592186044416):
    Pur cfg 124 [vIs d] (vI (bR d)):=by
 refine zR Tryz.func124 O Tryz.ntmps124 Tryz.results124 O ?_
 intro z hz
 refine G O<|A O<|Y<|zJ<|G O<|A O<|qB O el38<|zW O (yC O O O)<|Y<|zE O (fun c1=>?_) (fun c1=>?_)
 ·exact v16
 ·try simp only [sx] at c1
  refine zK<|zJ<|G O<|A O<|Y<|zQ<|zY ⟨[(3,.c _),(0,.c _)],[]⟩ (Weak.mk [] ⟨R,R,T⟩ O)<|qK 1 0 O O (Nat) (fun k=>[(3,vI k)]) (fun k=>[]) (fun k=>k<=d.length/\((d.take k).all mZ=true)) (fun k=>d.length-k) ⟨0,⟨zA,O⟩,Weak.mk [] ⟨R,R,T⟩ O⟩ ?_
  rintro k ⟨hk,hp⟩
  refine zJ<|G O<|A O<|A O<|qB O el38<|yG O<|Y<|zE O (fun c2=>?_) (fun c2=>?_)
  ·exact p7
  ·try simp only [sx] at c2
   have hpos:d.all mZ=true:=by rw [yV zA] at hp;exact hp
   refine qN<|G O<|A O<|Y<|zJ<|G O<|A O<|Y<|zQ<|zY ⟨[(5,.c _),(4,.c _),(0,.c _)],[]⟩ (Weak.mk [] ⟨R,R,R,T⟩ O)<|qK 2 0 O O (Nat×Int) (fun ⟨j,s⟩=>[(5,vI j),(4,vI s)]) (fun ⟨j,s⟩=>[]) (fun ⟨j,s⟩=>j<=d.length/\(1<=s)/\(s<=4096)/\(bG 1 d=bG s (d.drop j))) (fun ⟨j,s⟩=>d.length-j) ⟨⟨0,1⟩,⟨zA,zA,zA,O⟩,Weak.mk [] ⟨R,VLe.of_eq (O),R,T⟩ O⟩ ?_
   rintro ⟨j,s⟩ ⟨hj,hs1,hs2,hs3⟩
   show AWP _ _ _ _ _ ⟨[(5,vI j),(4,vI s)]++_,[]++_⟩
   refine zJ<|G O<|A O<|A O<|qB O el38<|yG O<|Y<|zE O (fun c4=>?_) (fun c4=>?_)
   ·try simp only [sx] at c4
    obtain ⟨m,hm⟩:=qY d j zA
    refine zK<|zJ<|zQ<|zJ<|zJ<|qU 7 mixed uC O O<|zN O O (zO O O)<|zN O O (zO O O)<|zN O O (qE O el38 O O zA (getm uB))<|zN O O (zF O one3 O zZ O)<|zN O O (zO O O)<|zN O O (zIs O O O zA)<|zN O O (yC O O O)<|yP<|Y<|zE O (fun c5=>?_) (fun c5=>?_)
    ·try simp only [sx] at c5
     have hov:=quo_t hs1 c5
     refine G O<|A O<|Y<|zH<|zS O ?_
     rw [zOu zA hpos (zJv hm hs3 hov)]
    ·try simp only [sx] at c5
     have hov:=quo_f hs1 (Int.not_lt.2 c5)
     have hm1:=zBv hs1 (zBu hpos hm)
     refine zK<|zT O<|A O<|A O<|A O<|qC O el38 zA (getm uB)<|zI one3 zZ O<|zW O (kB O O O (by have:=zBv hs1 (zBu hpos hm);exact ⟨zA,zA⟩))<|A O<|Y<|zT O<|A O<|qI O ⟨zA,zA⟩<|A O<|Y ?_
     refine ⟨⟨j+1,s*m⟩,⟨zA,zA,zA,zFs hm hs3 hov⟩,(by show d.length-(j+1)<d.length-j;omega),Weak.mk [] ⟨R,R,R,T⟩ O⟩
   ·exact v13
theorem ref12_Size (d:List Int) (hl:d.length<=17592186044416) (hd:bR d=0):
    Pur cfg 125 [vIs d] (vI (fD d)):=by
 refine zR Tryz.func125 O Tryz.ntmps125 Tryz.results125 O ?_
 intro z hz
 obtain ⟨q1,hpos,t,ht,q2,q3⟩:=zEw hd
 refine G O<|A O<|Y<|G O<|A O<|Y<|zJ<|G O<|A O<|Y<|zQ<|zY ⟨[(4,.c _),(3,.c _),(0,.c _)],[]⟩ (Weak.mk [] ⟨R,R,R,T⟩ O)<|qK 2 0 O O (Nat×Int) (fun ⟨k,s⟩=>[(4,vI k),(3,vI s)]) (fun ⟨k,s⟩=>[]) (fun ⟨k,s⟩=>k<=d.length/\(1<=s)/\(s<=4096)/\(bG 1 d=bG s (d.drop k))) (fun ⟨k,s⟩=>d.length-k) ⟨⟨0,1⟩,⟨zA,zA,zA,O⟩,Weak.mk [] ⟨R,VLe.of_eq (O),R,T⟩ O⟩ ?_
 rintro ⟨k,s⟩ ⟨hk,hs1,hs2,hs3⟩
 show AWP _ _ _ _ _ ⟨[(4,vI k),(3,vI s)]++_,[]++_⟩
 refine zJ<|G O<|A O<|A O<|qB O el38<|yG O<|Y<|zE O (fun c1=>?_) (fun c1=>?_)
 ·try simp only [sx] at c1
  obtain ⟨m,hm⟩:=qY d k zA
  have hm1:=zBv hs1 (zBu hpos hm)
  have hfit:=zNm hm hs3 ht
  refine zK<|zJ<|zQ<|zT O<|A O<|A O<|A O<|qC O el38 zA (getm uB)<|zI one3 zZ O<|zW O (kB O O O ⟨zA,zA⟩)<|A O<|Y<|zT O<|A O<|qI O ⟨zA,zA⟩<|A O<|Y ?_
  refine ⟨⟨k+1,s*m⟩,⟨zA,zA,zA,zFs hm hs3 hfit⟩,(by show d.length-(k+1)<d.length-k;omega),Weak.mk [] ⟨R,R,R,T⟩ O⟩
 ·try simp only [sx] at c1
  refine qN<|G O<|A O<|A O<|Y<|zH<|zS O ?_
  rw [zEb hd (zJw hs3 zA)]
theorem zMe (t:Tn) (hd:t.Dims.length<=17592186044416) (hv:t.Vals.length<=140737488355328):
    Pur cfg 94 [vTn t] (vI (gS t)):=by
 refine zR Tryz.func94 O Tryz.ntmps94 Tryz.results94 O ?_
 intro z hz
 refine G O<|zV O O (qJ O O) ?_
 rintro _ _ ⟨b1,rfl,rfl⟩
 refine A O<|Y<|zJ<|G O<|zD O zKu<|zM yD (J 0 O) O<|qD O ok77 (zDr t.T) ⟨R,O,T⟩<|kN O<|Y<|zE O (fun c1=>?_) (fun c1=>?_)
 ·try simp only [sx] at c1
  have ht:bV t.T=false:=by simpa using c1
  refine G O<|A O<|Y<|zH<|zS O ?_
  rw [tn_10 ht]
 ·try simp only [sx] at c1
  have ht:bV t.T=true:=by simpa using c1
  refine zK<|zJ<|G O<|zD O zFd<|zI zBs (J 0 O) O<|qD O ok124 (ref12_Shape t.Dims hd) ⟨R,O,T⟩<|A O<|Y<|G O<|A O<|yK O<|Y<|zE O (fun c2=>?_) (fun c2=>?_)
  ·try simp only [sx] at c2
   refine G O<|A O<|A O<|Y<|zH<|zS O ?_
   rw [tn_d ht c2]
  ·try simp only [sx] at c2
   refine zK<|zJ<|zJ<|qU 7 mixed uC O O<|zN O O (zG O zFc O)<|zN O O (zF O zMf O (J 0 O) O)<|zN O O (yJ O zGi O)<|zN O O (zG O zFd O)<|zN O O (zF O zBs O (J 0 O) O)<|zN O O (qG O ok125 (ref12_Size t.Dims hd c2) ⟨R,O,T⟩)<|zN O O (kA O O O)<|yP<|Y<|zE O (fun c3=>?_) (fun c3=>?_)
   ·try simp only [sx] at c3
    refine G O<|A O<|Y<|zH<|zS O ?_
    rw [tn_l ht c2 c3]
   ·try simp only [sx] at c3
    refine zK<|zJ<|G O<|A O<|Y<|zQ<|zY ⟨[(4,.c _),(1,.c _)],[_]⟩ (Weak.mk [true] ⟨R,R,T⟩ O)<|qK 1 0 O O (Nat) (fun k=>[(4,vI k)]) (fun k=>[]) (fun k=>k<=t.Vals.length/\((t.Vals.take k).all (bI t.T)=true)) (fun k=>t.Vals.length-k) ⟨0,⟨zA,O⟩,Weak.mk [true] ⟨R,R,T⟩ O⟩ ?_
    rintro k ⟨hk,hp⟩
    refine zJ<|G O<|A O<|zD O zFc<|zI zMf (J 0 O) O<|qB O zGi<|yG O<|Y<|zE O (fun c4=>?_) (fun c4=>?_)
    ·try simp only [sx] at c4
     obtain ⟨x,hx⟩:=qY t.Vals k zA
     refine zK<|zJ<|zQ<|zJ<|qU 9 mixed uC O O<|zN O O (zG O zKu O)<|zN O O (zU O yD O (J 0 O) O)<|zN O O (zG O zFc O)<|zN O O (zF O zMf O (J 0 O) O)<|zN O O (zO O O)<|zN O O (qE O zGi O O zA (getm uB))<|zN O O (zU O yO O zZ O)<|zN O O (qG O ok126 (zGr t.T x ht) ⟨R,O,R,O,T⟩)<|zN O O (kJ O O)<|yP<|Y<|zE O (fun c5=>?_) (fun c5=>?_)
     ·try simp only [sx] at c5
      have hb:bI t.T x=false:=by simpa using c5
      refine G O<|A O<|Y<|zH<|zS O ?_
      rw [tn_v ht c2 c3 hx hb]
     ·try simp only [sx] at c5
      have hb:bI t.T x=true:=by simpa using c5
      refine zK<|zT O<|A O<|qI O ⟨zA,zA⟩<|A O<|Y ?_
      refine ⟨k+1,⟨zA,zEz hx hp hb⟩,zA,Weak.mk [true] ⟨R,R,T⟩ O⟩
    ·try simp only [sx] at c4
     refine qN<|G O<|A O<|Y<|zH<|zS O ?_
     rw [yV zA] at hp;rw [tn_0 ht c2 c3 hp]
theorem ref19_Must (mem:List Nmd) (b:Bf) (hm:mem.length<=140737488355328) (hF:∀x,x∈mem->x.T.Dims.length<=17592186044416/\x.T.Vals.length<=140737488355328):
    Pur cfg 62 [gI mem,vS b.Name,vTy b.T,vIs b.Dims] (vI (gT mem b)):=by
 refine zR Tryz.func62 O Tryz.ntmps62 Tryz.results62 O ?_
 intro z hz
 obtain ⟨t,ht⟩:∃t,t=(dM mem b.Name).getD zTn:=⟨_,rfl⟩
 refine G O<|zV O O (qJ O O) ?_
 rintro _ _ ⟨b1,rfl,rfl⟩
 refine A O<|Y<|G O<|A O<|A O<|qD O ok63 (show Pur cfg 63 [gI mem,vS b.Name] (.tup [vTn t,vB (dM mem b.Name).isSome]) from ht ▸ zHe mem b.Name hm) ⟨R,O,R,O,T⟩<|qO O<|yH O<|qR O<|zV O O (qH [none,none,none,none,none,some 1,some 2] O zNc O) ?_
 rintro _ _ ⟨b2,rfl,rfl⟩
 refine rStR 0 zPv O<|A O<|Y<|zJ<|zQ<|G O<|A O<|kN O<|A O<|Y<|zE O (fun c1=>?_) (fun c1=>?_)
 ·try simp only [sx] at c1
  have e0:gT mem b=9:=must_none (fnd_none (by simpa using c1))
  refine G O<|A O<|Y<|zH<|zS O ?_
  rw [e0]
 ·try simp only [sx] at c1
  have hs:dM mem b.Name=some t:=fnd_some (by simpa using c1) ht
  obtain ⟨y,hy,hyt⟩:=zOp hs
  obtain ⟨hd,hv⟩:=hF y hy
  rw [hyt] at hd hv
  refine G O<|zM zFj (J 0 O) O<|qD O ok94 (zMe t hd zA) ⟨R,O,T⟩<|yK O<|A O<|Y<|zE O (fun c2=>?_) (fun c2=>?_)
  ·try simp only [sx] at c2
   have e0:gT mem b=1:=must_1 hs c2
   refine G O<|A O<|Y<|zH<|zS O ?_
   rw [e0]
  ·try simp only [sx] at c2
   refine G O<|zD O zKu<|zM yD (J 0 O) O<|zM yD (J 1 O) O<|zW O (wY O fl48 O O O)<|A O<|Y<|zE O (fun c3=>?_) (fun c3=>?_)
   ·have c3:¬t.T=b.T:=tyv_f c3
    have e0:gT mem b=10:=must_10 hs c2 c3
    refine G O<|A O<|Y<|zH<|zS O ?_
    rw [e0]
   ·have c3:t.T=b.T:=tyv_t c3
    refine G O<|zD O zFd<|zI zBs (J 0 O) O<|A O<|qD O ok42 (zXp t.Dims b.Dims hd) ⟨R,O,R,O,T⟩<|kN O<|A O<|Y<|zE O (fun c4=>?_) (fun c4=>?_)
    ·try simp only [sx] at c4
     have c4:¬t.Dims=b.Dims:=by simpa using c4
     have e0:gT mem b=15:=must_15 hs c2 c3 c4
     refine G O<|A O<|Y<|zH<|zS O ?_
     rw [e0]
    ·try simp only [sx] at c4
     have c4:t.Dims=b.Dims:=by simpa using c4
     have e0:gT mem b=0:=must_0 hs c2 c3 c4
     refine zK<|G O<|A O<|Y<|zH<|zS O ?_
     rw [e0]
theorem zRw (n:Ns) (hn:n.Ok) (hw:bC n.Body<=900000) (ins:List Nmd) (hm:ins.length<=140737488355328) (hF:∀x,x∈ins->x.T.Dims.length<=17592186044416/\x.T.Vals.length<=140737488355328):
    Pur cfg 26 [vNs n,gI ins] (.tup [gI (jI n ins).1,vI (jI n ins).2]):=by
 refine zR Tryz.func26 O Tryz.ntmps26 Tryz.results26 O ?_
 intro z hz
 have hnb:=hn.bufs
 refine G O<|zV O O (qJ O O) ?_
 rintro _ _ ⟨b1,rfl,rfl⟩
 refine A O<|A O<|Y<|zJ<|G O<|zM kE (J 0 O) O<|qD O ok12 (zGu n hn hw) ⟨R,O,T⟩<|qO O<|qR O<|qR O<|A O<|A O<|Y<|G O<|A O<|yK O<|Y<|zE O (fun c1=>?_) (fun c1=>?_)
 ·try simp only [sx] at c1
  refine G O<|A O<|yI 8 O<|A O<|Y<|zH<|fin2 (rs_c O) (rs_c O) ?_
  rw [init_v c1];rfl
 ·try simp only [sx] at c1
  have hbT:=bufs_ty (valid_bufs c1).1
  refine zK<|G O<|A O<|yS _ (wC 125 8)<|Y<|zJ<|G O<|A O<|Y<|zQ<|zY ⟨[(9,.c _),(8,.c _),(1,.c _),(2,.c _)],[_,_]⟩ (Weak.mk [true,true] ⟨R,R,R,R,T⟩ O)<|qK 2 1 O O (Nat×Value) (fun ⟨k,sw⟩=>[(9,vI k),(8,.c (.lit sw))]) (fun ⟨k,sw⟩=>[E.vec sw 125 8 (((n.Bufs.take k).map (vV ins)).map Nmd.cells)]) (fun ⟨k,sw⟩=>k<=n.Bufs.length/\(mN ins n.Bufs=mN ins (n.Bufs.drop k))) (fun ⟨k,sw⟩=>n.Bufs.length-k) ⟨⟨0,(.slice none 0 0)⟩,⟨zA,O⟩,Weak.mk [true,true] ⟨R,R,R,R,T⟩ O⟩ ?_
  rintro ⟨k,sw⟩ ⟨hk,hp⟩
  show AWP _ _ _ _ _ ⟨[(9,vI k),(8,.c (.lit sw))]++_,[E.vec sw 125 8 (((n.Bufs.take k).map (vV ins)).map Nmd.cells)]++_⟩
  refine zJ<|G O<|A O<|zD O zAj<|zI zDk (J 1 O) O<|qB O el22<|yG O<|Y<|zE O (fun c2=>?_) (fun c2=>?_)
  ·try simp only [sx] at c2
   obtain ⟨b,hb⟩:=qY n.Bufs k zA
   have hbt:=hbT b (qA hb)
   have hsz:=zKw b.Dims
   have hbd:=hn.dims b (qA hb)
   refine zK<|zJ<|zQ<|G O<|zD O zAj<|zI zDk (J 1 O) O<|A O<|qC O el22 zA (getm uB)<|zM zLd zZ O<|zV O O (qH [none,none,none,none,none,none,some 1,none] O zr94 O) ?_
   rintro _ _ ⟨b3,rfl,rfl⟩
   refine rStR 0 sz94 O<|Y<|zJ<|G O<|zD O zOq<|zI one3 (J 0 O) O<|yE O<|Y<|zE O (fun c3=>?_) (fun c3=>?_)
   ·try simp only [sx] at c3
    refine zJ<|G O<|A O<|zD O zEr<|zI one9 (J 0 O) O<|zD O zGc<|zM yD (J 0 O) O<|zD O zGb<|zI zBs (J 0 O) O<|qD O ok62 (ref19_Must ins b hm hF) ⟨R,O,R,O,R,O,R,O,T⟩<|A O<|Y<|G O<|A O<|yK O<|Y<|zE O (fun c4=>?_) (fun c4=>?_)
    ·try simp only [sx] at c4
     have hE:¬vA ins b=0:=by rw [iniE_p c3];exact c4
     refine G O<|A O<|yI 8 O<|A O<|Y<|zH<|fin2 (rs_c O) (rs_c O) ?_
     have hL:=(ini_bad hb hp hE).trans (iniE_p c3)
     rw [init_e c1 (by rw [hL];exact c4),hL];rfl
    ·try simp only [sx] at c4
     have hE:vA ins b=0:=(iniE_p c3).trans c4
     have hB:=iniB_f (ins:=ins) c3
     refine zK<|G O<|A O<|zD O zEr<|zI one9 (J 0 O) O<|qD O ok63 (zHe ins b.Name hm) ⟨R,O,R,O,T⟩<|qO O<|yH O<|qR O<|zV O O (qH [none,none,none,none,none,some 1,some 2] O zNc O) ?_
     rintro _ _ ⟨b4,rfl,rfl⟩
     refine rStR 0 zPv O<|A O<|Y<|G O<|A O<|zD O zEr<|zI one9 (J 1 O) O<|zM zFj (J 0 O) O<|qT O zr125 pl125<|zW O (qZ O el26 zr125 O O O O)<|zV O O (yN 2 O el26 O O O zC zC) ?_
     rintro _ _ ⟨sv5,rfl,rfl⟩
     refine A O<|Y<|qN<|zT O<|A O<|qI O ⟨zA,zA⟩<|A O<|Y ?_
     refine ⟨⟨k+1,sv5⟩,⟨zA,ini_next hb hp hE⟩,(by show n.Bufs.length-(k+1)<n.Bufs.length-k;omega),Weak.mk [false,false,true,true] ⟨R,R,R,R,T⟩ (by exact zFz (by rw [yQ hb,List.map_append,List.map_append,List.map_singleton,List.map_singleton];rw [hB];first|rfl|(rw [hsd];rfl)))⟩
   ·try simp only [sx] at c3
    have hE:=iniE_z (ins:=ins) c3
    have hB:=iniB_z (ins:=ins) c3
    obtain ⟨q1,hpos,t,ht,q2,q3⟩:=zEw hbt.2
    refine zK<|G O<|zD O zGc<|zM yD (J 0 O) O<|zD O zGb<|zI zBs (J 0 O) O<|qT O zNc pl121<|zV O O (qV O zNc) ?_
    rintro _ _ ⟨b6,rfl,rfl⟩
    refine yS _ (wC 3 1)<|yS _ (wC 46 2)<|rStR 2 zPv O<|Y<|G O<|A O<|Y<|zJ<|G O<|A O<|Y<|zQ<|zY ⟨[(16,.c _),(15,.c _),(1,.c _),(2,.c _),(8,.c _),(9,.c _),(10,.c _),(14,.c _)],[_,_,_,_,_]⟩ (Weak.mk [true,false,true,true,true,true] ⟨R,R,R,R,R,R,R,R,T⟩ O)<|qK 2 0 O O (Nat×Int) (fun ⟨j,s⟩=>[(16,vI j),(15,vI s)]) (fun ⟨j,s⟩=>[]) (fun ⟨j,s⟩=>j<=b.Dims.length/\(1<=s)/\(s<=4096)/\(bG 1 b.Dims=bG s (b.Dims.drop j))) (fun ⟨j,s⟩=>b.Dims.length-j) ⟨⟨0,1⟩,⟨zA,zA,zA,O⟩,Weak.mk [true,true,true,true,true] ⟨R,VLe.of_eq (O),R,R,R,R,R,R,T⟩ O⟩ ?_
    rintro ⟨j,s⟩ ⟨hj,hs1,hs2,hs3⟩
    show AWP _ _ _ _ _ ⟨[(16,vI j),(15,vI s)]++_,[]++_⟩
    refine zJ<|G O<|A O<|zD O zGb<|zI zBs (J 2 O) O<|qB O el38<|yG O<|Y<|zE O (fun c5=>?_) (fun c5=>?_)
    ·try simp only [sx] at c5
     obtain ⟨d,hd⟩:=qY b.Dims j zA
     have hm1:=zBv hs1 (zBu hpos hd)
     have hfit:=zNm hd hs3 ht
     refine zK<|zJ<|zQ<|zT O<|A O<|zD O zGb<|zI zBs (J 2 O) O<|A O<|qC O el38 zA (getm uB)<|zI one3 zZ O<|zW O (kB O O O ⟨zA,zA⟩)<|A O<|Y<|zT O<|A O<|qI O ⟨zA,zA⟩<|A O<|Y ?_
     refine ⟨⟨j+1,s*d⟩,⟨zA,zA,zA,zFs hd hs3 hfit⟩,(by show b.Dims.length-(j+1)<b.Dims.length-j;omega),Weak.mk [true,true,true,true,true] ⟨R,R,R,R,R,R,R,R,T⟩ O⟩
    ·try simp only [sx] at c5
     have hsd:fD b.Dims=s:=zEb hbt.2 (zJw hs3 zA)
     refine qN<|zJ<|G O<|A O<|Y<|zQ<|zY ⟨[(17,.c _),(1,.c _),(2,.c _),(8,.c _),(9,.c _),(10,.c _),(14,.c _),(15,.c _)],[_,_,_,_,_]⟩ (Weak.mk [true,true,true,true,true] ⟨R,R,R,R,R,R,R,R,T⟩ O)<|qK 1 2 O O (Nat×Value) (fun ⟨i,sv⟩=>[(17,vI i)]) (fun ⟨i,sv⟩=>[E.vec sv 46 2 ((List.replicate i (⟨0,1⟩:Vl)).map Vl.cells),E.row b6 121 [cI b.T.Kind,cI b.T.Bits,cI b.T.Frac,cI b.T.Round,cI b.T.Over,.sl 1 (b.Dims.map fun n=>[cI n]),.lit sv]]) (fun ⟨i,sv⟩=>i<=s.toNat) (fun ⟨i,sv⟩=>s.toNat-i) ⟨⟨0,.slice none 0 0⟩,(Nat.zero_le _),Weak.mk [true,true,true,true,true] ⟨R,R,R,R,R,R,R,R,T⟩ O⟩ ?_
     rintro ⟨i,sv⟩ hi
     refine zJ<|G O<|A O<|A O<|yG O<|Y<|zE O (fun c6=>?_) (fun c6=>?_)
     ·try simp only [sx] at c6
      refine zK<|zJ<|zQ<|qU 6 mixed uC O O<|zN O O (zG O zFc O)<|zN O O (zF O zMf O (J 1 O) O)<|zN O O (zG O zGc O)<|zN O O (zU O yD O (J 2 O) O)<|zN O O (qG O ok64 (ref04_Zero1 hbt.1) ⟨R,O,T⟩)<|zN O O (qZ O zGi W O O O O)<|yP<|zV O O (yN 0 O zGi O O O (by simp only [List.length_map,List.length_replicate,List.length_cons,List.length_nil];omega) (by simp only [List.length_map,List.length_replicate,List.length_cons,List.length_nil];omega)) ?_
      rintro _ _ ⟨sv9,rfl,rfl⟩
      refine zD O zFc<|rStR 1 sz119 O<|Y<|zT O<|A O<|qI O ⟨zA,zA⟩<|A O<|Y ?_
      refine ⟨⟨i+1,sv9⟩,zA,(by show s.toNat-(i+1)<s.toNat-i;omega),Weak.mk [true,true,true,true,true] ⟨R,R,R,R,R,R,R,R,T⟩ (by exact mem2_eq' vrep_next)⟩
     ·try simp only [sx] at c6
      obtain rfl:i=s.toNat:=by omega
      refine zY _ (yT 0 O (regs':=[]) (μ':=[_,_,_,_]) T ⟨EFle.row (ds:=[_,_,_,_,_,_,_]) ⟨.inl O,.inl O,.inl O,.inl O,.inl O,.inl O,.inr ⟨O,O⟩,T⟩,EFle.refl _,EFle.refl _,EFle.refl _,T⟩)<|qN<|zT O<|A O<|zD O zEr<|zI one9 (J 1 O) O<|zM zFj (J 0 O) O<|qT O zr125 pl125<|zW O (qZ O el26 zr125 O O O O)<|zV O O (yN 2 O el26 O O O zC zC) ?_
      rintro _ _ ⟨sv10,rfl,rfl⟩
      refine A O<|Y<|zT O<|A O<|qI O ⟨zA,zA⟩<|A O<|Y ?_
      refine ⟨⟨k+1,sv10⟩,⟨zA,ini_next hb hp hE⟩,(by show n.Bufs.length-(k+1)<n.Bufs.length-k;omega),Weak.mk [false,false,true,true] ⟨R,R,R,R,T⟩ (by exact zFz (by rw [yQ hb,List.map_append,List.map_append,List.map_singleton,List.map_singleton];rw [hB];first|rfl|(rw [hsd];rfl)))⟩
  ·try simp only [sx] at c2
   refine qN<|zJ<|zY _ (yT 0 O (regs':=[(8,_)]) (μ':=[_]) ⟨FLe.sl,T⟩ ⟨EFle.refl _,T⟩)<|zT O<|A O<|A O<|A O<|Y<|zH<|fin2 (rs_c O) (rs_c O) ?_
   rw [yV (l:=n.Bufs) (k:=k) zA,init_ok c1 (ini_end zA hp)]
theorem base_Vals (l:List Vl) (hl:l.length<=140737488355328):
    Pur cfg 97 [eO l,eO l] (vB true):=by
 refine zR Tryz.func97 O Tryz.ntmps97 Tryz.results97 O ?_
 intro z hz
 refine G O<|A O<|Y<|zJ<|G O<|A O<|qB O zGi<|A O<|qB O zGi<|yK O<|Y<|zE O (fun c1=>?_) (fun c1=>?_)
 ·try simp only [sx] at c1
  exact absurd c1 uD
 ·try simp only [sx] at c1
  refine zK<|zJ<|G O<|A O<|Y<|zQ<|zY ⟨[(5,.c _),(0,.c _),(1,.c _)],[]⟩ (Weak.mk [] ⟨R,R,R,T⟩ O)<|qK 1 0 O O (Nat) (fun k=>[(5,vI k)]) (fun k=>[]) (fun k=>k<=l.length) (fun k=>l.length-k) ⟨0,zA,Weak.mk [] ⟨R,R,R,T⟩ O⟩ ?_
  rintro k hk
  refine zJ<|G O<|A O<|A O<|qB O zGi<|yG O<|Y<|zE O (fun c2=>?_) (fun c2=>?_)
  ·try simp only [sx] at c2
   obtain ⟨x,hx⟩:=qY l k zA
   refine zK<|zJ<|zQ<|zJ<|qU 9 mixed uC O O<|zN O O (zO O O)<|zN O O (zO O O)<|zN O O (qE O zGi O O zA (getm uB))<|zN O O (zU O yO O zZ O)<|zN O O (zO O O)<|zN O O (zO O O)<|zN O O (qE O zGi O O zA (getm hx))<|zN O O (zU O yO O zZ O)<|zN O O (wY O fl46 O O O)<|yP<|Y<|zE O (fun c3=>?_) (fun c3=>?_)
   ·try simp only [sx] at c3
    exact absurd c3 (by first|(rw [show List.take 2 x.cells=x.cells from rfl,vl_lits];simp;done)|simp)
   ·try simp only [sx] at c3
    refine zK<|zT O<|A O<|qI O ⟨zA,zA⟩<|A O<|Y ?_
    refine ⟨k+1,zA,zA,Weak.mk [] ⟨R,R,R,T⟩ O⟩
  ·refine qN<|G O<|A O<|Y<|zH<|zS O ?_
   exact O
theorem base_Tensor (t:Tn) (hd:t.Dims.length<=17592186044416) (hv:t.Vals.length<=140737488355328):
    Pur cfg 66 [vTn t,vTn t] (vB true):=by
 refine zR Tryz.func66 O Tryz.ntmps66 Tryz.results66 O ?_
 intro z hz
 refine G O<|zV O O (qJ O O) ?_
 rintro _ _ ⟨b1,rfl,rfl⟩
 refine zV O O (qJ O O) ?_
 rintro _ _ ⟨b2,rfl,rfl⟩
 refine A O<|Y<|G O<|zD O zKu<|zM yD (J 1 O) O<|zD O zKu<|zM yD (J 0 O) O<|zW O (zTk O fl48 O O O)<|A O<|rL0 O (fun g1_5=>zG O zFd O) O<|rL1 11 O (fun g1_5=>zF O zBs O (J 1 O) O) O<|rL0 O (fun g1_5=>zG O zFd O) O<|rL1 13 O (fun g1_5=>zF O zBs O (J 0 O) O) O<|rLz [(12,_),(14,_)] O B ⟨O,O,O,O,T⟩ (fun g1_5=>qG O ok42 (show Pur cfg 42 [vIs t.Dims,vIs t.Dims] (vB true) from by have e:=zXp t.Dims t.Dims hd;rw [decide_eq_true rfl] at e;exact e) ⟨R,O,R,O,T⟩) O<|yR O (fun h=>h)<|A O<|rL0 O (fun g1_12=>zG O zFc O) O<|rL1 18 O (fun g1_12=>zF O zMf O (J 1 O) O) O<|rL0 O (fun g1_12=>zG O zFc O) O<|rL1 20 O (fun g1_12=>zF O zMf O (J 0 O) O) O<|rLz [(19,_),(21,_)] O B ⟨O,O,O,O,T⟩ (fun g1_12=>qG O ok97 (base_Vals t.Vals hv) ⟨R,O,R,O,T⟩) O<|yR O (fun h=>h)<|A O<|Y<|zH<|zS O ?_
 have e:bT (List.take 5 t.cells) (List.take 5 t.cells)=true:=ty_eqv t.T
 exact congrArg vB (by simp [Lz,e])
theorem base_Nameds (l:List Nmd) (hl:l.length<=140737488355328) (hF:∀x,x∈l->x.T.Dims.length<=17592186044416/\x.T.Vals.length<=140737488355328):
    Pur cfg 28 [gI l,gI l] (vB true):=by
 refine zR Tryz.func28 O Tryz.ntmps28 Tryz.results28 O ?_
 intro z hz
 refine G O<|A O<|Y<|zJ<|G O<|A O<|qB O el26<|A O<|qB O el26<|yK O<|Y<|zE O (fun c1=>?_) (fun c1=>?_)
 ·try simp only [sx] at c1
  exact (c1 T).elim
 ·try simp only [sx] at c1
  refine zK<|zJ<|G O<|A O<|Y<|zQ<|zY ⟨[(5,.c _),(0,.c _),(1,.c _)],[]⟩ (Weak.mk [] ⟨R,R,R,T⟩ O)<|qK 1 0 O O (Nat) (fun k=>[(5,vI k)]) (fun k=>[]) (fun k=>k<=l.length) (fun k=>l.length-k) ⟨0,zA,Weak.mk [] ⟨R,R,R,T⟩ O⟩ ?_
  rintro k hk
  refine zJ<|G O<|A O<|A O<|qB O el26<|yG O<|Y<|zE O (fun c2=>?_) (fun c2=>?_)
  ·try simp only [sx] at c2
   obtain ⟨x,hx⟩:=qY l k zA
   refine zK<|zJ<|zQ<|zJ<|qU 25 mixed uC O O<|zN O O (zO O O)<|zN O O (zO O O)<|zN O O (qE O el26 O O zA (getm uB))<|zN O O (qM O fd125_0 O)<|zN O O (zF O one9 O zZ O)<|zN O O (zO O O)<|zN O O (zO O O)<|zN O O (qE O el26 O O zA (getm hx))<|zN O O (qM O fd125_0 O)<|zN O O (zF O one9 O zZ O)<|zN O O (zBj O O O)<|zN O O (zO O O)<|qL [] O O O O B T (fun g6_11=>zO O O) O<|qL [] O O O O B T (fun g6_11=>zO O O) O<|qL [(29,_),(30,_)] O O O O B ⟨O,O,O,O,T⟩ (fun g6_11=>qE O el26 O O zA (getm uB)) O<|qL [(31,_)] O O O O B ⟨O,O,T⟩ (fun g6_11=>qM O zWl O) O<|qL [(32,_)] O O O O B ⟨O,O,T⟩ (fun g6_11=>zU O zFj O zZ O) O<|qL [] O O O O B T (fun g6_11=>zO O O) O<|qL [] O O O O B T (fun g6_11=>zO O O) O<|qL [(34,_),(35,_)] O O O O B ⟨O,O,O,O,T⟩ (fun g6_11=>qE O el26 O O zA (getm hx)) O<|qL [(36,_)] O O O O B ⟨O,O,T⟩ (fun g6_11=>qM O zWl O) O<|qL [(37,_)] O O O O B ⟨O,O,T⟩ (fun g6_11=>zU O zFj O zZ O) O<|qL [(33,_),(38,_)] O O O O B ⟨O,O,O,O,T⟩ (fun g6_11=>qG O ok66 (base_Tensor x.T (hF x (qA hx)).1 (hF x (qA hx)).2) ⟨R,O,R,O,T⟩) O<|qL [(39,_)] O O O O B ⟨O,O,T⟩ (fun g6_11=>kJ O O) O<|zN O O (zAn O O O O (fun h=>(lzf h)))<|yP<|Y<|zE O (fun c3=>?_) (fun c3=>?_)
   ·exact absurd c3 (by simp [Lz])
   ·refine zK<|zT O<|A O<|qI O ⟨zA,zA⟩<|A O<|Y ?_
    refine ⟨k+1,zA,zA,Weak.mk [] ⟨R,R,R,T⟩ O⟩
  ·refine qN<|G O<|A O<|Y<|zH<|zS O ?_
   rfl
end Go.W
end
section
set_option maxRecDepth 10000
namespace Go.W
open Go Go.Eng Go.Proofs Go.L41 Go.Br
attribute [local irreducible] AWP RWP TD fH
abbrev vIxl (l:List Ix):V:=.c (.sl 4 (l.map Ix.cells))
abbrev vIxa (x:Ix):V:=.agg x.cells
theorem zBd:mO Tryz.prog 212=some 8:=by kernel_rfl
theorem zGe:bH Tryz.prog 212 0=some (0,46):=by kernel_rfl
theorem zFb:bH Tryz.prog 212 1=some (2,48):=by kernel_rfl
theorem zIo:bH Tryz.prog 212 2=some (7,29):=by kernel_rfl
theorem ok128:bA Tryz.prog 128=true:=by kernel_rfl
theorem ok150:bA Tryz.prog 150=true:=by kernel_rfl
theorem ok152:bA Tryz.prog 152=true:=by kernel_rfl
theorem ok166:bA Tryz.prog 166=true:=by kernel_rfl
theorem ok167:bA Tryz.prog 167=true:=by kernel_rfl
theorem ok168:bA Tryz.prog 168=true:=by kernel_rfl
theorem ok171:bA Tryz.prog 171=true:=by kernel_rfl
theorem ok190:bA Tryz.prog 190=true:=by kernel_rfl
theorem ok191:bA Tryz.prog 191=true:=by kernel_rfl
theorem zLy:fP Tryz.prog 212=some [(0,2),(2,5),(7,1)]:=by kernel_rfl
theorem zDt:(Tryz.prog.info? 212).map (·.size)=some 8:=by kernel_rfl
theorem zFp:fF Tryz.prog 212=some [(Value.int IntKind.i64 0),(Value.int IntKind.i64 0),(Value.int IntKind.i64 0),(Value.int IntKind.i64 0),(Value.int IntKind.i64 0),(Value.int IntKind.i64 0),(Value.int IntKind.i64 0),(Value.int IntKind.i64 0)]:=by kernel_rfl
theorem zRf (mem:List Nmd) (hm:mem.length<=140737488355328) (hF:∀x,x∈mem->x.T.Dims.length<=17592186044416/\x.T.Vals.length<=140737488355328) (s:ByteArray):
    Pur cfg 191 [gI mem,vS s] (.tup [vTn (fK mem s).1,vI (fK mem s).2]):=by
 refine zR Tryz.func191 O Tryz.ntmps191 Tryz.results191 O ?_
 intro z hz
 obtain ⟨t,ht⟩:∃t,t=(dM mem s).getD zTn:=⟨_,rfl⟩
 refine G O<|zV O O (qH [none,none,none,none,none,some 1,some 2] O zNc O) ?_
 rintro _ _ ⟨b1,rfl,rfl⟩
 refine A O<|Y<|G O<|A O<|A O<|qD O ok63 (show Pur cfg 63 [gI mem,vS s] (.tup [vTn t,vB (dM mem s).isSome]) from ht ▸ zHe mem s hm) ⟨R,O,R,O,T⟩<|qO O<|yH O<|qR O<|zV O O (qH [none,none,none,none,none,some 1,some 2] O zNc O) ?_
 rintro _ _ ⟨b2,rfl,rfl⟩
 refine rStR 0 zPv O<|A O<|Y<|zJ<|G O<|A O<|kN O<|Y<|zE O (fun c1=>?_) (fun c1=>?_)
 ·try simp only [sx] at c1
  have e0:=ten_9 (show (dM mem s).isSome=false by simpa using c1)
  refine G O<|yF [none,none,none,none,none,some 1,some 2] O zNc pl121<|rStR 1 zPv O<|A O<|Y<|zH<|fin2 (zP zFj O (J 1 O) O) (rs_c O) ?_
  rw [e0];rfl
 ·try simp only [sx] at c1
  have hs:dM mem s=some t:=fnd_some (by simpa using c1) ht
  obtain ⟨y,hy,hyt⟩:=zOp hs
  obtain ⟨hd,hv⟩:=hF y hy
  rw [hyt] at hd hv
  refine zK<|zJ<|G O<|zM zFj (J 0 O) O<|qD O ok94 (zMe t hd hv) ⟨R,O,T⟩<|yK O<|Y<|zE O (fun c2=>?_) (fun c2=>?_)
  ·try simp only [sx] at c2
   have e0:=ten_1 hs c2
   refine G O<|yF [none,none,none,none,none,some 1,some 2] O zNc pl121<|rStR 1 zPv O<|A O<|Y<|zH<|fin2 (zP zFj O (J 1 O) O) (rs_c O) ?_
   rw [e0];rfl
  ·try simp only [sx] at c2
   have e0:=ten_0 hs c2
   refine zK<|G O<|zM zFj (J 0 O) O<|rStR 1 zPv O<|A O<|Y<|zH<|fin2 (zP zFj O (J 1 O) O) (rs_c O) ?_
   rw [e0];rfl
theorem ref19_index (mem:List Nmd) (hm:mem.length<=140737488355328) (hF:∀x,x∈mem->x.T.Dims.length<=17592186044416/\x.T.Vals.length<=140737488355328) (env:List Bd) (hel:env.length<=1000000) (her:∀x,x∈env->r64 x.Val) (x:Ix) (hX:IxB x) (d:Int) (hd1:1<=d) (hd2:d<=4096):
    Pur cfg 171 [gI mem,jV env,vIxa x,vI d] (.tup [vI (mH mem env x d).1,vI (mH mem env x d).2]):=by
 refine zR Tryz.func171 O Tryz.ntmps171 Tryz.results171 O ?_
 intro z hz
 obtain ⟨t,ht⟩:∃t,t=(fK mem x.From).1:=⟨_,rfl⟩
 obtain ⟨hXl,hXa,hXn⟩:=hX
 refine G O<|zV O O (qJ O O) ?_
 rintro _ _ ⟨b1,rfl,rfl⟩
 refine A O<|A O<|Y<|zJ<|G O<|zD O zEs<|zI one9 (J 0 O) O<|wL O<|Y<|zE O (fun c1=>?_) (fun c1=>?_)
 ·try simp only [sx] at c1
  refine G O<|zD O zFh<|zM kP (J 0 O) O<|A O<|qD O ok190 (zQd x.Lin env hel her hXl.1 hXl.2) ⟨R,O,R,O,T⟩<|qR O<|qR O<|A O<|A O<|Y<|zH<|fin2 (rs_c O) (rs_c O) ?_
  rw [idx_l c1]
 ·try simp only [sx] at c1
  refine zK<|G O<|A O<|zD O zEs<|zI one9 (J 0 O) O<|qD O ok191 (show Pur cfg 191 [gI mem,vS x.From] (.tup [vTn t,vI (fK mem x.From).2]) from ht ▸ zRf mem hm hF x.From) ⟨R,O,R,O,T⟩<|qO O<|yH O<|qR O<|zV O O (qH [none,none,none,none,none,some 1,some 2] O zNc O) ?_
  rintro _ _ ⟨b2,rfl,rfl⟩
  refine rStR 0 zPv O<|A O<|Y<|zJ<|G O<|A O<|yK O<|Y<|zE O (fun c2=>?_) (fun c2=>?_)
  ·try simp only [sx] at c2
   refine G O<|A O<|A O<|A O<|Y<|zH<|fin2 (rs_c O) (rs_c O) ?_
   rw [idx_t c1 c2]
  ·try simp only [sx] at c2
   obtain ⟨hte,y,hy,hyt⟩:=ten_ok c2
   rw [←ht] at hte hyt
   have hdm:=tn_dims hte
   have hvl:=tn_len hte
   obtain ⟨q1,hpos,S,hS,S1,S2⟩:=zEw hdm
   have hsz:=zEb hdm hS
   refine zK<|zJ<|G O<|zD O zKu<|zD O zDo<|zI one3 (J 0 O) O<|yK O<|Y<|zE O (fun c3=>?_) (fun c3=>?_)
   ·try simp only [sx] at c3
    refine G O<|A O<|A O<|Y<|zH<|fin2 (rs_c O) (rs_c O) ?_
    subst ht
    rw [idx_10 c1 c2 c3]
   ·try simp only [sx] at c3
    refine zK<|zJ<|G O<|zD O zAu<|zI zEo (J 1 O) O<|qB O el90<|zD O zFd<|zI zBs (J 0 O) O<|qB O el38<|yK O<|Y<|zE O (fun c4=>?_) (fun c4=>?_)
    ·try simp only [sx] at c4
     refine G O<|A O<|A O<|Y<|zH<|fin2 (rs_c O) (rs_c O) ?_
     subst ht
     rw [idx_11 c1 c2 c3 zA]
    ·try simp only [sx] at c4
     refine zK<|G O<|A O<|Y<|zJ<|G O<|A O<|Y<|zQ<|zY ⟨[(13,.c _),(12,.c _),(1,.c _),(3,.c _),(6,.c _),(10,.c _)],[_,_]⟩ (Weak.mk [true,true] ⟨R,R,R,R,R,R,T⟩ O)<|qK 2 0 O O (Nat×Int×Int) (fun ⟨k,a,s⟩=>[(13,vI k),(12,vI a)]) (fun ⟨k,a,s⟩=>[]) (fun ⟨k,a,s⟩=>k<=x.At.length/\(lC 0 (x.At.map fun f=>dE f env) t.Dims=lC a ((x.At.map fun f=>dE f env).drop k) (t.Dims.drop k))/\(0<=a)/\(a<s)/\(1<=s)/\(s<=4096)/\(bG 1 t.Dims=bG s (t.Dims.drop k))) (fun ⟨k,a,s⟩=>x.At.length-k) ⟨⟨0,0,1⟩,⟨zA,O,zA,zA,zA,zA,O⟩,Weak.mk [true,true] ⟨R,VLe.of_eq (O),R,R,R,R,T⟩ O⟩ ?_
     rintro ⟨k,a,s⟩ ⟨hk,hp,ha0,has,hs1,hs2,hs3⟩
     show AWP _ _ _ _ _ ⟨[(13,vI k),(12,vI a)]++_,[]++_⟩
     refine zJ<|G O<|A O<|zD O zAu<|zI zEo (J 1 O) O<|qB O el90<|yG O<|Y<|zE O (fun c5=>?_) (fun c5=>?_)
     ·try simp only [sx] at c5
      obtain ⟨f,hf⟩:=qY x.At k zA
      obtain ⟨m,hmd⟩:=qY t.Dims k zA
      have hgx:(x.At.map fun f=>dE f env)[k]? =some (dE f env):=by rw [List.getElem?_map,hf];rfl
      refine zK<|zJ<|zQ<|G O<|zD O zAu<|zI zEo (J 1 O) O<|A O<|qC O el90 zA (getm uB)<|zM kP zZ O<|A O<|qD O ok190 (zQd f env hel her (hXa f (qA hf)).1 (hXa f (qA hf)).2) ⟨R,O,R,O,T⟩<|qO O<|qR O<|qR O<|A O<|A O<|Y<|zJ<|G O<|A O<|yK O<|Y<|zE O (fun c6=>?_) (fun c6=>?_)
      ·try simp only [sx] at c6
       have hq:=hp.trans (plc_e hgx c6)
       refine G O<|A O<|A O<|A O<|Y<|zH<|fin2 (rs_c O) (rs_c O) ?_
       subst ht
       rw [idx_p c1 c2 c3 zA hq c6]
      ·try simp only [sx] at c6
       refine zK<|zJ<|G O<|A O<|yG O<|A O<|rL0 O (fun g17_2=>zO O O) O<|rL0 O (fun g17_2=>zG O zFd O) O<|rL1 70 O (fun g17_2=>zF O zBs O (J 0 O) O) O<|rL0 O (fun g17_2=>zO O O) O<|rLz [(71,_),(72,_)] O B ⟨O,O,O,O,T⟩ (fun g17_2=>qE O el38 O O zA (getm uB)) O<|rL1 73 O (fun g17_2=>zF O one3 O zZ O) O<|rLz [(69,_),(74,_)] O B ⟨O,O,O,O,T⟩ (fun g17_2=>wF O O O) O<|r_or O (fun h=>(lzf h))<|Y<|zE O (fun c7=>?_) (fun c7=>?_)
       ·try simp only [sx] at c7
        have hb7:(dE f env).1<0∨m<=(dE f env).1:=by omega
        have hq:=hp.trans (plc_b hgx c6 hmd hb7)
        refine G O<|A O<|A O<|Y<|zH<|fin2 (rs_c O) (rs_c O) ?_
        subst ht
        rw [idx_p c1 c2 c3 zA hq zB]
       ·try simp only [sx] at c7
        have hb7:¬((dE f env).1<0∨m<=(dE f env).1):=by omega
        obtain ⟨z1,z2,z3,z4⟩:=plc_mul ha0 has (show 0<=(dE f env).1 by omega) (show (dE f env).1<m by omega)
        have hm1:=zBv hs1 (zBu hpos hmd)
        have hfit:=zNm hmd hs3 hS
        refine zK<|zT O<|A O<|zD O zFd<|zI zBs (J 0 O) O<|A O<|qC O el38 zA (getm uB)<|zI one3 zZ O<|zW O (kB O O O ⟨zA,zA⟩)<|A O<|qI O ⟨zA,zA⟩<|A O<|Y<|zT O<|A O<|qI O ⟨zA,zA⟩<|A O<|Y ?_
        refine ⟨⟨k+1,a*m+(dE f env).1,s*m⟩,⟨zA,hp.trans (plc_n hgx c6 hmd hb7),z1,z2,zA,zA,zFs hmd hs3 hfit⟩,(by show x.At.length-(k+1)<x.At.length-k;omega),Weak.mk [true,true] ⟨R,R,R,R,R,R,T⟩ O⟩
     ·try simp only [sx] at c5
      have hend:=hp.trans (plc_end (by rw [List.length_map];omega))
      have hab:=plcA_bd (env:=env) (l:=x.At) hdm zA (by rw [hend])
      rw [hend] at hab
      have hal:a<t.Vals.length:=by have:=hab.2;omega
      refine qN<|G O<|A O<|zW O (yA O O O ⟨zA,zA⟩)<|zD O zFc<|zI zMf (J 0 O) O<|A O<|qC O zGi zA (getm (atT_some hab.1 hal))<|qQ O zAd<|zI U zZ O<|zW O (det_min O O O)<|zW O (zIt O O O)<|A O<|A O<|Y<|zH<|fin2 (rs_c O) (rs_c O) ?_
      subst ht
      rw [idx_0 c1 c2 c3 zA hend]
theorem zVb (mem:List Nmd) (hm:mem.length<=140737488355328) (hF:∀x,x∈mem->x.T.Dims.length<=17592186044416/\x.T.Vals.length<=140737488355328) (env:List Bd) (hel:env.length<=1000000) (her:∀x,x∈env->r64 x.Val) (t:Tn) (hdm:bR t.Dims=0) (l:List Ix) (hI:∀x,x∈l->IxB x) (hl:l.length<=17592186044416):
    Pur cfg 152 [gI mem,jV env,vTn t,vIxl l] (.tup [vI (gY mem env t l).1,vI (gY mem env t l).2]):=by
 refine zR Tryz.func152 O Tryz.ntmps152 Tryz.results152 O ?_
 intro z hz
 obtain ⟨q1,hpos,S,hS,S1,S2⟩:=zEw hdm
 refine G O<|zV O O (qJ O O) ?_
 rintro _ _ ⟨b1,rfl,rfl⟩
 refine A O<|A O<|Y<|zJ<|G O<|A O<|qB O v<|zD O zFd<|zI zBs (J 0 O) O<|qB O el38<|yK O<|Y<|zE O (fun c1=>?_) (fun c1=>?_)
 ·try simp only [sx] at c1
  refine G O<|A O<|A O<|Y<|zH<|fin2 (rs_c O) (rs_c O) ?_
  rw [plcV_11 c1]
 ·try simp only [sx] at c1
  have hpl:=plcV_is (mem:=mem) (env:=env) c1
  refine zK<|G O<|A O<|Y<|zJ<|G O<|A O<|Y<|zQ<|zY ⟨[(11,.c _),(10,.c _),(0,.c _),(1,.c _),(3,.c _),(6,.c _)],[_]⟩ (Weak.mk [true] ⟨R,R,R,R,R,R,T⟩ O)<|qK 2 0 O O (Nat×Int×Int) (fun ⟨k,a,s⟩=>[(11,vI k),(10,vI a)]) (fun ⟨k,a,s⟩=>[]) (fun ⟨k,a,s⟩=>k<=l.length/\(lC 0 (tY mem env l t.Dims) t.Dims=lC a ((tY mem env l t.Dims).drop k) (t.Dims.drop k))/\(0<=a)/\(a<s)/\(1<=s)/\(s<=4096)/\(bG 1 t.Dims=bG s (t.Dims.drop k))) (fun ⟨k,a,s⟩=>l.length-k) ⟨⟨0,0,1⟩,⟨zA,O,zA,zA,zA,zA,O⟩,Weak.mk [true] ⟨R,VLe.of_eq (O),R,R,R,R,T⟩ O⟩ ?_
  rintro ⟨k,a,s⟩ ⟨hk,hp,ha0,has,hs1,hs2,hs3⟩
  show AWP _ _ _ _ _ ⟨[(11,vI k),(10,vI a)]++_,[]++_⟩
  refine zJ<|G O<|A O<|A O<|qB O v<|yG O<|Y<|zE O (fun c2=>?_) (fun c2=>?_)
  ·try simp only [sx] at c2
   obtain ⟨x,hx⟩:=qY l k zA
   obtain ⟨m,hmd⟩:=qY t.Dims k zA
   have hgx:=ixv_at (mem:=mem) (env:=env) hx hmd
   refine zK<|zJ<|zQ<|zJ<|qU 17 mixed uC O O<|zN O O (zO O O)<|zN O O (zO O O)<|zN O O (zO O O)<|zN O O (zO O O)<|zN O O (qE O v O O zA (getm uB))<|zN O O (zU O zPo O zZ O)<|zN O O (zG O zFd O)<|zN O O (zF O zBs O (J 0 O) O)<|zN O O (zO O O)<|zN O O (qE O el38 O O zA (getm uB))<|zN O O (zF O one3 O zZ O)<|zN O O (qG O ok171 (ref19_index mem hm hF env hel her x (hI x (qA hx)) m (zBu hpos hmd) (by have h1:=zBv hs1 (zBu hpos hmd);have h2:=zNm hmd hs3 hS;omega)) ⟨R,O,R,O,R,O,R,O,T⟩)<|zN O O (kH O O)<|zN O O (wD O O O)<|zN O O (wD O O O)<|zN O O (qX O O)<|zN O O (qX O O)<|yP<|Y<|zJ<|G O<|A O<|yK O<|Y<|zE O (fun c3=>?_) (fun c3=>?_)
   ·try simp only [sx] at c3
    have hq:=hp.trans (plc_e hgx c3)
    refine G O<|A O<|A O<|A O<|Y<|zH<|fin2 (rs_c O) (rs_c O) ?_
    rw [hpl,hq]
   ·try simp only [sx] at c3
    refine zK<|zJ<|G O<|A O<|yG O<|A O<|rL0 O (fun g10_2=>zO O O) O<|rL0 O (fun g10_2=>zG O zFd O) O<|rL1 48 O (fun g10_2=>zF O zBs O (J 0 O) O) O<|rL0 O (fun g10_2=>zO O O) O<|rLz [(49,_),(50,_)] O B ⟨O,O,O,O,T⟩ (fun g10_2=>qE O el38 O O zA (getm uB)) O<|rL1 51 O (fun g10_2=>zF O one3 O zZ O) O<|rLz [(47,_),(52,_)] O B ⟨O,O,O,O,T⟩ (fun g10_2=>wF O O O) O<|r_or O (fun h=>(lzf h))<|Y<|zE O (fun c4=>?_) (fun c4=>?_)
    ·try simp only [sx] at c4
     have hb7:(mH mem env x m).1<0∨m<=(mH mem env x m).1:=by omega
     have hq:=hp.trans (plc_b hgx c3 hmd hb7)
     refine G O<|A O<|A O<|Y<|zH<|fin2 (rs_c O) (rs_c O) ?_
     rw [hpl,hq]
    ·try simp only [sx] at c4
     have hb7:¬((mH mem env x m).1<0∨m<=(mH mem env x m).1):=by omega
     obtain ⟨z1,z2,z3,z4⟩:=plc_mul ha0 has (show 0<=(mH mem env x m).1 by omega) (show (mH mem env x m).1<m by omega)
     have hm1:=zBv hs1 (zBu hpos hmd)
     have hfit:=zNm hmd hs3 hS
     refine zK<|zT O<|A O<|zD O zFd<|zI zBs (J 0 O) O<|A O<|qC O el38 zA (getm uB)<|zI one3 zZ O<|zW O (kB O O O ⟨zA,zA⟩)<|A O<|qI O ⟨zA,zA⟩<|A O<|Y<|zT O<|A O<|qI O ⟨zA,zA⟩<|A O<|Y ?_
     refine ⟨⟨k+1,a*m+(mH mem env x m).1,s*m⟩,⟨zA,hp.trans (plc_n hgx c3 hmd hb7),z1,z2,zA,zA,zFs hmd hs3 hfit⟩,(by show l.length-(k+1)<l.length-k;omega),Weak.mk [true] ⟨R,R,R,R,R,R,T⟩ O⟩
  ·try simp only [sx] at c2
   have hend:=hp.trans (plc_end (by rw [ixv_len];omega))
   refine qN<|G O<|A O<|A O<|A O<|Y<|zH<|fin2 (rs_c O) (rs_c O) ?_
   rw [hpl,hend]
theorem ref19_leaf (mem:List Nmd) (hm:mem.length<=140737488355328) (hF:∀x,x∈mem->x.T.Dims.length<=17592186044416/\x.T.Vals.length<=140737488355328) (env:List Bd) (hel:env.length<=1000000) (her:∀x,x∈env->r64 x.Val) (e:Ex) (hE:ExB e):
    Pur cfg 166 [gI mem,jV env,vE e] (vGt (lE mem env e)):=by
 refine zR Tryz.func166 O Tryz.ntmps166 Tryz.results166 O ?_
 intro z hz
 obtain ⟨t,ht⟩:∃t,t=(fK mem e.Name).1:=⟨_,rfl⟩
 obtain ⟨hEl,hEi,hEn⟩:=hE
 refine G O<|zV O O (qJ O O) ?_
 rintro _ _ ⟨b1,rfl,rfl⟩
 refine zV O O (qV O zFp) ?_
 rintro _ _ ⟨b2,rfl,rfl⟩
 refine Y<|zJ<|G O<|zD O kO<|zI one3 (J 1 O) O<|Y<|zQ<|G O<|yE O<|A O<|Y<|zE O (fun c1=>?_) (fun c1=>?_)
 ·try simp only [sx] at c1
  refine G O<|zD O zKq<|zM yO (J 1 O) O<|zD O zEu<|zM yD (J 1 O) O<|qT O zFp zLy<|rStR 0 zDt O<|Y<|zH<|fin1 (zP zBd O (J 0 O) O) ?_
  rw [leaf_1 c1];rfl
 ·try simp only [sx] at c1
  refine G O<|yE O<|A O<|Y<|zE O (fun c2=>?_) (fun c2=>?_)
  ·try simp only [sx] at c2
   refine G O<|zD O zDv<|zM kP (J 1 O) O<|A O<|qD O ok190 (zQd e.Lin env hel her hEl.1 hEl.2) ⟨R,O,R,O,T⟩<|qO O<|qR O<|qR O<|A O<|A O<|Y<|zJ<|G O<|A O<|yE O<|A O<|rL0 O (fun g6_2=>zO O O) O<|rL1 34 O (fun g6_2=>yC O O O) O<|rL1 35 O (fun g6_2=>zO O O) O<|rLz [] O gv2 T (fun g6_5=>zO O O) O<|rLz [(37,_)] O gv2 ⟨O,O,T⟩ (fun g6_5=>zAv O O O) O<|rL1 36 O (fun g6_2=>zAn O O O O (fun h=>kC uB (lzf h))) O<|yR O (fun h=>h)<|Y<|zE O (fun c3=>?_) (fun c3=>?_)
   ·have hr3:(dE e.Lin env).2=0/\(2147483647<(dE e.Lin env).1∨(dE e.Lin env).1< -2147483647):=by simpa [Lz,and_assoc] using c3
    have e0:=leaf_2r (mem:=mem) c2 hr3.1 hr3.2
    refine zT O<|A O<|Y<|zJ<|G O<|A O<|yK O<|Y<|zE O (fun c4=>?_) (fun c4=>?_)
    ·refine G O<|A O<|qT O zFp zLy<|rStR 0 zDt O<|Y<|zH<|fin1 (zP zBd O (J 0 O) O) ?_
     rw [e0];rfl
    ·try simp only [sx] at c4
     exact absurd c4 zB
   ·have hr3:(dE e.Lin env).2=0->¬(2147483647<(dE e.Lin env).1∨(dE e.Lin env).1< -2147483647):=fun q r=>by simp [Lz,q] at c3;omega
    refine zK<|zJ<|G O<|A O<|yK O<|Y<|zE O (fun c4=>?_) (fun c4=>?_)
    ·try simp only [sx] at c4
     have e0:=leaf_2e (mem:=mem) c2 c4
     refine G O<|A O<|qT O zFp zLy<|rStR 0 zDt O<|Y<|zH<|fin1 (zP zBd O (J 0 O) O) ?_
     rw [e0];rfl
    ·try simp only [sx] at c4
     have e0:=leaf_2 (mem:=mem) c2 c4 (hr3 c4)
     refine zK<|G O<|A O<|qT O W pl46<|qT O zr48 pl48<|qT O zFp zLy<|rStR 0 zDt O<|Y<|zH<|fin1 (zP zBd O (J 0 O) O) ?_
     rw [e0];rfl
  ·try simp only [sx] at c2
   refine zK<|G O<|A O<|zD O zGd<|zI one9 (J 1 O) O<|qD O ok191 (show Pur cfg 191 [gI mem,vS e.Name] (.tup [vTn t,vI (fK mem e.Name).2]) from ht ▸ zRf mem hm hF e.Name) ⟨R,O,R,O,T⟩<|qO O<|yH O<|qR O<|zV O O (qH [none,none,none,none,none,some 1,some 2] O zNc O) ?_
   rintro _ _ ⟨b3,rfl,rfl⟩
   refine rStR 0 zPv O<|A O<|Y<|zJ<|G O<|A O<|yK O<|Y<|zE O (fun c5=>?_) (fun c5=>?_)
   ·try simp only [sx] at c5
    refine G O<|A O<|qT O zFp zLy<|rStR 1 zDt O<|Y<|zH<|fin1 (zP zBd O (J 1 O) O) ?_
    rw [leaf_3t c1 c2 c5];rfl
   ·try simp only [sx] at c5
    obtain ⟨hte,y,hy,hyt⟩:=ten_ok c5
    rw [←ht] at hte hyt
    have hdm:=tn_dims hte
    have hvl:=tn_len hte
    refine zK<|G O<|A O<|A O<|zM zFj (J 0 O) O<|zD O wI<|zI wQ (J 2 O) O<|qD O ok152 (zVb mem hm hF env hel her t hdm e.Idx hEi hEn) ⟨R,O,R,O,R,O,R,O,T⟩<|qO O<|qR O<|qR O<|A O<|A O<|Y<|zJ<|G O<|A O<|yK O<|Y<|zE O (fun c6=>?_) (fun c6=>?_)
    ·try simp only [sx] at c6
     refine G O<|A O<|qT O zFp zLy<|rStR 1 zDt O<|Y<|zH<|fin1 (zP zBd O (J 1 O) O) ?_
     subst ht
     rw [leaf_3p c1 c2 c5 c6];rfl
    ·try simp only [sx] at c6
     have hab:=plcV_bd hdm c6
     refine zK<|zJ<|qU 8 mixed uC O O<|zN O O (zG O zFc O)<|zN O O (zF O zMf O (J 0 O) O)<|zN O O (zO O O)<|zN O O (qE O zGi O O zA (getm (atT_some hab.1 zA)))<|zN O O (zU O yO O zZ O)<|zN O O (zG O zKu O)<|zN O O (zU O yD O (J 0 O) O)<|zN O O (zCr O zFp zLy O)<|yP<|rStR 1 zDt O<|Y<|zH<|fin1 (zP zBd O (J 1 O) O) ?_
     subst ht
     rw [leaf_3 c1 c2 c5 c6];rfl
theorem zRx (mem:List Nmd) (hm:mem.length<=140737488355328) (hF:∀x,x∈mem->x.T.Dims.length<=17592186044416/\x.T.Vals.length<=140737488355328) (env:List Bd) (hel:env.length<=1000000) (her:∀x,x∈env->r64 x.Val) (e:Ex) (ih:∀a,a∈e.Args->(dJ a=0->bE a=false->ExA a->Pur cfg 150 [gI mem,jV env,vE a] (vGt (evE mem env a).v))/\(dJ a=0->bE a=true->ExA a->Pur cfg 128 [gI mem,jV env,vE a] (.tup [vB (evE mem env a).h.1,vI (evE mem env a).h.2]))) (hp:dJ e=0) (hc:bE e=false) (hx:ExA e):
    Pur cfg 150 [gI mem,jV env,vE e] (vGt (evE mem env e).v):=by
 refine zR Tryz.func150 O Tryz.ntmps150 Tryz.results150 O ?_
 intro z hz
 have ho:=op_rng hp
 have ho2:=cond_no hc hp
 refine G O<|zV O O (qJ O O) ?_
 rintro _ _ ⟨b1,rfl,rfl⟩
 refine zV O O (qV O zFp) ?_
 rintro _ _ ⟨b2,rfl,rfl⟩
 refine Y<|zJ<|G O<|zD O kO<|zI one3 (J 1 O) O<|zW O (wP O O O)<|Y<|zE O (fun c1=>?_) (fun c1=>?_)
 ·try simp only [sx] at c1
  refine G O<|A O<|A O<|zM yX (J 1 O) O<|qD O ok166 (ref19_leaf mem hm hF env hel her e hx.self) ⟨R,O,R,O,R,O,T⟩<|rStR 0 zDt O<|Y<|zH<|fin1 (zP zBd O (J 0 O) O) ?_
  rw [val_leaf c1];rfl
 ·try simp only [sx] at c1
  refine zK<|zJ<|G O<|zD O kO<|zI one3 (J 1 O) O<|yE O<|Y<|zE O (fun c2=>?_) (fun c2=>?_)
  ·try simp only [sx] at c2
   obtain ⟨a,ha1,ha2,ha3,ha4,ha5⟩:=arg_0 hp zA
   obtain ⟨b,hb1,hb2,hb3,hb4,hb5⟩:=arg_1 hp (by rw [c2];decide)
   obtain ⟨d,hd1,hd2,hd3,hd4,hd5⟩:=arg_2 hp c2
   refine G O<|A O<|A O<|zD O wA<|zI zAo (J 1 O) O<|qC O el52 zA (zCn ha1)<|zM yX zZ O<|qD O ok128 ((ih a ha3).2 ha4 (by rw [ha5];first|exact want_c zA zA|(rw [c2];rfl)) (hx.arg ha3)) ⟨R,O,R,O,R,O,T⟩<|qO O<|qR O<|qR O<|A O<|A O<|Y<|zJ<|zQ<|G O<|A O<|yK O<|A O<|Y<|zE O (fun c3=>?_) (fun c3=>?_)
   ·try simp only [sx] at c3
    refine G O<|A O<|qT O zFp zLy<|rStR 0 zDt O<|Y<|zH<|fin1 (zP zBd O (J 0 O) O) ?_
    rw [val_i c2 ha2 hb2 hd2,if_pos c3];rfl
   ·try simp only [sx] at c3
    refine G O<|A O<|A O<|Y<|zE O (fun c4=>?_) (fun c4=>?_)
    ·try simp only [sx] at c4
     refine G O<|A O<|A O<|zD O wA<|zI zAo (J 1 O) O<|qC O el52 zA (zCn hb1)<|zM yX zZ O<|qD O ok150 ((ih b hb3).1 hb4 (by rw [hb5];first|exact want_v zA zA|(rw [c2];rfl)) (hx.arg hb3)) ⟨R,O,R,O,R,O,T⟩<|rStR 0 zDt O<|Y<|zH<|fin1 (zP zBd O (J 0 O) O) ?_
     rw [val_i c2 ha2 hb2 hd2,if_neg (fun q=>q c3),if_pos c4];rfl
    ·try simp only [sx] at c4
     refine zK<|G O<|A O<|A O<|zD O wA<|zI zAo (J 1 O) O<|qC O el52 zA (zCn hd1)<|zM yX zZ O<|qD O ok150 ((ih d hd3).1 hd4 (by rw [hd5];first|exact want_v zA zA|(rw [c2];rfl)) (hx.arg hd3)) ⟨R,O,R,O,R,O,T⟩<|rStR 0 zDt O<|Y<|zH<|fin1 (zP zBd O (J 0 O) O) ?_
     rw [val_i c2 ha2 hb2 hd2,if_neg (fun q=>q c3),if_neg (by rw [c4];simp)];rfl
  ·try simp only [sx] at c2
   obtain ⟨a,ha1,ha2,ha3,ha4,ha5⟩:=arg_0 hp zA
   refine zK<|G O<|A O<|A O<|zD O wA<|zI zAo (J 1 O) O<|qC O el52 zA (zCn ha1)<|zM yX zZ O<|qD O ok150 ((ih a ha3).1 ha4 (by rw [ha5];first|exact want_v zA zA|(rw [c2];rfl)) (hx.arg ha3)) ⟨R,O,R,O,R,O,T⟩<|zV O O (qV O zFp) ?_
   rintro _ _ ⟨b3,rfl,rfl⟩
   refine rStR 0 zDt O<|Y<|zJ<|G O<|zD O zIo<|zI zCq (J 0 O) O<|yK O<|Y<|zE O (fun c5=>?_) (fun c5=>?_)
   ·try simp only [sx] at c5
    refine G O<|zM zBd (J 0 O) O<|rStR 1 zDt O<|Y<|zH<|fin1 (zP zBd O (J 1 O) O) ?_
    rw [val_a zA c2 ha2 c5];rfl
   ·try simp only [sx] at c5
    refine zK<|zJ<|G O<|zD O kO<|zI one3 (J 2 O) O<|yE O<|Y<|zE O (fun c6=>?_) (fun c6=>?_)
    ·try simp only [sx] at c6
     refine G O<|zD O zFb<|zM yD (J 0 O) O<|zD O zEu<|zM yD (J 2 O) O<|zD O zGe<|zM yO (J 0 O) O<|qD O ok167 (ref04_Cast (evE mem env a).v.T e.Ty (evE mem env a).v.V) ⟨R,O,R,O,R,O,T⟩<|qO O<|yH O<|qR O<|zV O O (qV O W) ?_
     rintro _ _ ⟨b4,rfl,rfl⟩
     refine rStR 0 L O<|A O<|Y<|zJ<|G O<|A O<|yK O<|Y<|zE O (fun c7=>?_) (fun c7=>?_)
     ·try simp only [sx] at c7
      refine G O<|A O<|qT O zFp zLy<|rStR 2 zDt O<|Y<|zH<|fin1 (zP zBd O (J 2 O) O) ?_
      rw [val_ce c6 ha2 c5 c7];rfl
     ·try simp only [sx] at c7
      refine zK<|G O<|zM yO (J 0 O) O<|zD O zEu<|zM yD (J 3 O) O<|qT O zFp zLy<|rStR 2 zDt O<|Y<|zH<|fin1 (zP zBd O (J 2 O) O) ?_
      rw [val_c c6 ha2 c5 c7];rfl
    ·try simp only [sx] at c6
     refine zK<|G O<|zM zBd (J 0 O) O<|zV O O (qV O zFp) ?_
     rintro _ _ ⟨b5,rfl,rfl⟩
     refine rStR 0 zDt O<|Y<|zJ<|G O<|zD O kO<|zI one3 (J 3 O) O<|yK O<|Y<|zE O (fun c8=>?_) (fun c8=>?_)
     ·try simp only [sx] at c8
      obtain ⟨b,hb1,hb2,hb3,hb4,hb5⟩:=arg_1 hp (nArgs_2 zA c8 c6 zA)
      refine zT O<|A O<|A O<|zD O wA<|zI zAo (J 3 O) O<|qC O el52 zA (zCn hb1)<|zM yX zZ O<|qD O ok150 ((ih b hb3).1 hb4 (by rw [hb5];first|exact want_v zA zA|(rw [c2];rfl)) (hx.arg hb3)) ⟨R,O,R,O,R,O,T⟩<|rStR 0 zDt O<|Y<|zJ<|G O<|zD O zIo<|zI zCq (J 0 O) O<|yK O<|Y<|zE O (fun c9=>?_) (fun c9=>?_)
      ·try simp only [sx] at c9
       refine G O<|zM zBd (J 0 O) O<|rStR 2 zDt O<|Y<|zH<|fin1 (zP zBd O (J 2 O) O) ?_
       rw [val_b zA c2 c6 ha2 c5 (by rw [if_neg c8];exact hb2) c9];rfl
      ·try simp only [sx] at c9
       refine zK<|zJ<|G O<|zD O zFb<|zM yD (J 1 O) O<|zD O zFb<|zM yD (J 0 O) O<|zW O (wY O fl48 O O O)<|Y<|zE O (fun c10=>?_) (fun c10=>?_)
       ·have c10:¬(evE mem env a).v.T=(evE mem env b).v.T:=tyv_f c10
        refine G O<|qT O zFp zLy<|rStR 2 zDt O<|Y<|zH<|fin1 (zP zBd O (J 2 O) O) ?_
        rw [val_t zA c2 c6 ha2 c5 (by rw [if_neg c8];exact hb2) c9 c10];rfl
       ·have c10:(evE mem env a).v.T=(evE mem env b).v.T:=tyv_t c10
        refine zK<|G O<|zD O kO<|zI one3 (J 3 O) O<|zD O zFb<|zM yD (J 1 O) O<|zD O zGe<|zM yO (J 1 O) O<|zD O zGe<|zM yO (J 0 O) O<|qD O ok168 (zMq e.Op (evE mem env a).v.T (evE mem env a).v.V (evE mem env b).v.V) ⟨R,O,R,O,R,O,R,O,T⟩<|qO O<|yH O<|qR O<|zV O O (qV O W) ?_
        rintro _ _ ⟨b6,rfl,rfl⟩
        refine rStR 0 L O<|A O<|Y<|zJ<|G O<|A O<|yK O<|Y<|zE O (fun c11=>?_) (fun c11=>?_)
        ·try simp only [sx] at c11
         refine G O<|A O<|qT O zFp zLy<|rStR 3 zDt O<|Y<|zH<|fin1 (zP zBd O (J 3 O) O) ?_
         rw [val_oe zA c2 c6 ha2 c5 (by rw [if_neg c8];exact hb2) c9 c10 c11];rfl
        ·try simp only [sx] at c11
         refine zK<|G O<|zM yO (J 0 O) O<|zD O zFb<|zM yD (J 2 O) O<|qT O zFp zLy<|rStR 3 zDt O<|Y<|zH<|fin1 (zP zBd O (J 3 O) O) ?_
         rw [val_o zA c2 c6 ha2 c5 (by rw [if_neg c8];exact hb2) c9 c10 c11];rfl
     ·try simp only [sx] at c8
      refine zK<|zJ<|G O<|zD O zIo<|zI zCq (J 0 O) O<|yK O<|Y<|zE O (fun c9=>?_) (fun c9=>?_)
      ·try simp only [sx] at c9
       refine G O<|zM zBd (J 0 O) O<|rStR 2 zDt O<|Y<|zH<|fin1 (zP zBd O (J 2 O) O) ?_
       rw [val_b zA c2 c6 ha2 c5 (by rw [if_pos c8];exact ha2) c9];rfl
      ·try simp only [sx] at c9
       refine zK<|zJ<|G O<|zD O zFb<|zM yD (J 1 O) O<|zD O zFb<|zM yD (J 0 O) O<|zW O (wY O fl48 O O O)<|Y<|zE O (fun c10=>?_) (fun c10=>?_)
       ·have c10:¬(evE mem env a).v.T=(evE mem env a).v.T:=tyv_f c10
        refine G O<|qT O zFp zLy<|rStR 2 zDt O<|Y<|zH<|fin1 (zP zBd O (J 2 O) O) ?_
        rw [val_t zA c2 c6 ha2 c5 (by rw [if_pos c8];exact ha2) c9 c10];rfl
       ·have c10:(evE mem env a).v.T=(evE mem env a).v.T:=tyv_t c10
        refine zK<|G O<|zD O kO<|zI one3 (J 3 O) O<|zD O zFb<|zM yD (J 1 O) O<|zD O zGe<|zM yO (J 1 O) O<|zD O zGe<|zM yO (J 0 O) O<|qD O ok168 (zMq e.Op (evE mem env a).v.T (evE mem env a).v.V (evE mem env a).v.V) ⟨R,O,R,O,R,O,R,O,T⟩<|qO O<|yH O<|qR O<|zV O O (qV O W) ?_
        rintro _ _ ⟨b7,rfl,rfl⟩
        refine rStR 0 L O<|A O<|Y<|zJ<|G O<|A O<|yK O<|Y<|zE O (fun c11=>?_) (fun c11=>?_)
        ·try simp only [sx] at c11
         refine G O<|A O<|qT O zFp zLy<|rStR 3 zDt O<|Y<|zH<|fin1 (zP zBd O (J 3 O) O) ?_
         rw [val_oe zA c2 c6 ha2 c5 (by rw [if_pos c8];exact ha2) c9 c10 c11];rfl
        ·try simp only [sx] at c11
         refine zK<|G O<|zM yO (J 0 O) O<|zD O zFb<|zM yD (J 2 O) O<|qT O zFp zLy<|rStR 3 zDt O<|Y<|zH<|fin1 (zP zBd O (J 3 O) O) ?_
         rw [val_o zA c2 c6 ha2 c5 (by rw [if_pos c8];exact ha2) c9 c10 c11];rfl
theorem zRy (mem:List Nmd) (hm:mem.length<=140737488355328) (hF:∀x,x∈mem->x.T.Dims.length<=17592186044416/\x.T.Vals.length<=140737488355328) (env:List Bd) (hel:env.length<=1000000) (her:∀x,x∈env->r64 x.Val) (e:Ex) (ih:∀a,a∈e.Args->(dJ a=0->bE a=false->ExA a->Pur cfg 150 [gI mem,jV env,vE a] (vGt (evE mem env a).v))/\(dJ a=0->bE a=true->ExA a->Pur cfg 128 [gI mem,jV env,vE a] (.tup [vB (evE mem env a).h.1,vI (evE mem env a).h.2]))) (hp:dJ e=0) (hc:bE e=true) (hx:ExA e):
    Pur cfg 128 [gI mem,jV env,vE e] (.tup [vB (evE mem env e).h.1,vI (evE mem env e).h.2]):=by
 refine zR Tryz.func128 O Tryz.ntmps128 Tryz.results128 O ?_
 intro z hz
 have ho:=cond_yes hc
 obtain ⟨a,ha1,ha2,ha3,ha4,ha5⟩:=arg_0 hp zA
 refine G O<|zV O O (qJ O O) ?_
 rintro _ _ ⟨b1,rfl,rfl⟩
 refine A O<|A O<|Y<|zJ<|G O<|zD O kO<|zI one3 (J 0 O) O<|zW O (wF O O O)<|Y<|zE O (fun c1=>?_) (fun c1=>?_)
 ·try simp only [sx] at c1
  refine G O<|A O<|A O<|zD O wA<|zI zAo (J 0 O) O<|qC O el52 zA (zCn ha1)<|zM yX zZ O<|qD O ok128 ((ih a ha3).2 ha4 (by rw [ha5];first|exact want_c zA zA|(rw [c2];rfl)) (hx.arg ha3)) ⟨R,O,R,O,R,O,T⟩<|qO O<|qR O<|qR O<|A O<|A O<|Y<|zJ<|G O<|A O<|yK O<|A O<|rL0 O (fun g3_2=>zG O kO O) O<|rL1 31 O (fun g3_2=>zF O one3 O (J 0 O) O) O<|rL1 32 O (fun g3_2=>yM O O O) O<|r_or O (fun h=>(lzf h))<|Y<|zE O (fun c2=>?_) (fun c2=>?_)
  ·have hn2:¬(evE mem env a).h.2=0∨e.Op=18:=by simpa [Lz] using c2
   refine G O<|A O<|yE O<|A O<|rL0 O (fun g4_2=>zO O O) O<|rL1 38 O (fun g4_2=>kJ O O) O<|yR O (fun h=>h)<|A O<|A O<|A O<|Y<|zH<|fin2 (rs_c O) (rs_c O) ?_
   rw [hld_n c1 ha2 hn2]
  ·have hn2:¬(¬(evE mem env a).h.2=0∨e.Op=18):=by simpa [Lz] using c2
   obtain ⟨b,hb1,hb2,hb3,hb4,hb5⟩:=arg_1 hp (nArgs_2 zA zA zA (fun q=>hn2 (.inr q)))
   refine zK<|G O<|A O<|A O<|zD O wA<|zI zAo (J 0 O) O<|qC O el52 zA (zCn hb1)<|zM yX zZ O<|qD O ok128 ((ih b hb3).2 hb4 (by rw [hb5];first|exact want_c zA zA|(rw [c2];rfl)) (hx.arg hb3)) ⟨R,O,R,O,R,O,T⟩<|qO O<|qR O<|qR O<|A O<|A O<|Y<|zJ<|G O<|A O<|yK O<|Y<|zE O (fun c3=>?_) (fun c3=>?_)
   ·try simp only [sx] at c3
    refine G O<|A O<|A O<|A O<|Y<|zH<|fin2 (rs_c O) (rs_c O) ?_
    rw [hld_b c1 ha2 hn2 hb2 c3]
   ·try simp only [sx] at c3
    refine zK<|G O<|zD O kO<|zI one3 (J 0 O) O<|yE O<|A O<|rL0 O (fun g8_3=>zO O O) O<|yR O (fun h=>h)<|A O<|rL0 O (fun g8_6=>zO O O) O<|yR O (fun h=>h)<|A O<|rL0 O (fun g8_9=>zG O kO O) O<|rL1 65 O (fun g8_9=>zF O one3 O (J 0 O) O) O<|rL1 66 O (fun g8_9=>yM O O O) O<|rL1 67 O (fun g8_9=>zO O O) O<|rLz [] O gv2 T (fun g8_13=>zO O O) O<|rLz [(69,_)] O gv2 ⟨O,O,T⟩ (fun g8_13=>zO O O) O<|rLz [] O gv2 T (fun g8_15=>zO O O) O<|rLz [(70,_)] O gv2 ⟨O,O,T⟩ (fun g8_13=>zAn O O O O (fun h=>kC uB (lzf h))) O<|rL1 68 O (fun g8_9=>kZ O O O (fun h=>kC uB h) O) O<|r_or O (fun h=>(lzf h))<|A O<|A O<|Y<|zH<|fin2 (rs_c O) (rs_c O) ?_
    rw [hld_o c1 ha2 hn2 hb2 c3]
 ·try simp only [sx] at c1
  refine zK<|G O<|A O<|A O<|zD O wA<|zI zAo (J 0 O) O<|qC O el52 zA (zCn ha1)<|zM yX zZ O<|qD O ok150 ((ih a ha3).1 ha4 (by rw [ha5];first|exact want_v zA zA|(rw [c2];rfl)) (hx.arg ha3)) ⟨R,O,R,O,R,O,T⟩<|zV O O (qV O zFp) ?_
  rintro _ _ ⟨b2,rfl,rfl⟩
  refine rStR 0 zDt O<|Y<|zJ<|G O<|zD O zIo<|zI zCq (J 0 O) O<|yK O<|Y<|zE O (fun c4=>?_) (fun c4=>?_)
  ·try simp only [sx] at c4
   refine zJ<|qU 4 mixed uC O O<|zN O O (zG O zIo O)<|zN O O (zF O zCq O (J 0 O) O)<|zN O O (qX O O)<|zN O O (qX O O)<|yP<|Y<|zH<|fin2 (rs_c O) (rs_c O) ?_
   rw [hld_c zA ha2 c4]
  ·try simp only [sx] at c4
   obtain ⟨b,hb1,hb2,hb3,hb4,hb5⟩:=arg_1 hp (nArgs_2 zA zA zA zA)
   refine zK<|G O<|A O<|A O<|zD O wA<|zI zAo (J 1 O) O<|qC O el52 zA (zCn hb1)<|zM yX zZ O<|qD O ok150 ((ih b hb3).1 hb4 (by rw [hb5];first|exact want_v zA zA|(rw [c2];rfl)) (hx.arg hb3)) ⟨R,O,R,O,R,O,T⟩<|zV O O (qV O zFp) ?_
   rintro _ _ ⟨b3,rfl,rfl⟩
   refine rStR 0 zDt O<|Y<|zJ<|G O<|zD O zIo<|zI zCq (J 0 O) O<|yK O<|Y<|zE O (fun c5=>?_) (fun c5=>?_)
   ·try simp only [sx] at c5
    refine zJ<|qU 4 mixed uC O O<|zN O O (zG O zIo O)<|zN O O (zF O zCq O (J 0 O) O)<|zN O O (qX O O)<|zN O O (qX O O)<|yP<|Y<|zH<|fin2 (rs_c O) (rs_c O) ?_
    rw [hld_d zA ha2 c4 hb2 c5]
   ·try simp only [sx] at c5
    refine zK<|zJ<|G O<|zD O zFb<|zM yD (J 1 O) O<|zD O zFb<|zM yD (J 0 O) O<|zW O (wY O fl48 O O O)<|Y<|zE O (fun c6=>?_) (fun c6=>?_)
    ·have c6:¬(evE mem env a).v.T=(evE mem env b).v.T:=tyv_f c6
     refine G O<|A O<|A O<|Y<|zH<|fin2 (rs_c O) (rs_c O) ?_
     rw [hld_t zA ha2 c4 hb2 c5 c6]
    ·have c6:(evE mem env a).v.T=(evE mem env b).v.T:=tyv_t c6
     refine zK<|G O<|zD O zFb<|zM yD (J 1 O) O<|zD O zGe<|zM yO (J 1 O) O<|zD O zGe<|zM yO (J 0 O) O<|qD O ok151 (zNx (evE mem env a).v.T (evE mem env a).v.V (evE mem env b).v.V) ⟨R,O,R,O,R,O,T⟩<|A O<|Y<|G O<|A O<|yG O<|A O<|rL0 O (fun g18_2=>zG O kO O) O<|rL1 114 O (fun g18_2=>zF O one3 O (J 2 O) O) O<|rL1 115 O (fun g18_2=>kA O O O) O<|yR O (fun h=>h)<|A O<|rL0 O (fun g18_7=>zO O O) O<|rL1 119 O (fun g18_7=>yM O O O) O<|rL1 120 O (fun g18_7=>zO O O) O<|rLz [] O gv2 T (fun g18_10=>zG O kO O) O<|rLz [(122,_)] O gv2 ⟨O,O,T⟩ (fun g18_10=>zF O one3 O (J 2 O) O) O<|rLz [(123,_)] O gv2 ⟨O,O,T⟩ (fun g18_10=>kA O O O) O<|rL1 121 O (fun g18_7=>kZ O O O (fun h=>kC uB h) O) O<|r_or O (fun h=>(lzf h))<|A O<|A O<|Y<|zH<|fin2 (rs_c O) (rs_c O) ?_
     rw [hld_v zA ha2 c4 hb2 c5 c6]
theorem ref19_both (mem:List Nmd) (hm:mem.length<=140737488355328) (hF:∀x,x∈mem->x.T.Dims.length<=17592186044416/\x.T.Vals.length<=140737488355328) (env:List Bd) (hel:env.length<=1000000) (her:∀x,x∈env->r64 x.Val) (e:Ex):(dJ e=0->bE e=false->ExA e->Pur cfg 150 [gI mem,jV env,vE e] (vGt (evE mem env e).v))/\(dJ e=0->bE e=true->ExA e->Pur cfg 128 [gI mem,jV env,vE e] (.tup [vB (evE mem env e).h.1,vI (evE mem env e).h.2])):=by
  induction e using Ex.ind with
  |_ e ih=>exact ⟨zRx mem hm hF env hel her e ih,zRy mem hm hF env hel her e ih⟩
theorem ref19_Value (mem:List Nmd) (hm:mem.length<=140737488355328) (hF:∀x,x∈mem->x.T.Dims.length<=17592186044416/\x.T.Vals.length<=140737488355328) (env:List Bd) (hel:env.length<=1000000) (her:∀x,x∈env->r64 x.Val) (e:Ex) (hp:dJ e=0) (hc:bE e=false) (hx:ExA e):Pur cfg 150 [gI mem,jV env,vE e] (vGt (evE mem env e).v):=(ref19_both mem hm hF env hel her e).1 hp hc hx
theorem ref19_Holds (mem:List Nmd) (hm:mem.length<=140737488355328) (hF:∀x,x∈mem->x.T.Dims.length<=17592186044416/\x.T.Vals.length<=140737488355328) (env:List Bd) (hel:env.length<=1000000) (her:∀x,x∈env->r64 x.Val) (e:Ex) (hp:dJ e=0) (hc:bE e=true) (hx:ExA e):Pur cfg 128 [gI mem,jV env,vE e] (.tup [vB (evE mem env e).h.1,vI (evE mem env e).h.2]):=(ref19_both mem hm hF env hel her e).2 hp hc hx
end Go.W
end
section
set_option maxRecDepth 10000
namespace Go.W
open Go Go.Eng Go.Proofs Go.L41 Go.Br
attribute [local irreducible] AWP RWP TD fH
abbrev vRsN (M:List Nmd) (N f:Int):V:=.agg [.sl 8 (M.map Nmd.cells),cI N,cI f,cI 0]
def smS (n:Ns) (m:Nat):Bool:=decide (n.Bufs.length<=60)&&decide (jU n.Body m<=m)
theorem smS_yes {n:Ns} {m:Nat} (h:smS n m=true):n.Bufs.length<=60/\jU n.Body m<=m:=by
  unfold smS at h
  simpa using h
theorem two_at {a b x:Vl} {k:Nat} (h:[a,b][k]? =some x):(k=0/\x=a)∨(k=1/\x=b):=by
  match k,h with
  |0,h=>injection h with h;exact .inl ⟨rfl,h.symm⟩
  |1,h=>injection h with h;exact .inr ⟨rfl,h.symm⟩
theorem set_rowT {l:List Vl} {i:Nat} {x v:Vl}:(l.map Vl.cells).set i (spl x.cells 0 [cI v.N,cI v.D])=(l.set i v).map Vl.cells:=by
  rw [List.map_set];rfl
theorem wr_row {mem:List Nmd} {n:ByteArray} {a k:Nat} {v:Vl} {x:Nmd} (h:mem[k]? =some x):(fV (mem.take (k+1)) n a v).map Nmd.cells=(fV (mem.take k) n a v).map Nmd.cells++[(if x.Name=n then (⟨x.Name,⟨x.T.T,x.T.Dims,x.T.Vals.set a v⟩⟩:Nmd) else x).cells]:=write_next h
theorem agg125:mO Tryz.prog 125=some 8:=by kernel_rfl
theorem zCc:mO Tryz.prog 165=some 4:=by kernel_rfl
theorem zIp:bH Tryz.prog 165 0=some (0,26):=by kernel_rfl
theorem fd165_1:bH Tryz.prog 165 1=some (1,3):=by kernel_rfl
theorem fd165_2:bH Tryz.prog 165 2=some (2,3):=by kernel_rfl
theorem zGf:bH Tryz.prog 165 3=some (3,29):=by kernel_rfl
theorem ok96:bA Tryz.prog 96=true:=by kernel_rfl
theorem ok127:bA Tryz.prog 127=true:=by kernel_rfl
theorem ok129:bA Tryz.prog 129=true:=by kernel_rfl
theorem ok153:bA Tryz.prog 153=true:=by kernel_rfl
theorem ok154:bA Tryz.prog 154=true:=by kernel_rfl
theorem ok173:bA Tryz.prog 173=true:=by kernel_rfl
theorem one26:lX Tryz.prog 26=true:=by kernel_rfl
theorem sz26:(Tryz.prog.info? 26).map (·.size)=some 1:=by kernel_rfl
theorem sz125:(Tryz.prog.info? 125).map (·.size)=some 8:=by kernel_rfl
theorem zMm:(Tryz.prog.info? 165).map (·.size)=some 4:=by kernel_rfl
theorem zr165:fF Tryz.prog 165=some [(Value.slice none 0 0),(Value.int IntKind.i64 0),(Value.int IntKind.i64 0),(Value.int IntKind.i64 0)]:=by kernel_rfl
theorem ref04_Operator (f:Int) (h:¬(f<1∨5<f)):
    Pur cfg 173 [vI f] (vI (sC f)):=by
 refine zR Tryz.func173 O Tryz.ntmps173 Tryz.results173 O ?_
 intro z hz
 refine G O<|A O<|Y<|zJ<|G O<|A O<|Y<|zQ<|G O<|yE O<|A O<|Y<|zE O (fun c1=>?_) (fun c1=>?_)
 ·try simp only [sx] at c1
  refine G O<|A O<|Y<|zH<|zS O ?_
  exact j0
 ·try simp only [sx] at c1
  refine G O<|yE O<|A O<|Y<|zE O (fun c2=>?_) (fun c2=>?_)
  ·try simp only [sx] at c2
   refine G O<|A O<|Y<|zH<|zS O ?_
   exact j0
  ·try simp only [sx] at c2
   refine G O<|yE O<|A O<|Y<|zE O (fun c3=>?_) (fun c3=>?_)
   ·try simp only [sx] at c3
    refine G O<|A O<|Y<|zH<|zS O ?_
    exact j0
   ·try simp only [sx] at c3
    refine zK<|G O<|A O<|Y<|zH<|zS O ?_
    exact j0
theorem ref04_Reduce (f:Int) (t:Ty) (a b:Vl):
    Pur cfg 153 [vI f,vTy t,eO [a,b]] (.tup [gL (rQ f t a b).1,vI (rQ f t a b).2]):=by
 refine zR Tryz.func153 O Tryz.ntmps153 Tryz.results153 O ?_
 intro z hz
 have hl2:[a,b].length=2:=rfl
 refine G O<|zV O O (qJ O O) ?_
 rintro _ _ ⟨b1,rfl,rfl⟩
 refine zV O O (qV O W) ?_
 rintro _ _ ⟨b2,rfl,rfl⟩
 refine A O<|Y<|zJ<|G O<|A O<|yG O<|A O<|rL0 O (fun g1_2=>zO O O) O<|rL1 17 O (fun g1_2=>yC O O O) O<|r_or O (fun h=>(lzf h))<|Y<|zE O (fun c1=>?_) (fun c1=>?_)
 ·have hf:f<1∨5<f:=by simpa [Lz] using c1
  refine G O<|qT O W pl46<|rStR 0 L O<|A O<|Y<|zH<|fin2 (zP yO O (J 0 O) O) (rs_c O) ?_
  unfold rQ;rw [if_pos hf];rfl
 ·have hf:¬(f<1∨5<f):=by simpa [Lz] using c1
  refine zK<|zJ<|G O<|zM yD (J 1 O) O<|qD O ok77 (zDr t) ⟨R,O,T⟩<|kN O<|Y<|zE O (fun c2=>?_) (fun c2=>?_)
  ·try simp only [sx] at c2
   have hty:bV t=false:=by simpa using c2
   refine G O<|qT O W pl46<|rStR 0 L O<|A O<|Y<|zH<|fin2 (zP yO O (J 0 O) O) (rs_c O) ?_
   unfold rQ;rw [if_neg hf,if_pos hty];rfl
  ·try simp only [sx] at c2
   have hty:bV t=true:=by simpa using c2
   refine zK<|zJ<|G O<|A O<|Y<|zQ<|zY ⟨[(8,.c _),(0,.c _),(2,.c _),(4,.c _),(6,.c _)],[_,_]⟩ (Weak.mk [true,true] ⟨R,R,R,R,R,T⟩ O)<|qK 1 0 O O (Nat) (fun k=>[(8,vI k)]) (fun k=>[]) (fun k=>k<=[a,b].length/\(([a,b].take k).all (bI t)=true)) (fun k=>[a,b].length-k) ⟨0,⟨zA,O⟩,Weak.mk [true,true] ⟨R,R,R,R,R,T⟩ O⟩ ?_
   rintro k ⟨hk,hp⟩
   refine zJ<|G O<|A O<|A O<|qB O zGi<|yG O<|Y<|zE O (fun c3=>?_) (fun c3=>?_)
   ·try simp only [sx] at c3
    obtain ⟨x,hx⟩:=qY [a,b] k zA
    refine zK<|zJ<|zQ<|zJ<|qU 7 mixed uC O O<|zN O O (zU O yD O (J 1 O) O)<|zN O O (zO O O)<|zN O O (zO O O)<|zN O O (qE O zGi O O zA (getm uB))<|zN O O (zU O yO O zZ O)<|zN O O (qG O ok126 (zGr t x hty) ⟨R,O,R,O,T⟩)<|zN O O (kJ O O)<|yP<|Y<|zE O (fun c4=>?_) (fun c4=>?_)
    ·try simp only [sx] at c4
     have hb4:bI t x=false:=by simpa using c4
     refine G O<|qT O W pl46<|rStR 0 L O<|A O<|Y<|zH<|fin2 (zP yO O (J 0 O) O) (rs_c O) ?_
     rcases two_at hx with ⟨_,rfl⟩|⟨_,rfl⟩<;>(unfold rQ;rw [if_neg hf,if_neg (by rw [hty];simp),if_pos (by rw [hb4];simp)];rfl)
    ·try simp only [sx] at c4
     have hb4:bI t x=true:=by simpa using c4
     refine zK<|zT O<|A O<|qI O ⟨zA,zA⟩<|A O<|Y ?_
     refine ⟨k+1,⟨zA,zEz hx hp hb4⟩,zA,Weak.mk [true,true] ⟨R,R,R,R,R,T⟩ O⟩
   ·try simp only [sx] at c3
    rw [yV (l:=[a,b]) (k:=k) zA] at hp
    have hva:bI t a=true:=List.all_eq_true.1 hp a uD
    have hvb:bI t b=true:=List.all_eq_true.1 hp b uD
    refine qN<|zJ<|G O<|A O<|qB O zGi<|yE O<|Y<|zE O (fun c5=>?_) (fun c5=>?_)
    ·try simp only [sx] at c5
     exact absurd c5 uD
    ·try simp only [sx] at c5
     refine zK<|G O<|A O<|qC O zGi uD (getm (x:=a) O)<|zM yO zZ O<|zV O O (qV O W) ?_
     rintro _ _ ⟨b3,rfl,rfl⟩
     refine rStR 0 L O<|A O<|Y<|zJ<|G O<|A O<|Y<|zQ<|zY ⟨[(13,.c _),(12,.c _),(0,.c _),(2,.c _),(4,.c _),(6,.c _),(11,.c _)],[_,_,_]⟩ (Weak.mk [true,true,true] ⟨R,R,R,R,R,R,R,T⟩ O)<|qK 2 1 O O (Nat×Vl×Int) (fun ⟨i,v,q⟩=>[(13,vI i),(12,vI q)]) (fun ⟨i,v,q⟩=>[E.row b3 46 [cI v.N,cI v.D]]) (fun ⟨i,v,q⟩=>((i=1/\v=a/\q=0)∨(i=2/\(v,q)=mA (sC f) t a b))) (fun ⟨i,v,q⟩=>2-i) ⟨⟨1,a,0⟩,(.inl ⟨O,O,O⟩),Weak.mk [true,true,true] ⟨R,R,R,R,R,R,R,T⟩ O⟩ ?_
     rintro ⟨i,v,q⟩ hJ
     refine zJ<|G O<|A O<|A O<|qB O zGi<|yG O<|A O<|rL0 O (fun g17_4=>zO O O) O<|rL1 60 O (fun g17_4=>yM O O O) O<|yR O (fun h=>h)<|Y<|zE O (fun c7=>?_) (fun c7=>?_)
     ·try simp only [sx] at c7
      have hi1:i=1:=by rcases hJ with hJ|hJ<;>simp at c7<;>omega
      obtain ⟨_,e7,e8⟩:i=1/\v=a/\q=0:=by rcases hJ with hJ|hJ;exact hJ;omega
      refine zK<|zJ<|zQ<|kI 13 0 [⟨0,.q []⟩,⟨1,.q []⟩,⟨2,.q [2]⟩,⟨3,.q [0]⟩,⟨4,.q []⟩,⟨5,.q []⟩,⟨6,.q []⟩,⟨7,.q []⟩,⟨8,.q []⟩,⟨9,.q []⟩,⟨10,.q []⟩,⟨11,.q []⟩,⟨12,.e 0 []⟩] mixed uC uC O O O<|zX O<|zX O<|zX O<|zX O<|zX O<|zX O<|zX O<|zX O<|zX O<|zX O<|zX O<|zX O<|zX O<|zBb<|qF O zB O O (zO O O)<|qF O zB O O (qG O ok173 (ref04_Operator f hf) ⟨R,O,T⟩)<|qF O zB O O (zU O yD O (J 0 O) O)<|qF O zB O O (zU O yO O (J 0 O) O)<|qF O zB O O (zO O O)<|qF O zB O O (zO O O)<|qF O zB O O (qE O zGi O O zA (getm (x:=b) (by rw [hi1];rfl)))<|qF O zB O O (zU O yO O zZ O)<|qF O zB O O (qG O ok168 (zMq (sC f) t v b) ⟨R,O,R,O,R,O,R,O,T⟩)<|qF O zB O O (kH O O)<|qF O zB O O (wE O O O)<|qF O zB O O (wD O O O)<|zFr O O zB O O (yL O L O O O (zFf 0 O O)) ?_
      rintro _ _ ⟨rfl,rfl⟩
      refine ⟨_,O,?_⟩
      refine zAx O<|A O<|Y<|zT O<|A O<|qI O ⟨zA,zA⟩<|A O<|Y ?_
      refine ⟨⟨i+1,(mA (sC f) t v b).1,(mA (sC f) t v b).2⟩,(.inr ⟨zA,by rw [e7]⟩),(by show 2-(i+1)<2-i;omega),Weak.mk [true,true,true] ⟨R,R,R,R,R,R,R,T⟩ O⟩
     ·try simp only [sx] at c7
      have hi2:(v,q)=mA (sC f) t a b:=by rcases hJ with hJ|hJ;exact absurd c7 (by rw [hJ.1,hJ.2.2];simp);exact hJ.2
      refine qN<|G O<|zM yO (J 0 O) O<|A O<|rStR 1 L O<|A O<|Y<|zH<|fin2 (zP yO O (J 1 O) O) (rs_c O) ?_
      rw [reduce_is hf hty hva hvb,←hi2];rfl
theorem ref31_step (s:Rs) (f:Int) (h0:0<=s.N) (h1:s.N<=f) (hf:f<=1048576):
    Pur cfg 127 [vRs s f] (vRs (dU f s) f):=by
 refine zR Tryz.func127 O Tryz.ntmps127 Tryz.results127 O ?_
 intro z hz
 refine G O<|zV O O (qJ O O) ?_
 rintro _ _ ⟨b1,rfl,rfl⟩
 refine zV O O (qH [some 8,none,none,none] O zr165 O) ?_
 rintro _ _ ⟨b2,rfl,rfl⟩
 refine Y<|zJ<|G O<|zD O fd165_1<|zI one3 (J 1 O) O<|zD O fd165_2<|zI one3 (J 1 O) O<|zW O (wF O O O)<|Y<|zE O (fun c1=>?_) (fun c1=>?_)
 ·try simp only [sx] at c1
  refine G O<|zD O zGf<|rStR 1 sz29 O<|Y<|G O<|zM zCc (J 1 O) O<|rStR 0 zMm O<|Y<|zH<|fin1 (zP zCc O (J 0 O) O) ?_
  unfold dU;rw [if_pos zA];rfl
 ·try simp only [sx] at c1
  refine zK<|G O<|zD O fd165_1<|zI one3 (J 1 O) O<|qI O ⟨zA,zA⟩<|zD O fd165_1<|rStR 1 sz3 O<|Y<|G O<|zM zCc (J 1 O) O<|rStR 0 zMm O<|Y<|zH<|fin1 (zP zCc O (J 0 O) O) ?_
  unfold dU;rw [if_neg zA];rfl
theorem zUv (mem:List Nmd) (n:ByteArray) (k0:Int) (v:Vl) (hm:mem.length<=4294967296) (h0:0<=k0) (hk:∀x,x∈mem->x.Name=n->k0<x.T.Vals.length/\x.T.Vals.length<=1048576):
    Pur cfg 154 [gI mem,vS n,vI k0,gL v] (gI (fV mem n k0.toNat v)):=by
 refine zR Tryz.func154 O Tryz.ntmps154 Tryz.results154 O ?_
 intro z hz
 refine G O<|zV O O (qJ O O) ?_
 rintro _ _ ⟨b1,rfl,rfl⟩
 refine A O<|Y<|G O<|A O<|yS _ (wC 125 8)<|Y<|zJ<|G O<|A O<|Y<|zQ<|zY ⟨[(10,.c _),(9,.c _),(0,.c _),(1,.c _),(2,.c _),(7,.c _)],[_,_]⟩ (Weak.mk [true,true] ⟨R,R,R,R,R,R,T⟩ O)<|qK 2 1 O O (Nat×Value) (fun ⟨k,sw⟩=>[(10,vI k),(9,.c (.lit sw))]) (fun ⟨k,sw⟩=>[E.vec sw 125 8 ((fV (mem.take k) n k0.toNat v).map Nmd.cells)]) (fun ⟨k,sw⟩=>k<=mem.length) (fun ⟨k,sw⟩=>mem.length-k) ⟨⟨0,(.slice none 0 0)⟩,zA,Weak.mk [true,true] ⟨R,R,R,R,R,R,T⟩ O⟩ ?_
 rintro ⟨k,sw⟩ hk9
 show AWP _ _ _ _ _ ⟨[(10,vI k),(9,.c (.lit sw))]++_,[E.vec sw 125 8 ((fV (mem.take k) n k0.toNat v).map Nmd.cells)]++_⟩
 refine zJ<|G O<|A O<|A O<|qB O el26<|yG O<|Y<|zE O (fun c1=>?_) (fun c1=>?_)
 ·try simp only [sx] at c1
  obtain ⟨x,hx⟩:=qY mem k zA
  refine zK<|zJ<|zQ<|G O<|A O<|A O<|qC O el26 zA (getm uB)<|zM agg125 zZ O<|zV O O (qH [none,none,none,none,none,none,some 1,some 2] O zr125 O) ?_
  rintro _ _ ⟨b3,rfl,rfl⟩
  refine rStR 0 sz125 O<|Y<|zJ<|G O<|zD O fd125_0<|zI one9 (J 0 O) O<|A O<|wL O<|Y<|zE O (fun c2=>?_) (fun c2=>?_)
  ·try simp only [sx] at c2
   obtain ⟨hk1,hk2⟩:=hk x (qA hx) c2
   have hrow:(if x.Name=n then (⟨x.Name,⟨x.T.T,x.T.Dims,x.T.Vals.set k0.toNat v⟩⟩:Nmd) else x)=(⟨x.Name,⟨x.T.T,x.T.Dims,x.T.Vals.set k0.toNat v⟩⟩:Nmd):=if_pos c2
   refine G O<|A O<|yS _ (wC 46 2)<|Y<|G O<|A O<|zD O zWl<|zD O zFc<|zI zMf (J 1 O) O<|zV O O (yN 0 O zGi O O O (by simp only [List.length_nil,List.length_map,Nat.zero_add];omega) (by simp only [List.length_nil,List.length_map,Nat.zero_add];omega)) ?_
   rintro _ _ ⟨sv5,rfl,rfl⟩
   refine A O<|Y<|G O<|A O<|A O<|zM yO (J 3 O) O<|zW O (qS 0 O zGi O O O zA (by simp only [List.nil_append,List.length_map];omega))<|kQ O O (yL O L O O O (st_vecE 0 O (atV_row h0 hk1) O set_rowT))<|yS _ (yT 0 O (regs':=[(12,_),(31,_),(32,_)]) (μ':=[_,_,_]) ⟨FLe.sl,FLe.sl,FLe.sl,T⟩ ⟨EFle.refl _,EFle.refl _,EFle.refl _,T⟩)<|Y<|zT O<|A O<|zD O zWl<|zD O zFc<|rStR 0 sz119 O<|Y<|zT O<|A O<|zM agg125 (J 0 O) O<|zW O (qZ O el26 zr125 O O O O)<|zV O O (yN 1 O el26 O O O uI uI) ?_
   rintro _ _ ⟨sv6,rfl,rfl⟩
   refine A O<|Y<|zT O<|A O<|qI O ⟨zA,zA⟩<|A O<|Y ?_
   refine ⟨⟨k+1,sv6⟩,zA,(by show mem.length-(k+1)<mem.length-k;omega),Weak.mk [false,true,true] ⟨R,R,R,R,R,R,T⟩ (by exact zFz (by rw [wr_row hx,hrow];first|rfl|(simp only [List.nil_append,List.map_set];rfl)))⟩
  ·try simp only [sx] at c2
   have hrow:(if x.Name=n then (⟨x.Name,⟨x.T.T,x.T.Dims,x.T.Vals.set k0.toNat v⟩⟩:Nmd) else x)=x:=if_neg c2
   refine zK<|zT O<|A O<|zM agg125 (J 0 O) O<|zW O (qZ O el26 zr125 O O O O)<|zV O O (yN 1 O el26 O O O uI uI) ?_
   rintro _ _ ⟨sv7,rfl,rfl⟩
   refine A O<|Y<|zT O<|A O<|qI O ⟨zA,zA⟩<|A O<|Y ?_
   refine ⟨⟨k+1,sv7⟩,zA,(by show mem.length-(k+1)<mem.length-k;omega),Weak.mk [false,true,true] ⟨R,R,R,R,R,R,T⟩ (by exact zFz (by rw [wr_row hx,hrow];first|rfl|(simp only [List.nil_append,List.map_set];rfl)))⟩
 ·try simp only [sx] at c1
  rw [yV (l:=mem) (k:=k) zA]
  refine qN<|zJ<|zY _ (yT 0 O (regs':=[(9,_)]) (μ':=[_]) ⟨FLe.sl,T⟩ ⟨EFle.refl _,T⟩)<|zT O<|A O<|A O<|Y<|zH<|zS O ?_
  rfl
theorem ref31_store (B:List Bf) (M:List Nmd) (N f:Int) (hM:MmOk B M) (env:List Bd) (hel:env.length<=1000000) (her:∀x,x∈env->r64 x.Val) (x:St) (hS:StC B x) (h1:¬x.Op=1) (h4:¬x.Op=4):
    Pur cfg 129 [vRsN M N f,jV env,vSt x] (vRs (gD ⟨M,N,0⟩ env x) f):=by
 refine zR Tryz.func129 O Tryz.ntmps129 Tryz.results129 O ?_
 intro z hz
 have hm:M.length<=140737488355328:=by have:=hM.len;omega
 have hF:∀y,y∈M->y.T.Dims.length<=17592186044416/\y.T.Vals.length<=140737488355328:=fun y hy=>by have:=hM.fit y hy;omega
 obtain ⟨p1,p2,p3⟩:=hS.sto h1 h4
 obtain ⟨t,ht,hdm,hvl⟩:=hM.has _ p3
 refine G O<|zV O O (qJ O O) ?_
 rintro _ _ ⟨b1,rfl,rfl⟩
 refine zV O O (qJ O O) ?_
 rintro _ _ ⟨b2,rfl,rfl⟩
 refine zV O O (qH [some 8,none,none,none] O zr165 O) ?_
 rintro _ _ ⟨b3,rfl,rfl⟩
 refine Y<|G O<|zD O zIp<|zI one26 (J 2 O) O<|A O<|zD O zBc<|zM yX (J 1 O) O<|qD O ok150 (ref19_Value M hm hF env hel her x.E p1 p2 hS.ex) ⟨R,O,R,O,R,O,T⟩<|zV O O (qV O zFp) ?_
 rintro _ _ ⟨b4,rfl,rfl⟩
 refine rStR 0 zDt O<|Y<|zJ<|G O<|zD O zIo<|zI zCq (J 0 O) O<|yK O<|Y<|zE O (fun c1=>?_) (fun c1=>?_)
 ·try simp only [sx] at c1
  refine G O<|zD O zIo<|zI zCq (J 0 O) O<|zD O zGf<|rStR 3 sz29 O<|Y<|G O<|zM zCc (J 3 O) O<|rStR 1 zMm O<|Y<|zH<|fin1 (zP zCc O (J 1 O) O) ?_
  rw [sto_e c1];rfl
 ·try simp only [sx] at c1
  refine zK<|G O<|zD O zIp<|zI one26 (J 3 O) O<|zD O zAh<|zI one9 (J 2 O) O<|qD O ok63 (show Pur cfg 63 [gI M,vS x.Name] (.tup [vTn t,vB true]) from by have h:=zHe M x.Name hm;rw [ht] at h;exact h) ⟨R,O,R,O,T⟩<|qO O<|yH O<|qR O<|zV O O (qH [none,none,none,none,none,some 1,some 2] O zNc O) ?_
  rintro _ _ ⟨b5,rfl,rfl⟩
  refine rStR 0 zPv O<|A O<|Y<|G O<|zD O zIp<|zI one26 (J 4 O) O<|A O<|zM zFj (J 0 O) O<|zD O zEt<|zI wQ (J 3 O) O<|qD O ok152 (zVb M hm hF env hel her t hdm x.Idx hS.ix hS.len) ⟨R,O,R,O,R,O,R,O,T⟩<|qO O<|qR O<|qR O<|A O<|A O<|Y<|zJ<|G O<|A O<|yE O<|A O<|rL0 O (fun g7_2=>zG O zAm O) O<|rL1 46 O (fun g7_2=>zF O one3 O (J 3 O) O) O<|rL1 47 O (fun g7_2=>yM O O O) O<|yR O (fun h=>h)<|Y<|zE O (fun c2=>?_) (fun c2=>?_)
  ·obtain ⟨c2a,c2b⟩:(gY M env t x.Idx).2=0/\x.Op=3:=by simpa [Lz] using c2
   have hab:=plcV_bd hdm c2a
   refine kI 18 0 [⟨0,.q []⟩,⟨1,.q [3]⟩,⟨2,.q []⟩,⟨3,.q [0]⟩,⟨4,.q []⟩,⟨5,.q [0]⟩,⟨6,.q []⟩,⟨7,.q []⟩,⟨8,.q []⟩,⟨9,.q []⟩,⟨10,.q [1]⟩,⟨11,.q []⟩,⟨12,.q []⟩,⟨13,.q []⟩,⟨14,.q []⟩,⟨15,.q []⟩,⟨16,.q []⟩,⟨17,.e 1 []⟩] mixed uC uC O O O<|zX O<|zX O<|zX O<|zX O<|zX O<|zX O<|zX O<|zX O<|zX O<|zX O<|zX O<|zX O<|zX O<|zX O<|zX O<|zX O<|zX O<|zX O<|zBb<|qF O zB O O (zG O zOr O)<|qF O zB O O (zF O one3 O (J 0 O) O)<|qF O zB O O (zG O zKu O)<|qF O zB O O (zU O yD O (J 0 O) O)<|qF O zB O O (zG O zFc O)<|qF O zB O O (zF O zMf O (J 0 O) O)<|qF O zB O O (zO O O)<|qF O zB O O (qE O zGi O O zA (getm (atT_some hab.1 zA)))<|qF O zB O O (zU O yO O zZ O)<|qF O zB O O (zG O zGe O)<|qF O zB O O (zU O yO O (J 0 O) O)<|qF O zB O O (qZ O zGi W O O O O)<|qF O zB O O (qG O ok153 (ref04_Reduce x.Fold t.T (t.Vals.getD (gY M env t x.Idx).1.toNat zVl) (evE M env x.E).v.V) ⟨R,O,R,O,R,O,T⟩)<|qF O zB O O (kH O O)<|qF O zB O O (wE O O O)<|qF O zB O O (wD O O O)<|qF O zB O O (zG O zGe O)<|zFr O O zB O O (yL O L O O O (zFf 0 O O)) ?_
   rintro _ _ ⟨rfl,rfl⟩
   refine ⟨_,O,?_⟩
   refine zAx O<|A O<|Y<|zJ<|G O<|A O<|yK O<|Y<|zE O (fun c3=>?_) (fun c3=>?_)
   ·try simp only [sx] at c3
    refine G O<|A O<|zD O zGf<|rStR 4 sz29 O<|Y<|G O<|zM zCc (J 4 O) O<|rStR 2 zMm O<|Y<|zH<|fin1 (zP zCc O (J 2 O) O) ?_
    rw [sto_f (s:=⟨M,N,0⟩) c1 ht c2a c2b rfl c3];rfl
   ·try simp only [sx] at c3
    refine zK<|G O<|zD O zIp<|zI one26 (J 4 O) O<|zD O zAh<|zI one9 (J 3 O) O<|A O<|zD O zGe<|zM yO (J 1 O) O<|qD O ok154 (zUv M x.Name (gY M env t x.Idx).1 (rQ x.Fold t.T (t.Vals.getD (gY M env t x.Idx).1.toNat zVl) (evE M env x.E).v.V).1 hM.len hab.1 (fun y hy hyn=>⟨by have h8:=hM.uni y hy;rw [hyn,ht] at h8;injection h8 with h8;have h9:=hab.2;rw [←h8];omega,(hM.fit y hy).2⟩)) ⟨R,O,R,O,R,O,R,O,T⟩<|zD O zIp<|rStR 4 sz26 O<|Y<|G O<|zM zCc (J 4 O) O<|rStR 2 zMm O<|Y<|zH<|fin1 (zP zCc O (J 2 O) O) ?_
    rw [sto_r (s:=⟨M,N,0⟩) c1 ht c2a c2b rfl c3];rfl
  ·have c2n:(gY M env t x.Idx).2=0->¬x.Op=3:=fun q r=>by simp [Lz,q,r] at c2
   refine zK<|zJ<|G O<|A O<|yK O<|Y<|zE O (fun c3=>?_) (fun c3=>?_)
   ·try simp only [sx] at c3
    refine G O<|A O<|zD O zGf<|rStR 4 sz29 O<|Y<|G O<|zM zCc (J 4 O) O<|rStR 2 zMm O<|Y<|zH<|fin1 (zP zCc O (J 2 O) O) ?_
    rw [sto_p (s:=⟨M,N,0⟩) c1 ht c3];rfl
   ·try simp only [sx] at c3
    have hab:=plcV_bd hdm c3
    refine zK<|G O<|zD O zIp<|zI one26 (J 4 O) O<|zD O zAh<|zI one9 (J 3 O) O<|A O<|zD O zGe<|zM yO (J 1 O) O<|qD O ok154 (zUv M x.Name (gY M env t x.Idx).1 (evE M env x.E).v.V hM.len hab.1 (fun y hy hyn=>⟨by have h8:=hM.uni y hy;rw [hyn,ht] at h8;injection h8 with h8;have h9:=hab.2;rw [←h8];omega,(hM.fit y hy).2⟩)) ⟨R,O,R,O,R,O,R,O,T⟩<|zD O zIp<|rStR 4 sz26 O<|Y<|G O<|zM zCc (J 4 O) O<|rStR 2 zMm O<|Y<|zH<|fin1 (zP zCc O (J 2 O) O) ?_
    rw [sto_s (s:=⟨M,N,0⟩) c1 ht c3 (fun q=>c2n c3 q)];rfl
theorem zKb (B:List Bf) (f:Int) (hf:f<=1048576) (l:List St) (ih:∀x,x∈l->∀(env:List Bd) (s:Rs),(∀y,y∈env->r64 y.Val)->env.length+bC x.Body<=900000->RI B f s->Pur cfg 96 [vRs s f,jV env,bU x.Body] (vRs (gJ f x.Body env s) f)) (hC:dQ (StC B) l) (env:List Bd) (s:Rs) (her:∀y,y∈env->r64 y.Val) (hw:env.length+bC l<=900000) (hR:RI B f s):
    Pur cfg 96 [vRs s f,jV env,bU l] (vRs (gJ f l env s) f):=by
 refine zR Tryz.func96 O Tryz.ntmps96 Tryz.results96 O ?_
 intro z hz
 have hll:=kX l
 refine G O<|zV O O (qJ O O) ?_
 rintro _ _ ⟨b1,rfl,rfl⟩
 refine zV O O (qH [some 8,none,none,none] O zr165 O) ?_
 rintro _ _ ⟨b2,rfl,rfl⟩
 refine Y<|zJ<|G O<|A O<|Y<|zQ<|zY ⟨[(7,.c _),(1,.c _),(2,.c _),(3,.c _),(6,.c _)],[_,_]⟩ (Weak.mk [true,true] ⟨R,R,R,R,R,T⟩ O)<|qK 1 2 O O (Nat×Rs) (fun ⟨k,t⟩=>[(7,vI k)]) (fun ⟨k,t⟩=>[E.row b2 165 [.sl 8 [],cI 0,cI 0,cI 0],E.row b1 165 [.sl 8 (t.Mem.map Nmd.cells),cI t.N,cI f,cI t.E]]) (fun ⟨k,t⟩=>k<=l.length/\(gJ f l env s=gJ f (l.drop k) env t)/\(RI B f t)) (fun ⟨k,t⟩=>l.length-k) ⟨⟨0,s⟩,⟨zA,O,hR⟩,Weak.mk [true,true] ⟨R,R,R,R,R,T⟩ O⟩ ?_
 rintro ⟨k,t⟩ ⟨hk,hp,hRt⟩
 show AWP _ _ _ _ _ ⟨[(7,vI k)]++_,[E.row b2 165 [.sl 8 [],cI 0,cI 0,cI 0],E.row b1 165 [.sl 8 (t.Mem.map Nmd.cells),cI t.N,cI f,cI t.E]]++_⟩
 refine zJ<|G O<|A O<|A O<|qB O D<|yG O<|A O<|rL0 O (fun g2_4=>zG O zGf O) O<|rL1 16 O (fun g2_4=>zF O zCq O (J 1 O) O) O<|rL1 17 O (fun g2_4=>yM O O O) O<|yR O (fun h=>h)<|Y<|zE O (fun c1=>?_) (fun c1=>?_)
 ·try simp only [sx] at c1
  obtain ⟨x,hx⟩:=qY l k zA
  have hte:t.E=0:=c1.2
  have hX:StC B x:=(stAll_eq (zLh hC x (qA hx))).1
  have hxw:=yU (qA hx)
  have hxe:=St.body_wt x
  refine zK<|zJ<|zQ<|zJ<|G O<|A O<|A O<|qC O D zA (wJ hx)<|qQ O zAm<|zI one3 zZ O<|yE O<|Y<|zE O (fun c2=>?_) (fun c2=>?_)
  ·try simp only [sx] at c2
   obtain ⟨m1,m2⟩:=hX.loop c2
   obtain ⟨F,hF⟩:∃F:Nat->Rs,F=fun j=>(List.range j).foldl (hY f x.Name env (gJ f x.Body)) t:=⟨_,rfl⟩
   have hF0:F 0=t:=by rw [hF];rfl
   have hFs:∀j,F (j+1)=hY f x.Name env (gJ f x.Body) (F j) j:=fun j=>by rw [hF];exact fold_nx j
   have hRx:=zLj x env t hRt
   refine zJ<|G O<|A O<|Y<|zQ<|zY ⟨[(8,.c _),(1,.c _),(2,.c _),(3,.c _),(6,.c _),(7,.c _)],[_,_]⟩ (Weak.mk [true,true] ⟨R,R,R,R,R,R,T⟩ O)<|qK 1 2 O O (Nat) (fun j=>[(8,vI j)]) (fun j=>[E.row b2 165 [.sl 8 [],cI 0,cI 0,cI 0],E.row b1 165 [.sl 8 ((F j).Mem.map Nmd.cells),cI (F j).N,cI f,cI (F j).E]]) (fun j=>j<=x.Many.toNat/\RI B f (F j)) (fun j=>x.Many.toNat-j) ⟨0,⟨zA,hF0 ▸ hRt⟩,Weak.mk [true,true] ⟨R,R,R,R,R,R,T⟩ (by rw [hF0];rfl)⟩ ?_
   rintro j ⟨hj,hRj⟩
   refine zJ<|G O<|A O<|A O<|A O<|qC O D zA (wJ hx)<|qQ O zAp<|zI one3 zZ O<|yG O<|A O<|rL0 O (fun g6_7=>zG O zGf O) O<|rL1 36 O (fun g6_7=>zF O zCq O (J 1 O) O) O<|rL1 37 O (fun g6_7=>yM O O O) O<|yR O (fun h=>h)<|Y<|zE O (fun c3=>?_) (fun c3=>?_)
   ·try simp only [sx] at c3
    have hje:(F j).E=0:=c3.2
    obtain ⟨u,hu⟩:∃u,u=dU f (F j):=⟨_,rfl⟩
    have hRv:=zNu (B:=B) (f:=f) x.Body
    refine zK<|zJ<|zQ<|G O<|zM zCc (J 1 O) O<|qD O ok127 (show Pur cfg 127 [vRs (F j) f] (vRs u f) from hu ▸ ref31_step (F j) f hRj.n0 hRj.n1 hf) ⟨R,O,T⟩<|rStR 1 zMm O<|Y<|G O<|zD O zGf<|zI zCq (J 1 O) O<|yE O<|Y<|zE O (fun c4=>?_) (fun c4=>?_)
    ·try simp only [sx] at c4
     have hst:=step_ok (hu ▸ c4) hje
     rw [←hu] at hst
     obtain ⟨rfl,hlt⟩:=hst
     have hgo:F (j+1)=gJ f x.Body (⟨x.Name,(j:Int)⟩::env) ⟨(F j).Mem,(F j).N+1,0⟩:=(hFs j).trans (turn_go hje hu.symm)
     have hRu:RI B f ⟨(F j).Mem,(F j).N+1,0⟩:=hu ▸ hRj.step
     have he2:∀y,y∈(⟨x.Name,(j:Int)⟩::env:List Bd)->r64 y.Val:=fun y hy=>by rcases List.mem_cons.1 hy with rfl|hy;(show r64 (j:Int));unfold r64;omega;exact her y hy
     refine kI 16 1 [⟨0,.q [2]⟩,⟨1,.q []⟩,⟨2,.q []⟩,⟨3,.q []⟩,⟨4,.q []⟩,⟨5,.q []⟩,⟨6,.q []⟩,⟨7,.q []⟩,⟨9,.q []⟩,⟨11,.q []⟩,⟨12,.q []⟩,⟨13,.q []⟩,⟨14,.q []⟩,⟨15,.q []⟩,⟨8,.e 0 []⟩,⟨10,.e 0 []⟩] mixed uC uC O O O<|zX O<|zX O<|zX O<|zX O<|zX O<|zX O<|zX O<|zX O<|zX O<|zX O<|zX O<|zX O<|zX O<|zX O<|zX O<|zX O<|zBb<|qF O zB O O (zU O zCc O (J 0 O) O)<|qF O zB O O (zO O O)<|qF O zB O O (zO O O)<|qF O zB O O (qE O D O O zA (wJ hx))<|qF O zB O O (qM O zAh O)<|qF O zB O O (zF O one9 O zZ O)<|qF O zB O O (zO O O)<|qF O zB O O (zCr O zr147 pl147 O)<|qF O zB O O (zO O O)<|qF O zB O O (zO O O)<|qF O zB O O (zO O O)<|qF O zB O O (qE O D O O zA (wJ hx))<|qF O zB O O (qM O kV O)<|qF O zB O O (zF O kU O zZ O)<|zJf O O zB O O (zDd O zWq zr147 O O O O) ?_
     rintro _ _ ⟨sv3,rfl,rfl⟩
     refine ⟨_,O,?_⟩
     refine zJf O O zB O O (yN 0 O zWq O O O zC zC) ?_
     rintro _ _ ⟨sv4,rfl,rfl⟩
     refine ⟨_,O,?_⟩
     refine zAx O<|yS _ (yT 0 O (regs':=[(57,_)]) (μ':=[_,_]) ⟨FLe.sl,T⟩ ⟨EFle.refl _,EFle.refl _,T⟩)<|qD O ok96 (ih x (qA hx) (⟨x.Name,(j:Int)⟩::env) ⟨(F j).Mem,(F j).N+1,0⟩ he2 (by simp only [List.length_cons];omega) hRu) ⟨R,O,R,O,R,O,T⟩<|rStR 1 zMm O<|Y<|zT O<|A O<|qI O ⟨zA,zA⟩<|A O<|Y ?_
     exact l5
    ·try simp only [sx] at c4
     have hgo:F (j+1)=u:=by rw [hu];exact (hFs j).trans (turn_no hje (hu ▸ c4))
     refine zK<|zT O<|A O<|qI O ⟨zA,zA⟩<|A O<|Y ?_
     exact l5
   ·try simp only [sx] at c3
    have hrn:gX f x env t=F j:=by rw [run_loop c2,hF];exact fold_stop zA (by rcases c3 with c3|c3;exact .inl zA;exact .inr (by rw [hF] at c3;exact c3))
    refine qN<|qN<|zT O<|A O<|qI O ⟨zA,zA⟩<|A O<|Y ?_
    exact t6
  ·try simp only [sx] at c2
   obtain ⟨u,hu⟩:∃u,u=dU f t:=⟨_,rfl⟩
   refine zK<|G O<|zM zCc (J 1 O) O<|qD O ok127 (show Pur cfg 127 [vRs t f] (vRs u f) from hu ▸ ref31_step t f hRt.n0 hRt.n1 hf) ⟨R,O,T⟩<|rStR 1 zMm O<|Y<|zJ<|G O<|zD O zGf<|zI zCq (J 1 O) O<|yK O<|Y<|zE O (fun c5=>?_) (fun c5=>?_)
   ·try simp only [sx] at c5
    subst hu
    refine G O<|zM zCc (J 1 O) O<|rStR 0 zMm O<|Y<|zH<|fin1 (zP zCc O (J 0 O) O) ?_
    rw [hp,zNr hx hte,run_stop c2 c5,run_end (.inr c5)];rfl
   ·try simp only [sx] at c5
    have hst:=step_ok (hu ▸ c5) hte
    rw [←hu] at hst
    obtain ⟨rfl,hlt⟩:=hst
    have hRu:RI B f ⟨t.Mem,t.N+1,0⟩:=hu ▸ hRt.step
    refine zK<|zJ<|G O<|A O<|A O<|qC O D zA (wJ hx)<|qQ O zAm<|zI one3 zZ O<|yE O<|Y<|zE O (fun c6=>?_) (fun c6=>?_)
    ·try simp only [sx] at c6
     obtain ⟨p1,p2⟩:=hX.cond c6
     have hm:t.Mem.length<=140737488355328:=by have:=hRt.mem.len;omega
     have hF:∀y,y∈t.Mem->y.T.Dims.length<=17592186044416/\y.T.Vals.length<=140737488355328:=fun y hy=>by have:=hRt.mem.fit y hy;omega
     refine zJ<|qU 14 mixed uC O O<|zN O O (zG O zIp O)<|zN O O (zF O one26 O (J 1 O) O)<|zN O O (zO O O)<|zN O O (zO O O)<|zN O O (zO O O)<|zN O O (qE O D O O zA (wJ hx))<|zN O O (qM O zBc O)<|zN O O (zU O yX O zZ O)<|zN O O (qG O ok128 (ref19_Holds t.Mem hm hF env zA her x.E p1 p2 hX.ex) ⟨R,O,R,O,R,O,T⟩)<|zN O O (kH O O)<|zN O O (wD O O O)<|zN O O (wD O O O)<|zN O O (qX O O)<|zN O O (qX O O)<|yP<|Y<|G O<|A O<|zD O zGf<|rStR 1 sz29 O<|Y<|zJ<|G O<|A O<|A O<|rL0 O (fun g17_1=>zO O O) O<|rL1 92 O (fun g17_1=>yM O O O) O<|yR O (fun h=>h)<|Y<|zE O (fun c7=>?_) (fun c7=>?_)
     ·have h7:(evE t.Mem env x.E).h.1=true/\(evE t.Mem env x.E).h.2=0:=by simpa [Lz] using c7
      have hrn:gX f x env t=gJ f x.Body env ⟨t.Mem,t.N+1,(evE t.Mem env x.E).h.2⟩:=by rw [run_ift c6 hu.symm h7.2 h7.1,h7.2]
      refine qU 8 mixed uC O O<|zN O O (zU O zCc O (J 1 O) O)<|zN O O (zO O O)<|zN O O (zO O O)<|zN O O (zO O O)<|zN O O (qE O D O O zA (wJ hx))<|zN O O (qM O kV O)<|zN O O (zF O kU O zZ O)<|zN O O (qG O ok96 (ih x (qA hx) env ⟨t.Mem,t.N+1,(evE t.Mem env x.E).h.2⟩ her zA ⟨hRt.mem,hRu.n0,hRu.n1⟩) ⟨R,O,R,O,R,O,T⟩)<|yP<|rStR 1 zMm O<|Y<|qN<|zT O<|A O<|qI O ⟨zA,zA⟩<|A O<|Y ?_
      exact t6
     ·have hrn:gX f x env t=⟨t.Mem,t.N+1,(evE t.Mem env x.E).h.2⟩:=by by_cases q:(evE t.Mem env x.E).h.2=0;exact run_iff c6 hu.symm (by simpa [Lz,q] using c7);exact run_ife c6 hu.symm q
      refine zK<|qN<|zT O<|A O<|qI O ⟨zA,zA⟩<|A O<|Y ?_
      exact t6
    ·try simp only [sx] at c6
     have hrn:=run_sto c2 c6 hu.symm (env:=env)
     refine zK<|qU 7 mixed uC O O<|zN O O (zU O zCc O (J 1 O) O)<|zN O O (zO O O)<|zN O O (zO O O)<|zN O O (zO O O)<|zN O O (qE O D O O zA (wJ uB))<|zN O O (zU O zDh O zZ O)<|zN O O (qG O ok129 (ref31_store B t.Mem (t.N+1) f hRt.mem env zA her x hX c2 c6) ⟨R,O,R,O,R,O,T⟩)<|yP<|rStR 1 zMm O<|Y<|zT O<|A O<|qI O ⟨zA,zA⟩<|A O<|Y ?_
     exact t6
 ·try simp only [sx] at c1
  refine qN<|G O<|zM zCc (J 1 O) O<|rStR 0 zMm O<|Y<|zH<|fin1 (zP zCc O (J 0 O) O) ?_
  rw [hp,run_end (by rcases c1 with c1|c1;exact .inl zA;exact .inr c1)];rfl
end Go.W
end
section
set_option maxRecDepth 10000
namespace Go.W
open Go Go.Eng Go.Proofs Go.L41 Go.Br
attribute [local irreducible] AWP RWP TD fH
def eD (mem:List Nmd) (l:List Bf):List Nmd:=if jY mem l=0 then l.map (nN mem) else []
theorem prvM_0 {mem:List Nmd} {l:List Bf} (h:jY mem l=0):eD mem l=l.map (nN mem):=if_pos h
theorem prvM_1 {mem:List Nmd} {l:List Bf} (h:¬jY mem l=0):eD mem l=[]:=if_neg h
theorem init_fit {n:Ns} {ins:List Nmd} (hn:n.Ok) (hF:∀x,x∈ins->x.T.Dims.length<=17592186044416/\x.T.Vals.length<=140737488355328) (h:(jI n ins).2=0):
    (jI n ins).1.length<=140737488355328/\∀x,x∈(jI n ins).1->x.T.Dims.length<=17592186044416/\x.T.Vals.length<=140737488355328:=by
  rw [(init_is h).1]
  refine ⟨by rw [List.length_map];have:=hn.bufs;omega,fun x hx=>?_⟩
  obtain ⟨b,hb,rfl⟩:=List.mem_map.1 hx
  unfold vV
  split
  · cases c:dM ins b.Name with
    |none=>exact ⟨Nat.zero_le _,Nat.zero_le _⟩
    |some t=>
      obtain ⟨y,hy,hyt⟩:=zOp c
      have:=hF y hy
      rw [hyt] at this
      exact this
  · have h1:=zKw b.Dims
    exact ⟨hn.dims b hb,by show (List.replicate _ _).length<=_;rw [List.length_replicate];omega⟩
def iE (n m:Ns) (ins:List Nmd) (strict:Bool):Prop:=(jI n ins).2=0->¬(rnN n (jI n ins).1 20000).2.2=14->¬(rnN m (jI n ins).1 60000).2.2=14->((rnN n (jI n ins).1 20000).2.2=0∨strict=true)->
  (rnN n (jI n ins).1 20000).2.2=(rnN m (jI n ins).1 60000).2.2/\(rnN n (jI n ins).1 20000).1=(rnN m (jI n ins).1 60000).1
theorem ok5:bA Tryz.prog 5=true:=by kernel_rfl
theorem ok6:bA Tryz.prog 6=true:=by kernel_rfl
theorem ok8:bA Tryz.prog 8=true:=by kernel_rfl
theorem ok26:bA Tryz.prog 26=true:=by kernel_rfl
theorem ok27:bA Tryz.prog 27=true:=by kernel_rfl
theorem ok28:bA Tryz.prog 28=true:=by kernel_rfl
theorem ok65:bA Tryz.prog 65=true:=by kernel_rfl
theorem ok95:bA Tryz.prog 95=true:=by kernel_rfl
theorem pl165:fP Tryz.prog 165=some [(0,1),(1,1),(2,1),(3,1)]:=by kernel_rfl
theorem zUw (B:List Bf) (f:Int) (hf:f<=1048576) (x:St) (hC:dQ (StC B) x.Body):∀(env:List Bd) (s:Rs),(∀y,y∈env->r64 y.Val)->env.length+bC x.Body<=900000->RI B f s->Pur cfg 96 [vRs s f,jV env,bU x.Body] (vRs (gJ f x.Body env s) f):=by
  induction x using St.ind with
  |_ x ih=>exact fun env s her hw hR=>zKb B f hf x.Body (fun a ha=>ih a ha (stAll_eq (zLh hC a ha)).2) hC env s her hw hR
theorem ref31_Body (B:List Bf) (f:Int) (hf:f<=1048576) (l:List St) (hC:dQ (StC B) l) (env:List Bd) (s:Rs) (her:∀y,y∈env->r64 y.Val) (hw:env.length+bC l<=900000) (hR:RI B f s):Pur cfg 96 [vRs s f,jV env,bU l] (vRs (gJ f l env s) f):=
  zKb B f hf l (fun a ha=>zUw B f hf a (stAll_eq (zLh hC a ha)).2) hC env s her hw hR
theorem ref31_provided (n:Ns) (hn:n.Ok) (mem:List Nmd) (hm:mem.length<=140737488355328) (hF:∀x,x∈mem->x.T.Dims.length<=17592186044416/\x.T.Vals.length<=140737488355328)  :
    Pur cfg 95 [vNs n,gI mem] (.tup [gI (eD mem n.Bufs),vI (jY mem n.Bufs)]):=by
 refine zR Tryz.func95 O Tryz.ntmps95 Tryz.results95 O ?_
 intro z hz
 have hnb:=hn.bufs
 refine G O<|zV O O (qJ O O) ?_
 rintro _ _ ⟨b1,rfl,rfl⟩
 refine A O<|A O<|Y<|G O<|A O<|yS _ (wC 125 8)<|Y<|zJ<|G O<|A O<|Y<|zQ<|zY ⟨[(7,.c _),(6,.c _),(1,.c _),(2,.c _)],[_,_]⟩ (Weak.mk [true,true] ⟨R,R,R,R,T⟩ O)<|qK 2 1 O O (Nat×Value) (fun ⟨k,sw⟩=>[(7,vI k),(6,.c (.lit sw))]) (fun ⟨k,sw⟩=>[E.vec sw 125 8 (((n.Bufs.take k).map (nN mem)).map Nmd.cells)]) (fun ⟨k,sw⟩=>k<=n.Bufs.length/\(jY mem n.Bufs=jY mem (n.Bufs.drop k))) (fun ⟨k,sw⟩=>n.Bufs.length-k) ⟨⟨0,(.slice none 0 0)⟩,⟨zA,O⟩,Weak.mk [true,true] ⟨R,R,R,R,T⟩ O⟩ ?_
 rintro ⟨k,sw⟩ ⟨hk,hp⟩
 show AWP _ _ _ _ _ ⟨[(7,vI k),(6,.c (.lit sw))]++_,[E.vec sw 125 8 (((n.Bufs.take k).map (nN mem)).map Nmd.cells)]++_⟩
 refine zJ<|G O<|A O<|zD O zAj<|zI zDk (J 1 O) O<|qB O el22<|yG O<|Y<|zE O (fun c1=>?_) (fun c1=>?_)
 ·try simp only [sx] at c1
  obtain ⟨b,hb⟩:=qY n.Bufs k zA
  refine zK<|zJ<|zQ<|G O<|zD O zAj<|zI zDk (J 1 O) O<|A O<|qC O el22 zA (getm uB)<|zM zLd zZ O<|zV O O (qH [none,none,none,none,none,none,some 1,none] O zr94 O) ?_
  rintro _ _ ⟨b3,rfl,rfl⟩
  refine rStR 0 sz94 O<|Y<|zJ<|G O<|A O<|zD O zEr<|zI one9 (J 0 O) O<|zD O zGc<|zM yD (J 0 O) O<|zD O zGb<|zI zBs (J 0 O) O<|qD O ok62 (ref19_Must mem b hm hF) ⟨R,O,R,O,R,O,R,O,T⟩<|A O<|Y<|G O<|A O<|yK O<|Y<|zE O (fun c2=>?_) (fun c2=>?_)
  ·try simp only [sx] at c2
   refine G O<|A O<|yI 8 O<|A O<|Y<|zH<|fin2 (rs_c O) (rs_c O) ?_
   have h9:=prv_bad hb hp c2
   rw [prvM_1 (by rw [h9];exact c2),h9];rfl
  ·try simp only [sx] at c2
   refine zK<|G O<|A O<|zD O zEr<|zI one9 (J 0 O) O<|qD O ok63 (zHe _ _ zA) ⟨R,O,R,O,T⟩<|qO O<|yH O<|qR O<|zV O O (qH [none,none,none,none,none,some 1,some 2] O zNc O) ?_
   rintro _ _ ⟨b4,rfl,rfl⟩
   refine rStR 0 zPv O<|A O<|Y<|zT O<|A O<|zD O zEr<|zI one9 (J 1 O) O<|zM zFj (J 0 O) O<|qT O zr125 pl125<|zW O (qZ O el26 zr125 O O O O)<|zV O O (yN 2 O el26 O O O zC zC) ?_
   rintro _ _ ⟨sv5,rfl,rfl⟩
   refine A O<|Y<|zT O<|A O<|qI O ⟨zA,zA⟩<|A O<|Y ?_
   refine ⟨⟨k+1,sv5⟩,⟨zA,prv_next hb hp zA⟩,(by show n.Bufs.length-(k+1)<n.Bufs.length-k;omega),Weak.mk [false,false,true,true] ⟨R,R,R,R,T⟩ (by exact zFz (by rw [yQ hb,List.map_append,List.map_append,List.map_singleton,List.map_singleton];rfl))⟩
 ·try simp only [sx] at c1
  refine qN<|zJ<|zY _ (yT 0 O (regs':=[(6,_)]) (μ':=[_]) ⟨FLe.sl,T⟩ ⟨EFle.refl _,T⟩)<|zT O<|A O<|A O<|A O<|Y<|zH<|fin2 (rs_c O) (rs_c O) ?_
  have h9:=prv_end zA hp
  rw [yV (l:=n.Bufs) (k:=k) zA,prvM_0 h9,h9]
theorem ref31_run (n:Ns) (hn:n.Ok) (hw:bC n.Body<=900000) (hv:(bJ n).2=0) (hC:dQ (StC n.Bufs) n.Body) (mem:List Nmd) (hm:mem.length<=140737488355328) (hF:∀x,x∈mem->x.T.Dims.length<=17592186044416/\x.T.Vals.length<=140737488355328) (f:Int):
    Pur cfg 65 [vNs n,bU n.Body,gI mem,jV [],vI f] (.tup [gI (rnN n mem f).1,vI (rnN n mem f).2.1,vI (rnN n mem f).2.2]):=by
 refine zR Tryz.func65 O Tryz.ntmps65 Tryz.results65 O ?_
 intro z hz
 obtain ⟨q,hq⟩:∃q,q=eD mem n.Bufs:=⟨_,rfl⟩
 refine G O<|zV O O (qJ O O) ?_
 rintro _ _ ⟨b1,rfl,rfl⟩
 refine yI 8 O<|A O<|A O<|Y<|zJ<|G O<|A O<|yG O<|A O<|rL0 O (fun g1_2=>zO O O) O<|rL1 19 O (fun g1_2=>yC O O O) O<|r_or O (fun h=>(lzf h))<|Y<|zE O (fun c1=>?_) (fun c1=>?_)
 ·have h1:f<0∨1048576<f:=by simpa [Lz] using c1
  refine G O<|yI 8 O<|A O<|A O<|Y<|zH<|fin3 (rs_c O) (rs_c O) (rs_c O) ?_
  rw [run_2 hv h1];rfl
 ·have h1:¬(f<0∨1048576<f):=by simpa [Lz] using c1
  refine zK<|G O<|zM kE (J 0 O) O<|A O<|qD O ok95 (show Pur cfg 95 [vNs n,gI mem] (.tup [gI q,vI (jY mem n.Bufs)]) from hq ▸ ref31_provided n hn mem hm hF) ⟨R,O,R,O,T⟩<|qO O<|qR O<|qR O<|A O<|A O<|Y<|zJ<|G O<|A O<|yK O<|Y<|zE O (fun c2=>?_) (fun c2=>?_)
  ·try simp only [sx] at c2
   subst hq
   refine G O<|A O<|yI 8 O<|A O<|A O<|Y<|zH<|fin3 (rs_c O) (rs_c O) (rs_c O) ?_
   rw [run_3 hv h1 c2];rfl
  ·try simp only [sx] at c2
   obtain rfl:q=n.Bufs.map (nN mem):=by rw [hq];exact prvM_0 c2
   refine zK<|G O<|A O<|A O<|qT O zr165 pl165<|A O<|A O<|qD O ok96 (show Pur cfg 96 [vRs ⟨n.Bufs.map (nN mem),0,0⟩ f,jV [],bU n.Body] (vRs (sJ n mem f) f) from ref31_Body n.Bufs f zA n.Body hC [] ⟨n.Bufs.map (nN mem),0,0⟩ (fun y hy=>by cases hy) (by simpa using hw) ⟨prv_ok hn c2,Int.le_refl _,by show (0:Int)<=f;omega⟩) ⟨R,O,R,O,R,O,T⟩<|zV O O (qH [some 8,none,none,none] O zr165 O) ?_
   rintro _ _ ⟨b2,rfl,rfl⟩
   refine rStR 0 zMm O<|Y<|zJ<|G O<|zD O zGf<|zI zCq (J 0 O) O<|yK O<|Y<|zE O (fun c3=>?_) (fun c3=>?_)
   ·try simp only [sx] at c3
    refine zJ<|qU 5 mixed uC O O<|zN O O (zG O zGf O)<|zN O O (zF O zCq O (J 0 O) O)<|zN O O (zXa 8 O O)<|zN O O (qX O O)<|zN O O (qX O O)<|yP<|Y<|zH<|fin3 (rs_c O) (rs_c O) (rs_c O) ?_
    rw [run_4 hv h1 c2 c3];rfl
   ·try simp only [sx] at c3
    refine zK<|zJ<|qU 7 mixed uC O O<|zN O O (zG O zIp O)<|zN O O (zF O one26 O (J 0 O) O)<|zN O O (zG O fd165_1 O)<|zN O O (zF O one3 O (J 0 O) O)<|zN O O (qX O O)<|zN O O (qX O O)<|zN O O (qX O O)<|yP<|Y<|zH<|fin3 (rs_c O) (rs_c O) (rs_c O) ?_
    rw [run_0 hv h1 c2 c3]
theorem ref31_Run (n:Ns) (hn:n.Ok) (hw:bC n.Body<=900000) (hC:(bJ n).2=0->dQ (StC n.Bufs) n.Body) (mem:List Nmd) (hm:mem.length<=140737488355328) (hF:∀x,x∈mem->x.T.Dims.length<=17592186044416/\x.T.Vals.length<=140737488355328) (f:Int):
    Pur cfg 27 [vNs n,gI mem,vI f] (.tup [gI (rnN n mem f).1,vI (rnN n mem f).2.1,vI (rnN n mem f).2.2]):=by
 refine zR Tryz.func27 O Tryz.ntmps27 Tryz.results27 O ?_
 intro z hz
 refine G O<|zV O O (qJ O O) ?_
 rintro _ _ ⟨b1,rfl,rfl⟩
 refine yI 8 O<|A O<|A O<|Y<|zJ<|G O<|zM kE (J 0 O) O<|qD O ok12 (zGu n hn hw) ⟨R,O,T⟩<|qO O<|qR O<|qR O<|A O<|A O<|Y<|G O<|A O<|yK O<|Y<|zE O (fun c1=>?_) (fun c1=>?_)
 ·try simp only [sx] at c1
  refine G O<|A O<|yI 8 O<|A O<|A O<|Y<|zH<|fin3 (rs_c O) (rs_c O) (rs_c O) ?_
  rw [run_1 c1];rfl
 ·try simp only [sx] at c1
  refine zK<|G O<|zM kE (J 0 O) O<|zD O zAi<|zI kU (J 0 O) O<|A O<|A O<|qD O ok65 (ref31_run n hn hw c1 (hC c1) mem hm hF f) ⟨R,O,R,O,R,O,VLe.nil,O,R,O,T⟩<|qR O<|qR O<|qR O<|A O<|A O<|A O<|Y<|zH<|fin3 (rs_c O) (rs_c O) (rs_c O) ?_
  exact O
theorem law36_Small (n:Ns) (m:Nat) (x:Int) (hf:n.Fit) (hm:m<=5000) (hx:x=m):
    Pur cfg 5 [vNs n,vI x] (vB (smS n m)):=by
 refine zR Tryz.func5 O Tryz.ntmps5 Tryz.results5 O ?_
 intro z hz
 refine G O<|zV O O (qJ O O) ?_
 rintro _ _ ⟨b1,rfl,rfl⟩
 refine A O<|Y<|G O<|zD O zAj<|zI zDk (J 0 O) O<|qB O el22<|zW O (wP O O O)<|A O<|rL0 O (fun g1_4=>zG O zAi O) O<|rL1 10 O (fun g1_4=>zF O kU O (J 0 O) O) O<|rL0 O (fun g1_4=>zO O O) O<|rLz [(11,_),(12,_)] O B ⟨O,O,O,O,T⟩ (fun g1_4=>qG O ok13 (zXo n.Body m x hf.body hf.len hm hx) ⟨R,O,R,O,T⟩) O<|rL0 O (fun g1_4=>zO O O) O<|rLz [(13,_),(14,_)] O B ⟨O,O,O,O,T⟩ (fun g1_4=>wP O O O) O<|yR O (fun h=>h)<|A O<|Y<|zH<|zS O ?_
 subst hx
 exact congrArg vB (by unfold smS;congr 1<;>exact decide_eq_decide.2 zA)
theorem law36_same (n m:Ns) (h1n:n.Ok) (h2n:bC n.Body<=900000) (h3n:(bJ n).2=0->dQ (StC n.Bufs) n.Body) (h1m:m.Ok) (h2m:bC m.Body<=900000) (h3m:(bJ m).2=0->dQ (StC m.Bufs) m.Body) (ins:List Nmd) (hm:ins.length<=140737488355328) (hF:∀x,x∈ins->x.T.Dims.length<=17592186044416/\x.T.Vals.length<=140737488355328) (strict:Bool) (hS:iE n m ins strict):
    Pur cfg 8 [vNs n,vNs m,gI ins,vB strict] (vB true):=by
 refine zR Tryz.func8 O Tryz.ntmps8 Tryz.results8 O ?_
 intro z hz
 obtain ⟨M,hM⟩:∃M,M=(jI n ins).1:=⟨_,rfl⟩
 obtain ⟨a,ha⟩:∃a,a=rnN n M 20000:=⟨_,rfl⟩
 obtain ⟨b,hb⟩:∃b,b=rnN m M 60000:=⟨_,rfl⟩
 refine G O<|zV O O (qJ O O) ?_
 rintro _ _ ⟨b1,rfl,rfl⟩
 refine zV O O (qJ O O) ?_
 rintro _ _ ⟨b2,rfl,rfl⟩
 refine A O<|Y<|G O<|zM kE (J 1 O) O<|A O<|qD O ok26 (show Pur cfg 26 [vNs n,gI ins] (.tup [gI M,vI (jI n ins).2]) from hM ▸ zRw n h1n h2n ins hm hF) ⟨R,O,R,O,T⟩<|qO O<|qR O<|qR O<|A O<|A O<|Y<|zJ<|G O<|A O<|yK O<|Y<|zE O (fun c1=>?_) (fun c1=>?_)
 ·refine G O<|A O<|Y<|zH<|zS O ?_
  exact O
 ·try simp only [sx] at c1
  obtain ⟨hm2,hF2⟩:=init_fit h1n hF c1
  rw [←hM] at hm2 hF2
  refine zK<|G O<|zM kE (J 1 O) O<|A O<|qD O ok27 (show Pur cfg 27 [vNs n,gI M,vI 20000] (.tup [gI a.1,vI a.2.1,vI a.2.2]) from ha ▸ ref31_Run n h1n h2n h3n M hm2 hF2 20000) ⟨R,O,R,O,R,O,T⟩<|qO O<|qR O<|qR O<|qR O<|A O<|A O<|A O<|Y<|G O<|zM kE (J 0 O) O<|A O<|qD O ok27 (show Pur cfg 27 [vNs m,gI M,vI 60000] (.tup [gI b.1,vI b.2.1,vI b.2.2]) from hb ▸ ref31_Run m h1m h2m h3m M hm2 hF2 60000) ⟨R,O,R,O,R,O,T⟩<|qO O<|qR O<|qR O<|qR O<|A O<|A O<|A O<|Y<|zJ<|G O<|A O<|yE O<|A O<|rL0 O (fun g6_2=>zO O O) O<|rL1 42 O (fun g6_2=>yM O O O) O<|r_or O (fun h=>(lzf h))<|A O<|rL0 O (fun g6_6=>zO O O) O<|rL1 46 O (fun g6_6=>kA O O O) O<|rL1 47 O (fun g6_6=>zO O O) O<|rLz [] O gv2 T (fun g6_9=>zO O O) O<|rLz [(49,_)] O gv2 ⟨O,O,T⟩ (fun g6_9=>kJ O O) O<|rL1 48 O (fun g6_6=>kZ O O O (fun h=>kC uB h) O) O<|r_or O (fun h=>(lzf h))<|Y<|zE O (fun c2=>?_) (fun c2=>?_)
  ·refine G O<|A O<|Y<|zH<|zS O ?_
   exact O
  ·have hq:(¬a.2.2=14/\¬b.2.2=14)/\(¬a.2.2=0->strict=true):=by simpa [Lz] using c2
   have hs:=hS c1
   rw [←hM,←ha,←hb] at hs
   obtain ⟨hs1,hs2⟩:=hs hq.1.1 hq.1.2 (by by_cases q:a.2.2=0;exact .inl q;exact .inr (hq.2 q))
   obtain ⟨hr1,hr2⟩:=run_fit (n:=n) (mem:=M) (f:=20000) h1n
   rw [←ha] at hr1 hr2
   refine zK<|G O<|A O<|A O<|yE O<|A O<|rL0 O (fun g8_3=>zO O O) O<|rL0 O (fun g8_3=>zO O O) O<|rLz [(57,_),(58,_)] O B ⟨O,O,O,O,T⟩ (fun g8_3=>qG O ok28 (show Pur cfg 28 [gI a.1,gI b.1] (vB true) from hs2 ▸ base_Nameds a.1 hr1 hr2) ⟨R,O,R,O,T⟩) O<|yR O (fun h=>h)<|A O<|Y<|zH<|zS O ?_
   exact congrArg vB (by rw [hs1];simp)
theorem law_SplitGuardsRedundant (n:Ns) (hf:n.Fit) (hr:bS Lf.rng n.Body) (ins:List Nmd) (hm:ins.length<=140737488355328) (hF:∀x,x∈ins->x.T.Dims.length<=17592186044416/\x.T.Vals.length<=140737488355328):
    Pur cfg 4 [vNs n,gI ins] (vB true):=by
 refine zR Tryz.func4 O Tryz.ntmps4 Tryz.results4 O ?_
 intro z hz
 refine G O<|zV O O (qJ O O) ?_
 rintro _ _ ⟨b1,rfl,rfl⟩
 refine A O<|Y<|zJ<|G O<|zM kE (J 0 O) O<|qD O ok5 (law36_Small n 300 300 hf zA O) ⟨R,O,R,O,T⟩<|kN O<|A O<|rL0 O (fun g1_3=>zO O O) O<|rL1 13 O (fun g1_3=>yJ O el26 O) O<|rL1 14 O (fun g1_3=>yC O O O) O<|r_or O (fun h=>(lzf h))<|Y<|zE O (fun c1=>?_) (fun c1=>?_)
 ·refine G O<|qD O ok6 zGy T<|A O<|Y<|zH<|zS O ?_
  rfl
 ·have c1:smS n 300=true/\(ins.length:Int)<=60:=by simpa [Lz] using c1
  obtain ⟨k1,k3⟩:=smS_yes c1.1
  have hok:=hf.ok (m:=300) zA zA k3
  have hw:=weighB_wt k3
  refine zK<|G O<|zM kE (J 0 O) O<|qD O ok11 (zDj n hok zA hr gd_valid) ⟨R,O,T⟩<|qO O<|yH O<|qR O<|zV O O (qH [some 8,some 20] O zr25 O) ?_
  rintro _ _ ⟨b2,rfl,rfl⟩
  refine rStR 0 sz25 O<|A O<|Y<|zJ<|G O<|zM kE (J 1 O) O<|qD O ok12 (zGu n hok zA) ⟨R,O,T⟩<|qO O<|qR O<|qR O<|A O<|A O<|Y<|G O<|A O<|yK O<|Y<|zE O (fun c2=>?_) (fun c2=>?_)
  ·try simp only [sx] at c2
   have hz:pV n=(zNs,0):=remT_1 c2
   refine G O<|A O<|yE O<|A O<|rL0 O (fun g6_2=>zG O zAi O) O<|rL1 33 O (fun g6_2=>zF O kU O (J 0 O) O) O<|rL1 34 O (fun g6_2=>yJ O D O) O<|rL1 35 O (fun g6_2=>yM O O O) O<|yR O (fun h=>h)<|A O<|rL0 O (fun g6_8=>qG O ok6 zGy T) O<|yR O (fun h=>h)<|A O<|Y<|zH<|zS O ?_
   exact congrArg vB (by rw [hz];rfl)
  ·try simp only [sx] at c2
   have hre:=rem_eqN c2
   have hrm:=rem_wt hok (show bC n.Body<=900000 by omega)
   refine zK<|G O<|zM kE (J 1 O) O<|zM kE (J 0 O) O<|A O<|qD O ok8 (law36_same n (pV n).1 hok zA (fun hv=>valid_C hv hr zA) hrm.1 hrm.2 (fun _=>by rw [hre];exact clrL_C n.Body [] (valid_C c2 hr zA)) ins hm hF false (fun _ _ _ h4=>by rw [hre];exact grd_law c2 (by simpa using h4))) ⟨R,O,R,O,R,O,R,O,T⟩<|A O<|rL0 O (fun g7_4=>qG O ok6 zGy T) O<|yR O (fun h=>h)<|A O<|Y<|zH<|zS O ?_
   exact congrArg vB uD
end Go.W
end
