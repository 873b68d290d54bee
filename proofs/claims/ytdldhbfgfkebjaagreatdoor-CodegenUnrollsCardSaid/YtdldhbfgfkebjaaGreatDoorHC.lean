/-
  What functions compute.
  Conditions: none.
-/
import Derived.Test.YtdldhbfgfkebjaaGreatDoorHB
import Derived.Test.YtdldhbfgfkebjaaGreatDoorPlainG
set_option linter.unusedSimpArgs false
set_option linter.unusedVariables false
set_option maxRecDepth 10000
namespace Go.W
open Go Go.Eng Go.Proofs Go.L41 Go.Br
attribute [local irreducible] AWP RWP TD fP
theorem src_c {q:Int×Bool} {x s:Int} (h:(decide (2147483647-s<x)||q.2&&decide (q.1<=x))=true) (hx:x<=2147483647-s):q.2=true/\q.1<=x:=by
  rw [decide_eq_false (by omega),Bool.false_or,Bool.and_eq_true,decide_eq_true_eq] at h;exact h
theorem rep_get {i n:Nat} (h:i<n):((List.replicate i (-1:Int)++List.replicate (n-i) 0).map fun n=>[cI n])[((i:Nat):Int).toNat]? =some [cI 0]:=by
  rw [Int.toNat_natCast,List.getElem?_map,List.getElem?_append_right (by simp),List.length_replicate,Nat.sub_self,List.getElem?_replicate,if_pos (by omega)];rfl
theorem rep_set {i n:Nat} (h:i<n):((List.replicate i (-1:Int)++List.replicate (n-i) 0).map fun n=>[cI n]).set ((i:Nat):Int).toNat [cI (-1)]=(List.replicate (i+1) (-1:Int)++List.replicate (n-(i+1)) 0).map fun n=>[cI n]:=by
  rw [Int.toNat_natCast,show [cI (-1)]=(fun n:Int=>[cI n]) (-1) from rfl,←List.map_set,List.set_append_right _ _ (by simp),List.length_replicate,Nat.sub_self,show n-i=(n-(i+1))+1 by omega,List.replicate_succ,List.set_cons_zero,List.replicate_succ',List.append_assoc];rfl
theorem src_d {q:Int×Bool} {x s:Int} (h:(decide (2147483647-s<x)||q.2&&decide (q.1<=x))=false):¬(q.2=true/\q.1<=x):=fun k=>by
  rw [Bool.or_eq_false_iff,k.1,Bool.true_and] at h;exact of_decide_eq_false h.2 k.2
theorem zTo:bD Tryz.prog 48 1=some (1,3):=by kernel_rfl
theorem fd48_2:bD Tryz.prog 48 2=some (2,3):=by kernel_rfl
theorem ok43:bA Tryz.prog 43=true:=by kernel_rfl
theorem ok44:bA Tryz.prog 44=true:=by kernel_rfl
theorem ok54:bA Tryz.prog 54=true:=by kernel_rfl
theorem ok55:bA Tryz.prog 55=true:=by kernel_rfl
theorem ok72:bA Tryz.prog 72=true:=by kernel_rfl
theorem ok73:bA Tryz.prog 73=true:=by kernel_rfl
theorem ok104:bA Tryz.prog 104=true:=by kernel_rfl
theorem ok123:bA Tryz.prog 123=true:=by kernel_rfl
theorem ok146:bA Tryz.prog 146=true:=by kernel_rfl
theorem ok161:bA Tryz.prog 161=true:=by kernel_rfl
theorem ok187:bA Tryz.prog 187=true:=by kernel_rfl
theorem one62:jK Tryz.prog 62=true:=by kernel_rfl
theorem pl48:dN Tryz.prog 48=some [(0,1),(1,1),(2,1)]:=by kernel_rfl
theorem zr48:dL Tryz.prog 48=some [(Value.string (ByteArray.mk #[])),(Value.int IntKind.i64 0),(Value.int IntKind.i64 0)]:=by kernel_rfl
theorem ar_fit_1 (a b:Sl) (ha:0<=a.At/\a.At<=600000) (hb:0<=b.At/\b.At<=600000):
    Pur cfg 147 [vSl a,vSl b] (vI (a.At-b.At)):=by
 refine zW Tryz.func147 O Tryz.ntmps147 Tryz.results147 O ?_
 intro z hz
 refine R O<|zS O O (qP O O) ?_
 rintro _ _ ⟨b1,rfl,rfl⟩
 refine zS O O (qP O O) ?_
 rintro _ _ ⟨b2,rfl,rfl⟩
 refine G O<|zA<|R O<|zJ O zTo<|zE one3 (A 1 O) O<|zJ O zTo<|zE one3 (A 0 O) O<|yY O ⟨by omega,by omega⟩<|G O<|zA<|zN<|zV O ?_
 rfl
theorem ar_sorted (b:List Sl) (hn:b.length<=40) (hb:slB b):Pur cfg 146 [sZ b,.c (.fn (.func 147) [] [])] (sZ (mP b)):=by
  have h:=OwnR.pur (sts_sorted (.fn (.func 147) [] []) tZ Prod.snd (fun x=>0<=x.1.At/\x.1.At<=600000) (zSl,0) (fun x y hx hy=>FnPur.of_pur (first:=[]) (cap:=[]) (by kernel_rfl) (ar_fit_1 x.1 y.1 hx hy)) b.zipIdx (zip_inc b) (fun x hx=>by have:=hb x.1 (zip_mem hx);omega) (by rw [List.length_zipIdx];exact hn))
  rw [show b.zipIdx.map mA=b.map Sl.cells from zip_enc b,show (srt tZ Prod.snd b.zipIdx).map mA=(mP b).map Sl.cells from srt_enc b] at h
  exact h
theorem ar_fit (l:List Lifetime) (S:List Sl) (k:Nat) (hl:l.length<=40) (hS:S.length=l.length) (hk:k<l.length) (hb:slB S) (hz0:pK l):
    Pur cfg 104 [vLs l,sZ S,vI k] (vI (mX l S k)):=by
 refine zW Tryz.func104 O Tryz.ntmps104 Tryz.results104 O ?_
 intro z hz
 have hlk:=zGk hk
 have hzk:=hz0 k hk
 have hsl:=srtA_len (bsy l S k)
 have hbl:=bsy_len2 l S k
 refine R O<|G O<|zA<|R O<|G O<|qT _ (kZ 48 3)<|zA<|zF<|R O<|G O<|qD O el33<|G O<|zA<|zP<|zU ⟨[(15,.c _),(7,.c _),(0,.c _),(2,.c _),(13,.c _),(14,.c _)],[_]⟩ (Weak.mk [true] ⟨zB,zB,zB,zB,zB,zB,T⟩ O)<|qF 2 1 O O (Nat×Value) (fun ⟨i,sv⟩=>[(15,vI i),(7,.c (.lit sv))]) (fun ⟨i,sv⟩=>[E.vec sv 48 3 ((fR (sJ l k) 0 (S.take i)).map Sl.cells)]) (fun ⟨i,sv⟩=>i<=S.length) (fun ⟨i,sv⟩=>S.length-i) ⟨⟨0,(.slice none 0 0)⟩,(by omega),Weak.mk [true] ⟨zB,zB,zB,zB,zB,zB,T⟩ O⟩ ?_
 rintro ⟨i,sv⟩ hi
 show AWP _ _ _ _ _ ⟨[(15,vI i),(7,.c (.lit sv))]++_,[E.vec sv 48 3 ((fR (sJ l k) 0 (S.take i)).map Sl.cells)]++_⟩
 refine R O<|yC O<|zA<|zF<|zD O (fun c1=>?_) (fun c1=>?_)
 ·try simp only [sx] at c1
  obtain ⟨s,hs⟩:=qU S i (by omega)
  have hli:=zGk (l:=l) (i:=i) (by omega)
  refine zI<|zF<|zP<|R O<|G O<|zY O el33 (by omega) (v (by assumption))<|zQ agg48 zO O<|zS O O (yZ O zr48) ?_
  rintro _ _ ⟨b2,rfl,rfl⟩
  refine G O<|Y 0 sz48 O<|qT _ (qM 0 O 9 _ PLe.ptr)<|zA<|zF<|qW 19 mixed (by kernel_rfl) O O<|zL O O (qB O fd48_2 O)<|zL O O (zC O one3 O zO O)<|zL O O (yH O O O)<|zL O O (zM O O)<|qJ [] O O O O gv1 T (fun g5_3=>zM O O) O<|qJ [] O O O O gv1 T (fun g5_3=>zM O O) O<|qJ [(24,_),(25,_)] O O O O gv1 ⟨O,O,O,O,T⟩ (fun g5_3=>zAi O O O) O<|zL O O (wV O O O (fun h=>h) O)<|zL O O (zM O O)<|qJ [] O O O O gv1 T (fun g5_8=>zM O O) O<|qJ [] O O O O gv1 T (fun g5_8=>zM O O) O<|qJ [(29,_),(30,_)] O O O O gv1 ⟨O,O,O,O,T⟩ (fun g5_8=>qH O el62 O O (by omega) (v hli)) O<|qJ [(31,_)] O O O O gv1 ⟨O,O,T⟩ (fun g5_8=>qC O zQi O zO O) O<|qJ [] O O O O gv1 T (fun g5_8=>zM O O) O<|qJ [] O O O O gv1 T (fun g5_8=>zM O O) O<|qJ [(33,_),(34,_)] O O O O gv1 ⟨O,O,O,O,T⟩ (fun g5_8=>qH O el62 O O (by omega) (v hlk)) O<|qJ [(35,_)] O O O O gv1 ⟨O,O,T⟩ (fun g5_8=>qC O zQi O zO O) O<|qJ [(32,_),(36,_)] O O O O gv1 ⟨O,O,O,O,T⟩ (fun g5_8=>qR O ok44 (zQd _ _) ⟨zB,O,zB,O,T⟩) O<|zL O O (wV O O O (fun h=>h) O)<|yM<|zA<|zD O (fun c2=>?_) (fun c2=>?_)
  ·try simp only [sx] at c2
   refine zK O<|G O<|zQ agg48 zO O<|zZ O (yJ O el33 zr48 O O O O)<|zS O O (yI 0 O el33 O O O (by have:=zQw (bsyF_len l k) (S.take i) 0;rw [List.length_take] at this;simp only [List.length_map,List.length_cons,List.length_nil];omega) (by have:=zQw (bsyF_len l k) (S.take i) 0;rw [List.length_take] at this;simp only [List.length_map,List.length_cons,List.length_nil];omega)) ?_
   rintro _ _ ⟨sv3,rfl,rfl⟩
   refine G O<|zA<|zK O<|qA O ⟨by omega,by omega⟩<|G O<|zA ?_
   refine ⟨⟨i+1,sv3⟩,(by omega),(by show S.length-(i+1)<S.length-i;omega),Weak.mk [true] ⟨zB,zB,zB,zB,zB,zB,T⟩ (by exact yQ (by rw [wS _ hs];unfold sJ;rw [if_pos c2,List.map_append];rfl))⟩
  ·try simp only [sx] at c2
   refine zI<|zK O<|qA O ⟨by omega,by omega⟩<|G O<|zA ?_
   refine ⟨⟨i+1,sv⟩,(by omega),(by show S.length-(i+1)<S.length-i;omega),Weak.mk [true] ⟨zB,zB,zB,zB,zB,zB,T⟩ (by exact yQ (by rw [wS _ hs];unfold sJ;rw [if_neg (fun k9=>by rcases c2 with (q|q)|q;omega;exact k9.1.2 q;exact absurd (k9.2.symm.trans q) (by simp)),List.append_nil]))⟩
 ·try simp only [sx] at c1
  rw [qX (l:=S) (k:=i) (by omega)]
  refine qK<|R O<|G O<|zA<|zF<|zF<|zU _ (yT 0 O (regs':=[(7,_)]) (μ':=[]) ⟨FLe.sl,T⟩ T)<|zK O<|G O<|qS O ok146 (ar_sorted (bsy l S k) (by have:=bsy_len2 l S k;omega) (bsy_sub hb)) ⟨zB,O,zB,O,T⟩<|qD O el33<|G O<|zA<|zP<|zU ⟨[(47,.c _),(10,.c _),(0,.c _),(2,.c _),(45,.c _),(46,.c _)],[]⟩ (Weak.mk [] ⟨zB,zB,zB,zB,zB,zB,T⟩ O)<|qF 2 0 O O (Nat×Int) (fun ⟨j,a⟩=>[(47,vI j),(10,vI a)]) (fun ⟨j,a⟩=>[]) (fun ⟨j,a⟩=>j<=(mP (bsy l S k)).length/\(0<=a)/\(a<=700000)/\(mX l S k=jF (lfA l k).Size a ((mP (bsy l S k)).drop j))) (fun ⟨j,a⟩=>(mP (bsy l S k)).length-j) ⟨⟨0,0⟩,⟨by omega,by omega,by omega,O⟩,Weak.mk [] ⟨zB,VLe.of_eq (O),zB,zB,zB,zB,T⟩ O⟩ ?_
  rintro ⟨j,a⟩ ⟨hj,hq1,hq2,hq3⟩
  show AWP _ _ _ _ _ ⟨[(47,vI j),(10,vI a)]++_,[]++_⟩
  refine R O<|yC O<|zA<|zF<|zD O (fun c3=>?_) (fun c3=>?_)
  ·try simp only [sx] at c3
   obtain ⟨s,hs⟩:=qU (mP (bsy l S k)) j (by omega)
   have hsb:=bsy_sub (l:=l) (k:=k) hb s (zLz.1 (qE hs))
   refine zI<|zF<|zP<|R O<|zY O el33 (by omega) (v (by assumption))<|zQ agg48 zO O<|zS O O (yZ O zr48) ?_
   rintro _ _ ⟨b4,rfl,rfl⟩
   refine Y 0 sz48 O<|qT _ (qM 0 O 12 _ PLe.ptr)<|zA<|zF<|zF<|qW 10 mixed (by kernel_rfl) O O<|zL O O (zM O O)<|zL O O (zM O O)<|zL O O (zM O O)<|zL O O (qH O el62 O O (by omega) (v hlk))<|zL O O (qB O zCm O)<|zL O O (zC O one3 O zO O)<|zL O O (wC O O O ⟨by omega,by omega⟩)<|zL O O (qB O zTo O)<|zL O O (zC O one3 O zO O)<|zL O O (wL O O O)<|yM<|zA<|zD O (fun c4=>?_) (fun c4=>?_)
   ·try simp only [sx] at c4
    have hst:=scan_stop hs c4
    refine qK<|R O<|G O<|G O<|zA<|zN<|zV O ?_
    rw [hq3,hst]
   ·try simp only [sx] at c4
    have hst:=scan_next hs (show ¬a+(lfA l k).Size<=s.At by omega)
    refine zI<|zK O<|G O<|zT O zTo<|zE one3 zO O<|zT O fd48_2<|zE one3 zO O<|qA O ⟨by omega,by omega⟩<|zZ O (zFb O O O)<|G O<|zA<|zK O<|qA O ⟨by omega,by omega⟩<|G O<|zA ?_
    refine ⟨⟨j+1,max a (s.At+s.Len)⟩,⟨by omega,by omega,by omega,hq3.trans hst⟩,(by show (mP (bsy l S k)).length-(j+1)<(mP (bsy l S k)).length-j;omega),Weak.mk [] ⟨zB,zB,zB,zB,zB,zB,T⟩ O⟩
  ·try simp only [sx] at c3
   refine qK<|R O<|G O<|G O<|zA<|zN<|zV O ?_
   rw [hq3,wG (by omega)];rfl
theorem ref41_Overlap (a b:Lifetime):
    Pur cfg 187 [vL a,vL b] (vB (jZ a b)):=by
 refine zW Tryz.func187 O Tryz.ntmps187 Tryz.results187 O ?_
 exact m9
theorem ref41_Validate (l:List Lifetime) (hl:l.length<=1000000):
    Pur cfg 72 [vLs l] (vI (dT l)):=by
 refine zW Tryz.func72 O Tryz.ntmps72 Tryz.results72 O ?_
 intro z hz
 refine R O<|G O<|zA<|zF<|R O<|G O<|zA<|zP<|zU ⟨[(3,.c _),(0,.c _)],[]⟩ (Weak.mk [] ⟨zB,zB,T⟩ O)<|qF 1 0 O O (Nat) (fun k=>[(3,vI k)]) (fun k=>[]) (fun k=>k<=l.length/\dT l=fI (l.take k) (l.drop k)) (fun k=>l.length-k) ⟨0,⟨by omega,O⟩,Weak.mk [] ⟨zB,zB,T⟩ O⟩ ?_
 rintro k ⟨hk,hv⟩
 refine zF<|R O<|G O<|G O<|qD O el62<|yC O<|zA<|zD O (fun c1=>?_) (fun c1=>?_)
 ·try simp only [sx] at c1
  obtain ⟨x,hx⟩:=qU l k (by omega)
  refine zI<|zF<|zP<|zF<|R O<|G O<|G O<|zY O el62 (by omega) (v hx)<|zT O zPr<|zE one9 zO O<|qS O ok120 (zGv _) ⟨zB,O,T⟩<|wE O<|zA<|zD O (fun c2=>?_) (fun c2=>?_)
  ·try simp only [sx] at c2
   refine R O<|G O<|zA<|zN<|zV O ?_
   rw [zGc hv hx (check_name c2) (by decide)]
  ·try simp only [sx] at c2
   refine zI<|zF<|R O<|G O<|zA<|zP<|zU ⟨[(4,.c _),(0,.c _),(3,.c _)],[]⟩ (Weak.mk [] ⟨zB,zB,zB,T⟩ O)<|qF 1 0 O O (Nat) (fun j=>[(4,vI j)]) (fun j=>[]) (fun j=>j<=k/\((l.take j).any fun y=>decide (y.Name=x.Name))=false) (fun j=>k-j) ⟨0,⟨by omega,O⟩,Weak.mk [] ⟨zB,zB,zB,T⟩ O⟩ ?_
   rintro j ⟨hj,hp⟩
   refine zF<|R O<|G O<|G O<|yC O<|zA<|zD O (fun c3=>?_) (fun c3=>?_)
   ·try simp only [sx] at c3
    obtain ⟨y,hy⟩:=qU l j (by omega)
    refine zI<|zF<|zP<|zF<|qW 11 mixed (by kernel_rfl) O O<|zL O O (zM O O)<|zL O O (zM O O)<|zL O O (qH O el62 O O (by omega) (v hy))<|zL O O (qB O zPr O)<|zL O O (zC O one9 O zO O)<|zL O O (zM O O)<|zL O O (zM O O)<|zL O O (qH O el62 O O (by omega) (v hx))<|zL O O (qB O zPr O)<|zL O O (zC O one9 O zO O)<|zL O O (kE O O O)<|yM<|zA<|zD O (fun c4=>?_) (fun c4=>?_)
    ·try simp only [sx] at c4
     refine R O<|G O<|zA<|zN<|zV O ?_
     rw [zGc hv hx (check_dup c2 (any_of_get hy (by omega) c4)) (by decide)]
    ·try simp only [sx] at c4
     refine zI<|zK O<|G O<|qA O ⟨by omega,by omega⟩<|G O<|zA ?_
     refine ⟨j+1,⟨by omega,any_next_no hy hp c4⟩,(by omega),Weak.mk [] ⟨zB,zB,zB,T⟩ O⟩
   ·try simp only [sx] at c3
    have hjk:j=k:=by omega
    rw [hjk] at hp
    refine qK<|zF<|qW 35 mixed (by kernel_rfl) O O<|zL O O (zM O O)<|zL O O (zM O O)<|zL O O (qH O el62 O O (by omega) (v hx))<|zL O O (qB O zIa O)<|zL O O (zC O one3 O zO O)<|zL O O (kM O O O)<|zL O O (zM O O)<|qJ [] O O O O gv1 T (fun g11_6=>zM O O) O<|qJ [] O O O O gv1 T (fun g11_6=>zM O O) O<|qJ [(41,_),(42,_)] O O O O gv1 ⟨O,O,O,O,T⟩ (fun g11_6=>qH O el62 O O (by omega) (v hx)) O<|qJ [(43,_)] O O O O gv1 ⟨O,O,T⟩ (fun g11_6=>qB O zNf O) O<|qJ [(44,_)] O O O O gv1 ⟨O,O,T⟩ (fun g11_6=>zC O one3 O zO O) O<|qJ [] O O O O gv1 T (fun g11_6=>zM O O) O<|qJ [] O O O O gv1 T (fun g11_6=>zM O O) O<|qJ [(46,_),(47,_)] O O O O gv1 ⟨O,O,O,O,T⟩ (fun g11_6=>qH O el62 O O (by omega) (v hx)) O<|qJ [(48,_)] O O O O gv1 ⟨O,O,T⟩ (fun g11_6=>qB O zIa O) O<|qJ [(49,_)] O O O O gv1 ⟨O,O,T⟩ (fun g11_6=>zC O one3 O zO O) O<|qJ [(45,_),(50,_)] O O O O gv1 ⟨O,O,O,O,T⟩ (fun g11_6=>kM O O O) O<|zL O O (zAq O O O O (fun h=>(lzf h)))<|zL O O (zM O O)<|qJ [] O O O O gv1 T (fun g11_19=>zM O O) O<|qJ [] O O O O gv1 T (fun g11_19=>zM O O) O<|qJ [(54,_),(55,_)] O O O O gv1 ⟨O,O,O,O,T⟩ (fun g11_19=>qH O el62 O O (by omega) (v hx)) O<|qJ [(56,_)] O O O O gv1 ⟨O,O,T⟩ (fun g11_19=>qB O zCm O) O<|qJ [(57,_)] O O O O gv1 ⟨O,O,T⟩ (fun g11_19=>zC O one3 O zO O) O<|qJ [(58,_)] O O O O gv1 ⟨O,O,T⟩ (fun g11_19=>kM O O O) O<|zL O O (zAq O O O O (fun h=>(lzf h)))<|zL O O (zM O O)<|qJ [] O O O O gv1 T (fun g11_27=>zM O O) O<|qJ [] O O O O gv1 T (fun g11_27=>zM O O) O<|qJ [(62,_),(63,_)] O O O O gv1 ⟨O,O,O,O,T⟩ (fun g11_27=>qH O el62 O O (by omega) (v hx)) O<|qJ [(64,_)] O O O O gv1 ⟨O,O,T⟩ (fun g11_27=>qB O zCm O) O<|qJ [(65,_)] O O O O gv1 ⟨O,O,T⟩ (fun g11_27=>zC O one3 O zO O) O<|qJ [(66,_)] O O O O gv1 ⟨O,O,T⟩ (fun g11_27=>yH O O O) O<|zL O O (zAq O O O O (fun h=>(lzf h)))<|yM<|zA<|zD O (fun c5=>?_) (fun c5=>?_)
    ·try simp only [sx] at c5
     refine R O<|G O<|zA<|zN<|zV O ?_
     rw [zGc hv hx (check_arg c2 hp (by omega)) (by decide)]
    ·try simp only [sx] at c5
     refine zI<|zK O<|G O<|qA O ⟨by omega,by omega⟩<|G O<|zA ?_
     refine ⟨k+1,⟨by omega,valid_ok hv hx (check_ok c2 hp (by omega))⟩,(by omega),Weak.mk [] ⟨zB,zB,T⟩ O⟩
 ·try simp only [sx] at c1
  refine qK<|R O<|G O<|zA<|zN<|zV O ?_
  rw [zRt hv (by omega)]
theorem ar_place (l:List Lifetime) (hl:l.length<=40) (hz0:pK l):
    Pur cfg 54 [vLs l,.c (.sl 1 ((dI l).map jN))] (.tup [sZ (hC l).1,vI (hC l).2]):=by
 refine zW Tryz.func54 O Tryz.ntmps54 Tryz.results54 O ?_
 intro z hz
 refine R O<|G O<|G O<|zA<|R O<|G O<|qD O el62<|zS O O (ope_make l.length O el33 zr48 O O (by simp) (by simp) (by omega) (by omega)) ?_
 rintro _ _ ⟨sv1,rfl,rfl⟩
 refine G O<|zA<|R O<|G O<|zA<|zF<|R O<|G O<|qD O el67<|G O<|zA<|zP<|zU ⟨[(16,.c _),(7,.c _),(0,.c _),(6,.c _),(14,.c _),(15,.c _)],[_]⟩ (Weak.mk [true] ⟨zB,zB,zB,zB,zB,zB,T⟩ O)<|qF 2 1 O O (Nat) (fun t=>[(16,vI t),(7,vI (plF l ((dI l).take t)).2)]) (fun t=>[E.vec sv1 48 3 ((gQ l (plF l ((dI l).take t)).1).map Sl.cells)]) (fun t=>t<=(dI l).length) (fun t=>(dI l).length-t) ⟨0,(by omega),Weak.mk [true] ⟨zB,VLe.of_eq (O),zB,zB,zB,zB,T⟩ (by exact yQ (by rw [show (plF l ((dI l).take 0)).1=List.replicate l.length (-1) from rfl,slos_init,List.map_replicate];rfl))⟩ ?_
 rintro t ht
 refine R O<|yC O<|zA<|zF<|zD O (fun c1=>?_) (fun c1=>?_)
 ·try simp only [sx] at c1
  obtain ⟨x,hx⟩:=qU (dI l) t (by omega)
  have hxl:=ord_lt hx
  have hlx:=zGk hxl
  have J:=plJ hz0 t (by have:=zFx l;omega)
  have hzx:=hz0 x hxl
  have hpl:=J.pl.len
  have hff:=ffit_le (k:=x) J.pl (by omega)
  have hf0:=ffit_pos l (gQ l (plF l ((dI l).take t)).1) x
  have hJs:=J.sz
  have hol:=zFx l
  have hsx:slo (lfA l x) (mX l (gQ l (plF l ((dI l).take t)).1) x)=⟨(lfA l x).Name,mX l (gQ l (plF l ((dI l).take t)).1) x,(lfA l x).Size⟩:=by unfold slo;rw [if_neg (by omega)]
  refine zI<|zF<|zP<|R O<|zY O el67 (by omega) (v (by assumption))<|zE one3 zO O<|G O<|zA<|R O<|G O<|G O<|G O<|zZ O (zCe 0 O ok104 O (ar_fit l (gQ l (plF l ((dI l).take t)).1) x hl (zDu hpl) hxl (J.pl.sl hz0 (by omega)) hz0) O ⟨.inr ⟨zB,O⟩,.inl ⟨O,O⟩,.inr ⟨zB,O⟩,T⟩)<|G O<|zA<|zF<|qW 15 mixed (by kernel_rfl) O O<|zL O O (zM O O)<|zL O O (zM O O)<|zL O O (zM O O)<|zL O O (zM O O)<|zL O O (qH O el62 O O (by omega) (v hlx))<|zL O O (qB O zPr O)<|zL O O (zC O one9 O zO O)<|zL O O (zM O O)<|zL O O (zM O O)<|zL O O (zM O O)<|zL O O (qH O el62 O O (by omega) (v hlx))<|zL O O (qB O zCm O)<|zL O O (zC O one3 O zO O)<|zL O O (kU O zr48 pl48 O)<|zL O O (qO 0 O el33 O O O (by omega) (by rw [List.length_map,zDu hpl];omega))<|yM<|zAo O O (kN O sz48 O O O (zDz 0 O (wM (zFf hpl (zNx (by omega))) O) O))<|zA<|zK O<|G O<|G O<|G O<|G O<|zY O el62 (by omega) (v hlx)<|zT O zCm<|zE one3 zO O<|qA O ⟨by omega,by omega⟩<|zZ O (zFb O O O)<|G O<|zA<|zK O<|qA O ⟨by omega,by omega⟩<|G O<|zA ?_
  refine ⟨t+1,(by omega),(by omega),Weak.mk [true] ⟨zB,VLe.of_eq (congrArg vI (by rw [zFm hx];rfl)),zB,zB,zB,zB,T⟩ (by exact yQ (by rw [zFm hx];unfold plS;rw [slos_set hpl,List.map_set,hsx];rfl))⟩
 ·try simp only [sx] at c1
  have ht0:(dI l).take t=dI l:=qX (by omega)
  rw [ht0]
  refine qK<|zF<|zU _ (yT 0 O (regs':=[(6,_)]) (μ':=[]) ⟨FLe.sl,T⟩ T)<|zK O<|G O<|G O<|G O<|G O<|zA<|zN<|fin2 (D O) (D O) ?_
  rfl
theorem ar_Plan_1 (l:List Lifetime) (x y:Nat) (hz0:pK l) (hx:x<l.length) (hy:y<l.length):
    Pur cfg 56 [vI x,vI y,.c (.iptr [.sl 4 (l.map Lifetime.cells)])] (vI (lZ l x-lZ l y)):=by
 refine zW Tryz.func56 O Tryz.ntmps56 Tryz.results56 O ?_
 intro z hz
 have hlx:=zGk hx
 have hly:=zGk hy
 have hzx:=hz0 x hx
 have hzy:=hz0 y hy
 refine R O<|G O<|zA<|zF<|qW 12 mixed (by kernel_rfl) O O<|zL O O (zC O one62 O zO O)<|zL O O (zM O O)<|zL O O (qH O el62 O O (by omega) (v hly))<|zL O O (qB O zCm O)<|zL O O (zC O one3 O zO O)<|zL O O (zC O one62 O zO O)<|zL O O (zM O O)<|zL O O (qH O el62 O O (by omega) (v hlx))<|zL O O (qB O zCm O)<|zL O O (zC O one3 O zO O)<|zL O O (kI O O O ⟨by omega,by omega⟩)<|zL O O (yR O O)<|yM<|zA<|zN<|zV O ?_
 exact congrArg vI (by unfold lZ;omega)
theorem ar_sortedI (l:List Lifetime) (hn:l.length<=40) (hz0:pK l):Pur cfg 55 [.c (.sl 1 ((List.range l.length).map jN)),.c (.fn (.func 56) [] [.iptr [.sl 4 (l.map Lifetime.cells)]])] (.c (.sl 1 ((dI l).map jN))):=
  OwnR.pur (sti_sorted (.fn (.func 56) [] [.iptr [.sl 4 (l.map Lifetime.cells)]]) (lZ l) id (fun x=>x<l.length) 0 (fun x y hx hy=>FnPur.of_pur (first:=[]) (cap:=[.iptr [.sl 4 (l.map Lifetime.cells)]]) (by kernel_rfl) (ar_Plan_1 l x y hz0 hx hy)) (List.range l.length) (zSr _) (fun x hx=>List.mem_range.1 hx) (by rw [List.length_range];exact hn))
theorem ar_Plan (l:List Lifetime) (hl:l.length<=40) (hv:dT l=0):
    Pur cfg 26 [vLs l] (.tup [sZ (hC l).1,vI (hC l).2,vI 0]):=by
 refine zW Tryz.func26 O Tryz.ntmps26 Tryz.results26 O ?_
 intro z hz
 have hz0:=szOk_of hv
 have hJ:=(plJ hz0 l.length (Nat.le_refl _)).sz
 have ht0:(dI l).take l.length=dI l:=qX (by rw [zFx];omega)
 rw [ht0] at hJ
 refine R O<|zS O O (qP O O) ?_
 rintro _ _ ⟨b1,rfl,rfl⟩
 refine qT _ (qM 0 O 1 _ PLe.ptr)<|G O<|G O<|G O<|zA<|zF<|R O<|zE one62 zO O<|qS O ok43 (zOr l (by omega)) ⟨zB,O,T⟩<|G O<|zA<|R O<|G O<|wA O<|zA<|zD O (fun c1=>?_) (fun c1=>?_)
 ·try simp only [sx] at c1
  exact absurd hv c1
 ·try simp only [sx] at c1
  refine zI<|R O<|G O<|qT _ (kZ 3 1)<|zA<|zF<|R O<|zE one62 zO O<|qD O el62<|G O<|zA<|zP<|zU ⟨[(17,.c _),(6,.c _),(1,.c _),(16,.c _)],[_]⟩ (Weak.mk [true] ⟨zB,zB,zB,zB,T⟩ O)<|qF 2 1 O O (Nat×Value) (fun ⟨i,sv⟩=>[(17,vI i),(6,.c (.lit sv))]) (fun ⟨i,sv⟩=>[E.vec sv 3 1 ((List.range i).map jN)]) (fun ⟨i,sv⟩=>i<=l.length) (fun ⟨i,sv⟩=>l.length-i) ⟨⟨0,(.slice none 0 0)⟩,(by omega),Weak.mk [true] ⟨zB,zB,zB,zB,T⟩ O⟩ ?_
  rintro ⟨i,sv⟩ hi
  show AWP _ _ _ _ _ ⟨[(17,vI i),(6,.c (.lit sv))]++_,[E.vec sv 3 1 ((List.range i).map jN)]++_⟩
  refine R O<|yC O<|zA<|zF<|zD O (fun c2=>?_) (fun c2=>?_)
  ·try simp only [sx] at c2
   obtain ⟨x,hx⟩:=qU l i (by omega)
   refine zI<|zF<|zP<|R O<|G O<|G O<|zA<|zK O<|G O<|G O<|zZ O (yJ O el67 zr3 O O O O)<|zS O O (yI 0 O el67 O O O (by simp only [List.length_map,List.length_range,List.length_cons,List.length_nil];omega) (by simp only [List.length_map,List.length_range,List.length_cons,List.length_nil];omega)) ?_
   rintro _ _ ⟨sv3,rfl,rfl⟩
   refine G O<|zA<|zK O<|qA O ⟨by omega,by omega⟩<|G O<|zA ?_
   refine ⟨⟨i+1,sv3⟩,(by omega),(by show l.length-(i+1)<l.length-i;omega),Weak.mk [true] ⟨zB,zB,zB,zB,T⟩ (by exact yQ (by rw [List.range_succ,List.map_append];rfl))⟩
  ·try simp only [sx] at c2
   have hil:i=l.length:=by omega
   subst hil
   refine qK<|zF<|zU _ (yT 0 O (regs':=[(6,_)]) (μ':=[]) ⟨FLe.sl,T⟩ T)<|qW 10 mixed (by kernel_rfl) O O<|zL O O (zC O one62 O zO O)<|zL O O (zM O O)<|zL O O (zFr O O O O O)<|zL O O (qR O ok55 (ar_sortedI l hl hz0) ⟨zB,O,zB,O,T⟩)<|zL O O (qR O ok54 (ar_place l hl hz0) ⟨zB,O,zB,O,T⟩)<|zL O O (yA O O)<|zL O O (zBt O O O)<|zL O O (zBt O O O)<|zL O O (yR O O)<|zL O O (yR O O)<|yM<|zA<|zF<|R O<|G O<|zZ O (yH O O O)<|zA<|zD O (fun c3=>?_) (fun c3=>?_)
   ·try simp only [sx] at c3
    have:(hC l).2<=4096*l.length:=hJ.2
    exact absurd c3 (by omega)
   ·refine zI<|R O<|G O<|G O<|G O<|G O<|G O<|zA<|zN<|fin3 (D O) (D O) (D O) ?_
    rfl
theorem r42_clash (a b:Lifetime) (x y:Int) (ha:1<=a.Size/\a.Size<=4096) (hb:1<=b.Size/\b.Size<=4096) (hx: -1<=x/\x<=700000) (hy: -1<=y/\y<=700000):
    Pur cfg 161 [vL a,vL b,vI x,vI y] (vB (clB a b x y)):=by
 refine zW Tryz.func161 O Tryz.ntmps161 Tryz.results161 O ?_
 intro z hz
 refine R O<|zS O O (qP O O) ?_
 rintro _ _ ⟨b1,rfl,rfl⟩
 refine zS O O (qP O O) ?_
 rintro _ _ ⟨b2,rfl,rfl⟩
 refine G O<|zA<|R O<|zQ zQi (A 1 O) O<|zQ zQi (A 0 O) O<|qS O ok187 (ref41_Overlap a b) ⟨zB,O,zB,O,T⟩<|G O<|rL0 O (fun g1_3=>zH O zCm O) O<|B 13 O (fun g1_3=>zC O one3 O (A 1 O) O) O<|B 14 O (fun g1_3=>yH O O O) O<|yW O (fun h=>h)<|G O<|rL0 O (fun g1_8=>zH O zCm O) O<|B 18 O (fun g1_8=>zC O one3 O (A 0 O) O) O<|B 19 O (fun g1_8=>yH O O O) O<|yW O (fun h=>h)<|G O<|rL0 O (fun g1_13=>zM O O) O<|rL0 O (fun g1_13=>zM O O) O<|rL0 O (fun g1_13=>zH O zCm O) O<|B 25 O (fun g1_13=>zC O one3 O (A 0 O) O) O<|rLz [(24,_),(26,_)] O gv1 ⟨O,O,O,O,T⟩ (fun g1_13=>wC O O O ⟨by omega,by omega⟩) O<|rLz [(23,_),(27,_)] O gv1 ⟨O,O,O,O,T⟩ (fun g1_13=>kM O O O) O<|yW O (fun h=>h)<|G O<|rL0 O (fun g1_21=>zM O O) O<|rL0 O (fun g1_21=>zM O O) O<|rL0 O (fun g1_21=>zH O zCm O) O<|B 33 O (fun g1_21=>zC O one3 O (A 1 O) O) O<|rLz [(32,_),(34,_)] O gv1 ⟨O,O,O,O,T⟩ (fun g1_21=>wC O O O ⟨by omega,by omega⟩) O<|rLz [(31,_),(35,_)] O gv1 ⟨O,O,O,O,T⟩ (fun g1_21=>kM O O O) O<|yW O (fun h=>h)<|G O<|zA<|zN<|zV O ?_
 rfl
theorem r42_place (l:List Lifetime) (a:List Int) (k:Nat) (t:Int) (hl:l.length<=40) (hz0:pK l) (hp:PlI l t a) (ht:t<=600000) (hk:k<l.length):
    Pur cfg 123 [vLs l,vIs a,vI k] (.tup [vI (mV l a k (l.length+1)).1,vB (mV l a k (l.length+1)).2]):=by
 refine zW Tryz.func123 O Tryz.ntmps123 Tryz.results123 O ?_
 intro z hz
 have hlk:=zGk hk
 have hzk:=hz0 k hk
 have hpl:=hp.len
 have hrg:∀i:Nat,i<l.length-> -1<=atA a i/\atA a i<=600000:=fun i hi=>by have h1:=hp.rng i _ (zNx (a:=a) (i:=i) (by omega));have h2:=hz0 i hi;omega
 refine R O<|G O<|G O<|zA<|R O<|G O<|zA<|R O<|G O<|zA<|zF<|R O<|G O<|zA<|zP<|zU ⟨[(10,.c _),(8,.c _),(9,.c _),(0,.c _),(1,.c _),(2,.c _)],[]⟩ (Weak.mk [] ⟨zB,zB,zB,zB,zB,zB,T⟩ O)<|qF 3 0 O O (Nat) (fun j=>[(10,vI ((j:Int)-1)),(8,vI (mV l a k j).1),(9,vB (mV l a k j).2)]) (fun j=>[]) (fun j=>j<=l.length+1) (fun j=>l.length+1-j) ⟨0,(by omega),Weak.mk [] ⟨zB,VLe.of_eq (O),VLe.of_eq (O),zB,zB,zB,T⟩ O⟩ ?_
 rintro j hj
 refine zF<|R O<|G O<|G O<|qD O el62<|yC O<|zA<|zD O (fun c1=>?_) (fun c1=>?_)
 ·try simp only [sx] at c1
  have hjl:j<=l.length:=by omega
  refine zI<|zF<|zP<|R O<|G O<|zA<|zF<|R O<|G O<|zZ O (kY O O O)<|G O<|rL0 O (fun g7_2=>zM O O) O<|rL0 O (fun g7_2=>zM O O) O<|rLz [(23,_),(24,_)] O gv1 ⟨O,O,O,O,T⟩ (fun g7_2=>qH O el67 O O (by simp only [Lz,cond_true,cond_false,Bool.and_eq_true,Bool.or_eq_true,Bool.not_eq_true',Bool.not_eq_false',Bool.or_eq_false_iff,Bool.and_eq_false_iff,decide_eq_true_eq,decide_eq_false_iff_not,Bool.not_eq_true,Bool.not_eq_false] at g7_2;omega) (v (show a[((j:Int)-1).toNat]? =some (atA a (j-1)) by rw [show ((j:Int)-1).toNat=j-1 by (simp only [Lz,cond_true,cond_false,Bool.and_eq_true,Bool.or_eq_true,Bool.not_eq_true',Bool.not_eq_false',Bool.or_eq_false_iff,Bool.and_eq_false_iff,decide_eq_true_eq,decide_eq_false_iff_not,Bool.not_eq_true,Bool.not_eq_false] at g7_2;omega)];exact zNx (by simp only [Lz,cond_true,cond_false,Bool.and_eq_true,Bool.or_eq_true,Bool.not_eq_true',Bool.not_eq_false',Bool.or_eq_false_iff,Bool.and_eq_false_iff,decide_eq_true_eq,decide_eq_false_iff_not,Bool.not_eq_true,Bool.not_eq_false] at g7_2;omega)))) O<|B 25 O (fun g7_2=>zC O one3 O zO O) O<|B 26 O (fun g7_2=>kM O O O) O<|yW O (fun h=>h)<|zA<|zD O (fun c2=>?_) (fun c2=>?_)
  ·obtain ⟨q1,q2⟩:=and_t c2
   have q1:=of_decide_eq_true q1
   have q2:=of_decide_eq_true q2
   obtain ⟨m,rfl⟩:∃m,j=m+1:=⟨j-1,by omega⟩
   have q2:atA a m<0:=by simpa using q2
   have hnx:mV l a k (m+1+1)=mV l a k (m+1):=by rw [src_next (zNx (a:=a) (i:=m) (by omega)),if_pos q2]
   refine qK<|zK O<|G O<|qA O ⟨by omega,by omega⟩<|G O<|zA ?_
   exact n8
  ·refine zI<|zF<|R O<|G O<|zZ O (kY O O O)<|zA<|zD O (fun c3=>?_) (fun c3=>?_)
   ·try simp only [sx] at c3
    obtain ⟨m,rfl⟩:∃m,j=m+1:=⟨j-1,by omega⟩
    have q2:¬atA a m<0:=fun k9=>by rw [Bool.and_eq_false_iff] at c2;rcases c2 with q|q;have:=of_decide_eq_false q;omega;exact of_decide_eq_false q (by simpa using k9)
    have hm1:=hz0 m (by omega)
    have hm2:=hrg m (by omega)
    have hx0: -1<=atA a m+(lfA l m).Size/\atA a m+(lfA l m).Size<=700000:=by omega
    have hnx:mV l a k (m+1+1)=gX (fun x=>frB l a k x l.length) (mV l a k (m+1)) (atA a m+(lfA l m).Size):=by rw [src_next (zNx (a:=a) (i:=m) (by omega)),if_neg q2]
    refine qW 11 mixed (by kernel_rfl) O O<|zL O O (zM O O)<|zL O O (zM O O)<|zL O O (qH O el67 O O (by omega) (v (show a[(((m+1:Nat):Int)-1).toNat]? =some (atA a m) by rw [show (((m+1:Nat):Int)-1).toNat=m by omega];exact zNx (by omega))))<|zL O O (zC O one3 O zO O)<|zL O O (zM O O)<|zL O O (zM O O)<|zL O O (qH O el62 O O (by omega) (v (show l[(((m+1:Nat):Int)-1).toNat]? =some (lfA l m) by rw [show (((m+1:Nat):Int)-1).toNat=m by omega];exact zGk (by omega))))<|zL O O (qB O zCm O)<|zL O O (zC O one3 O zO O)<|zL O O (wC O O O ⟨by omega,by omega⟩)<|zL O O (yR O O)<|yM<|zA<|zF<|R O<|G O<|G O<|G O<|zY O el62 (by omega) (v hlk)<|zT O zCm<|zE one3 zO O<|yY O ⟨by omega,by omega⟩<|zZ O (yH O O O)<|G O<|rL0 O (fun g10_8=>zM O O) O<|B 50 O (fun g10_8=>zM O O) O<|rLz [] O N T (fun g10_10=>zM O O) O<|rLz [] O N T (fun g10_10=>zM O O) O<|rLz [(52,_),(53,_)] O N ⟨O,O,O,O,T⟩ (fun g10_10=>kY O O O) O<|B 51 O (fun g10_8=>wV O O O (fun h=>kO (by assumption) h) O) O<|r_or O (fun h=>(lzf h))<|zA<|zD O (fun c4=>?_) (fun c4=>?_)
    ·have hq:=src_c c4 (by omega)
     rw [cnd_q hq] at hnx
     refine qK<|zK O<|G O<|qA O ⟨by omega,by omega⟩<|G O<|zA ?_
     exact n8
    ·have hq:=src_d c4
     refine zI<|R O<|G O<|zA<|zF<|R O<|G O<|zA<|zP<|zU ⟨[(12,.c _),(13,.c _),(0,.c _),(1,.c _),(2,.c _),(8,.c _),(9,.c _),(10,.c _),(11,.c _)],[]⟩ (Weak.mk [] ⟨zB,zB,zB,zB,zB,zB,zB,zB,zB,T⟩ O)<|qF 2 0 O O (Nat) (fun n=>[(12,vB (frB l a k (atA a m+(lfA l m).Size) n)),(13,vI n)]) (fun n=>[]) (fun n=>n<=l.length) (fun n=>l.length-n) ⟨0,(by omega),Weak.mk [] ⟨VLe.of_eq (O),zB,zB,zB,zB,zB,zB,zB,zB,T⟩ O⟩ ?_
     rintro n hn
     refine zF<|R O<|G O<|G O<|qD O el62<|yC O<|zA<|zD O (fun c5=>?_) (fun c5=>?_)
     ·try simp only [sx] at c5
      have hnl:=zGk (l:=l) (i:=n) (by omega)
      have hna:=zNx (a:=a) (i:=n) (by omega)
      have hnz:=hz0 n (by omega)
      have hnr:=hrg n (by omega)
      refine zI<|zF<|zP<|qW 26 mixed (by kernel_rfl) O O<|zL O O (zM O O)<|zL O O (zM O O)<|qJ [] O O O O gv1 T (fun g15_1=>zM O O) O<|qJ [] O O O O gv1 T (fun g15_1=>zM O O) O<|qJ [(65,_),(66,_)] O O O O gv1 ⟨O,O,O,O,T⟩ (fun g15_1=>qH O el67 O O (by omega) (v hna)) O<|qJ [(67,_)] O O O O gv1 ⟨O,O,T⟩ (fun g15_1=>zC O one3 O zO O) O<|qJ [(68,_)] O O O O gv1 ⟨O,O,T⟩ (fun g15_1=>kM O O O) O<|qJ [(69,_)] O O O O gv1 ⟨O,O,T⟩ (fun g15_1=>zM O O) O<|qJ [] O O O O N T (fun g15_7=>zM O O) O<|qJ [] O O O O N T (fun g15_7=>zM O O) O<|qJ [(71,_),(72,_)] O O O O N ⟨O,O,O,O,T⟩ (fun g15_7=>qH O el62 O O (by omega) (v hlk)) O<|qJ [(73,_)] O O O O N ⟨O,O,T⟩ (fun g15_7=>qC O zQi O zO O) O<|qJ [] O O O O N T (fun g15_7=>zM O O) O<|qJ [] O O O O N T (fun g15_7=>zM O O) O<|qJ [(75,_),(76,_)] O O O O N ⟨O,O,O,O,T⟩ (fun g15_7=>qH O el62 O O (by omega) (v hnl)) O<|qJ [(77,_)] O O O O N ⟨O,O,T⟩ (fun g15_7=>qC O zQi O zO O) O<|qJ [] O O O O N T (fun g15_7=>zM O O) O<|qJ [] O O O O N T (fun g15_7=>zM O O) O<|qJ [] O O O O N T (fun g15_7=>zM O O) O<|qJ [(80,_),(81,_)] O O O O N ⟨O,O,O,O,T⟩ (fun g15_7=>qH O el67 O O (by omega) (v hna)) O<|qJ [(82,_)] O O O O N ⟨O,O,T⟩ (fun g15_7=>zC O one3 O zO O) O<|qJ [(74,_),(78,_),(79,_),(83,_)] O O O O N ⟨O,O,O,O,O,O,O,O,T⟩ (fun g15_7=>qR O ok161 (r42_clash (lfA l k) (lfA l n) (atA a m+(lfA l m).Size) (atA a n) hzk hnz hx0 (by omega)) ⟨zB,O,zB,O,zB,O,zB,O,T⟩) O<|qJ [(84,_)] O O O O N ⟨O,O,T⟩ (fun g15_7=>wJ O O) O<|qJ [(70,_)] O O O O gv1 ⟨O,O,T⟩ (fun g15_1=>zAq O O O O (fun h=>kO (by assumption) (lzf h))) O<|zL O O (wV O O O (fun h=>h) O)<|zL O O (yR O O)<|yM<|zA<|zK O<|G O<|qA O ⟨by omega,by omega⟩<|G O<|zA ?_
      refine ⟨n+1,(by omega),(by omega),Weak.mk [] ⟨VLe.of_eq (congrArg vB (by rw [frB_next])),zB,zB,zB,zB,zB,zB,zB,zB,T⟩ O⟩
     ·try simp only [sx] at c5
      have hnn:n=l.length:=by omega
      subst hnn
      refine qK<|R O<|G O<|zA<|zD O (fun c6=>?_) (fun c6=>?_)
      ·try simp only [sx] at c6
       rw [cnd_t hq c6] at hnx
       refine R O<|G O<|G O<|zA<|zK O<|G O<|zA<|zK O<|G O<|qA O ⟨by omega,by omega⟩<|G O<|zA ?_
       exact n8
      ·try simp only [sx] at c6
       rw [cnd_f hq c6] at hnx
       refine zI<|zK O<|G O<|qA O ⟨by omega,by omega⟩<|G O<|zA ?_
       exact n8
   ·try simp only [sx] at c3
    have hj0:j=0:=by omega
    subst hj0
    have hx0: -1<=(0:Int)/\(0:Int)<=700000:=by omega
    have hnx:mV l a k (0+1)=gX (fun x=>frB l a k x l.length) (mV l a k 0) 0:=rfl
    refine zI<|zF<|R O<|G O<|G O<|G O<|zY O el62 (by omega) (v hlk)<|zT O zCm<|zE one3 zO O<|yY O ⟨by omega,by omega⟩<|zZ O (yH O O O)<|G O<|rL0 O (fun g10_8=>zM O O) O<|B 50 O (fun g10_8=>zM O O) O<|rLz [] O N T (fun g10_10=>zM O O) O<|rLz [] O N T (fun g10_10=>zM O O) O<|rLz [(52,_),(53,_)] O N ⟨O,O,O,O,T⟩ (fun g10_10=>kY O O O) O<|B 51 O (fun g10_8=>wV O O O (fun h=>kO (by assumption) h) O) O<|r_or O (fun h=>(lzf h))<|zA<|zD O (fun c4=>?_) (fun c4=>?_)
    ·have hq:=src_c c4 (by omega)
     rw [cnd_q hq] at hnx
     refine qK<|zK O<|G O<|qA O ⟨by omega,by omega⟩<|G O<|zA ?_
     exact j5
    ·have hq:=src_d c4
     refine zI<|R O<|G O<|zA<|zF<|R O<|G O<|zA<|zP<|zU ⟨[(12,.c _),(13,.c _),(0,.c _),(1,.c _),(2,.c _),(8,.c _),(9,.c _),(10,.c _),(11,.c _)],[]⟩ (Weak.mk [] ⟨zB,zB,zB,zB,zB,zB,zB,zB,zB,T⟩ O)<|qF 2 0 O O (Nat) (fun n=>[(12,vB (frB l a k 0 n)),(13,vI n)]) (fun n=>[]) (fun n=>n<=l.length) (fun n=>l.length-n) ⟨0,(by omega),Weak.mk [] ⟨VLe.of_eq (O),zB,zB,zB,zB,zB,zB,zB,zB,T⟩ O⟩ ?_
     rintro n hn
     refine zF<|R O<|G O<|G O<|qD O el62<|yC O<|zA<|zD O (fun c5=>?_) (fun c5=>?_)
     ·try simp only [sx] at c5
      have hnl:=zGk (l:=l) (i:=n) (by omega)
      have hna:=zNx (a:=a) (i:=n) (by omega)
      have hnz:=hz0 n (by omega)
      have hnr:=hrg n (by omega)
      refine zI<|zF<|zP<|qW 26 mixed (by kernel_rfl) O O<|zL O O (zM O O)<|zL O O (zM O O)<|qJ [] O O O O gv1 T (fun g15_1=>zM O O) O<|qJ [] O O O O gv1 T (fun g15_1=>zM O O) O<|qJ [(65,_),(66,_)] O O O O gv1 ⟨O,O,O,O,T⟩ (fun g15_1=>qH O el67 O O (by omega) (v hna)) O<|qJ [(67,_)] O O O O gv1 ⟨O,O,T⟩ (fun g15_1=>zC O one3 O zO O) O<|qJ [(68,_)] O O O O gv1 ⟨O,O,T⟩ (fun g15_1=>kM O O O) O<|qJ [(69,_)] O O O O gv1 ⟨O,O,T⟩ (fun g15_1=>zM O O) O<|qJ [] O O O O N T (fun g15_7=>zM O O) O<|qJ [] O O O O N T (fun g15_7=>zM O O) O<|qJ [(71,_),(72,_)] O O O O N ⟨O,O,O,O,T⟩ (fun g15_7=>qH O el62 O O (by omega) (v hlk)) O<|qJ [(73,_)] O O O O N ⟨O,O,T⟩ (fun g15_7=>qC O zQi O zO O) O<|qJ [] O O O O N T (fun g15_7=>zM O O) O<|qJ [] O O O O N T (fun g15_7=>zM O O) O<|qJ [(75,_),(76,_)] O O O O N ⟨O,O,O,O,T⟩ (fun g15_7=>qH O el62 O O (by omega) (v hnl)) O<|qJ [(77,_)] O O O O N ⟨O,O,T⟩ (fun g15_7=>qC O zQi O zO O) O<|qJ [] O O O O N T (fun g15_7=>zM O O) O<|qJ [] O O O O N T (fun g15_7=>zM O O) O<|qJ [] O O O O N T (fun g15_7=>zM O O) O<|qJ [(80,_),(81,_)] O O O O N ⟨O,O,O,O,T⟩ (fun g15_7=>qH O el67 O O (by omega) (v hna)) O<|qJ [(82,_)] O O O O N ⟨O,O,T⟩ (fun g15_7=>zC O one3 O zO O) O<|qJ [(74,_),(78,_),(79,_),(83,_)] O O O O N ⟨O,O,O,O,O,O,O,O,T⟩ (fun g15_7=>qR O ok161 (r42_clash (lfA l k) (lfA l n) 0 (atA a n) hzk hnz hx0 (by omega)) ⟨zB,O,zB,O,zB,O,zB,O,T⟩) O<|qJ [(84,_)] O O O O N ⟨O,O,T⟩ (fun g15_7=>wJ O O) O<|qJ [(70,_)] O O O O gv1 ⟨O,O,T⟩ (fun g15_1=>zAq O O O O (fun h=>kO (by assumption) (lzf h))) O<|zL O O (wV O O O (fun h=>h) O)<|zL O O (yR O O)<|yM<|zA<|zK O<|G O<|qA O ⟨by omega,by omega⟩<|G O<|zA ?_
      refine ⟨n+1,(by omega),(by omega),Weak.mk [] ⟨VLe.of_eq (congrArg vB (by rw [frB_next])),zB,zB,zB,zB,zB,zB,zB,zB,T⟩ O⟩
     ·try simp only [sx] at c5
      have hnn:n=l.length:=by omega
      subst hnn
      refine qK<|R O<|G O<|zA<|zD O (fun c6=>?_) (fun c6=>?_)
      ·try simp only [sx] at c6
       rw [cnd_t hq c6] at hnx
       refine R O<|G O<|G O<|zA<|zK O<|G O<|zA<|zK O<|G O<|qA O ⟨by omega,by omega⟩<|G O<|zA ?_
       exact j5
      ·try simp only [sx] at c6
       rw [cnd_f hq c6] at hnx
       refine zI<|zK O<|G O<|qA O ⟨by omega,by omega⟩<|G O<|zA ?_
       exact j5
 ·try simp only [sx] at c1
  refine qK<|R O<|G O<|G O<|G O<|G O<|zA<|zN<|fin2 (D O) (D O) ?_
  have hjl:j=l.length+1:=by omega
  subst hjl
  rfl
theorem r42_placeO (l:List Lifetime) (t x:Nat) (hl:l.length<=40) (hz0:pK l) (J:PlJ l t) (ht:t<=l.length) (hxl:x<l.length) (hx:(dI l)[t]? =some x):Pur cfg 123 [vLs l,vIs (plF l ((dI l).take t)).1,vI x] (.tup [vI (mX l (gQ l (plF l ((dI l).take t)).1) x),vB true]):=by
  have h:=r42_place l (plF l ((dI l).take t)).1 x (4096*t) hl hz0 J.pl (by omega) hxl
  rw [src_is hz0 J.pl (J.no x hxl (not_take (ord_nodup l) hx))] at h
  exact h
theorem r42_fit (l:List Lifetime) (hl:l.length<=40) (hz0:pK l):
    Pur cfg 73 [vLs l,.c (.sl 1 ((dI l).map jN))] (.tup [vIs (plF l (dI l)).1,vI (plF l (dI l)).2,vB true]):=by
 refine zW Tryz.func73 O Tryz.ntmps73 Tryz.results73 O ?_
 intro z hz
 refine R O<|G O<|G O<|G O<|zA<|R O<|G O<|qD O el62<|zS O O (ope_make l.length O el67 zr3 O O (by simp) (by simp) (by omega) (by omega)) ?_
 rintro _ _ ⟨sv1,rfl,rfl⟩
 refine G O<|zA<|zF<|R O<|G O<|zA<|zP<|zU ⟨[(8,.c _),(0,.c _),(1,.c _),(7,.c _)],[_]⟩ (Weak.mk [true] ⟨zB,zB,zB,zB,T⟩ O)<|qF 1 1 O O (Nat) (fun i=>[(8,vI i)]) (fun i=>[E.vec sv1 3 1 ((List.replicate i (-1:Int)++List.replicate (l.length-i) 0).map fun n=>[cI n])]) (fun i=>i<=l.length) (fun i=>l.length-i) ⟨0,(by omega),Weak.mk [true] ⟨zB,zB,zB,zB,T⟩ (by exact yQ (by simp))⟩ ?_
 rintro i hi
 have hrl:(List.replicate i (-1:Int)++List.replicate (l.length-i) 0).length=l.length:=by simp only [List.length_append,List.length_replicate];omega
 refine zF<|R O<|G O<|G O<|zZ O (yK 0 O el67 O O)<|yC O<|zA<|zD O (fun c1=>?_) (fun c1=>?_)
 ·try simp only [sx] at c1
  refine zI<|zF<|zP<|zK O<|G O<|G O<|zZ O (qO 0 O el67 O O O (by omega) (by simp only [List.length_map,List.length_append,List.length_replicate];omega))<|zAo O O (kN O sz3 O O O (zDz 0 O (rep_get (by omega)) O))<|zA<|zK O<|G O<|qA O ⟨by omega,by omega⟩<|G O<|zA ?_
  refine ⟨i+1,(by omega),(by omega),Weak.mk [true] ⟨zB,zB,zB,zB,T⟩ (by exact yQ (rep_set (by omega)))⟩
 ·try simp only [sx] at c1
  have hil:i=l.length:=by omega
  subst hil
  refine qK<|R O<|G O<|zA<|zF<|R O<|G O<|zA<|zP<|zU ⟨[(10,.c _),(9,.c _),(0,.c _),(1,.c _),(7,.c _)],[_]⟩ (Weak.mk [true] ⟨zB,zB,zB,zB,zB,T⟩ O)<|qF 2 1 O O (Nat) (fun t=>[(10,vI t),(9,vI (plF l ((dI l).take t)).2)]) (fun t=>[E.vec sv1 3 1 ((plF l ((dI l).take t)).1.map fun n=>[cI n])]) (fun t=>t<=(dI l).length) (fun t=>(dI l).length-t) ⟨0,(by omega),Weak.mk [true] ⟨zB,VLe.of_eq (O),zB,zB,zB,T⟩ (by exact yQ (by rw [show (plF l ((dI l).take 0)).1=List.replicate l.length (-1) from rfl];simp))⟩ ?_
  rintro t ht
  refine zF<|R O<|G O<|G O<|qD O el67<|yC O<|zA<|zD O (fun c2=>?_) (fun c2=>?_)
  ·try simp only [sx] at c2
   obtain ⟨x,hx⟩:=qU (dI l) t (by omega)
   have hxl:=ord_lt hx
   have hlx:=zGk hxl
   have J:=plJ hz0 t (by have:=zFx l;omega)
   have hzx:=hz0 x hxl
   have hpl:=J.pl.len
   have hff:=ffit_le (k:=x) J.pl (by omega)
   have hf0:=ffit_pos l (gQ l (plF l ((dI l).take t)).1) x
   have hJs:=J.sz
   have hol:=zFx l
   refine zI<|zF<|zP<|R O<|G O<|G O<|zY O el67 (by omega) (v (by assumption))<|zE one3 zO O<|G O<|zA<|zF<|R O<|G O<|G O<|zY O el62 (by omega) (v hlx)<|zT O zCm<|zE one3 zO O<|zZ O (yH O O O)<|zA<|zD O (fun c3=>?_) (fun c3=>?_)
   ·try simp only [sx] at c3
    exact absurd c3 (by omega)
   ·try simp only [sx] at c3
    refine zI<|R O<|G O<|G O<|G O<|zZ O (zCe 0 O ok123 O (r42_placeO l t x hl hz0 J (by omega) hxl hx) O ⟨.inr ⟨zB,O⟩,.inl ⟨O,O⟩,.inr ⟨zB,O⟩,T⟩)<|zZ O (yA O O)<|kP O<|kP O<|G O<|G O<|zA<|zF<|R O<|G O<|wE O<|zA<|zD O (fun c4=>?_) (fun c4=>?_)
    ·exact absurd c4 (by simp)
    ·refine zI<|R O<|G O<|G O<|G O<|zZ O (qO 0 O el67 O O O (by omega) (by rw [List.length_map];omega))<|zAo O O (kN O sz3 O O O (zDz 0 O (wM (enc:=fun n=>[cI n]) (zNx (by omega)) O) O))<|zA<|zK O<|G O<|G O<|G O<|G O<|zY O el62 (by omega) (v hlx)<|zT O zCm<|zE one3 zO O<|qA O ⟨by omega,by omega⟩<|zZ O (zFb O O O)<|G O<|zA<|zK O<|G O<|qA O ⟨by omega,by omega⟩<|G O<|zA ?_
     refine ⟨t+1,(by omega),(by omega),Weak.mk [true] ⟨zB,VLe.of_eq (congrArg vI (by rw [zFm hx];rfl)),zB,zB,zB,T⟩ (by exact yQ (by rw [zFm hx];unfold plS;rw [List.map_set];rfl))⟩
  ·try simp only [sx] at c2
   have ht0:(dI l).take t=dI l:=qX (by omega)
   rw [ht0]
   refine qK<|zF<|zU _ (yT 0 O (regs':=[(7,_)]) (μ':=[]) ⟨FLe.sl,T⟩ T)<|zK O<|G O<|G O<|G O<|G O<|G O<|zA<|zN<|fin3 (D O) (D O) (D O) ?_
   rfl
theorem r42_Plan (l:List Lifetime) (hl:l.length<=40) (hv:dT l=0):
    Pur cfg 32 [vLs l] (.tup [sZ (hC l).1,vI (hC l).2,vI 0]):=by
 refine zW Tryz.func32 O Tryz.ntmps32 Tryz.results32 O ?_
 intro z hz
 have hz0:=szOk_of hv
 have J:=plJ hz0 l.length (Nat.le_refl _)
 have ht0:(dI l).take l.length=dI l:=qX (by rw [zFx];omega)
 have hJs:=J.sz
 have hJl:=J.pl.len
 have hJy:=J.ys
 rw [ht0] at hJs hJl hJy
 refine R O<|G O<|G O<|G O<|zA<|zF<|R O<|G O<|qS O ok72 (ref41_Validate l (by omega)) ⟨zB,O,T⟩<|G O<|zA<|R O<|G O<|wA O<|zA<|zD O (fun c1=>?_) (fun c1=>?_)
 ·try simp only [sx] at c1
  exact absurd hv c1
 ·try simp only [sx] at c1
  refine zI<|R O<|G O<|qT _ (kZ 3 1)<|zA<|zF<|R O<|G O<|zA<|zP<|zU ⟨[(7,.c _),(6,.c _),(0,.c _)],[_]⟩ (Weak.mk [true] ⟨zB,zB,zB,T⟩ O)<|qF 2 1 O O (Nat×Value) (fun ⟨i,sv⟩=>[(7,vI i),(6,.c (.lit sv))]) (fun ⟨i,sv⟩=>[E.vec sv 3 1 ((srt (lZ l) id (List.range i)).map jN)]) (fun ⟨i,sv⟩=>i<=l.length) (fun ⟨i,sv⟩=>l.length-i) ⟨⟨0,.slice none 0 0⟩,(by simp),Weak.mk [true] ⟨zB,zB,zB,T⟩ (by exact yQ (by rw [List.range_zero,srt_nil];rfl))⟩ ?_
  rintro ⟨i,sv⟩ hi
  refine zF<|R O<|G O<|G O<|qD O el62<|yC O<|zA<|zD O (fun c2=>?_) (fun c2=>?_)
  ·try simp only [sx] at c2
   have hSl:(srt (lZ l) id (List.range i)).length=i:=by rw [yX,List.length_range]
   have hS:Srt (lZ l) id (srt (lZ l) id (List.range i)):=zHe (zPq (zSr i))
   have htie:∀y,y∈(srt (lZ l) id (List.range i))->id y<id i:=fun y hy=>List.mem_range.1 (zDq.1 hy)
   have hrn:=range_next l i
   have hli:=zGk (l:=l) (i:=i) (by omega)
   have hzi:=hz0 i (by omega)
   generalize hSd:(srt (lZ l) id (List.range i))=S at hSl hS htie hrn
   refine zI<|zF<|zP<|R O<|G O<|G O<|zZ O (yJ O el67 zr3 O O O O)<|zS O O (yI 0 O el67 O O O (by rw [List.length_map,yX,List.length_range];simp only [List.length_cons,List.length_nil];omega) (by rw [List.length_map,yX,List.length_range];simp only [List.length_cons,List.length_nil];omega)) ?_
   rintro _ _ ⟨sv2,rfl,rfl⟩
   refine G O<|zA<|R O<|G O<|G O<|zA<|zP<|zU ⟨[(8,.c _),(0,.c _),(6,.c _),(7,.c _)],[_]⟩ (Weak.mk [true] ⟨zB,zB,zB,zB,T⟩ O)<|qF 1 1 O O (Nat) (fun j=>[(8,vI j)]) (fun j=>[E.vec sv2 3 1 ((mv [] i S j []).map jN)]) (fun j=>j<=S.length/\∀y,y∈S.drop j->ltS (lZ l) id i y) (fun j=>j) ⟨i,⟨by omega,fun y hy=>by rw [List.drop_eq_nil_of_le (by omega)] at hy;cases hy⟩,Weak.mk [true] ⟨zB,zB,zB,zB,T⟩ (by exact yQ (by rw [mv_end hSl,hSd,List.map_append];rfl))⟩ ?_
   rintro j ⟨hj,hq⟩
   refine zF<|zF<|qW 22 mixed (by kernel_rfl) O O<|zL O O (zM O O)<|zL O O (yH O O O)<|zL O O (zM O O)<|qJ [] O O O O gv1 T (fun g10_2=>zM O O) O<|qJ [] O O O O gv1 T (fun g10_2=>zM O O) O<|qJ [] O O O O gv1 T (fun g10_2=>zM O O) O<|qJ [(36,_)] O O O O gv1 ⟨O,O,T⟩ (fun g10_2=>kI O O O ⟨by omega,by omega⟩) O<|qJ [(35,_),(37,_)] O O O O gv1 ⟨O,O,O,O,T⟩ (fun g10_2=>qO 0 O el67 O O O (by simp only [Lz,cond_true,cond_false,Bool.and_eq_true,Bool.or_eq_true,Bool.not_eq_true',Bool.not_eq_false',Bool.or_eq_false_iff,Bool.and_eq_false_iff,decide_eq_true_eq,decide_eq_false_iff_not,Bool.not_eq_true,Bool.not_eq_false] at g10_2;omega) (by rw [List.length_map,zCz];simp only [List.length_nil];omega)) O<|qJ [(38,_)] O O O O gv1 ⟨O,O,T⟩ (fun g10_2=>zC O one3 O (kG 0 O (wM (mv_yd 0 (by simp only [Lz,cond_true,cond_false,Bool.and_eq_true,Bool.or_eq_true,Bool.not_eq_true',Bool.not_eq_false',Bool.or_eq_false_iff,Bool.and_eq_false_iff,decide_eq_true_eq,decide_eq_false_iff_not,Bool.not_eq_true,Bool.not_eq_false] at g10_2;omega) hj) (by rw [List.length_nil];simp only [Lz,cond_true,cond_false,Bool.and_eq_true,Bool.or_eq_true,Bool.not_eq_true',Bool.not_eq_false',Bool.or_eq_false_iff,Bool.and_eq_false_iff,decide_eq_true_eq,decide_eq_false_iff_not,Bool.not_eq_true,Bool.not_eq_false] at g10_2;omega))) O) O<|qJ [(34,_),(39,_)] O O O O gv1 ⟨O,O,O,O,T⟩ (fun g10_2=>qH O el62 O O (by omega) (v (zGk (show S.getD (j-1) 0<l.length by have h1:=htie _ (getD_memS (S:=S) (j:=j-1) 0 (by simp only [Lz,cond_true,cond_false,Bool.and_eq_true,Bool.or_eq_true,Bool.not_eq_true',Bool.not_eq_false',Bool.or_eq_false_iff,Bool.and_eq_false_iff,decide_eq_true_eq,decide_eq_false_iff_not,Bool.not_eq_true,Bool.not_eq_false] at g10_2;omega));simp only [id] at h1;omega)))) O<|qJ [(40,_)] O O O O gv1 ⟨O,O,T⟩ (fun g10_2=>qB O zCm O) O<|qJ [(41,_)] O O O O gv1 ⟨O,O,T⟩ (fun g10_2=>zC O one3 O zO O) O<|qJ [] O O O O gv1 T (fun g10_2=>zM O O) O<|qJ [] O O O O gv1 T (fun g10_2=>zM O O) O<|qJ [] O O O O gv1 T (fun g10_2=>zM O O) O<|qJ [(44,_),(45,_)] O O O O gv1 ⟨O,O,O,O,T⟩ (fun g10_2=>qO 0 O el67 O O O (by omega) (by rw [List.length_map,zCz];simp only [List.length_nil];omega)) O<|qJ [(46,_)] O O O O gv1 ⟨O,O,T⟩ (fun g10_2=>zC O one3 O (kG 0 O (wM (mv_x [] i S [] hj) (by rw [List.length_nil];omega))) O) O<|qJ [(43,_),(47,_)] O O O O gv1 ⟨O,O,O,O,T⟩ (fun g10_2=>qH O el62 O O (by omega) (v hli)) O<|qJ [(48,_)] O O O O gv1 ⟨O,O,T⟩ (fun g10_2=>qB O zCm O) O<|qJ [(49,_)] O O O O gv1 ⟨O,O,T⟩ (fun g10_2=>zC O one3 O zO O) O<|qJ [(42,_),(50,_)] O O O O gv1 ⟨O,O,O,O,T⟩ (fun g10_2=>kM O O O) O<|zL O O (wV O O O (fun h=>h) O)<|yM<|zA<|zD O (fun c3=>?_) (fun c3=>?_)
   ·obtain ⟨q1,q2⟩:=and_t c3
    have hj0:0<j:=by have:=of_decide_eq_true q1;omega
    have hlt:lZ l i<lZ l (S.getD (j-1) 0):=by have:=of_decide_eq_true q2;rw [Int.toNat_natCast] at this;unfold lZ;omega
    obtain ⟨m,rfl⟩:∃m,j=m+1:=⟨j-1,by omega⟩
    rw [Nat.add_sub_cancel] at hlt
    have hy:=getD_at (S:=S) (j:=m) 0 (by omega)
    refine zI<|zF<|zP<|R O<|G O<|G O<|zZ O (qO 0 O el67 O O O (by omega) (by rw [List.length_map,zCz];simp only [List.length_nil];omega))<|zE one3 (kG 0 O (wM (mv_x [] i S [] hj) (by rw [List.length_nil];omega))) O<|G O<|zA<|R O<|G O<|G O<|G O<|G O<|yY O ⟨by omega,by omega⟩<|zZ O (qO 0 O el67 O O O (by omega) (by rw [List.length_map,zCz];simp only [List.length_nil];omega))<|zE one3 (kG 0 O (wM (mv_y' hy) (by rw [List.length_nil];omega))) O<|zZ O (qO 0 O el67 O O O (by omega) (by rw [List.length_map,zCz];simp only [List.length_nil];omega))<|zAo O O (kN O sz3 O O O (zDz 0 O (wM (mv_x [] i S [] hj) (by rw [List.length_nil];omega)) O))<|zA<|zK O<|G O<|G O<|yY O ⟨by omega,by omega⟩<|G O<|zZ O (qO 0 O el67 O O O (by omega) (by rw [List.length_set,List.length_map,zCz];simp only [List.length_nil];omega))<|zAo O O (kN O sz3 O O O (zDz 0 O (zTj (mv_y' hy) (by rw [List.length_nil];omega) (m:=([]:List Nat).length+(m+1)) (by rw [List.length_nil];omega) (by omega)) O))<|zA<|zK O<|G O<|yY O ⟨by omega,by omega⟩<|G O<|zA ?_
    refine ⟨m,⟨by omega,zOz hS hy (ltS_to (htie _ (qE hy)) hlt)⟩,(by omega),Weak.mk [true] ⟨VLe.of_eq (congrArg vI (by omega)),zB,zB,zB,T⟩ (by exact yQ (zMh (mv_dn hy) (by rw [List.length_nil];omega) (by rw [List.length_nil];omega)))⟩
   ·have hst:0<j->¬lZ l i<lZ l (S.getD (j-1) 0):=fun h0 h1=>by have:=c3;unfold lZ at h1;simp only [Bool.and_eq_false_iff,decide_eq_false_iff_not,Int.toNat_natCast] at this;omega
    have hfr:=front_lt 0 hS htie hj hst
    have hins:=ins_is hS hq hfr
    rw [hins] at hrn
    refine qK<|zK O<|G O<|qA O ⟨by omega,by omega⟩<|G O<|zA ?_
    refine ⟨⟨i+1,sv2⟩,(by omega),(by dsimp only;omega),Weak.mk [true] ⟨zB,zB,zB,T⟩ (by exact yQ (by rw [hrn];simp [mv]))⟩
  ·try simp only [sx] at c2
   have hil:i=l.length:=by omega
   subst hil
   refine qK<|zF<|zU _ (yT 0 O (regs':=[(6,_)]) (μ':=[]) ⟨FLe.sl,T⟩ T)<|zK O<|G O<|G O<|qS O ok73 (r42_fit l hl hz0) ⟨zB,O,zB,O,T⟩<|zZ O (yA O O)<|kP O<|kP O<|kP O<|G O<|G O<|G O<|zA<|zF<|R O<|G O<|wE O<|zA<|zD O (fun c4=>?_) (fun c4=>?_)
   ·exact absurd c4 (by simp)
   ·refine zI<|R O<|G O<|qT _ (kZ 48 3)<|zA<|zF<|R O<|G O<|zA<|zP<|zU ⟨[(14,.c _),(13,.c _),(0,.c _),(10,.c _),(11,.c _)],[_]⟩ (Weak.mk [true] ⟨zB,zB,zB,zB,zB,T⟩ O)<|qF 2 1 O O (Nat×Value) (fun ⟨n,sv⟩=>[(14,vI n),(13,.c (.lit sv))]) (fun ⟨n,sv⟩=>[E.vec sv 48 3 (((gQ l (plF l (dI l)).1).take n).map Sl.cells)]) (fun ⟨n,sv⟩=>n<=l.length) (fun ⟨n,sv⟩=>l.length-n) ⟨⟨0,.slice none 0 0⟩,(by simp),Weak.mk [true] ⟨zB,zB,zB,zB,zB,T⟩ O⟩ ?_
    rintro ⟨n,sv⟩ hn
    refine zF<|R O<|G O<|G O<|qD O el62<|yC O<|zA<|zD O (fun c5=>?_) (fun c5=>?_)
    ·try simp only [sx] at c5
     have hln:=zGk (l:=l) (i:=n) (by omega)
     obtain ⟨y,hy,hy0,hy1⟩:=hJy n ((zQt l).mem_iff.2 (List.mem_range.2 (by omega)))
     have hsn:(gQ l (plF l (dI l)).1)[n]? =some ⟨(lfA l n).Name,y,(lfA l n).Size⟩:=by rw [zFf hJl hy];unfold slo;rw [if_neg (by omega)]
     refine zI<|zF<|zP<|qW 17 mixed (by kernel_rfl) O O<|zL O O (zM O O)<|zL O O (zM O O)<|zL O O (zM O O)<|zL O O (qH O el62 O O (by omega) (v hln))<|zL O O (qB O zPr O)<|zL O O (zC O one9 O zO O)<|zL O O (zM O O)<|zL O O (zM O O)<|zL O O (qH O el67 O O (by omega) (v hy))<|zL O O (zC O one3 O zO O)<|zL O O (zM O O)<|zL O O (zM O O)<|zL O O (qH O el62 O O (by omega) (v hln))<|zL O O (qB O zCm O)<|zL O O (zC O one3 O zO O)<|zL O O (kU O zr48 pl48 O)<|zL O O (yJ O el33 zr48 O O O O)<|yM<|zS O O (yI 0 O el33 O O O (by simp only [List.length_map,List.length_take,List.length_cons,List.length_nil];omega) (by simp only [List.length_map,List.length_take,List.length_cons,List.length_nil];omega)) ?_
     rintro _ _ ⟨sv4,rfl,rfl⟩
     refine G O<|zA<|zK O<|G O<|qA O ⟨by omega,by omega⟩<|G O<|zA ?_
     refine ⟨⟨n+1,sv4⟩,(by omega),(by dsimp only;omega),Weak.mk [true] ⟨zB,zB,zB,zB,zB,T⟩ (by exact yQ (by rw [yD hsn,List.map_append];rfl))⟩
    ·try simp only [sx] at c5
     have hnl:n=l.length:=by omega
     subst hnl
     refine qK<|zF<|zU _ (yT 0 O (regs':=[(13,_)]) (μ':=[]) ⟨FLe.sl,T⟩ T)<|zK O<|G O<|G O<|G O<|G O<|G O<|zA<|zN<|fin3 (D O) (D O) (D O) ?_
     rw [qX (l:=gQ l (plF l (dI l)).1) (by rw [zDu hJl];omega)];rfl
end Go.W
