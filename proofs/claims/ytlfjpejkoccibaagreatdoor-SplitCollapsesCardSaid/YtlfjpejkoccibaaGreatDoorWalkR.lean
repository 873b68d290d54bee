/-
  What functions compute.
  What functions compute.
  What functions compute.
  What functions compute.
  What functions compute.
  What functions compute.
  What functions compute.
  Conditions: none.
-/
import Derived.Test.YtlfjpejkoccibaaGreatDoorNR
import Derived.Test.YtlfjpejkoccibaaGreatDoorPlain2
import Derived.Test.YtlfjpejkoccibaaGreatDoorEngZ
set_option linter.unusedSimpArgs false
set_option linter.unusedVariables false
section
set_option maxRecDepth 10000
namespace Go.W
open Go Go.Eng Go.Proofs Go.L41 Go.Br
attribute [local irreducible] AWP RWP TD fH
theorem ok29:bA Tryz.prog 29=true:=by kernel_rfl
theorem ok42:bA Tryz.prog 42=true:=by kernel_rfl
theorem zNx (l:List St) (i:Int) (p:List Int) (q:List St) (hi:0<=i/\i<l.length) (hl:l.length<=1000000) (hq:q.length<=1000000) (hp:p.length<=1000) (ih:p≠[]->Pur cfg 42 [bM (l.getD i.toNat zSt).Body,vIs p,bM q] (bM (fY p (l.getD i.toNat zSt).Body q))):
    Pur cfg 42 [bM l,vIs (i::p),bM q] (bM (fY (i::p) l q)):=by
 refine zT Tryz.func42 O Tryz.ntmps42 Tryz.results42 O ?_
 intro z hz
 have hs:=zJk hi
 generalize hs0:l.getD i.toNat zSt=s0 at *
 have hw:IntKind.i64.wrap (i+1)=i+1:=IntWalk.i64_in _ ⟨by omega,by omega⟩
 refine F O<|qX 20 O<|H<|F O<|A O<|yI _ (kR 46 20)<|H<|F O<|A O<|A O<|A O<|qD O K (by omega) O<|zJ one3 qA O<|zU O (zKs (k:=i.toNat) O D O (congrArg (fun n=>V.c (C.lit (.int .i64 n))) (by omega)) (by omega))<|zV O O (qV 0 O D O O O (by simp only [List.length_map,List.length_append,List.length_cons,List.length_nil,List.length_take,List.length_drop];omega) (by simp only [List.length_map,List.length_append,List.length_cons,List.length_nil,List.length_take,List.length_drop];omega)) ?_
 rintro _ _ ⟨sv2,rfl,rfl⟩
 refine A O<|H<|zK<|F O<|A O<|qC O K<|yF O<|H<|zD O (fun c1=>?_) (fun c1=>?_)
 ·try simp only [I] at c1
  have c1:p=[]:=List.eq_nil_of_length_eq_zero (by simp at c1;omega)
  refine zQ O<|A O<|A O<|zV O O (qV 0 O D O O O (by simp only [List.length_map,List.length_append,List.length_cons,List.length_nil,List.length_take,List.length_drop];omega) (by simp only [List.length_map,List.length_append,List.length_cons,List.length_nil,List.length_take,List.length_drop];omega)) ?_
  rintro _ _ ⟨sv3,rfl,rfl⟩
  refine A O<|H<|F O<|A O<|A O<|A O<|qD O K (by omega) O<|zJ one3 qA O<|qJ O ⟨by omega,by omega⟩<|zU O (zAk (k:=i.toNat+1) O D O (congrArg (fun n=>V.c (C.lit (.int .i64 n))) (by omega)) (by omega))<|zV O O (qV 0 O D O O O (by simp only [List.length_map,List.length_append,List.length_cons,List.length_nil,List.length_take,List.length_drop];omega) (by simp only [List.length_map,List.length_append,List.length_cons,List.length_nil,List.length_take,List.length_drop];omega)) ?_
  rintro _ _ ⟨sv4,rfl,rfl⟩
  refine yI _ (yK 0 O (regs':=[(46,_)]) (μ':=[]) ⟨FLe.sl,T⟩ T)<|A O<|H<|o<|X O ?_
  first|(rw [c1,zEh];exact congrArg (fun r=>V.c (C.sl 20 r)) (by simp [List.map_take,List.map_drop]))|(rw [zGa c1,hs0];exact congrArg (fun r=>V.c (C.sl 20 r)) (by simp [List.map_take,List.map_drop,St.cells_eq];rfl))
 ·try simp only [I] at c1
  have c1:p≠[]:=fun h=>c1 (by rw [h];rfl)
  refine F O<|A O<|A O<|qD O K (by omega) O<|zJ one3 qA O<|qD O D (by omega) (wD hs)<|zP zAv qA O<|zV O O (qE [none,none,none,none,none,some 4,none,none,none,none,none,none,none,none,none,none,some 2,some 4,some 13,some 20] O j O) ?_
  rintro _ _ ⟨b5,rfl,rfl⟩
  refine Y 0 sz46 O<|H<|zK<|qZ 7 mixed (by kernel_rfl) O O<|M O O (zE O kK O)<|M O O (zF O kP O (R 0 O) O)<|M O O (zN O O)<|M O O (zAk (k:=1) O K O O (by simp))<|M O O (zN O O)<|M O O (qM O ok42 (ih c1) ⟨G,O,G,O,G,O,T⟩)<|M O O (zE O kK O)<|kE<|Y 0 sz23 O<|H<|zQ O<|A O<|zP zAv (R 0 O) O<|yV O D j<|zV O O (qV 1 O D O O O (by simp only [List.length_map,List.length_append,List.length_cons,List.length_nil,List.length_take,List.length_drop];omega) (by simp only [List.length_map,List.length_append,List.length_cons,List.length_nil,List.length_take,List.length_drop];omega)) ?_
  rintro _ _ ⟨sv6,rfl,rfl⟩
  refine A O<|H<|F O<|A O<|A O<|A O<|qD O K (by omega) O<|zJ one3 qA O<|qJ O ⟨by omega,by omega⟩<|zU O (zAk (k:=i.toNat+1) O D O (congrArg (fun n=>V.c (C.lit (.int .i64 n))) (by omega)) (by omega))<|zV O O (qV 1 O D O O O (by simp only [List.length_map,List.length_append,List.length_cons,List.length_nil,List.length_take,List.length_drop];omega) (by simp only [List.length_map,List.length_append,List.length_cons,List.length_nil,List.length_take,List.length_drop];omega)) ?_
  rintro _ _ ⟨sv7,rfl,rfl⟩
  refine yI _ (yK 1 O (regs':=[(46,_)]) (μ':=[_]) ⟨FLe.sl,T⟩ ⟨EFle.refl _,T⟩)<|A O<|H<|o<|X O ?_
  first|(rw [c1,zEh];exact congrArg (fun r=>V.c (C.sl 20 r)) (by simp [List.map_take,List.map_drop]))|(rw [zGa c1,hs0];exact congrArg (fun r=>V.c (C.sl 20 r)) (by simp [List.map_take,List.map_drop,St.cells_eq];rfl))
theorem zNy:∀(way:List Int) (l q:List St),way≠[]->mU way l->bC l<=1000000->q.length<=1000000->way.length<=1000->Pur cfg 42 [bM l,vIs way,bM q] (bM (fY way l q))
  |[],_,_,h,_,_,_,_=>absurd rfl h
  |i::p,l,q,_,hw,hl,hq,hp=>zNx l i p q hw.1 (by have:=kO l;omega) hq (by rw [List.length_cons] at hp;omega) fun h=>
      zNy p _ q h hw.2 (by have:=yC (zZ (zJk hw.1));have:=St.body_wt (l.getD i.toNat zSt);omega) hq (by rw [List.length_cons] at hp;omega)
theorem ref30_Replace (n:Ns) (way:List Int) (q:List St) (hl:bC n.Body<=1000000) (hq:q.length<=1000000) (hw:way.length<=1000):
    Pur cfg 13 [vNs n,vIs way,bM q] (.tup [vNs (lU n way q),vB (atT n.Body way).2]):=by
 refine zT Tryz.func13 O Tryz.ntmps13 Tryz.results13 O ?_
 intro z hz
 refine F O<|zV O O (qN O O) ?_
 rintro _ _ ⟨b1,rfl,rfl⟩
 refine zV O O (qE [some 8,some 20] O W O) ?_
 rintro _ _ ⟨b2,rfl,rfl⟩
 refine A O<|H<|zK<|F O<|zP yY (R 1 O) O<|A O<|qI O ok29 (ref30_At _ _ (by omega)) ⟨G,O,G,O,T⟩<|qP O<|yJ O<|qU O<|zV O O (qE [none,none,none,none,none,some 4,none,none,none,none,none,none,none,none,none,none,some 2,some 4,some 13,some 20] O j O) ?_
 rintro _ _ ⟨b3,rfl,rfl⟩
 refine Y 0 sz46 O<|A O<|H<|F O<|A O<|kQ O<|H<|zD O (fun c1=>?_) (fun c1=>?_)
 ·try simp only [I] at c1
  have c1:(atT n.Body way).2=false:=by simpa using c1
  refine F O<|qT [some 8,some 20] O W pl25<|Y 1 i O<|A O<|H<|o<|w (y yY O (R 1 O) O) (J O) ?_
  rw [show lU n way q=⟨[],[]⟩ from if_neg (by rw [c1];simp),c1];rfl
 ·try simp only [I] at c1
  have c1:(atT n.Body way).2=true:=by simpa using c1
  refine zM<|zK<|qZ 8 mixed (by kernel_rfl) O O<|M O O (zE O zAt O)<|M O O (zF O zEk O (R 2 O) O)<|M O O (zE O zAd O)<|M O O (zF O kP O (R 2 O) O)<|M O O (zN O O)<|M O O (zN O O)<|M O O (qM O ok42 (zNy way n.Body q (way_of c1).1 (way_of c1).2 hl hq hw) ⟨G,O,G,O,G,O,T⟩)<|M O O (zDq O W pl25 O)<|kE<|Y 1 i O<|A O<|H<|o<|w (y yY O (R 1 O) O) (J O) ?_
  rw [show lU n way q=vM n way q from if_pos c1,c1];rfl
end Go.W
end
section
set_option maxRecDepth 10000
namespace Go.W
open Go Go.Eng Go.Proofs Go.L41 Go.Br
attribute [local irreducible] AWP RWP TD fH
def mS (ls:List (List St)):Nat:=ls.flatten.length
theorem totK_next {ls:List (List St)} {k:Nat} {x:List St} (h:ls[k]? =some x):mS (ls.take (k+1))=mS (ls.take k)+x.length:=by
  unfold mS;rw [yL h,List.flatten_append,List.length_append];simp
theorem totK_le (ls:List (List St)) (k:Nat):mS (ls.take k)<=mS ls:=by
  have:mS ls=mS (ls.take k)+mS (ls.drop k):=by unfold mS;rw [←List.length_append,←List.flatten_append,List.take_append_drop]
  omega
theorem totK_get {ls:List (List St)} {k:Nat} {x:List St} (h:ls[k]? =some x):mS (ls.take k)+x.length<=mS ls:=by
  rw [←totK_next h];exact totK_le _ _
theorem totK_flat {ls:List (List St)} {k:Nat} {x:List St} (h:ls[k]? =some x):(ls.take k).flatten.length+x.length<=mS ls:=totK_get h
theorem el174:dY Tryz.prog 174=some (23,1,24):=by kernel_rfl
theorem ik3:sM Tryz.prog 3=some .i64:=by kernel_rfl
theorem ok136:bA Tryz.prog 136=true:=by kernel_rfl
theorem slices_Grow_st (n:Nat) (hn:n<=4294967296):
    OwnR cfg 136 [.c (.lit (.slice none 0 0)),vI n] 46 20 ([]):=by
 refine zT Tryz.func136 O Tryz.ntmps136 Tryz.results136 O ?_
 intro z hz
 refine F O<|qX 20 O<|H<|zK<|F O<|A O<|yD O<|H<|zD O (fun c1=>?_) (fun c1=>?_)
 ·try simp only [I] at c1
  exact absurd c1 (by omega)
 ·try simp only [I] at c1
  refine zM<|zK<|F O<|A O<|A O<|zU O (zWm O D O)<|A O<|zU O (zWk O D O)<|zU O (yE O O O ⟨by omega,by omega⟩)<|zU O (yE O O O ⟨by omega,by omega⟩)<|A O<|H<|F O<|A O<|zU O (yG O O O)<|H<|zD O (fun c2=>?_) (fun c2=>?_)
  ·try simp only [I] at c2
   refine zQ O<|A O<|A O<|zU O (zWm O D O)<|zU O (det_cut_nil O D O O)<|A O<|zV O O (ope_grow n O D ik3 O O (by omega) (by omega) (by omega) (by omega)) ?_
   rintro _ _ ⟨b1,cap1,rfl,hcap1,rfl⟩
   refine A O<|zU O (zWk O D O)<|zU O (det_cut_row 0 O D O O O ⟨by omega,hcap1⟩)<|A O<|H<|F O<|A O<|A O<|H<|o<|X O ?_
   exact ⟨_,O,O⟩
  ·refine zM<|F O<|A O<|yI _ (kR 46 20)<|A O<|H<|o<|X O ?_
   exact ⟨_,O,O⟩
theorem zRl (ls:List (List St)) (hl:ls.length<=4294967296) (ht:mS ls<=4294967296):
    OwnR cfg 90 [.c (.sl 1 (ls.map fun l=>[.sl 20 (l.map St.cells)]))] 46 20 (ls.flatten.map St.cells):=by
 refine zT Tryz.func90 O Tryz.ntmps90 Tryz.results90 O ?_
 intro z hz
 refine F O<|qX 20 O<|H<|F O<|A O<|H<|zK<|F O<|A O<|qC O el174<|A O<|H<|zR<|zY ⟨[(11,.c _),(3,.c _),(0,.c _),(9,.c _),(10,.c _)],[]⟩ (Weak.mk [] ⟨G,G,G,G,G,T⟩ O)<|qK 2 0 O O (Nat) (fun k=>[(11,vI k),(3,vI (mS (ls.take k)))]) (fun k=>[]) (fun k=>k<=ls.length) (fun k=>ls.length-k) ⟨0,(by omega),Weak.mk [] ⟨G,G,G,G,G,T⟩ O⟩ ?_
 rintro k hk
 refine F O<|yD O<|H<|zK<|zD O (fun c1=>?_) (fun c1=>?_)
 ·try simp only [I] at c1
  obtain ⟨x,hx⟩:=qY ls k (by omega)
  have hb1:=totK_get hx
  refine zM<|zK<|zR<|F O<|qD O el174 (by omega) (Q (by assumption))<|zJ kP qA O<|A O<|H<|F O<|A O<|A O<|qC O D<|qJ O ⟨by omega,by omega⟩<|A O<|H<|F O<|A O<|yD O<|H<|zD O (fun c2=>?_) (fun c2=>?_)
  ·try simp only [I] at c2
   exact absurd c2 (by omega)
  ·try simp only [I] at c2
   refine zM<|zQ O<|qJ O ⟨by omega,by omega⟩<|A O<|H ?_
   refine ⟨k+1,(by omega),(by omega),Weak.mk [] ⟨G,VLe.of_eq (congrArg vI (by rw [totK_next hx];simp)),G,G,G,T⟩ O⟩
 ·try simp only [I] at c1
  have hT:mS (ls.take k)=mS ls:=by rw [yU (by omega)]
  refine qQ<|F O<|A O<|zV O O (zBb O ok136 (slices_Grow_st (mS (ls.take k)) (by omega)) ⟨G,O,G,O,T⟩) ?_
  rintro _ _ ⟨sv1,rfl,rfl⟩
  refine A O<|H<|zK<|F O<|A O<|qC O el174<|A O<|H<|zR<|zY ⟨[(27,.c _),(6,.c _),(25,.c _),(26,.c _)],[_]⟩ (Weak.mk [true] ⟨G,G,G,G,T⟩ O)<|qK 2 1 O O (Nat×Value) (fun ⟨k,sv⟩=>[(27,vI k),(6,.c (.lit sv))]) (fun ⟨k,sv⟩=>[E.vec sv 46 20 ((ls.take k).flatten.map St.cells)]) (fun ⟨k,sv⟩=>k<=ls.length) (fun ⟨k,sv⟩=>ls.length-k) ⟨⟨0,_⟩,(by omega),Weak.mk [true] ⟨G,G,G,G,T⟩ O⟩ ?_
  rintro ⟨k,sv⟩ hk
  show AWP _ _ _ _ _ ⟨[(27,vI k),(6,.c (.lit sv))]++_,[E.vec sv 46 20 ((ls.take k).flatten.map St.cells)]++_⟩
  refine F O<|yD O<|H<|zK<|zD O (fun c3=>?_) (fun c3=>?_)
  ·try simp only [I] at c3
   obtain ⟨x,hx⟩:=qY ls k (by omega)
   refine zM<|zK<|zR<|F O<|qD O el174 (by omega) (Q (by assumption))<|zJ kP qA O<|A O<|H<|zQ O<|A O<|A O<|zV O O (qV 0 O D O O O (by have:=totK_flat hx;simp only [List.length_map];omega) (by have:=totK_flat hx;simp only [List.length_map];omega)) ?_
   rintro _ _ ⟨sv2,rfl,rfl⟩
   refine A O<|H<|zQ O<|qJ O ⟨by omega,by omega⟩<|A O<|H ?_
   refine ⟨⟨k+1,sv2⟩,(by omega),(by show ls.length-(k+1)<ls.length-k;omega),Weak.mk [true] ⟨G,G,G,G,T⟩ (by show _=[E.vec sv2 _ 20 ((ls.take (k+1)).flatten.map St.cells)]++_;rw [yL hx,List.flatten_append,List.map_append];simp only [List.flatten_cons,List.flatten_nil,List.append_nil];rfl)⟩
  ·try simp only [I] at c3
   refine qQ<|F O<|A O<|A O<|H<|o<|X O ?_
   exact ⟨_,O,by rw [yU (by omega)];rfl⟩
theorem zUe (x y z:List St) (hx:x.length<=1073741824) (hy:y.length<=1073741824) (hz:z.length<=1073741824):OwnR cfg 90 [.c (.sl 1 [[.sl 20 (x.map St.cells)],[.sl 20 (y.map St.cells)],[.sl 20 (z.map St.cells)]])] 46 20 ((x++y++z).map St.cells):=by
  have h:=zRl [x,y,z] (by simp) (by simp [mS];omega)
  simpa using h
end Go.W
end
section
set_option maxRecDepth 10000
namespace Go.W
open Go Go.Eng Go.Proofs Go.L41 Go.Br
attribute [local irreducible] AWP RWP TD fH
theorem ok90:bA Tryz.prog 90=true:=by kernel_rfl
theorem zr23:fS Tryz.prog 23=some [(Value.slice none 0 0)]:=by kernel_rfl
theorem replaceIn_one (sv:Value) (l:List St) (i:Int) (q:List St) (hi:0<=i/\i<l.length) (hl:l.length<=1073741823) (hq:q.length<=1073741823):
    Con cfg 40 [.c (.lit sv),vIs [i],bM q] [.vec sv 46 20 (l.map St.cells)] fun r μ'=>∃sv',r=.c (.lit sv')/\μ'=[.vec sv' 46 20 ((fY [i] l q).map St.cells)]:=by
 refine zT Tryz.func40 O Tryz.ntmps40 Tryz.results40 O ?_
 intro z hz
 have hw:IntKind.i64.wrap (i+1)=i+1:=IntWalk.i64_in _ ⟨by omega,by omega⟩
 refine F O<|qX 20 O<|H<|F O<|A O<|qD O K (by omega) O<|zJ one3 qA O<|A O<|H<|zK<|F O<|A O<|qC O K<|yF O<|H<|zD O (fun c1=>?_) (fun c1=>?_)
 ·try simp only [I] at c1
  refine zK<|zY _ (yK 0 O (regs':=[(0,_)]) (μ':=[]) ⟨FLe.sl,T⟩ T)<|qZ 9 mixed (by kernel_rfl) O O<|M O O (zN O O)<|M O O (zN O O)<|M O O (zKs (k:=i.toNat) O D O (congrArg (fun n=>V.c (C.lit (.int .i64 n))) (by omega)) (by omega))<|M O O (zN O O)<|M O O (zN O O)<|M O O (zN O O)<|M O O (zEb O O O ⟨by omega,by omega⟩)<|M O O (zAk (k:=i.toNat+1) O D O (congrArg (fun n=>V.c (C.lit (.int .i64 n))) (by omega)) (by omega))<|M O O (wQ O el174 zr23 O O O O)<|kE<|zV O O (zBb O ok90 (zUe (l.take i.toNat) q (l.drop (i.toNat+1)) (by rw [List.length_take];omega) (by omega) (by rw [List.length_drop];omega)) ⟨G,O,T⟩) ?_
  rintro _ _ ⟨sv1,rfl,rfl⟩
  refine A O<|H<|o<|X O ?_
  exact ⟨_,O,by rw [zEh]⟩
 ·try simp only [I] at c1
  exact absurd O c1
end Go.W
end
section
set_option maxRecDepth 10000
namespace Go.W
open Go Go.Eng Go.Proofs Go.L41 Go.Br
attribute [local irreducible] AWP RWP TD fH
def csB (s:St) (c:C):List C:=[cI s.Op,cS s.Name,cI s.Many,cI s.Mark,cI s.Fold,.sl 4 (s.Idx.map Ix.cells),cI s.E.Op,cS s.E.Name,cI s.E.Val.N,cI s.E.Val.D,cI s.E.Ty.Kind,cI s.E.Ty.Bits,cI s.E.Ty.Frac,cI s.E.Ty.Round,cI s.E.Ty.Over,cI s.E.Lin.K,.sl 2 (s.E.Lin.L.map Mono.cells),.sl 4 (s.E.Idx.map Ix.cells),.sl 13 (s.E.Args.map Ex.cells),c]
theorem csB_set (s:St) (b:List St):csB s (.sl 20 (b.map St.cells))=(mN s b).cells:=by rw [St.cells_eq];rfl
theorem rep_in {l:List St} {i:Int} (h:0<=i/\i<l.length) (s:St):(l.map St.cells).set i.toNat s.cells=(l.take i.toNat++[s]++l.drop (i.toNat+1)).map St.cells:=by
  have hl:i.toNat<l.length:=by omega
  rw [List.set_eq_take_append_cons_drop,if_pos (by rw [List.length_map];exact hl)]
  simp [List.map_take,List.map_drop]
theorem replaceIn_in (sv sv1:Value) (l:List St) (i:Int) (p:List Int) (rest:List E) (q:List St) (hp:p≠[]) (hi:0<=i/\i<l.length) (ih:Con cfg 40 [.c (.lit sv1),vIs p,bM q] rest (fun r μ'=>∃sv',r=.c (.lit sv')/\μ'=[.vec sv' 46 20 ((fY p (l.getD i.toNat zSt).Body q).map St.cells)])):
    Con cfg 40 [.c (.lit sv),vIs (i::p),bM q] (.vec sv 46 20 ((l.map St.cells).set i.toNat (csB (l.getD i.toNat zSt) (.lit sv1)))::rest) (fun r μ'=>∃sv',r=.c (.lit sv')/\μ'=[.vec sv' 46 20 ((fY (i::p) l q).map St.cells)]):=by
 refine zT Tryz.func40 O Tryz.ntmps40 Tryz.results40 O ?_
 intro z hz
 generalize hs0:l.getD i.toNat zSt=s0 at *
 refine F O<|qX 20 O<|H<|F O<|A O<|qD O K (by omega) O<|zJ one3 qA O<|A O<|H<|zK<|F O<|A O<|qC O K<|yF O<|H<|zD O (fun c1=>?_) (fun c1=>?_)
 ·try simp only [I] at c1
  exact absurd (List.eq_nil_of_length_eq_zero (by simp at c1;omega)) hp
 ·try simp only [I] at c1
  refine zM<|zK<|awp_draw_s 10 [true,true,false,false,false,false,false,false,false,false] xO mixed (by kernel_rfl) O O O<|td2_detA O O (fun _=>zN O O)<|td2_detA O O (fun _=>zN O O)<|zJh O O (zN O O)<|zJh O O (zN O O)<|zJh O O (qS 0 O D O O O (by omega) (by simp;omega))<|zJh O O (kF O kK O)<|zJh O O (zF O kP O (wV 0 O (zCl (by simp;omega))) O)<|zJh O O (zN O O)<|zJh O O (zAk (k:=1) O K O O (by simp))<|zJh O O (zN O O)<|td2_nil ?_
  refine ⟨_,ope_call_tail O ok91 ih ⟨G,O,G,O,G,O,T⟩,fun _ _ _=>T,?_⟩
  rintro _ _ ⟨sv9,rfl,rfl⟩
  refine zU O (qS 0 O D O O O (by omega) (by simp;omega))<|zU O (kF O kK O)<|zAe O O (kB O sz23 O O O (zDh 0 O (zCl (by simp;omega)) O))<|H<|zK<|zY _ (yK 1 O (regs':=[]) (μ':=[_]) T ⟨EFle.vec (r':=[_,_,_,_,_,_,_,_,_,_,_,_,_,_,_,_,_,_,_,_]) (zCl (by simp;omega)) ⟨.inl O,.inl O,.inl O,.inl O,.inl O,.inl O,.inl O,.inl O,.inl O,.inl O,.inl O,.inl O,.inl O,.inl O,.inl O,.inl O,.inl O,.inl O,.inl O,.inr ⟨O,O⟩,T⟩,T⟩)<|zQ O<|A O<|A O<|H<|o<|X O ?_
  refine ⟨_,O,?_⟩
  rw [List.set_set,List.set_set]
  have e1:=rep_in hi (mN s0 (fY p s0.Body q))
  rw [zGa hp,hs0,←e1,←csB_set]
  rfl
end Go.W
end
section
set_option maxRecDepth 10000
namespace Go.W
open Go Go.Eng Go.Proofs Go.L41 Go.Br
attribute [local irreducible] AWP RWP TD fH
def chE:List (Int×Value)->List St->List E
  |[],_=>[]
  |[(_,sv)],l=>[.vec sv 46 20 (l.map St.cells)]
  |(i,sv)::(j,sv1)::r,l=>.vec sv 46 20 ((l.map St.cells).set i.toNat (csB (l.getD i.toNat zSt) (.lit sv1)))::chE ((j,sv1)::r) (l.getD i.toNat zSt).Body
theorem zNv (q:List St) (hq:q.length<=2000000):∀(r:List (Int×Value)) (i:Int) (sv:Value) (l:List St),mU (i::r.map Prod.fst) l->bC l<=2000000->
    Con cfg 40 [.c (.lit sv),vIs (i::r.map Prod.fst),bM q] (chE ((i,sv)::r) l) fun r' μ'=>∃sv',r'=.c (.lit sv')/\μ'=[.vec sv' 46 20 ((fY (i::r.map Prod.fst) l q).map St.cells)]
  |[],i,sv,l,hw,hl=>replaceIn_one sv l i q hw.1 (by have:=kO l;omega) (by omega)
  |(j,sv1)::r,i,sv,l,hw,hl=>by
    rw [chE]
    exact replaceIn_in sv sv1 l i (j::r.map Prod.fst) (chE ((j,sv1)::r) (l.getD i.toNat zSt).Body) q (by simp) hw.1
      (zNv q hq r j sv1 _ hw.2 (by have:=yC (zZ (zJk hw.1));have:=St.body_wt (l.getD i.toNat zSt);omega))
end Go.W
end
section
set_option maxRecDepth 10000
namespace Go.W
open Go Go.Eng Go.Proofs Go.L41 Go.Br
attribute [local irreducible] AWP RWP TD fH
theorem zOg {α:Type} {l:List α} {k:Nat} {x:α} (h:l[k]? =some x):k<l.length:=(List.getElem?_eq_some_iff.1 h).1
def lW (l:List St) (i:Nat) (v:Value) (k:Nat):List (List C):=((l.map St.cells).set i (csB (l.getD i zSt) (.lit v))).take k++(l.drop k).map St.cells
theorem rowsI_get {l:List St} {i:Nat} {v:Value} {k:Nat} {s:St} (h:l[k]? =some s):(lW l i v k)[k]? =some s.cs:=by
  have:=zOg h
  unfold lW;exact mid_getS (by simp;omega) h
theorem rowsI_lt {l:List St} {i:Nat} {v:Value} {k:Nat} {s:St} (h:l[k]? =some s):k<(lW l i v k).length:=by
  have:=zOg h
  unfold lW;simp;omega
theorem rowsI_set {l:List St} {i:Nat} {v v9:Value} {k:Nat} {s:St} {b:C} (h:l[k]? =some s) (hb:(k=i/\b=.lit v9)∨(k≠i/\b=.sl 20 (s.Body.map St.cells))):(lW l i v k).set k (csB s b)=lW l i (if k=i then v9 else v) (k+1):=by
  have hk:=zOg h
  have hm:(l.map St.cells)[k]? =some s.cells:=by rw [List.getElem?_map,h];rfl
  unfold lW
  rw [zQb (by simp;omega) h]
  congr 1
  rcases hb with ⟨rfl,rfl⟩|⟨hne,rfl⟩
  · rw [if_pos rfl,List.take_set_of_le (Nat.le_refl k),yL (l:=(l.map St.cells).set k (csB (l.getD k zSt) (.lit v9))) (x:=csB s (.lit v9)),List.take_set_of_le (Nat.le_refl k)]
    rw [List.getElem?_set_self (by simpa using hk),show l.getD k zSt=s by rw [List.getD_eq_getElem?_getD,h];rfl]
  · rw [if_neg hne,yL (l:=(l.map St.cells).set i (csB (l.getD i zSt) (.lit v))) (x:=csB s (.sl 20 (s.Body.map St.cells)))]
    rw [List.getElem?_set_ne (fun h=>hne h.symm),hm,csB_set,setB_self]
theorem rowsI_none (l:List St) (v:Value):lW l l.length v l.length=l.map St.cells:=by
  unfold lW
  rw [List.set_eq_of_length_le (by simp),List.take_of_length_le (by simp),List.drop_length];simp
theorem rowsI_all (l:List St) (i:Nat) (v:Value):lW l i v l.length=(l.map St.cells).set i (csB (l.getD i zSt) (.lit v)):=by
  unfold lW
  rw [List.take_of_length_le (by simp),List.drop_length];simp
theorem invX {k i:Nat} {X Y:List E} {v:Value} {b c:C} {Q:Value->List E->Prop} (hX:k<=i->X=[]) (hb:(k=i/\b=.lit v/\Q v Y)∨(k≠i/\b=c/\Y=[])):k+1<=i->X++Y=[]:=by
  intro h
  rcases hb with ⟨h1,_,_⟩|⟨_,_,rfl⟩
  · omega
  · rw [hX (by omega)];rfl
theorem invQ {k i:Nat} {X Y:List E} {v v0:Value} {b c:C} {Q:Value->List E->Prop} (hX:k<=i->X=[]) (hQ:i<k->Q v0 X) (hb:(k=i/\b=.lit v/\Q v Y)∨(k≠i/\b=c/\Y=[])):i<k+1->Q (if k=i then v else v0) (X++Y):=by
  intro h
  rcases hb with ⟨h1,_,hq⟩|⟨h1,_,rfl⟩
  · rw [if_pos h1,hX (by omega)];exact hq
  · rw [if_neg h1,List.append_nil];exact hQ (by omega)
def hdV:List (Int×Value)->Value
  |[]=>.slice none 0 0
  |(_,v)::_=>v
theorem mapIx_id {c:C} {P:Lf->Prop} (hf:∀l,P l->FnPur cfg c [bZ l] (.tup [bZ l,vI 0])) (i:List Ix) (hi:i.length<=4294967296) (hA:∀x,x∈i->x.At.length<=4294967296) (hP:gN P i):Pur cfg 87 [gM i,.c c] (.tup [gM i,vI 0]):=by
  have h:=zBg idF c P hf i hi hA hP
  rw [mIxs_id] at h;exact h
theorem mapEx_id {c:C} {P:Lf->Prop} (hf:∀l,P l->FnPur cfg c [bZ l] (.tup [bZ l,vI 0])) (e:Ex) (hP:e.allF P) (he:e.cnt<=4294967296):Pur cfg 138 [vE e,.c c] (.tup [vE e,vI 0]):=by
  have h:=zEs idF c P hf e hP he
  rw [mEx_id] at h;exact h
theorem mapSts_id {c c9:C} {P:Lf->Prop} (hf:∀l,P l->FnPur cfg c [bZ l] (.tup [bZ l,vI 0])) (hg:∀s,FnPur cfg c9 [vS s] (vS s)) (l:List St) (hP:bH P l) (hl:bC l<=1073741824):Pur cfg 91 [bM l,.c c,.c c9] (.tup [bM l,vI 0]):=by
  have h:=zDx idF c P hf (fun x=>x) c9 hg l hP hl
  rw [mSts_id] at h;exact h
theorem zMd {c c9:C} {P:Lf->Prop} (hf:∀l,P l->FnPur cfg c [bZ l] (.tup [bZ l,vI 0])) (hg:∀s,FnPur cfg c9 [vS s] (vS s)) (l:List St) (hP:bH P l) (i:Nat) (Q:Value->List E->Prop) (ih:∀k s,l[k]? =some s->Con cfg 91 [bM s.Body,.c c,.c c9] [] (fun r μ'=>∃b v,r=.tup [.c b,vI 0]/\((k=i/\b=.lit v/\Q v μ')∨(k≠i/\b=.sl 20 (s.Body.map St.cells)/\μ'=[])))) (hl:bC l<=1073741824):
    Con cfg 91 [bM l,.c c,.c c9] [] (fun r μ'=>∃sv v X,r=.tup [.c (.lit sv),vI 0]/\μ'=.vec sv 46 20 (lW l i v l.length)::X/\(l.length<=i->X=[])/\(i<l.length->Q v X)):=by
 refine zT Tryz.func91 O Tryz.ntmps91 Tryz.results91 O ?_
 intro z hz
 have hll:=kO l
 refine F O<|qX 20 O<|A O<|H<|F O<|A O<|zV O O (zBb O ok137 (zJq l (by omega)) ⟨G,O,T⟩) ?_
 rintro _ _ ⟨sv1,rfl,rfl⟩
 refine A O<|H<|F O<|A O<|H<|zK<|F O<|A O<|qC O D<|A O<|H<|zR<|zY ⟨[(15,.c _),(0,.c _),(1,.c _),(2,.c _),(8,.c _),(14,.c _)],_⟩ (Weak.regs ⟨G,G,G,G,G,G,T⟩)<|zDf 1 O (Nat×Value×List E) (fun ⟨k,v,X⟩=>[(15,vI k)]) (fun ⟨k,v,X⟩=>(E.vec sv1 46 20 (lW l i v k)::X)) (fun ⟨k,v,X⟩=>k<=l.length/\(k<=i->X=[])/\(i<k->Q v X)) (fun ⟨k,v,X⟩=>l.length-k) ⟨⟨0,.slice none 0 0,[]⟩,⟨by omega,fun _=>O,fun h=>absurd h (Nat.not_lt_zero _)⟩,Weak.regsEq ⟨G,G,G,G,G,G,T⟩ O⟩ ?_
 rintro ⟨k,v,X⟩ ⟨hk,hX,hQ⟩
 show AWP _ _ _ _ _ ⟨[(15,vI k)]++_,(E.vec sv1 46 20 (lW l i v k)::X)⟩
 refine F O<|yD O<|H<|zK<|zD O (fun c1=>?_) (fun c1=>?_)
 ·try simp only [I] at c1
  obtain ⟨s,hs⟩:=qY l k (by omega)
  have hsw:=yC (zZ hs)
  have hse:=St.wt_eq s
  have hPs:=St.allF_eq (kY hP s (zZ hs))
  refine zM<|zK<|zR<|F O<|A O<|A O<|H<|zK<|F O<|A O<|A O<|qD O D (by omega) (wD hs)<|qO O zAp<|zJ one3 qA O<|yF O<|H<|zD O (fun c2=>?_) (fun c2=>?_)
  ·try simp only [I] at c2
   refine zQ O<|A O<|A O<|A O<|A O<|A O<|qD O D (by omega) (wD hs)<|qO O zAj<|zJ one9 qA O<|zU O (kV O O (hg s.Name) ⟨G,O,T⟩)<|zU O (qS 0 O D O O O (by omega) (by simpa using rowsI_lt hs))<|zU O (kF O zAj O)<|zAe O O (kB O sz9 O O O (zDh 0 O (rowsI_get hs) O))<|H<|zK<|F O<|A O<|A O<|A O<|A O<|qD O D (by omega) (wD hs)<|qO O zDo<|zJ wO qA O<|A O<|qI O ok87 (mapIx_id hf s.Idx (by omega) (fun x hx=>by have:=zAq hx;rw [Ix.wt] at this;omega) hPs.1) ⟨G,O,G,O,T⟩<|qP O<|qU O<|qU O<|zU O (qS 0 O D O O O (by omega) (by simpa using rowsI_lt hs))<|zU O (kF O zDo O)<|zAe O O (kB O sz34 O O O (zDh 0 O (zCl (by simpa using rowsI_lt hs)) O))<|A O<|H<|F O<|A O<|yM O<|H<|zD O (fun c3=>?_) (fun c3=>?_)
   ·try simp only [I] at c3
    exact (c3 T).elim
   ·try simp only [I] at c3
    refine zM<|zK<|F O<|A O<|A O<|A O<|A O<|qD O D (by omega) (wD hs)<|qO O zAz<|zP kA qA O<|A O<|qI O ok138 (mapEx_id hf s.E hPs.2.1 (by have:=s.E.cnt_le;omega)) ⟨G,O,G,O,T⟩<|qP O<|yJ O<|qU O<|zU O (qS 0 O D O O O (by omega) (by simpa using rowsI_lt hs))<|zU O (kF O zAz O)<|zAe O O (kB O sz44 O O O (zDh 0 O (zCl (by simpa using rowsI_lt hs)) O))<|A O<|H<|F O<|A O<|yM O<|H<|zD O (fun c4=>?_) (fun c4=>?_)
    ·try simp only [I] at c4
     exact (c4 T).elim
    ·try simp only [I] at c4
     refine zM<|F O<|A O<|A O<|A O<|A O<|qD O D (by omega) (wD hs)<|qO O kK<|zJ kP qA O<|A O<|A O<|zV O O (zHz O ok91 (ih k s hs) ⟨G,O,G,O,G,O,T⟩) ?_
     rintro _ _ ⟨μ9,⟨b,v9,rfl,hb⟩,rfl⟩
     refine qP O<|qU O<|qU O<|zU O (qS 0 O D O O O (by omega) (by simpa using rowsI_lt hs))<|zU O (kF O kK O)<|zAe O O (kB O sz23 O O O (zDh 0 O (zCl (by simpa using rowsI_lt hs)) O))<|A O<|H<|F O<|A O<|yM O<|H<|zD O (fun c5=>?_) (fun c5=>?_)
     ·try simp only [I] at c5
      exact (c5 T).elim
     ·try simp only [I] at c5
      refine zM<|zQ O<|qJ O ⟨by omega,by omega⟩<|A O<|H ?_
      refine ⟨⟨k+1,(if k=i then v9 else v),X++μ9⟩,⟨by omega,invX hX hb,invQ hX hQ hb⟩,(by show l.length-(k+1)<l.length-k;omega),Weak.regsEq ⟨G,G,G,G,G,G,T⟩ (congrArg (fun rows=>E.vec sv1 46 20 rows::(X++μ9)) (by simp only [Int.toNat_natCast,List.set_set];exact rowsI_set hs (hb.imp (fun h=>⟨h.1,h.2.1⟩) (fun h=>⟨h.1,h.2.1⟩))))⟩
  ·try simp only [I] at c2
   refine zM<|zK<|F O<|A O<|A O<|A O<|A O<|qD O D (by omega) (wD hs)<|qO O zDo<|zJ wO qA O<|A O<|qI O ok87 (mapIx_id hf s.Idx (by omega) (fun x hx=>by have:=zAq hx;rw [Ix.wt] at this;omega) hPs.1) ⟨G,O,G,O,T⟩<|qP O<|qU O<|qU O<|zU O (qS 0 O D O O O (by omega) (by simpa using rowsI_lt hs))<|zU O (kF O zDo O)<|zAe O O (kB O sz34 O O O (zDh 0 O (rowsI_get hs) O))<|A O<|H<|F O<|A O<|yM O<|H<|zD O (fun c3=>?_) (fun c3=>?_)
   ·try simp only [I] at c3
    exact (c3 T).elim
   ·try simp only [I] at c3
    refine zM<|zK<|F O<|A O<|A O<|A O<|A O<|qD O D (by omega) (wD hs)<|qO O zAz<|zP kA qA O<|A O<|qI O ok138 (mapEx_id hf s.E hPs.2.1 (by have:=s.E.cnt_le;omega)) ⟨G,O,G,O,T⟩<|qP O<|yJ O<|qU O<|zU O (qS 0 O D O O O (by omega) (by simpa using rowsI_lt hs))<|zU O (kF O zAz O)<|zAe O O (kB O sz44 O O O (zDh 0 O (zCl (by simpa using rowsI_lt hs)) O))<|A O<|H<|F O<|A O<|yM O<|H<|zD O (fun c4=>?_) (fun c4=>?_)
    ·try simp only [I] at c4
     exact (c4 T).elim
    ·try simp only [I] at c4
     refine zM<|F O<|A O<|A O<|A O<|A O<|qD O D (by omega) (wD hs)<|qO O kK<|zJ kP qA O<|A O<|A O<|zV O O (zHz O ok91 (ih k s hs) ⟨G,O,G,O,G,O,T⟩) ?_
     rintro _ _ ⟨μ9,⟨b,v9,rfl,hb⟩,rfl⟩
     refine qP O<|qU O<|qU O<|zU O (qS 0 O D O O O (by omega) (by simpa using rowsI_lt hs))<|zU O (kF O kK O)<|zAe O O (kB O sz23 O O O (zDh 0 O (zCl (by simpa using rowsI_lt hs)) O))<|A O<|H<|F O<|A O<|yM O<|H<|zD O (fun c5=>?_) (fun c5=>?_)
     ·try simp only [I] at c5
      exact (c5 T).elim
     ·try simp only [I] at c5
      refine zM<|zQ O<|qJ O ⟨by omega,by omega⟩<|A O<|H ?_
      refine ⟨⟨k+1,(if k=i then v9 else v),X++μ9⟩,⟨by omega,invX hX hb,invQ hX hQ hb⟩,(by show l.length-(k+1)<l.length-k;omega),Weak.regsEq ⟨G,G,G,G,G,G,T⟩ (congrArg (fun rows=>E.vec sv1 46 20 rows::(X++μ9)) (by simp only [Int.toNat_natCast,List.set_set];exact rowsI_set hs (hb.imp (fun h=>⟨h.1,h.2.1⟩) (fun h=>⟨h.1,h.2.1⟩))))⟩
 ·try simp only [I] at c1
  have hke:k=l.length:=by omega
  subst hke
  refine qQ<|F O<|A O<|A O<|A O<|H<|o<|w (J O) (J O) ?_
  exact ⟨_,v,X,O,O,hX,hQ⟩
theorem mapStmtsP {c c9:C} {P:Lf->Prop} (hf:∀l,P l->FnPur cfg c [bZ l] (.tup [bZ l,vI 0])) (hg:∀s,FnPur cfg c9 [vS s] (vS s)):∀(p:List Int) (l:List St),p≠[]->mU p l->bH P l->bC l<=1073741824->Con cfg 91 [bM l,.c c,.c c9] [] (fun r μ'=>∃ch,ch.map Prod.fst=p/\r=.tup [.c (.lit (hdV ch)),vI 0]/\μ'=chE ch l)
  |[],_,h,_,_,_=>absurd rfl h
  |[j],l,_,hw,hP,hl=>by
    refine (zMd hf hg l hP l.length (fun _ _=>True) (fun k s hs=>?_) hl).mono ?_
    · have hsw:=yC (zZ hs)
      have hse:=St.wt_eq s
      have hPs:=St.allF_eq (kY hP s (zZ hs))
      refine (Con.pure_frame (Q:=fun r=>r=.tup [bM s.Body,vI 0]) (mapSts_id hf hg s.Body hPs.2.2 (by omega)) []).mono ?_
      rintro r μ' ⟨rfl,rfl⟩
      exact ⟨_,.slice none 0 0,O,.inr ⟨by have:=zOg hs;omega,O,O⟩⟩
    · rintro r μ' ⟨sv,v,X,rfl,rfl,hX,_⟩
      refine ⟨[(j,sv)],O,O,?_⟩
      rw [hX (Nat.le_refl _),rowsI_none,chE]
  |j::j1::p,l,_,hw,hP,hl=>by
    have hg0:=zJk hw.1
    have hjw:=yC (zZ hg0)
    have hjb:=St.body_wt (l.getD j.toNat zSt)
    have hPj:=St.allF_eq (kY hP _ (zZ hg0))
    have ih:=mapStmtsP hf hg (j1::p) (l.getD j.toNat zSt).Body (by simp) hw.2 hPj.2.2 (by omega)
    refine (zMd hf hg l hP j.toNat (fun v μ=>∃ch,ch.map Prod.fst=j1::p/\v=hdV ch/\μ=chE ch (l.getD j.toNat zSt).Body) (fun k s hs=>?_) hl).mono ?_
    · by_cases hkj:k=j.toNat
      · subst hkj
        have e:l.getD j.toNat zSt=s:=by rw [List.getD_eq_getElem?_getD,hs];rfl
        rw [e] at ih⊢
        refine ih.mono ?_
        rintro r μ' ⟨ch,h1,rfl,rfl⟩
        exact ⟨_,hdV ch,O,.inl ⟨O,O,ch,h1,O,O⟩⟩
      · have hsw:=yC (zZ hs)
        have hse:=St.wt_eq s
        have hPs:=St.allF_eq (kY hP s (zZ hs))
        refine (Con.pure_frame (Q:=fun r=>r=.tup [bM s.Body,vI 0]) (mapSts_id hf hg s.Body hPs.2.2 (by omega)) []).mono ?_
        rintro r μ' ⟨rfl,rfl⟩
        exact ⟨_,.slice none 0 0,O,.inr ⟨hkj,O,O⟩⟩
    · rintro r μ' ⟨sv,v,X,rfl,rfl,_,hQ⟩
      obtain ⟨ch,h1,rfl,rfl⟩:=hQ (by have:=hw.1;omega)
      match ch,h1 with
      |(i1,sv1)::r1,h1=>exact ⟨(j,sv)::(i1,sv1)::r1,by rw [List.map_cons,h1],rfl,by rw [rowsI_all,chE];rfl⟩
end Go.W
end
section
set_option maxRecDepth 10000
namespace Go.W
open Go Go.Eng Go.Proofs Go.L41 Go.Br
attribute [local irreducible] AWP RWP TD fH
abbrev Chn (p:List Int):={ ch:List (Int×Value)//ch.map Prod.fst=p }
theorem chE_mono:∀(ch:List (Int×Value)) (l:List St),∀e,e∈chE ch l->e.Mono
  |[],_,e,h=>by rw [chE] at h;cases h
  |[(_,sv)],l,e,h=>by rw [chE] at h;obtain rfl:=List.mem_singleton.1 h;trivial
  |(i,sv)::(j,sv1)::r,l,e,h=>by
    rw [chE] at h
    rcases List.mem_cons.1 h with rfl|h
    · trivial
    · exact chE_mono ((j,sv1)::r) _ e h
theorem copyStmtsQ (p:List Int) (hp:p≠[]) (l:List St) (hw:mU p l) (hl:bC l<=1073741824):
    Con cfg 41 [bM l] [] (fun r μ'=>∃ch,ch.map Prod.fst=p/\r=.c (.lit (hdV ch))/\μ'=chE ch l):=by
 refine zT Tryz.func41 O Tryz.ntmps41 Tryz.results41 O ?_
 intro z hz
 refine F O<|qX 20 O<|H<|F O<|A O<|zV O O (zHz O ok91 (mapStmtsP (P:=fun l=>l.L.length<=1073741824) (fun l hl=>FnPur.of_pur (first:=[]) (cap:=[]) ok92 (zWo l hl)) (fun s=>FnPur.of_pur (first:=[]) (cap:=[]) ok94 (zIf s)) p l hp hw (zJi hl) hl) ⟨G,O,G,O,G,O,T⟩) ?_
 rintro _ _ ⟨_,⟨ch,hch,rfl,rfl⟩,rfl⟩
 refine qP O<|qU O<|qU O<|A O<|A O<|H<|F O<|A O<|A O<|H<|o<|X O ?_
 exact ⟨ch,hch,O,O⟩
theorem copyStmtsC (p:List Int) (hp:p≠[]) (l:List St) (hw:mU p l) (hl:bC l<=1073741824):Con cfg 41 [bM l] [] fun r μ'=>∃a:Chn p,r=.c (.lit (hdV a.1))/\μ'=[pk (chE a.1 l)]:=
  (Con.pack (copyStmtsQ p hp l hw hl)).mono fun r μ' ⟨φ,⟨ch,h1,h2,h3⟩,h4⟩=>⟨⟨ch,h1⟩,h2,by rw [h4,h3]⟩
theorem replaceC (p:List Int) (hp:p≠[]) (a:Chn p) (l q:List St) (hw:mU p l) (hl:bC l<=2000000) (hq:q.length<=2000000):Con cfg 40 [.c (.lit (hdV a.1)),vIs p,bM q] [pk (chE a.1 l)] fun r' μ'=>∃sv',r'=.c (.lit sv')/\μ'=[.vec sv' 46 20 ((fY p l q).map St.cells)]:=by
  obtain ⟨ch,rfl⟩:=a
  match ch,hp,hw with
  |[],hp,_=>exact absurd rfl hp
  |(i,sv)::r,_,hw=>exact Con.unpack (zNv q hq r i sv l hw hl) (chE_mono _ _)
theorem loopnest_CopyC (p:List Int) (hp:p≠[]) (n:Ns) (hn:n.Ok) (hw:mU p n.Body):
    Con cfg 39 [vNs n] [] (fun r μ'=>∃a:Chn p,r=.agg [.sl 8 (n.Bufs.map Bf.cells),.lit (hdV a.1)]/\μ'=[pk (chE a.1 n.Body)]):=by
 refine Con.dropG<|zT Tryz.func39 O Tryz.ntmps39 Tryz.results39 O ?_
 intro z hz
 have hnb:=hn.bufs
 have hnw:=hn.body
 refine F O<|zV O O (qN O O) ?_
 rintro _ _ ⟨b1,rfl,rfl⟩
 refine zV O O (qE [some 8,some 20] O W O) ?_
 rintro _ _ ⟨b2,rfl,rfl⟩
 refine H<|F O<|zG O zAd<|zJ kP (R 1 O) O<|zV O O (zOb O ok41 (copyStmtsC p hp n.Body hw (by omega)) ⟨G,O,T⟩) ?_
 rintro _ _ ⟨ch,rfl,rfl⟩
 refine yP O W pl25<|zV O O (qE [some 8,some 20] O W O) ?_
 rintro _ _ ⟨b3,rfl,rfl⟩
 refine Y 0 i O<|H<|zK<|F O<|yI _ (kR 65 8)<|zG O zAt<|zJ zEk (R 4 O) O<|qC O el22<|A O<|H<|zR<|zY ⟨[(12,.c _),(1,.c _),(2,.c _),(3,.c _),(11,.c _)],[_,_,_,_,_]⟩ (Weak.mk [true,true,true,true,true] ⟨G,G,G,G,G,T⟩ O)<|qK 1 2 O O (Nat×Value) (fun ⟨k,sv⟩=>[(12,vI k)]) (fun ⟨k,sv⟩=>[E.vec sv 65 8 ((n.Bufs.take k).map Bf.cells),E.row b3 25 [.lit sv,.lit (hdV ch.1)]]) (fun ⟨k,sv⟩=>k<=n.Bufs.length) (fun ⟨k,sv⟩=>n.Bufs.length-k) ⟨⟨0,(.slice none 0 0)⟩,(by omega),Weak.mk [true,true,true,true,true] ⟨G,G,G,G,G,T⟩ O⟩ ?_
 rintro ⟨k,sv⟩ hk
 show AWP _ _ _ _ _ ⟨[(12,vI k)]++_,[E.vec sv 65 8 ((n.Bufs.take k).map Bf.cells),E.row b3 25 [.lit sv,.lit (hdV ch.1)]]++_⟩
 refine F O<|yD O<|H<|zK<|zD O (fun c1=>?_) (fun c1=>?_)
 ·try simp only [I] at c1
  obtain ⟨b,hb⟩:=qY n.Bufs k (by omega)
  have hbd:=hn.dims b (zZ hb)
  refine zM<|zK<|zR<|F O<|A O<|A O<|H<|qZ 9 mixed (by kernel_rfl) O O<|M O O (zE O zAt O)<|M O O (zF O zEk O (R 1 O) O)<|M O O (zE O zAt O)<|M O O (zF O zEk O (R 4 O) O)<|M O O (zN O O)<|M O O (qF O el22 O O (by omega) (Q (by assumption)))<|M O O (qB O zMz O qA O)<|M O O (qM O ok89 (zCw b (by omega)) ⟨G,O,T⟩)<|M O O (wQ O el22 zr65 O O O O)<|kE<|zV O O (qV 0 O el22 O O O (by simp only [List.length_map,List.length_append,List.length_cons,List.length_nil,List.length_take,List.length_drop];omega) (by simp only [List.length_map,List.length_append,List.length_cons,List.length_nil,List.length_take,List.length_drop];omega)) ?_
  rintro _ _ ⟨sv4,rfl,rfl⟩
  refine zG O zAt<|Y 1 sz22 O<|H<|zQ O<|qJ O ⟨by omega,by omega⟩<|A O<|H ?_
  refine ⟨⟨k+1,sv4⟩,(by omega),(by show n.Bufs.length-(k+1)<n.Bufs.length-k;omega),Weak.mk [true,true,true,true,true] ⟨G,G,G,G,G,T⟩ (by exact zSg (by rw [yL hb,List.map_append];rfl))⟩
 ·try simp only [I] at c1
  rw [yU (l:=n.Bufs) (k:=k) (by omega)]
  refine zY _ (yK 0 O (regs':=[]) (μ':=[_,_,_,_]) T ⟨EFle.row (ds:=[_,_]) ⟨.inr ⟨O,O⟩,.inl O,T⟩,EFle.refl _,EFle.refl _,EFle.refl _,T⟩)<|qQ<|F O<|zP yY (R 0 O) O<|Y 2 i O<|H<|o<|fin1 (y yY O (R 2 O) O) ?_
  exact ⟨[pk _],⟨[E.row _ _ _],[E.row _ _ _,E.row _ _ _],O⟩,ch,O,O⟩
theorem zOj (n:Ns) (hn:n.Ok):
    Pur cfg 39 [vNs n] (vNs n):=by
 refine zT Tryz.func39 O Tryz.ntmps39 Tryz.results39 O ?_
 intro z hz
 have hnb:=hn.bufs
 have hnw:=hn.body
 refine F O<|zV O O (qN O O) ?_
 rintro _ _ ⟨b1,rfl,rfl⟩
 refine zV O O (qE [some 8,some 20] O W O) ?_
 rintro _ _ ⟨b2,rfl,rfl⟩
 refine H<|F O<|zG O zAd<|zJ kP (R 1 O) O<|qI O ok41 (zDl n.Body (by omega)) ⟨G,O,T⟩<|yP O W pl25<|zV O O (qE [some 8,some 20] O W O) ?_
 rintro _ _ ⟨b3,rfl,rfl⟩
 refine Y 0 i O<|H<|zK<|F O<|yI _ (kR 65 8)<|zG O zAt<|zJ zEk (R 3 O) O<|qC O el22<|A O<|H<|zR<|zY ⟨[(12,.c _),(1,.c _),(2,.c _),(3,.c _),(11,.c _)],[_,_,_,_]⟩ (Weak.mk [true,true,true,true] ⟨G,G,G,G,G,T⟩ O)<|qK 1 2 O O (Nat×Value) (fun ⟨k,sv⟩=>[(12,vI k)]) (fun ⟨k,sv⟩=>[E.vec sv 65 8 ((n.Bufs.take k).map Bf.cells),E.row b3 25 [.lit sv,.sl 20 (n.Body.map St.cells)]]) (fun ⟨k,sv⟩=>k<=n.Bufs.length) (fun ⟨k,sv⟩=>n.Bufs.length-k) ⟨⟨0,(.slice none 0 0)⟩,(by omega),Weak.mk [true,true,true,true] ⟨G,G,G,G,G,T⟩ O⟩ ?_
 rintro ⟨k,sv⟩ hk
 show AWP _ _ _ _ _ ⟨[(12,vI k)]++_,[E.vec sv 65 8 ((n.Bufs.take k).map Bf.cells),E.row b3 25 [.lit sv,.sl 20 (n.Body.map St.cells)]]++_⟩
 refine F O<|yD O<|H<|zK<|zD O (fun c1=>?_) (fun c1=>?_)
 ·try simp only [I] at c1
  obtain ⟨b,hb⟩:=qY n.Bufs k (by omega)
  have hbd:=hn.dims b (zZ hb)
  refine zM<|zK<|zR<|F O<|A O<|A O<|H<|qZ 9 mixed (by kernel_rfl) O O<|M O O (zE O zAt O)<|M O O (zF O zEk O (R 1 O) O)<|M O O (zE O zAt O)<|M O O (zF O zEk O (R 3 O) O)<|M O O (zN O O)<|M O O (qF O el22 O O (by omega) (Q (by assumption)))<|M O O (qB O zMz O qA O)<|M O O (qM O ok89 (zCw b (by omega)) ⟨G,O,T⟩)<|M O O (wQ O el22 zr65 O O O O)<|kE<|zV O O (qV 0 O el22 O O O (by simp only [List.length_map,List.length_append,List.length_cons,List.length_nil,List.length_take,List.length_drop];omega) (by simp only [List.length_map,List.length_append,List.length_cons,List.length_nil,List.length_take,List.length_drop];omega)) ?_
  rintro _ _ ⟨sv4,rfl,rfl⟩
  refine zG O zAt<|Y 1 sz22 O<|H<|zQ O<|qJ O ⟨by omega,by omega⟩<|A O<|H ?_
  refine ⟨⟨k+1,sv4⟩,(by omega),(by show n.Bufs.length-(k+1)<n.Bufs.length-k;omega),Weak.mk [true,true,true,true] ⟨G,G,G,G,G,T⟩ (by exact zSg (by rw [yL hb,List.map_append];rfl))⟩
 ·try simp only [I] at c1
  rw [yU (l:=n.Bufs) (k:=k) (by omega)]
  refine zY _ (yK 0 O (regs':=[]) (μ':=[_,_,_]) T ⟨EFle.row (ds:=[_,_]) ⟨.inr ⟨O,O⟩,.inl O,T⟩,EFle.refl _,EFle.refl _,T⟩)<|qQ<|F O<|zP yY (R 0 O) O<|Y 1 i O<|H<|o<|fin1 (y yY O (R 1 O) O) ?_
  rfl
end Go.W
end
