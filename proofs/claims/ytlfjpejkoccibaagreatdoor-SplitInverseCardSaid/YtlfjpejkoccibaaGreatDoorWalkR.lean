/-
  Walks: what functions of the program compute. Printed by wip/gen/mk2.py.
  Walks: what functions of the program compute. Printed by wip/gen/mk2.py.
  Walks: what functions of the program compute. Printed by wip/gen/mk2.py.
  Walks: what functions of the program compute. Printed by wip/gen/mk2.py.
  Walks: what functions of the program compute. Printed by wip/gen/mk2.py.
  Walks: what functions of the program compute. Printed by wip/gen/mk2.py.
  Walks: what functions of the program compute. Printed by wip/gen/mk2.py.
  Conditions: none.
-/
import Derived.Test.YtlfjpejkoccibaaGreatDoorNR
import Derived.Test.YtlfjpejkoccibaaGreatDoorPlain2
import Derived.Test.YtlfjpejkoccibaaGreatDoorEngZ
set_option linter.unusedSimpArgs false
set_option linter.unusedVariables false
section
set_option maxRecDepth 10000
namespace Go.W
open Go Go.Eng Go.Proofs Go.L41 Go.Br
attribute [local irreducible] AWP RWP TD finQ
theorem ok29:callOk Tryz.prog 29=true:=by kernel_rfl
end Go.W
end
section
set_option maxRecDepth 10000
namespace Go.W
open Go Go.Eng Go.Proofs Go.L41 Go.Br
attribute [local irreducible] AWP RWP TD finQ
def totK (ls:List (List St)):Nat:=ls.flatten.length
theorem totK_next {ls:List (List St)} {k:Nat} {x:List St} (h:ls[k]? =some x):totK (ls.take (k+1))=totK (ls.take k)+x.length:=by
  unfold totK;rw [yH h,List.flatten_append,List.length_append];simp
theorem totK_le (ls:List (List St)) (k:Nat):totK (ls.take k)<=totK ls:=by
  have:totK ls=totK (ls.take k)+totK (ls.drop k):=by unfold totK;rw [←List.length_append,←List.flatten_append,List.take_append_drop]
  omega
theorem totK_get {ls:List (List St)} {k:Nat} {x:List St} (h:ls[k]? =some x):totK (ls.take k)+x.length<=totK ls:=by
  rw [←totK_next h];exact totK_le _ _
theorem totK_flat {ls:List (List St)} {k:Nat} {x:List St} (h:ls[k]? =some x):(ls.take k).flatten.length+x.length<=totK ls:=totK_get h
theorem el174:elemT Tryz.prog 174=some (23,1,24):=by kernel_rfl
theorem ik3:intT Tryz.prog 3=some .i64:=by kernel_rfl
theorem ok136:callOk Tryz.prog 136=true:=by kernel_rfl
theorem slices_Grow_st (n:Nat) (hn:n<=4294967296):
    OwnR cfg 136 [.c (.lit (.slice none 0 0)),vI n] 46 20 ([]):=by
 refine zQ Tryz.func136 O Tryz.ntmps136 Tryz.results136 O ?_
 intro z hz
 refine F O<|qX 20 O<|H<|zI<|F O<|A O<|yN O<|H<|zD O (fun c1=>?_) (fun c1=>?_)
 ·try simp only [I] at c1
  exact absurd c1 (by omega)
 ·try simp only [I] at c1
  refine zH<|zI<|F O<|A O<|A O<|zR O (zQw O K O)<|A O<|zR O (zQu O K O)<|zR O (yB O O O ⟨by omega,by omega⟩)<|zR O (yB O O O ⟨by omega,by omega⟩)<|A O<|H<|F O<|A O<|zR O (yW O O O)<|H<|zD O (fun c2=>?_) (fun c2=>?_)
  ·try simp only [I] at c2
   refine zT O<|A O<|A O<|zR O (zQw O K O)<|zR O (det_cut_nil O K O O)<|A O<|zU O O (ope_grow n O K ik3 O O (by omega) (by omega) (by omega) (by omega)) ?_
   rintro _ _ ⟨b1,cap1,rfl,hcap1,rfl⟩
   refine A O<|zR O (zQu O K O)<|zR O (det_cut_row 0 O K O O O ⟨by omega,hcap1⟩)<|A O<|H<|F O<|A O<|A O<|H<|o<|X O ?_
   exact ⟨_,O,O⟩
  ·try simp only [I] at c2
   refine zH<|F O<|A O<|yJ _ (wL 46 20)<|A O<|H<|o<|X O ?_
   exact ⟨_,O,O⟩
theorem zNf (ls:List (List St)) (hl:ls.length<=4294967296) (ht:totK ls<=4294967296):
    OwnR cfg 90 [.c (.sl 1 (ls.map fun l=>[.sl 20 (l.map St.cells)]))] 46 20 (ls.flatten.map St.cells):=by
 refine zQ Tryz.func90 O Tryz.ntmps90 Tryz.results90 O ?_
 intro z hz
 refine F O<|qX 20 O<|H<|F O<|A O<|H<|zI<|F O<|A O<|qB O el174<|A O<|H<|zS<|zV ⟨[(11,.c _),(3,.c _),(0,.c _),(9,.c _),(10,.c _)],[]⟩ (Weak.mk [] ⟨G,G,G,G,G,T⟩ O)<|qO 2 0 O O (Nat) (fun k=>[(11,vI k),(3,vI (totK (ls.take k)))]) (fun k=>[]) (fun k=>k<=ls.length) (fun k=>ls.length-k) ⟨0,(by omega),Weak.mk [] ⟨G,G,G,G,G,T⟩ O⟩ ?_
 rintro k hk
 refine F O<|yN O<|H<|zI<|zD O (fun c1=>?_) (fun c1=>?_)
 ·try simp only [I] at c1
  obtain ⟨x,hx⟩:=qZ ls k (by omega)
  have hb1:=totK_get hx
  refine zH<|zI<|zS<|F O<|qD O el174 (by omega) (v (by assumption))<|zK kM qA O<|A O<|H<|F O<|A O<|A O<|qB O K<|qK O ⟨by omega,by omega⟩<|A O<|H<|F O<|A O<|yN O<|H<|zD O (fun c2=>?_) (fun c2=>?_)
  ·try simp only [I] at c2
   exact absurd c2 (by omega)
  ·try simp only [I] at c2
   refine zH<|zT O<|qK O ⟨by omega,by omega⟩<|A O<|H ?_
   refine ⟨k+1,(by omega),(by omega),Weak.mk [] ⟨G,VLe.of_eq (congrArg vI (by rw [totK_next hx];simp)),G,G,G,T⟩ O⟩
 ·try simp only [I] at c1
  have hT:totK (ls.take k)=totK ls:=by rw [kG (by omega)]
  refine qQ<|F O<|A O<|zU O O (wZ O ok136 (slices_Grow_st (totK (ls.take k)) (by omega)) ⟨G,O,G,O,T⟩) ?_
  rintro _ _ ⟨sv1,rfl,rfl⟩
  refine A O<|H<|zI<|F O<|A O<|qB O el174<|A O<|H<|zS<|zV ⟨[(27,.c _),(6,.c _),(25,.c _),(26,.c _)],[_]⟩ (Weak.mk [true] ⟨G,G,G,G,T⟩ O)<|qO 2 1 O O (Nat×Value) (fun ⟨k,sv⟩=>[(27,vI k),(6,.c (.lit sv))]) (fun ⟨k,sv⟩=>[E.vec sv 46 20 ((ls.take k).flatten.map St.cells)]) (fun ⟨k,sv⟩=>k<=ls.length) (fun ⟨k,sv⟩=>ls.length-k) ⟨⟨0,_⟩,(by omega),Weak.mk [true] ⟨G,G,G,G,T⟩ O⟩ ?_
  rintro ⟨k,sv⟩ hk
  show AWP _ _ _ _ _ ⟨[(27,vI k),(6,.c (.lit sv))]++_,[E.vec sv 46 20 ((ls.take k).flatten.map St.cells)]++_⟩
  refine F O<|yN O<|H<|zI<|zD O (fun c3=>?_) (fun c3=>?_)
  ·try simp only [I] at c3
   obtain ⟨x,hx⟩:=qZ ls k (by omega)
   refine zH<|zI<|zS<|F O<|qD O el174 (by omega) (v (by assumption))<|zK kM qA O<|A O<|H<|zT O<|A O<|A O<|zU O O (yU 0 O K O O O (by have:=totK_flat hx;simp only [List.length_map];omega) (by have:=totK_flat hx;simp only [List.length_map];omega)) ?_
   rintro _ _ ⟨sv2,rfl,rfl⟩
   refine A O<|H<|zT O<|qK O ⟨by omega,by omega⟩<|A O<|H ?_
   refine ⟨⟨k+1,sv2⟩,(by omega),(by show ls.length-(k+1)<ls.length-k;omega),Weak.mk [true] ⟨G,G,G,G,T⟩ (by show _=[E.vec sv2 _ 20 ((ls.take (k+1)).flatten.map St.cells)]++_;rw [yH hx,List.flatten_append,List.map_append];simp only [List.flatten_cons,List.flatten_nil,List.append_nil];rfl)⟩
  ·try simp only [I] at c3
   refine qQ<|F O<|A O<|A O<|H<|o<|X O ?_
   exact ⟨_,O,by rw [kG (by omega)];rfl⟩
theorem zPa (x y z:List St) (hx:x.length<=1073741824) (hy:y.length<=1073741824) (hz:z.length<=1073741824):OwnR cfg 90 [.c (.sl 1 [[.sl 20 (x.map St.cells)],[.sl 20 (y.map St.cells)],[.sl 20 (z.map St.cells)]])] 46 20 ((x++y++z).map St.cells):=by
  have h:=zNf [x,y,z] (by simp) (by simp [totK];omega)
  simpa using h
end Go.W
end
section
set_option maxRecDepth 10000
namespace Go.W
open Go Go.Eng Go.Proofs Go.L41 Go.Br
attribute [local irreducible] AWP RWP TD finQ
theorem ok90:callOk Tryz.prog 90=true:=by kernel_rfl
theorem zr23:zeroT Tryz.prog 23=some [(Value.slice none 0 0)]:=by kernel_rfl
theorem replaceIn_one (sv:Value) (l:List St) (i:Int) (q:List St) (hi:0<=i/\i<l.length) (hl:l.length<=1073741823) (hq:q.length<=1073741823):
    Con cfg 40 [.c (.lit sv),vIs [i],vSts q] [.vec sv 46 20 (l.map St.cells)] fun r μ'=>∃sv',r=.c (.lit sv')/\μ'=[.vec sv' 46 20 ((replL [i] l q).map St.cells)]:=by
 refine zQ Tryz.func40 O Tryz.ntmps40 Tryz.results40 O ?_
 intro z hz
 have hw:IntKind.i64.wrap (i+1)=i+1:=IntWalk.i64_in _ ⟨by omega,by omega⟩
 refine F O<|qX 20 O<|H<|F O<|A O<|qD O L (by omega) O<|zK J qA O<|A O<|H<|zI<|F O<|A O<|qB O L<|yZ O<|H<|zD O (fun c1=>?_) (fun c1=>?_)
 ·try simp only [I] at c1
  refine zI<|zV _ (yY 0 O (regs':=[(0,_)]) (μ':=[]) ⟨FLe.sl,T⟩ T)<|qY 9 mixed (by kernel_rfl) O O<|Y O O (w O O)<|Y O O (w O O)<|Y O O (zNa (k:=i.toNat) O K O (congrArg (fun n=>V.c (C.lit (.int .i64 n))) (by omega)) (by omega))<|Y O O (w O O)<|Y O O (w O O)<|Y O O (w O O)<|Y O O (zCt O O O ⟨by omega,by omega⟩)<|Y O O (zAr (k:=i.toNat+1) O K O (congrArg (fun n=>V.c (C.lit (.int .i64 n))) (by omega)) (by omega))<|Y O O (qW O el174 zr23 O O O O)<|kH<|zU O O (wZ O ok90 (zPa (l.take i.toNat) q (l.drop (i.toNat+1)) (by rw [List.length_take];omega) (by omega) (by rw [List.length_drop];omega)) ⟨G,O,T⟩) ?_
  rintro _ _ ⟨sv1,rfl,rfl⟩
  refine A O<|H<|o<|X O ?_
  exact ⟨_,O,by rw [zBz]⟩
 ·try simp only [I] at c1
  exact absurd O c1
end Go.W
end
section
set_option maxRecDepth 10000
namespace Go.W
open Go Go.Eng Go.Proofs Go.L41 Go.Br
attribute [local irreducible] AWP RWP TD finQ
def csB (s:St) (c:C):List C:=[cI s.Op,cS s.Name,cI s.Many,cI s.Mark,cI s.Fold,.sl 4 (s.Idx.map Ix.cells),cI s.E.Op,cS s.E.Name,cI s.E.Val.N,cI s.E.Val.D,cI s.E.Ty.Kind,cI s.E.Ty.Bits,cI s.E.Ty.Frac,cI s.E.Ty.Round,cI s.E.Ty.Over,cI s.E.Lin.K,.sl 2 (s.E.Lin.L.map Mono.cells),.sl 4 (s.E.Idx.map Ix.cells),.sl 13 (s.E.Args.map Ex.cells),c]
theorem csB_set (s:St) (b:List St):csB s (.sl 20 (b.map St.cells))=(setB s b).cells:=by rw [St.cells_eq];rfl
theorem rep_in {l:List St} {i:Int} (h:0<=i/\i<l.length) (s:St):(l.map St.cells).set i.toNat s.cells=(l.take i.toNat++[s]++l.drop (i.toNat+1)).map St.cells:=by
  have hl:i.toNat<l.length:=by omega
  rw [List.set_eq_take_append_cons_drop,if_pos (by rw [List.length_map];exact hl)]
  simp [List.map_take,List.map_drop]
theorem replaceIn_in (sv sv1:Value) (l:List St) (i:Int) (p:List Int) (rest:List E) (q:List St) (hp:p≠[]) (hi:0<=i/\i<l.length) (ih:Con cfg 40 [.c (.lit sv1),vIs p,vSts q] rest (fun r μ'=>∃sv',r=.c (.lit sv')/\μ'=[.vec sv' 46 20 ((replL p (l.getD i.toNat zSt).Body q).map St.cells)])):
    Con cfg 40 [.c (.lit sv),vIs (i::p),vSts q] (.vec sv 46 20 ((l.map St.cells).set i.toNat (csB (l.getD i.toNat zSt) (.lit sv1)))::rest) (fun r μ'=>∃sv',r=.c (.lit sv')/\μ'=[.vec sv' 46 20 ((replL (i::p) l q).map St.cells)]):=by
 refine zQ Tryz.func40 O Tryz.ntmps40 Tryz.results40 O ?_
 intro z hz
 generalize hs0:l.getD i.toNat zSt=s0 at *
 refine F O<|qX 20 O<|H<|F O<|A O<|qD O L (by omega) O<|zK J qA O<|A O<|H<|zI<|F O<|A O<|qB O L<|yZ O<|H<|zD O (fun c1=>?_) (fun c1=>?_)
 ·try simp only [I] at c1
  exact absurd (List.eq_nil_of_length_eq_zero (by simp at c1;omega)) hp
 ·try simp only [I] at c1
  refine zH<|zI<|awp_draw_s 10 [true,true,false,false,false,false,false,false,false,false] Mall mixed (by kernel_rfl) O O O<|td2_detA O O (fun _=>w O O)<|td2_detA O O (fun _=>w O O)<|zGl O O (w O O)<|zGl O O (w O O)<|zGl O O (qM 0 O K O O O (by omega) (by simp;omega))<|zGl O O (yF O kN O)<|zGl O O (Q O kM O (wN 0 O (zAy (by simp;omega))) O)<|zGl O O (w O O)<|zGl O O (zAr (k:=1) O L O O (by simp))<|zGl O O (w O O)<|td2_nil ?_
  refine ⟨_,ope_call_tail O ok91 ih ⟨G,O,G,O,G,O,T⟩,fun _ _ _=>T,?_⟩
  rintro _ _ ⟨sv9,rfl,rfl⟩
  refine zR O (qM 0 O K O O O (by omega) (by simp;omega))<|zR O (yF O kN O)<|wA O O (yO O sz23 O O O (zBy 0 O (zAy (by simp;omega)) O))<|H<|zI<|zV _ (yY 1 O (regs':=[]) (μ':=[_]) T ⟨EFle.vec (r':=[_,_,_,_,_,_,_,_,_,_,_,_,_,_,_,_,_,_,_,_]) (zAy (by simp;omega)) ⟨.inl O,.inl O,.inl O,.inl O,.inl O,.inl O,.inl O,.inl O,.inl O,.inl O,.inl O,.inl O,.inl O,.inl O,.inl O,.inl O,.inl O,.inl O,.inl O,.inr ⟨O,O⟩,T⟩,T⟩)<|zT O<|A O<|A O<|H<|o<|X O ?_
  refine ⟨_,O,?_⟩
  rw [List.set_set,List.set_set]
  have e1:=rep_in hi (setB s0 (replL p s0.Body q))
  rw [zDk hp,hs0,←e1,←csB_set]
  rfl
end Go.W
end
section
set_option maxRecDepth 10000
namespace Go.W
open Go Go.Eng Go.Proofs Go.L41 Go.Br
attribute [local irreducible] AWP RWP TD finQ
def chE:List (Int×Value)->List St->List E
  |[],_=>[]
  |[(_,sv)],l=>[.vec sv 46 20 (l.map St.cells)]
  |(i,sv)::(j,sv1)::r,l=>.vec sv 46 20 ((l.map St.cells).set i.toNat (csB (l.getD i.toNat zSt) (.lit sv1)))::chE ((j,sv1)::r) (l.getD i.toNat zSt).Body
theorem zKa (q:List St) (hq:q.length<=2000000):∀(r:List (Int×Value)) (i:Int) (sv:Value) (l:List St),wayOk (i::r.map Prod.fst) l->stsWt l<=2000000->
    Con cfg 40 [.c (.lit sv),vIs (i::r.map Prod.fst),vSts q] (chE ((i,sv)::r) l) fun r' μ'=>∃sv',r'=.c (.lit sv')/\μ'=[.vec sv' 46 20 ((replL (i::r.map Prod.fst) l q).map St.cells)]
  |[],i,sv,l,hw,hl=>replaceIn_one sv l i q hw.1 (by have:=kP l;omega) (by omega)
  |(j,sv1)::r,i,sv,l,hw,hl=>by
    rw [chE]
    exact replaceIn_in sv sv1 l i (j::r.map Prod.fst) (chE ((j,sv1)::r) (l.getD i.toNat zSt).Body) q (by simp) hw.1
      (zKa q hq r j sv1 _ hw.2 (by have:=yG (zZ (zLs hw.1));have:=St.body_wt (l.getD i.toNat zSt);omega))
end Go.W
end
section
set_option maxRecDepth 10000
namespace Go.W
open Go Go.Eng Go.Proofs Go.L41 Go.Br
attribute [local irreducible] AWP RWP TD finQ
theorem zKi {α:Type} {l:List α} {k:Nat} {x:α} (h:l[k]? =some x):k<l.length:=(List.getElem?_eq_some_iff.1 h).1
def rowsI (l:List St) (i:Nat) (v:Value) (k:Nat):List (List C):=((l.map St.cells).set i (csB (l.getD i zSt) (.lit v))).take k++(l.drop k).map St.cells
theorem rowsI_get {l:List St} {i:Nat} {v:Value} {k:Nat} {s:St} (h:l[k]? =some s):(rowsI l i v k)[k]? =some s.cs:=by
  have:=zKi h
  unfold rowsI;exact mid_getS (by simp;omega) h
theorem rowsI_lt {l:List St} {i:Nat} {v:Value} {k:Nat} {s:St} (h:l[k]? =some s):k<(rowsI l i v k).length:=by
  have:=zKi h
  unfold rowsI;simp;omega
theorem rowsI_set {l:List St} {i:Nat} {v v9:Value} {k:Nat} {s:St} {b:C} (h:l[k]? =some s) (hb:(k=i/\b=.lit v9)∨(k≠i/\b=.sl 20 (s.Body.map St.cells))):(rowsI l i v k).set k (csB s b)=rowsI l i (if k=i then v9 else v) (k+1):=by
  have hk:=zKi h
  have hm:(l.map St.cells)[k]? =some s.cells:=by rw [List.getElem?_map,h];rfl
  unfold rowsI
  rw [zMa (by simp;omega) h]
  congr 1
  rcases hb with ⟨rfl,rfl⟩|⟨hne,rfl⟩
  · rw [if_pos rfl,List.take_set_of_le (Nat.le_refl k),yH (l:=(l.map St.cells).set k (csB (l.getD k zSt) (.lit v9))) (x:=csB s (.lit v9)),List.take_set_of_le (Nat.le_refl k)]
    rw [List.getElem?_set_self (by simpa using hk),show l.getD k zSt=s by rw [List.getD_eq_getElem?_getD,h];rfl]
  · rw [if_neg hne,yH (l:=(l.map St.cells).set i (csB (l.getD i zSt) (.lit v))) (x:=csB s (.sl 20 (s.Body.map St.cells)))]
    rw [List.getElem?_set_ne (fun h=>hne h.symm),hm,csB_set,setB_self]
theorem rowsI_none (l:List St) (v:Value):rowsI l l.length v l.length=l.map St.cells:=by
  unfold rowsI
  rw [List.set_eq_of_length_le (by simp),List.take_of_length_le (by simp),List.drop_length];simp
theorem rowsI_all (l:List St) (i:Nat) (v:Value):rowsI l i v l.length=(l.map St.cells).set i (csB (l.getD i zSt) (.lit v)):=by
  unfold rowsI
  rw [List.take_of_length_le (by simp),List.drop_length];simp
theorem invX {k i:Nat} {X Y:List E} {v:Value} {b c:C} {Q:Value->List E->Prop} (hX:k<=i->X=[]) (hb:(k=i/\b=.lit v/\Q v Y)∨(k≠i/\b=c/\Y=[])):k+1<=i->X++Y=[]:=by
  intro h
  rcases hb with ⟨h1,_,_⟩|⟨_,_,rfl⟩
  · omega
  · rw [hX (by omega)];rfl
theorem invQ {k i:Nat} {X Y:List E} {v v0:Value} {b c:C} {Q:Value->List E->Prop} (hX:k<=i->X=[]) (hQ:i<k->Q v0 X) (hb:(k=i/\b=.lit v/\Q v Y)∨(k≠i/\b=c/\Y=[])):i<k+1->Q (if k=i then v else v0) (X++Y):=by
  intro h
  rcases hb with ⟨h1,_,hq⟩|⟨h1,_,rfl⟩
  · rw [if_pos h1,hX (by omega)];exact hq
  · rw [if_neg h1,List.append_nil];exact hQ (by omega)
def hdV:List (Int×Value)->Value
  |[]=>.slice none 0 0
  |(_,v)::_=>v
theorem mapIx_id {c:C} {P:Lf->Prop} (hf:∀l,P l->FnPur cfg c [vLin l] (.tup [vLin l,vI 0])) (i:List Ix) (hi:i.length<=4294967296) (hA:∀x,x∈i->x.At.length<=4294967296) (hP:ixsAll P i):Pur cfg 87 [vIndices i,.c c] (.tup [vIndices i,vI 0]):=by
  have h:=zAd idF c P hf i hi hA hP
  rw [mIxs_id] at h;exact h
theorem mapEx_id {c:C} {P:Lf->Prop} (hf:∀l,P l->FnPur cfg c [vLin l] (.tup [vLin l,vI 0])) (e:Ex) (hP:e.allF P) (he:e.cnt<=4294967296):Pur cfg 138 [vE e,.c c] (.tup [vE e,vI 0]):=by
  have h:=zDe idF c P hf e hP he
  rw [mEx_id] at h;exact h
theorem mapSts_id {c c9:C} {P:Lf->Prop} (hf:∀l,P l->FnPur cfg c [vLin l] (.tup [vLin l,vI 0])) (hg:∀s,FnPur cfg c9 [vS s] (vS s)) (l:List St) (hP:allSs P l) (hl:stsWt l<=1073741824):Pur cfg 91 [vSts l,.c c,.c c9] (.tup [vSts l,vI 0]):=by
  have h:=zCo idF c P hf (fun x=>x) c9 hg l hP hl
  rw [mSts_id] at h;exact h
theorem zIp {c c9:C} {P:Lf->Prop} (hf:∀l,P l->FnPur cfg c [vLin l] (.tup [vLin l,vI 0])) (hg:∀s,FnPur cfg c9 [vS s] (vS s)) (l:List St) (hP:allSs P l) (i:Nat) (Q:Value->List E->Prop) (ih:∀k s,l[k]? =some s->Con cfg 91 [vSts s.Body,.c c,.c c9] [] (fun r μ'=>∃b v,r=.tup [.c b,vI 0]/\((k=i/\b=.lit v/\Q v μ')∨(k≠i/\b=.sl 20 (s.Body.map St.cells)/\μ'=[])))) (hl:stsWt l<=1073741824):
    Con cfg 91 [vSts l,.c c,.c c9] [] (fun r μ'=>∃sv v X,r=.tup [.c (.lit sv),vI 0]/\μ'=.vec sv 46 20 (rowsI l i v l.length)::X/\(l.length<=i->X=[])/\(i<l.length->Q v X)):=by
 refine zQ Tryz.func91 O Tryz.ntmps91 Tryz.results91 O ?_
 intro z hz
 have hll:=kP l
 refine F O<|qX 20 O<|A O<|H<|F O<|A O<|zU O O (wZ O ok137 (zGr l (by omega)) ⟨G,O,T⟩) ?_
 rintro _ _ ⟨sv1,rfl,rfl⟩
 refine A O<|H<|F O<|A O<|H<|zI<|F O<|A O<|qB O K<|A O<|H<|zS<|zV ⟨[(15,.c _),(0,.c _),(1,.c _),(2,.c _),(8,.c _),(14,.c _)],_⟩ (Weak.regs ⟨G,G,G,G,G,G,T⟩)<|zBv 1 O (Nat×Value×List E) (fun ⟨k,v,X⟩=>[(15,vI k)]) (fun ⟨k,v,X⟩=>(E.vec sv1 46 20 (rowsI l i v k)::X)) (fun ⟨k,v,X⟩=>k<=l.length/\(k<=i->X=[])/\(i<k->Q v X)) (fun ⟨k,v,X⟩=>l.length-k) ⟨⟨0,.slice none 0 0,[]⟩,⟨by omega,fun _=>O,fun h=>absurd h (Nat.not_lt_zero _)⟩,Weak.regsEq ⟨G,G,G,G,G,G,T⟩ O⟩ ?_
 rintro ⟨k,v,X⟩ ⟨hk,hX,hQ⟩
 show AWP _ _ _ _ _ ⟨[(15,vI k)]++_,(E.vec sv1 46 20 (rowsI l i v k)::X)⟩
 refine F O<|yN O<|H<|zI<|zD O (fun c1=>?_) (fun c1=>?_)
 ·try simp only [I] at c1
  obtain ⟨s,hs⟩:=qZ l k (by omega)
  have hsw:=yG (zZ hs)
  have hse:=St.wt_eq s
  have hPs:=St.allF_eq (kJ hP s (zZ hs))
  refine zH<|zI<|zS<|F O<|A O<|A O<|H<|zI<|F O<|A O<|A O<|qD O K (by omega) (kZ hs)<|qS O zBu<|zK J qA O<|yZ O<|H<|zD O (fun c2=>?_) (fun c2=>?_)
  ·try simp only [I] at c2
   refine zT O<|A O<|A O<|A O<|A O<|A O<|qD O K (by omega) (kZ hs)<|qS O zBt<|zK one9 qA O<|zR O (kC O O (hg s.Name) ⟨G,O,T⟩)<|zR O (qM 0 O K O O O (by omega) (by simpa using rowsI_lt hs))<|zR O (yF O zBt O)<|wA O O (yO O sz9 O O O (zBy 0 O (rowsI_get hs) O))<|H<|zI<|F O<|A O<|A O<|A O<|A O<|qD O K (by omega) (kZ hs)<|qS O zEc<|zK zBn qA O<|A O<|qG O ok87 (mapIx_id hf s.Idx (by omega) (fun x hx=>by have:=zAp hx;rw [Ix.wt] at this;omega) hPs.1) ⟨G,O,G,O,T⟩<|qN O<|qU O<|qU O<|zR O (qM 0 O K O O O (by omega) (by simpa using rowsI_lt hs))<|zR O (yF O zEc O)<|wA O O (yO O sz34 O O O (zBy 0 O (zAy (by simpa using rowsI_lt hs)) O))<|A O<|H<|F O<|A O<|yP O<|H<|zD O (fun c3=>?_) (fun c3=>?_)
   ·try simp only [I] at c3
    exact (c3 T).elim
   ·try simp only [I] at c3
    refine zH<|zI<|F O<|A O<|A O<|A O<|A O<|qD O K (by omega) (kZ hs)<|qS O zCf<|zO kL qA O<|A O<|qG O ok138 (mapEx_id hf s.E hPs.2.1 (by have:=s.E.cnt_le;omega)) ⟨G,O,G,O,T⟩<|qN O<|zR O (qT O O O)<|qU O<|zR O (qM 0 O K O O O (by omega) (by simpa using rowsI_lt hs))<|zR O (yF O zCf O)<|wA O O (yO O sz44 O O O (zBy 0 O (zAy (by simpa using rowsI_lt hs)) O))<|A O<|H<|F O<|A O<|yP O<|H<|zD O (fun c4=>?_) (fun c4=>?_)
    ·try simp only [I] at c4
     exact (c4 T).elim
    ·try simp only [I] at c4
     refine zH<|F O<|A O<|A O<|A O<|A O<|qD O K (by omega) (kZ hs)<|qS O kN<|zK kM qA O<|A O<|A O<|zU O O (zFn O ok91 (ih k s hs) ⟨G,O,G,O,G,O,T⟩) ?_
     rintro _ _ ⟨μ9,⟨b,v9,rfl,hb⟩,rfl⟩
     refine qN O<|qU O<|qU O<|zR O (qM 0 O K O O O (by omega) (by simpa using rowsI_lt hs))<|zR O (yF O kN O)<|wA O O (yO O sz23 O O O (zBy 0 O (zAy (by simpa using rowsI_lt hs)) O))<|A O<|H<|F O<|A O<|yP O<|H<|zD O (fun c5=>?_) (fun c5=>?_)
     ·try simp only [I] at c5
      exact (c5 T).elim
     ·try simp only [I] at c5
      refine zH<|zT O<|qK O ⟨by omega,by omega⟩<|A O<|H ?_
      refine ⟨⟨k+1,(if k=i then v9 else v),X++μ9⟩,⟨by omega,invX hX hb,invQ hX hQ hb⟩,(by show l.length-(k+1)<l.length-k;omega),Weak.regsEq ⟨G,G,G,G,G,G,T⟩ (congrArg (fun rows=>E.vec sv1 46 20 rows::(X++μ9)) (by simp only [Int.toNat_natCast,List.set_set];exact rowsI_set hs (hb.imp (fun h=>⟨h.1,h.2.1⟩) (fun h=>⟨h.1,h.2.1⟩))))⟩
  ·try simp only [I] at c2
   refine zH<|zI<|F O<|A O<|A O<|A O<|A O<|qD O K (by omega) (kZ hs)<|qS O zEc<|zK zBn qA O<|A O<|qG O ok87 (mapIx_id hf s.Idx (by omega) (fun x hx=>by have:=zAp hx;rw [Ix.wt] at this;omega) hPs.1) ⟨G,O,G,O,T⟩<|qN O<|qU O<|qU O<|zR O (qM 0 O K O O O (by omega) (by simpa using rowsI_lt hs))<|zR O (yF O zEc O)<|wA O O (yO O sz34 O O O (zBy 0 O (rowsI_get hs) O))<|A O<|H<|F O<|A O<|yP O<|H<|zD O (fun c3=>?_) (fun c3=>?_)
   ·try simp only [I] at c3
    exact (c3 T).elim
   ·try simp only [I] at c3
    refine zH<|zI<|F O<|A O<|A O<|A O<|A O<|qD O K (by omega) (kZ hs)<|qS O zCf<|zO kL qA O<|A O<|qG O ok138 (mapEx_id hf s.E hPs.2.1 (by have:=s.E.cnt_le;omega)) ⟨G,O,G,O,T⟩<|qN O<|zR O (qT O O O)<|qU O<|zR O (qM 0 O K O O O (by omega) (by simpa using rowsI_lt hs))<|zR O (yF O zCf O)<|wA O O (yO O sz44 O O O (zBy 0 O (zAy (by simpa using rowsI_lt hs)) O))<|A O<|H<|F O<|A O<|yP O<|H<|zD O (fun c4=>?_) (fun c4=>?_)
    ·try simp only [I] at c4
     exact (c4 T).elim
    ·try simp only [I] at c4
     refine zH<|F O<|A O<|A O<|A O<|A O<|qD O K (by omega) (kZ hs)<|qS O kN<|zK kM qA O<|A O<|A O<|zU O O (zFn O ok91 (ih k s hs) ⟨G,O,G,O,G,O,T⟩) ?_
     rintro _ _ ⟨μ9,⟨b,v9,rfl,hb⟩,rfl⟩
     refine qN O<|qU O<|qU O<|zR O (qM 0 O K O O O (by omega) (by simpa using rowsI_lt hs))<|zR O (yF O kN O)<|wA O O (yO O sz23 O O O (zBy 0 O (zAy (by simpa using rowsI_lt hs)) O))<|A O<|H<|F O<|A O<|yP O<|H<|zD O (fun c5=>?_) (fun c5=>?_)
     ·try simp only [I] at c5
      exact (c5 T).elim
     ·try simp only [I] at c5
      refine zH<|zT O<|qK O ⟨by omega,by omega⟩<|A O<|H ?_
      refine ⟨⟨k+1,(if k=i then v9 else v),X++μ9⟩,⟨by omega,invX hX hb,invQ hX hQ hb⟩,(by show l.length-(k+1)<l.length-k;omega),Weak.regsEq ⟨G,G,G,G,G,G,T⟩ (congrArg (fun rows=>E.vec sv1 46 20 rows::(X++μ9)) (by simp only [Int.toNat_natCast,List.set_set];exact rowsI_set hs (hb.imp (fun h=>⟨h.1,h.2.1⟩) (fun h=>⟨h.1,h.2.1⟩))))⟩
 ·try simp only [I] at c1
  have hke:k=l.length:=by omega
  subst hke
  refine qQ<|F O<|A O<|A O<|A O<|H<|o<|p (N O) (N O) ?_
  exact ⟨_,v,X,O,O,hX,hQ⟩
theorem mapStmtsP {c c9:C} {P:Lf->Prop} (hf:∀l,P l->FnPur cfg c [vLin l] (.tup [vLin l,vI 0])) (hg:∀s,FnPur cfg c9 [vS s] (vS s)):∀(p:List Int) (l:List St),p≠[]->wayOk p l->allSs P l->stsWt l<=1073741824->Con cfg 91 [vSts l,.c c,.c c9] [] (fun r μ'=>∃ch,ch.map Prod.fst=p/\r=.tup [.c (.lit (hdV ch)),vI 0]/\μ'=chE ch l)
  |[],_,h,_,_,_=>absurd rfl h
  |[j],l,_,hw,hP,hl=>by
    refine (zIp hf hg l hP l.length (fun _ _=>True) (fun k s hs=>?_) hl).mono ?_
    · have hsw:=yG (zZ hs)
      have hse:=St.wt_eq s
      have hPs:=St.allF_eq (kJ hP s (zZ hs))
      refine (Con.pure_frame (Q:=fun r=>r=.tup [vSts s.Body,vI 0]) (mapSts_id hf hg s.Body hPs.2.2 (by omega)) []).mono ?_
      rintro r μ' ⟨rfl,rfl⟩
      exact ⟨_,.slice none 0 0,O,.inr ⟨by have:=zKi hs;omega,O,O⟩⟩
    · rintro r μ' ⟨sv,v,X,rfl,rfl,hX,_⟩
      refine ⟨[(j,sv)],O,O,?_⟩
      rw [hX (Nat.le_refl _),rowsI_none,chE]
  |j::j1::p,l,_,hw,hP,hl=>by
    have hg0:=zLs hw.1
    have hjw:=yG (zZ hg0)
    have hjb:=St.body_wt (l.getD j.toNat zSt)
    have hPj:=St.allF_eq (kJ hP _ (zZ hg0))
    have ih:=mapStmtsP hf hg (j1::p) (l.getD j.toNat zSt).Body (by simp) hw.2 hPj.2.2 (by omega)
    refine (zIp hf hg l hP j.toNat (fun v μ=>∃ch,ch.map Prod.fst=j1::p/\v=hdV ch/\μ=chE ch (l.getD j.toNat zSt).Body) (fun k s hs=>?_) hl).mono ?_
    · by_cases hkj:k=j.toNat
      · subst hkj
        have e:l.getD j.toNat zSt=s:=by rw [List.getD_eq_getElem?_getD,hs];rfl
        rw [e] at ih⊢
        refine ih.mono ?_
        rintro r μ' ⟨ch,h1,rfl,rfl⟩
        exact ⟨_,hdV ch,O,.inl ⟨O,O,ch,h1,O,O⟩⟩
      · have hsw:=yG (zZ hs)
        have hse:=St.wt_eq s
        have hPs:=St.allF_eq (kJ hP s (zZ hs))
        refine (Con.pure_frame (Q:=fun r=>r=.tup [vSts s.Body,vI 0]) (mapSts_id hf hg s.Body hPs.2.2 (by omega)) []).mono ?_
        rintro r μ' ⟨rfl,rfl⟩
        exact ⟨_,.slice none 0 0,O,.inr ⟨hkj,O,O⟩⟩
    · rintro r μ' ⟨sv,v,X,rfl,rfl,_,hQ⟩
      obtain ⟨ch,h1,rfl,rfl⟩:=hQ (by have:=hw.1;omega)
      match ch,h1 with
      |(i1,sv1)::r1,h1=>exact ⟨(j,sv)::(i1,sv1)::r1,by rw [List.map_cons,h1],rfl,by rw [rowsI_all,chE];rfl⟩
end Go.W
end
section
set_option maxRecDepth 10000
namespace Go.W
open Go Go.Eng Go.Proofs Go.L41 Go.Br
attribute [local irreducible] AWP RWP TD finQ
abbrev Chn (p:List Int):={ ch:List (Int×Value)//ch.map Prod.fst=p }
theorem chE_mono:∀(ch:List (Int×Value)) (l:List St),∀e,e∈chE ch l->e.Mono
  |[],_,e,h=>by rw [chE] at h;cases h
  |[(_,sv)],l,e,h=>by rw [chE] at h;obtain rfl:=List.mem_singleton.1 h;trivial
  |(i,sv)::(j,sv1)::r,l,e,h=>by
    rw [chE] at h
    rcases List.mem_cons.1 h with rfl|h
    · trivial
    · exact chE_mono ((j,sv1)::r) _ e h
theorem copyStmtsQ (p:List Int) (hp:p≠[]) (l:List St) (hw:wayOk p l) (hl:stsWt l<=1073741824):
    Con cfg 41 [vSts l] [] (fun r μ'=>∃ch,ch.map Prod.fst=p/\r=.c (.lit (hdV ch))/\μ'=chE ch l):=by
 refine zQ Tryz.func41 O Tryz.ntmps41 Tryz.results41 O ?_
 intro z hz
 refine F O<|qX 20 O<|H<|F O<|A O<|zU O O (zFn O ok91 (mapStmtsP (P:=fun l=>l.L.length<=1073741824) (fun l hl=>FnPur.of_pur (first:=[]) (cap:=[]) ok92 (zQy l hl)) (fun s=>FnPur.of_pur (first:=[]) (cap:=[]) ok94 (zFs s)) p l hp hw (zJr hl) hl) ⟨G,O,G,O,G,O,T⟩) ?_
 rintro _ _ ⟨_,⟨ch,hch,rfl,rfl⟩,rfl⟩
 refine qN O<|qU O<|qU O<|A O<|A O<|H<|F O<|A O<|A O<|H<|o<|X O ?_
 exact ⟨ch,hch,O,O⟩
theorem copyStmtsC (p:List Int) (hp:p≠[]) (l:List St) (hw:wayOk p l) (hl:stsWt l<=1073741824):Con cfg 41 [vSts l] [] fun r μ'=>∃a:Chn p,r=.c (.lit (hdV a.1))/\μ'=[pk (chE a.1 l)]:=
  (Con.pack (copyStmtsQ p hp l hw hl)).mono fun r μ' ⟨φ,⟨ch,h1,h2,h3⟩,h4⟩=>⟨⟨ch,h1⟩,h2,by rw [h4,h3]⟩
theorem replaceC (p:List Int) (hp:p≠[]) (a:Chn p) (l q:List St) (hw:wayOk p l) (hl:stsWt l<=2000000) (hq:q.length<=2000000):Con cfg 40 [.c (.lit (hdV a.1)),vIs p,vSts q] [pk (chE a.1 l)] fun r' μ'=>∃sv',r'=.c (.lit sv')/\μ'=[.vec sv' 46 20 ((replL p l q).map St.cells)]:=by
  obtain ⟨ch,rfl⟩:=a
  match ch,hp,hw with
  |[],hp,_=>exact absurd rfl hp
  |(i,sv)::r,_,hw=>exact Con.unpack (zKa q hq r i sv l hw hl) (chE_mono _ _)
theorem loopnest_CopyC (p:List Int) (hp:p≠[]) (n:Ns) (hn:n.Ok) (hw:wayOk p n.Body):
    Con cfg 39 [vNs n] [] (fun r μ'=>∃a:Chn p,r=.agg [.sl 8 (n.Bufs.map Bf.cells),.lit (hdV a.1)]/\μ'=[pk (chE a.1 n.Body)]):=by
 refine Con.dropG<|zQ Tryz.func39 O Tryz.ntmps39 Tryz.results39 O ?_
 intro z hz
 have hnb:=hn.bufs
 have hnw:=hn.body
 refine F O<|zU O O (qL O O) ?_
 rintro _ _ ⟨b1,rfl,rfl⟩
 refine zU O O (qC [some 8,some 20] O U O) ?_
 rintro _ _ ⟨b2,rfl,rfl⟩
 refine H<|F O<|zJ O wO<|zK kM (R 1 O) O<|zU O O (zKd O ok41 (copyStmtsC p hp n.Body hw (by omega)) ⟨G,O,T⟩) ?_
 rintro _ _ ⟨ch,rfl,rfl⟩
 refine yS O U pl25<|zU O O (qC [some 8,some 20] O U O) ?_
 rintro _ _ ⟨b3,rfl,rfl⟩
 refine D 0 W O<|H<|zI<|F O<|yJ _ (wL 65 8)<|zJ O zBh<|zK zFo (R 4 O) O<|qB O el22<|A O<|H<|zS<|zV ⟨[(12,.c _),(1,.c _),(2,.c _),(3,.c _),(11,.c _)],[_,_,_,_,_]⟩ (Weak.mk [true,true,true,true,true] ⟨G,G,G,G,G,T⟩ O)<|qO 1 2 O O (Nat×Value) (fun ⟨k,sv⟩=>[(12,vI k)]) (fun ⟨k,sv⟩=>[E.vec sv 65 8 ((n.Bufs.take k).map Bf.cells),E.row b3 25 [.lit sv,.lit (hdV ch.1)]]) (fun ⟨k,sv⟩=>k<=n.Bufs.length) (fun ⟨k,sv⟩=>n.Bufs.length-k) ⟨⟨0,(.slice none 0 0)⟩,(by omega),Weak.mk [true,true,true,true,true] ⟨G,G,G,G,G,T⟩ O⟩ ?_
 rintro ⟨k,sv⟩ hk
 show AWP _ _ _ _ _ ⟨[(12,vI k)]++_,[E.vec sv 65 8 ((n.Bufs.take k).map Bf.cells),E.row b3 25 [.lit sv,.lit (hdV ch.1)]]++_⟩
 refine F O<|yN O<|H<|zI<|zD O (fun c1=>?_) (fun c1=>?_)
 ·try simp only [I] at c1
  obtain ⟨b,hb⟩:=qZ n.Bufs k (by omega)
  have hbd:=hn.dims b (zZ hb)
  refine zH<|zI<|zS<|F O<|A O<|A O<|H<|qY 9 mixed (by kernel_rfl) O O<|Y O O (zE O zBh O)<|Y O O (Q O zFo O (R 1 O) O)<|Y O O (zE O zBh O)<|Y O O (Q O zFo O (R 4 O) O)<|Y O O (w O O)<|Y O O (qE O el22 O O (by omega) (v (by assumption)))<|Y O O (zX O zRl O qA O)<|Y O O (qI O ok89 (zBo b (by omega)) ⟨G,O,T⟩)<|Y O O (qW O el22 zr65 O O O O)<|kH<|zU O O (yU 0 O el22 O O O (by simp only [List.length_map,List.length_append,List.length_cons,List.length_nil,List.length_take,List.length_drop];omega) (by simp only [List.length_map,List.length_append,List.length_cons,List.length_nil,List.length_take,List.length_drop];omega)) ?_
  rintro _ _ ⟨sv4,rfl,rfl⟩
  refine zJ O zBh<|D 1 sz22 O<|H<|zT O<|qK O ⟨by omega,by omega⟩<|A O<|H ?_
  refine ⟨⟨k+1,sv4⟩,(by omega),(by show n.Bufs.length-(k+1)<n.Bufs.length-k;omega),Weak.mk [true,true,true,true,true] ⟨G,G,G,G,G,T⟩ (by exact mem2_eq' (by rw [yH hb,List.map_append];rfl))⟩
 ·try simp only [I] at c1
  rw [kG (l:=n.Bufs) (k:=k) (by omega)]
  refine zV _ (yY 0 O (regs':=[]) (μ':=[_,_,_,_]) T ⟨EFle.row (ds:=[_,_]) ⟨.inr ⟨O,O⟩,.inl O,T⟩,EFle.refl _,EFle.refl _,EFle.refl _,T⟩)<|qQ<|F O<|zO kF (R 0 O) O<|D 2 W O<|H<|o<|fin1 (y kF O (R 2 O) O) ?_
  exact ⟨[pk _],⟨[E.row _ _ _],[E.row _ _ _,E.row _ _ _],O⟩,ch,O,O⟩
theorem zKl (n:Ns) (hn:n.Ok):
    Pur cfg 39 [vNs n] (vNs n):=by
 refine zQ Tryz.func39 O Tryz.ntmps39 Tryz.results39 O ?_
 intro z hz
 have hnb:=hn.bufs
 have hnw:=hn.body
 refine F O<|zU O O (qL O O) ?_
 rintro _ _ ⟨b1,rfl,rfl⟩
 refine zU O O (qC [some 8,some 20] O U O) ?_
 rintro _ _ ⟨b2,rfl,rfl⟩
 refine H<|F O<|zJ O wO<|zK kM (R 1 O) O<|qG O ok41 (zCc n.Body (by omega)) ⟨G,O,T⟩<|yS O U pl25<|zU O O (qC [some 8,some 20] O U O) ?_
 rintro _ _ ⟨b3,rfl,rfl⟩
 refine D 0 W O<|H<|zI<|F O<|yJ _ (wL 65 8)<|zJ O zBh<|zK zFo (R 3 O) O<|qB O el22<|A O<|H<|zS<|zV ⟨[(12,.c _),(1,.c _),(2,.c _),(3,.c _),(11,.c _)],[_,_,_,_]⟩ (Weak.mk [true,true,true,true] ⟨G,G,G,G,G,T⟩ O)<|qO 1 2 O O (Nat×Value) (fun ⟨k,sv⟩=>[(12,vI k)]) (fun ⟨k,sv⟩=>[E.vec sv 65 8 ((n.Bufs.take k).map Bf.cells),E.row b3 25 [.lit sv,.sl 20 (n.Body.map St.cells)]]) (fun ⟨k,sv⟩=>k<=n.Bufs.length) (fun ⟨k,sv⟩=>n.Bufs.length-k) ⟨⟨0,(.slice none 0 0)⟩,(by omega),Weak.mk [true,true,true,true] ⟨G,G,G,G,G,T⟩ O⟩ ?_
 rintro ⟨k,sv⟩ hk
 show AWP _ _ _ _ _ ⟨[(12,vI k)]++_,[E.vec sv 65 8 ((n.Bufs.take k).map Bf.cells),E.row b3 25 [.lit sv,.sl 20 (n.Body.map St.cells)]]++_⟩
 refine F O<|yN O<|H<|zI<|zD O (fun c1=>?_) (fun c1=>?_)
 ·try simp only [I] at c1
  obtain ⟨b,hb⟩:=qZ n.Bufs k (by omega)
  have hbd:=hn.dims b (zZ hb)
  refine zH<|zI<|zS<|F O<|A O<|A O<|H<|qY 9 mixed (by kernel_rfl) O O<|Y O O (zE O zBh O)<|Y O O (Q O zFo O (R 1 O) O)<|Y O O (zE O zBh O)<|Y O O (Q O zFo O (R 3 O) O)<|Y O O (w O O)<|Y O O (qE O el22 O O (by omega) (v (by assumption)))<|Y O O (zX O zRl O qA O)<|Y O O (qI O ok89 (zBo b (by omega)) ⟨G,O,T⟩)<|Y O O (qW O el22 zr65 O O O O)<|kH<|zU O O (yU 0 O el22 O O O (by simp only [List.length_map,List.length_append,List.length_cons,List.length_nil,List.length_take,List.length_drop];omega) (by simp only [List.length_map,List.length_append,List.length_cons,List.length_nil,List.length_take,List.length_drop];omega)) ?_
  rintro _ _ ⟨sv4,rfl,rfl⟩
  refine zJ O zBh<|D 1 sz22 O<|H<|zT O<|qK O ⟨by omega,by omega⟩<|A O<|H ?_
  refine ⟨⟨k+1,sv4⟩,(by omega),(by show n.Bufs.length-(k+1)<n.Bufs.length-k;omega),Weak.mk [true,true,true,true] ⟨G,G,G,G,G,T⟩ (by exact mem2_eq' (by rw [yH hb,List.map_append];rfl))⟩
 ·try simp only [I] at c1
  rw [kG (l:=n.Bufs) (k:=k) (by omega)]
  refine zV _ (yY 0 O (regs':=[]) (μ':=[_,_,_]) T ⟨EFle.row (ds:=[_,_]) ⟨.inr ⟨O,O⟩,.inl O,T⟩,EFle.refl _,EFle.refl _,T⟩)<|qQ<|F O<|zO kF (R 0 O) O<|D 1 W O<|H<|o<|fin1 (y kF O (R 1 O) O) ?_
  rfl
end Go.W
end
