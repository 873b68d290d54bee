/-
  Walks: what functions of the program compute. Printed by wip/gen/mk2.py.
  Walks: what functions of the program compute. Printed by wip/gen/mk2.py.
  Walks: what functions of the program compute. Printed by wip/gen/mk2.py.
  Walks: what functions of the program compute. Printed by wip/gen/mk2.py.
  Walks: what functions of the program compute. Printed by wip/gen/mk2.py.
  Walks: what functions of the program compute. Printed by wip/gen/mk2.py.
  Walks: what functions of the program compute. Printed by wip/gen/mk2.py.
  Conditions: none.
-/
import Derived.Test.YtlfjpejkoccibaaGreatDoorNR
import Derived.Test.YtlfjpejkoccibaaGreatDoorPlain2
import Derived.Test.YtlfjpejkoccibaaGreatDoorEngZ
set_option linter.unusedSimpArgs false
set_option linter.unusedVariables false
section
set_option maxRecDepth 10000
namespace Go.W
open Go Go.Eng Go.Proofs Go.L41 Go.Br
attribute [local irreducible] AWP RWP TD finQ
end Go.W
end
section
set_option maxRecDepth 10000
namespace Go.W
open Go Go.Eng Go.Proofs Go.L41 Go.Br
attribute [local irreducible] AWP RWP TD finQ
def totK (ls:List (List St)):Nat:=ls.flatten.length
theorem totK_next {ls:List (List St)} {k:Nat} {x:List St} (h:ls[k]? =some x):totK (ls.take (k+1))=totK (ls.take k)+x.length:=by
  unfold totK;rw [yF h,List.flatten_append,List.length_append];simp
theorem totK_le (ls:List (List St)) (k:Nat):totK (ls.take k)<=totK ls:=by
  have:totK ls=totK (ls.take k)+totK (ls.drop k):=by unfold totK;rw [←List.length_append,←List.flatten_append,List.take_append_drop]
  omega
theorem totK_get {ls:List (List St)} {k:Nat} {x:List St} (h:ls[k]? =some x):totK (ls.take k)+x.length<=totK ls:=by
  rw [←totK_next h];exact totK_le _ _
theorem totK_flat {ls:List (List St)} {k:Nat} {x:List St} (h:ls[k]? =some x):(ls.take k).flatten.length+x.length<=totK ls:=totK_get h
theorem el174:elemT Tryz.prog 174=some (23,1,24):=by kernel_rfl
theorem ik3:intT Tryz.prog 3=some .i64:=by kernel_rfl
theorem ok136:callOk Tryz.prog 136=true:=by kernel_rfl
theorem slices_Grow_st (n:Nat) (hn:n<=4294967296):
    OwnR cfg 136 [.c (.lit (.slice none 0 0)),vI n] 46 20 ([]):=by
 refine zR Tryz.func136 O Tryz.ntmps136 Tryz.results136 O ?_
 intro z hz
 refine G O<|yA 20 O<|I<|zJ<|G O<|F O<|yH O<|I<|zF O (fun c1=>?_) (fun c1=>?_)
 ·try simp only [R] at c1
  exact absurd c1 (by omega)
 ·try simp only [R] at c1
  refine zI<|zJ<|G O<|F O<|F O<|zX O (zTb O K O)<|F O<|zX O (zSz O K O)<|zX O (qZ O O O ⟨by omega,by omega⟩)<|zX O (qZ O O O ⟨by omega,by omega⟩)<|F O<|I<|G O<|F O<|zX O (yC O O O)<|I<|zF O (fun c2=>?_) (fun c2=>?_)
  ·try simp only [R] at c2
   refine zS O<|F O<|F O<|zX O (zTb O K O)<|zX O (det_cut_nil O K O O)<|F O<|zU O O (ope_grow n O K ik3 O O (by omega) (by omega) (by omega) (by omega)) ?_
   rintro _ _ ⟨b1,cap1,rfl,hcap1,rfl⟩
   refine F O<|zX O (zSz O K O)<|zX O (det_cut_row 0 O K O O O ⟨by omega,hcap1⟩)<|F O<|I<|G O<|F O<|F O<|I<|o<|X O ?_
   exact ⟨_,O,O⟩
  ·try simp only [R] at c2
   refine zI<|G O<|F O<|yN _ (kX 46 20)<|F O<|I<|o<|X O ?_
   exact ⟨_,O,O⟩
theorem zOr (ls:List (List St)) (hl:ls.length<=4294967296) (ht:totK ls<=4294967296):
    OwnR cfg 90 [.c (.sl 1 (ls.map fun l=>[.sl 20 (l.map St.cells)]))] 46 20 (ls.flatten.map St.cells):=by
 refine zR Tryz.func90 O Tryz.ntmps90 Tryz.results90 O ?_
 intro z hz
 refine G O<|yA 20 O<|I<|G O<|F O<|I<|zJ<|G O<|F O<|qB O el174<|F O<|I<|zQ<|zW ⟨[(11,.c _),(3,.c _),(0,.c _),(9,.c _),(10,.c _)],[]⟩ (Weak.mk [] ⟨H,H,H,H,H,T⟩ O)<|qK 2 0 O O (Nat) (fun k=>[(11,vI k),(3,vI (totK (ls.take k)))]) (fun k=>[]) (fun k=>k<=ls.length) (fun k=>ls.length-k) ⟨0,(by omega),Weak.mk [] ⟨H,H,H,H,H,T⟩ O⟩ ?_
 rintro k hk
 refine G O<|yH O<|I<|zJ<|zF O (fun c1=>?_) (fun c1=>?_)
 ·try simp only [R] at c1
  obtain ⟨x,hx⟩:=qW ls k (by omega)
  have hb1:=totK_get hx
  refine zI<|zJ<|zQ<|G O<|qC O el174 (by omega) (N (by assumption))<|zK kT qA O<|F O<|I<|G O<|F O<|F O<|qB O K<|qH O ⟨by omega,by omega⟩<|F O<|I<|G O<|F O<|yH O<|I<|zF O (fun c2=>?_) (fun c2=>?_)
  ·try simp only [R] at c2
   exact absurd c2 (by omega)
  ·try simp only [R] at c2
   refine zI<|zS O<|qH O ⟨by omega,by omega⟩<|F O<|I ?_
   refine ⟨k+1,(by omega),(by omega),Weak.mk [] ⟨H,VLe.of_eq (congrArg vI (by rw [totK_next hx];simp)),H,H,H,T⟩ O⟩
 ·try simp only [R] at c1
  have hT:totK (ls.take k)=totK ls:=by rw [yL (by omega)]
  refine qN<|G O<|F O<|zU O O (zAn O ok136 (slices_Grow_st (totK (ls.take k)) (by omega)) ⟨H,O,H,O,T⟩) ?_
  rintro _ _ ⟨sv1,rfl,rfl⟩
  refine F O<|I<|zJ<|G O<|F O<|qB O el174<|F O<|I<|zQ<|zW ⟨[(27,.c _),(6,.c _),(25,.c _),(26,.c _)],[_]⟩ (Weak.mk [true] ⟨H,H,H,H,T⟩ O)<|qK 2 1 O O (Nat×Value) (fun ⟨k,sv⟩=>[(27,vI k),(6,.c (.lit sv))]) (fun ⟨k,sv⟩=>[E.vec sv 46 20 ((ls.take k).flatten.map St.cells)]) (fun ⟨k,sv⟩=>k<=ls.length) (fun ⟨k,sv⟩=>ls.length-k) ⟨⟨0,_⟩,(by omega),Weak.mk [true] ⟨H,H,H,H,T⟩ O⟩ ?_
  rintro ⟨k,sv⟩ hk
  show AWP _ _ _ _ _ ⟨[(27,vI k),(6,.c (.lit sv))]++_,[E.vec sv 46 20 ((ls.take k).flatten.map St.cells)]++_⟩
  refine G O<|yH O<|I<|zJ<|zF O (fun c3=>?_) (fun c3=>?_)
  ·try simp only [R] at c3
   obtain ⟨x,hx⟩:=qW ls k (by omega)
   refine zI<|zJ<|zQ<|G O<|qC O el174 (by omega) (N (by assumption))<|zK kT qA O<|F O<|I<|zS O<|F O<|F O<|zU O O (yD 0 O K O O O (by have:=totK_flat hx;simp only [List.length_map];omega) (by have:=totK_flat hx;simp only [List.length_map];omega)) ?_
   rintro _ _ ⟨sv2,rfl,rfl⟩
   refine F O<|I<|zS O<|qH O ⟨by omega,by omega⟩<|F O<|I ?_
   refine ⟨⟨k+1,sv2⟩,(by omega),(by show ls.length-(k+1)<ls.length-k;omega),Weak.mk [true] ⟨H,H,H,H,T⟩ (by show _=[E.vec sv2 _ 20 ((ls.take (k+1)).flatten.map St.cells)]++_;rw [yF hx,List.flatten_append,List.map_append];simp only [List.flatten_cons,List.flatten_nil,List.append_nil];rfl)⟩
  ·try simp only [R] at c3
   refine qN<|G O<|F O<|F O<|I<|o<|X O ?_
   exact ⟨_,O,by rw [yL (by omega)];rfl⟩
theorem zRa (x y z:List St) (hx:x.length<=1073741824) (hy:y.length<=1073741824) (hz:z.length<=1073741824):OwnR cfg 90 [.c (.sl 1 [[.sl 20 (x.map St.cells)],[.sl 20 (y.map St.cells)],[.sl 20 (z.map St.cells)]])] 46 20 ((x++y++z).map St.cells):=by
  have h:=zOr [x,y,z] (by simp) (by simp [totK];omega)
  simpa using h
end Go.W
end
section
set_option maxRecDepth 10000
namespace Go.W
open Go Go.Eng Go.Proofs Go.L41 Go.Br
attribute [local irreducible] AWP RWP TD finQ
theorem ok90:callOk Tryz.prog 90=true:=by kernel_rfl
theorem zr23:zeroT Tryz.prog 23=some [(Value.slice none 0 0)]:=by kernel_rfl
theorem replaceIn_one (sv:Value) (l:List St) (i:Int) (q:List St) (hi:0<=i/\i<l.length) (hl:l.length<=1073741823) (hq:q.length<=1073741823):
    Con cfg 40 [.c (.lit sv),vIs [i],vSts q] [.vec sv 46 20 (l.map St.cells)] fun r μ'=>∃sv',r=.c (.lit sv')/\μ'=[.vec sv' 46 20 ((replL [i] l q).map St.cells)]:=by
 refine zR Tryz.func40 O Tryz.ntmps40 Tryz.results40 O ?_
 intro z hz
 have hw:IntKind.i64.wrap (i+1)=i+1:=IntWalk.i64_in _ ⟨by omega,by omega⟩
 refine G O<|yA 20 O<|I<|G O<|F O<|qC O el26 (by omega) O<|zK J qA O<|F O<|I<|zJ<|G O<|F O<|qB O el26<|yE O<|I<|zF O (fun c1=>?_) (fun c1=>?_)
 ·try simp only [R] at c1
  refine zJ<|zW _ (yS 0 O (regs':=[(0,_)]) (μ':=[]) ⟨FLe.sl,T⟩ T)<|qX 9 mixed (by kernel_rfl) O O<|M O O (zN O O)<|M O O (zN O O)<|M O O (zOm (k:=i.toNat) O K O (congrArg (fun n=>V.c (C.lit (.int .i64 n))) (by omega)) (by omega))<|M O O (zN O O)<|M O O (zN O O)<|M O O (zN O O)<|M O O (zDf O O O ⟨by omega,by omega⟩)<|M O O (zBk (k:=i.toNat+1) O K O (congrArg (fun n=>V.c (C.lit (.int .i64 n))) (by omega)) (by omega))<|M O O (qS O el174 zr23 O O O O)<|kB<|zU O O (zAn O ok90 (zRa (l.take i.toNat) q (l.drop (i.toNat+1)) (by rw [List.length_take];omega) (by omega) (by rw [List.length_drop];omega)) ⟨H,O,T⟩) ?_
  rintro _ _ ⟨sv1,rfl,rfl⟩
  refine F O<|I<|o<|X O ?_
  exact ⟨_,O,by rw [replL_one]⟩
 ·try simp only [R] at c1
  exact absurd O c1
end Go.W
end
section
set_option maxRecDepth 10000
namespace Go.W
open Go Go.Eng Go.Proofs Go.L41 Go.Br
attribute [local irreducible] AWP RWP TD finQ
def csB (s:St) (c:C):List C:=[cI s.Op,cS s.Name,cI s.Many,cI s.Mark,cI s.Fold,.sl 4 (s.Idx.map Ix.cells),cI s.E.Op,cS s.E.Name,cI s.E.Val.N,cI s.E.Val.D,cI s.E.Ty.Kind,cI s.E.Ty.Bits,cI s.E.Ty.Frac,cI s.E.Ty.Round,cI s.E.Ty.Over,cI s.E.Lin.K,.sl 2 (s.E.Lin.L.map Mono.cells),.sl 4 (s.E.Idx.map Ix.cells),.sl 13 (s.E.Args.map Ex.cells),c]
theorem csB_set (s:St) (b:List St):csB s (.sl 20 (b.map St.cells))=(setB s b).cells:=by rw [St.cells_eq];rfl
theorem rep_in {l:List St} {i:Int} (h:0<=i/\i<l.length) (s:St):(l.map St.cells).set i.toNat s.cells=(l.take i.toNat++[s]++l.drop (i.toNat+1)).map St.cells:=by
  have hl:i.toNat<l.length:=by omega
  rw [List.set_eq_take_append_cons_drop,if_pos (by rw [List.length_map];exact hl)]
  simp [List.map_take,List.map_drop]
theorem replaceIn_in (sv sv1:Value) (l:List St) (i:Int) (p:List Int) (rest:List E) (q:List St) (hp:p≠[]) (hi:0<=i/\i<l.length) (ih:Con cfg 40 [.c (.lit sv1),vIs p,vSts q] rest (fun r μ'=>∃sv',r=.c (.lit sv')/\μ'=[.vec sv' 46 20 ((replL p (l.getD i.toNat zSt).Body q).map St.cells)])):
    Con cfg 40 [.c (.lit sv),vIs (i::p),vSts q] (.vec sv 46 20 ((l.map St.cells).set i.toNat (csB (l.getD i.toNat zSt) (.lit sv1)))::rest) (fun r μ'=>∃sv',r=.c (.lit sv')/\μ'=[.vec sv' 46 20 ((replL (i::p) l q).map St.cells)]):=by
 refine zR Tryz.func40 O Tryz.ntmps40 Tryz.results40 O ?_
 intro z hz
 generalize hs0:l.getD i.toNat zSt=s0 at *
 refine G O<|yA 20 O<|I<|G O<|F O<|qC O el26 (by omega) O<|zK J qA O<|F O<|I<|zJ<|G O<|F O<|qB O el26<|yE O<|I<|zF O (fun c1=>?_) (fun c1=>?_)
 ·try simp only [R] at c1
  exact absurd (List.eq_nil_of_length_eq_zero (by simp at c1;omega)) hp
 ·try simp only [R] at c1
  refine zI<|zJ<|awp_draw_s 10 [true,true,false,false,false,false,false,false,false,false] Mall mixed (by kernel_rfl) O O O<|td2_detA O O (fun _=>zN O O)<|td2_detA O O (fun _=>zN O O)<|zHp O O (zN O O)<|zHp O O (zN O O)<|zHp O O (qO 0 O K O O O (by omega) (by simp;omega))<|zHp O O (yZ O kP O)<|zHp O O (Q O kT O (wC 0 O (zBt (by simp;omega))) O)<|zHp O O (zN O O)<|zHp O O (zBk (k:=1) O el26 O O (by simp))<|zHp O O (zN O O)<|td2_nil ?_
  refine ⟨_,ope_call_tail O ok91 ih ⟨H,O,H,O,H,O,T⟩,fun _ _ _=>T,?_⟩
  rintro _ _ ⟨sv9,rfl,rfl⟩
  refine zX O (qO 0 O K O O O (by omega) (by simp;omega))<|zX O (yZ O kP O)<|wL O O (yV O sz23 O O O (zBu 0 O (zBt (by simp;omega)) O))<|I<|zJ<|zW _ (yS 1 O (regs':=[]) (μ':=[_]) T ⟨EFle.vec (r':=[_,_,_,_,_,_,_,_,_,_,_,_,_,_,_,_,_,_,_,_]) (zBt (by simp;omega)) ⟨.inl O,.inl O,.inl O,.inl O,.inl O,.inl O,.inl O,.inl O,.inl O,.inl O,.inl O,.inl O,.inl O,.inl O,.inl O,.inl O,.inl O,.inl O,.inl O,.inr ⟨O,O⟩,T⟩,T⟩)<|zS O<|F O<|F O<|I<|o<|X O ?_
  refine ⟨_,O,?_⟩
  rw [List.set_set,List.set_set]
  have e1:=rep_in hi (setB s0 (replL p s0.Body q))
  rw [replL_in hp,hs0,←e1,←csB_set]
  rfl
end Go.W
end
section
set_option maxRecDepth 10000
namespace Go.W
open Go Go.Eng Go.Proofs Go.L41 Go.Br
attribute [local irreducible] AWP RWP TD finQ
def chE:List (Int×Value)->List St->List E
  |[],_=>[]
  |[(_,sv)],l=>[.vec sv 46 20 (l.map St.cells)]
  |(i,sv)::(j,sv1)::r,l=>.vec sv 46 20 ((l.map St.cells).set i.toNat (csB (l.getD i.toNat zSt) (.lit sv1)))::chE ((j,sv1)::r) (l.getD i.toNat zSt).Body
theorem zLh (q:List St) (hq:q.length<=2000000):∀(r:List (Int×Value)) (i:Int) (sv:Value) (l:List St),wayOk (i::r.map Prod.fst) l->stsWt l<=2000000->
    Con cfg 40 [.c (.lit sv),vIs (i::r.map Prod.fst),vSts q] (chE ((i,sv)::r) l) fun r' μ'=>∃sv',r'=.c (.lit sv')/\μ'=[.vec sv' 46 20 ((replL (i::r.map Prod.fst) l q).map St.cells)]
  |[],i,sv,l,hw,hl=>replaceIn_one sv l i q hw.1 (by have:=kN l;omega) (by omega)
  |(j,sv1)::r,i,sv,l,hw,hl=>by
    rw [chE]
    exact replaceIn_in sv sv1 l i (j::r.map Prod.fst) (chE ((j,sv1)::r) (l.getD i.toNat zSt).Body) q (by simp) hw.1
      (zLh q hq r j sv1 _ hw.2 (by have:=yI (zZ (zQu hw.1));have:=St.body_wt (l.getD i.toNat zSt);omega))
end Go.W
end
section
set_option maxRecDepth 10000
namespace Go.W
open Go Go.Eng Go.Proofs Go.L41 Go.Br
attribute [local irreducible] AWP RWP TD finQ
theorem zLq {α:Type} {l:List α} {k:Nat} {x:α} (h:l[k]? =some x):k<l.length:=(List.getElem?_eq_some_iff.1 h).1
def rowsI (l:List St) (i:Nat) (v:Value) (k:Nat):List (List C):=((l.map St.cells).set i (csB (l.getD i zSt) (.lit v))).take k++(l.drop k).map St.cells
theorem rowsI_get {l:List St} {i:Nat} {v:Value} {k:Nat} {s:St} (h:l[k]? =some s):(rowsI l i v k)[k]? =some s.cs:=by
  have:=zLq h
  unfold rowsI;exact mid_getS (by simp;omega) h
theorem rowsI_lt {l:List St} {i:Nat} {v:Value} {k:Nat} {s:St} (h:l[k]? =some s):k<(rowsI l i v k).length:=by
  have:=zLq h
  unfold rowsI;simp;omega
theorem rowsI_set {l:List St} {i:Nat} {v v9:Value} {k:Nat} {s:St} {b:C} (h:l[k]? =some s) (hb:(k=i/\b=.lit v9)∨(k≠i/\b=.sl 20 (s.Body.map St.cells))):(rowsI l i v k).set k (csB s b)=rowsI l i (if k=i then v9 else v) (k+1):=by
  have hk:=zLq h
  have hm:(l.map St.cells)[k]? =some s.cells:=by rw [List.getElem?_map,h];rfl
  unfold rowsI
  rw [zNf (by simp;omega) h]
  congr 1
  rcases hb with ⟨rfl,rfl⟩|⟨hne,rfl⟩
  · rw [if_pos rfl,List.take_set_of_le (Nat.le_refl k),yF (l:=(l.map St.cells).set k (csB (l.getD k zSt) (.lit v9))) (x:=csB s (.lit v9)),List.take_set_of_le (Nat.le_refl k)]
    rw [List.getElem?_set_self (by simpa using hk),show l.getD k zSt=s by rw [List.getD_eq_getElem?_getD,h];rfl]
  · rw [if_neg hne,yF (l:=(l.map St.cells).set i (csB (l.getD i zSt) (.lit v))) (x:=csB s (.sl 20 (s.Body.map St.cells)))]
    rw [List.getElem?_set_ne (fun h=>hne h.symm),hm,csB_set,setB_self]
theorem rowsI_none (l:List St) (v:Value):rowsI l l.length v l.length=l.map St.cells:=by
  unfold rowsI
  rw [List.set_eq_of_length_le (by simp),List.take_of_length_le (by simp),List.drop_length];simp
theorem rowsI_all (l:List St) (i:Nat) (v:Value):rowsI l i v l.length=(l.map St.cells).set i (csB (l.getD i zSt) (.lit v)):=by
  unfold rowsI
  rw [List.take_of_length_le (by simp),List.drop_length];simp
theorem invX {k i:Nat} {X Y:List E} {v:Value} {b c:C} {Q:Value->List E->Prop} (hX:k<=i->X=[]) (hb:(k=i/\b=.lit v/\Q v Y)∨(k≠i/\b=c/\Y=[])):k+1<=i->X++Y=[]:=by
  intro h
  rcases hb with ⟨h1,_,_⟩|⟨_,_,rfl⟩
  · omega
  · rw [hX (by omega)];rfl
theorem invQ {k i:Nat} {X Y:List E} {v v0:Value} {b c:C} {Q:Value->List E->Prop} (hX:k<=i->X=[]) (hQ:i<k->Q v0 X) (hb:(k=i/\b=.lit v/\Q v Y)∨(k≠i/\b=c/\Y=[])):i<k+1->Q (if k=i then v else v0) (X++Y):=by
  intro h
  rcases hb with ⟨h1,_,hq⟩|⟨h1,_,rfl⟩
  · rw [if_pos h1,hX (by omega)];exact hq
  · rw [if_neg h1,List.append_nil];exact hQ (by omega)
def hdV:List (Int×Value)->Value
  |[]=>.slice none 0 0
  |(_,v)::_=>v
theorem mapIx_id {c:C} {P:Lf->Prop} (hf:∀l,P l->FnPur cfg c [vLin l] (.tup [vLin l,vI 0])) (i:List Ix) (hi:i.length<=4294967296) (hA:∀x,x∈i->x.At.length<=4294967296) (hP:ixsAll P i):Pur cfg 87 [vIndices i,.c c] (.tup [vIndices i,vI 0]):=by
  have h:=zAq idF c P hf i hi hA hP
  rw [mIxs_id] at h;exact h
theorem mapEx_id {c:C} {P:Lf->Prop} (hf:∀l,P l->FnPur cfg c [vLin l] (.tup [vLin l,vI 0])) (e:Ex) (hP:e.allF P) (he:e.cnt<=4294967296):Pur cfg 138 [vE e,.c c] (.tup [vE e,vI 0]):=by
  have h:=zDq idF c P hf e hP he
  rw [mEx_id] at h;exact h
theorem mapSts_id {c c9:C} {P:Lf->Prop} (hf:∀l,P l->FnPur cfg c [vLin l] (.tup [vLin l,vI 0])) (hg:∀s,FnPur cfg c9 [vS s] (vS s)) (l:List St) (hP:allSs P l) (hl:stsWt l<=1073741824):Pur cfg 91 [vSts l,.c c,.c c9] (.tup [vSts l,vI 0]):=by
  have h:=zDa idF c P hf (fun x=>x) c9 hg l hP hl
  rw [mSts_id] at h;exact h
theorem zJv {c c9:C} {P:Lf->Prop} (hf:∀l,P l->FnPur cfg c [vLin l] (.tup [vLin l,vI 0])) (hg:∀s,FnPur cfg c9 [vS s] (vS s)) (l:List St) (hP:allSs P l) (i:Nat) (Q:Value->List E->Prop) (ih:∀k s,l[k]? =some s->Con cfg 91 [vSts s.Body,.c c,.c c9] [] (fun r μ'=>∃b v,r=.tup [.c b,vI 0]/\((k=i/\b=.lit v/\Q v μ')∨(k≠i/\b=.sl 20 (s.Body.map St.cells)/\μ'=[])))) (hl:stsWt l<=1073741824):
    Con cfg 91 [vSts l,.c c,.c c9] [] (fun r μ'=>∃sv v X,r=.tup [.c (.lit sv),vI 0]/\μ'=.vec sv 46 20 (rowsI l i v l.length)::X/\(l.length<=i->X=[])/\(i<l.length->Q v X)):=by
 refine zR Tryz.func91 O Tryz.ntmps91 Tryz.results91 O ?_
 intro z hz
 have hll:=kN l
 refine G O<|yA 20 O<|F O<|I<|G O<|F O<|zU O O (zAn O ok137 (zHw l (by omega)) ⟨H,O,T⟩) ?_
 rintro _ _ ⟨sv1,rfl,rfl⟩
 refine F O<|I<|G O<|F O<|I<|zJ<|G O<|F O<|qB O K<|F O<|I<|zQ<|zW ⟨[(15,.c _),(0,.c _),(1,.c _),(2,.c _),(8,.c _),(14,.c _)],_⟩ (Weak.regs ⟨H,H,H,H,H,H,T⟩)<|zCj 1 O (Nat×Value×List E) (fun ⟨k,v,X⟩=>[(15,vI k)]) (fun ⟨k,v,X⟩=>(E.vec sv1 46 20 (rowsI l i v k)::X)) (fun ⟨k,v,X⟩=>k<=l.length/\(k<=i->X=[])/\(i<k->Q v X)) (fun ⟨k,v,X⟩=>l.length-k) ⟨⟨0,.slice none 0 0,[]⟩,⟨by omega,fun _=>O,fun h=>absurd h (Nat.not_lt_zero _)⟩,Weak.regsEq ⟨H,H,H,H,H,H,T⟩ O⟩ ?_
 rintro ⟨k,v,X⟩ ⟨hk,hX,hQ⟩
 show AWP _ _ _ _ _ ⟨[(15,vI k)]++_,(E.vec sv1 46 20 (rowsI l i v k)::X)⟩
 refine G O<|yH O<|I<|zJ<|zF O (fun c1=>?_) (fun c1=>?_)
 ·try simp only [R] at c1
  obtain ⟨s,hs⟩:=qW l k (by omega)
  have hsw:=yI (zZ hs)
  have hse:=St.wt_eq s
  have hPs:=St.allF_eq (wE hP s (zZ hs))
  refine zI<|zJ<|zQ<|G O<|F O<|F O<|I<|zJ<|G O<|F O<|F O<|qC O K (by omega) (wJ hs)<|qQ O zAb<|zK J qA O<|yE O<|I<|zF O (fun c2=>?_) (fun c2=>?_)
  ·try simp only [R] at c2
   refine zS O<|F O<|F O<|F O<|F O<|F O<|qC O K (by omega) (wJ hs)<|qQ O zAf<|zK one9 qA O<|zX O (kR O O (hg s.Name) ⟨H,O,T⟩)<|zX O (qO 0 O K O O O (by omega) (by simpa using rowsI_lt hs))<|zX O (yZ O zAf O)<|wL O O (yV O sz9 O O O (zBu 0 O (rowsI_get hs) O))<|I<|zJ<|G O<|F O<|F O<|F O<|F O<|qC O K (by omega) (wJ hs)<|qQ O zDt<|zK wR qA O<|F O<|qJ O ok87 (mapIx_id hf s.Idx (by omega) (fun x hx=>by have:=zAw hx;rw [Ix.wt] at this;omega) hPs.1) ⟨H,O,H,O,T⟩<|qP O<|qT O<|qT O<|zX O (qO 0 O K O O O (by omega) (by simpa using rowsI_lt hs))<|zX O (yZ O zDt O)<|wL O O (yV O sz34 O O O (zBu 0 O (zBt (by simpa using rowsI_lt hs)) O))<|F O<|I<|G O<|F O<|yR O<|I<|zF O (fun c3=>?_) (fun c3=>?_)
   ·try simp only [R] at c3
    exact (c3 T).elim
   ·try simp only [R] at c3
    refine zI<|zJ<|G O<|F O<|F O<|F O<|F O<|qC O K (by omega) (wJ hs)<|qQ O zAp<|zO yX qA O<|F O<|qJ O ok138 (mapEx_id hf s.E hPs.2.1 (by have:=s.E.cnt_le;omega)) ⟨H,O,H,O,T⟩<|qP O<|yO O<|qT O<|zX O (qO 0 O K O O O (by omega) (by simpa using rowsI_lt hs))<|zX O (yZ O zAp O)<|wL O O (yV O sz44 O O O (zBu 0 O (zBt (by simpa using rowsI_lt hs)) O))<|F O<|I<|G O<|F O<|yR O<|I<|zF O (fun c4=>?_) (fun c4=>?_)
    ·try simp only [R] at c4
     exact (c4 T).elim
    ·try simp only [R] at c4
     refine zI<|G O<|F O<|F O<|F O<|F O<|qC O K (by omega) (wJ hs)<|qQ O kP<|zK kT qA O<|F O<|F O<|zU O O (zGj O ok91 (ih k s hs) ⟨H,O,H,O,H,O,T⟩) ?_
     rintro _ _ ⟨μ9,⟨b,v9,rfl,hb⟩,rfl⟩
     refine qP O<|qT O<|qT O<|zX O (qO 0 O K O O O (by omega) (by simpa using rowsI_lt hs))<|zX O (yZ O kP O)<|wL O O (yV O sz23 O O O (zBu 0 O (zBt (by simpa using rowsI_lt hs)) O))<|F O<|I<|G O<|F O<|yR O<|I<|zF O (fun c5=>?_) (fun c5=>?_)
     ·try simp only [R] at c5
      exact (c5 T).elim
     ·try simp only [R] at c5
      refine zI<|zS O<|qH O ⟨by omega,by omega⟩<|F O<|I ?_
      refine ⟨⟨k+1,(if k=i then v9 else v),X++μ9⟩,⟨by omega,invX hX hb,invQ hX hQ hb⟩,(by show l.length-(k+1)<l.length-k;omega),Weak.regsEq ⟨H,H,H,H,H,H,T⟩ (congrArg (fun rows=>E.vec sv1 46 20 rows::(X++μ9)) (by simp only [Int.toNat_natCast,List.set_set];exact rowsI_set hs (hb.imp (fun h=>⟨h.1,h.2.1⟩) (fun h=>⟨h.1,h.2.1⟩))))⟩
  ·try simp only [R] at c2
   refine zI<|zJ<|G O<|F O<|F O<|F O<|F O<|qC O K (by omega) (wJ hs)<|qQ O zDt<|zK wR qA O<|F O<|qJ O ok87 (mapIx_id hf s.Idx (by omega) (fun x hx=>by have:=zAw hx;rw [Ix.wt] at this;omega) hPs.1) ⟨H,O,H,O,T⟩<|qP O<|qT O<|qT O<|zX O (qO 0 O K O O O (by omega) (by simpa using rowsI_lt hs))<|zX O (yZ O zDt O)<|wL O O (yV O sz34 O O O (zBu 0 O (rowsI_get hs) O))<|F O<|I<|G O<|F O<|yR O<|I<|zF O (fun c3=>?_) (fun c3=>?_)
   ·try simp only [R] at c3
    exact (c3 T).elim
   ·try simp only [R] at c3
    refine zI<|zJ<|G O<|F O<|F O<|F O<|F O<|qC O K (by omega) (wJ hs)<|qQ O zAp<|zO yX qA O<|F O<|qJ O ok138 (mapEx_id hf s.E hPs.2.1 (by have:=s.E.cnt_le;omega)) ⟨H,O,H,O,T⟩<|qP O<|yO O<|qT O<|zX O (qO 0 O K O O O (by omega) (by simpa using rowsI_lt hs))<|zX O (yZ O zAp O)<|wL O O (yV O sz44 O O O (zBu 0 O (zBt (by simpa using rowsI_lt hs)) O))<|F O<|I<|G O<|F O<|yR O<|I<|zF O (fun c4=>?_) (fun c4=>?_)
    ·try simp only [R] at c4
     exact (c4 T).elim
    ·try simp only [R] at c4
     refine zI<|G O<|F O<|F O<|F O<|F O<|qC O K (by omega) (wJ hs)<|qQ O kP<|zK kT qA O<|F O<|F O<|zU O O (zGj O ok91 (ih k s hs) ⟨H,O,H,O,H,O,T⟩) ?_
     rintro _ _ ⟨μ9,⟨b,v9,rfl,hb⟩,rfl⟩
     refine qP O<|qT O<|qT O<|zX O (qO 0 O K O O O (by omega) (by simpa using rowsI_lt hs))<|zX O (yZ O kP O)<|wL O O (yV O sz23 O O O (zBu 0 O (zBt (by simpa using rowsI_lt hs)) O))<|F O<|I<|G O<|F O<|yR O<|I<|zF O (fun c5=>?_) (fun c5=>?_)
     ·try simp only [R] at c5
      exact (c5 T).elim
     ·try simp only [R] at c5
      refine zI<|zS O<|qH O ⟨by omega,by omega⟩<|F O<|I ?_
      refine ⟨⟨k+1,(if k=i then v9 else v),X++μ9⟩,⟨by omega,invX hX hb,invQ hX hQ hb⟩,(by show l.length-(k+1)<l.length-k;omega),Weak.regsEq ⟨H,H,H,H,H,H,T⟩ (congrArg (fun rows=>E.vec sv1 46 20 rows::(X++μ9)) (by simp only [Int.toNat_natCast,List.set_set];exact rowsI_set hs (hb.imp (fun h=>⟨h.1,h.2.1⟩) (fun h=>⟨h.1,h.2.1⟩))))⟩
 ·try simp only [R] at c1
  have hke:k=l.length:=by omega
  subst hke
  refine qN<|G O<|F O<|F O<|F O<|I<|o<|w (p O) (p O) ?_
  exact ⟨_,v,X,O,O,hX,hQ⟩
theorem mapStmtsP {c c9:C} {P:Lf->Prop} (hf:∀l,P l->FnPur cfg c [vLin l] (.tup [vLin l,vI 0])) (hg:∀s,FnPur cfg c9 [vS s] (vS s)):∀(p:List Int) (l:List St),p≠[]->wayOk p l->allSs P l->stsWt l<=1073741824->Con cfg 91 [vSts l,.c c,.c c9] [] (fun r μ'=>∃ch,ch.map Prod.fst=p/\r=.tup [.c (.lit (hdV ch)),vI 0]/\μ'=chE ch l)
  |[],_,h,_,_,_=>absurd rfl h
  |[j],l,_,hw,hP,hl=>by
    refine (zJv hf hg l hP l.length (fun _ _=>True) (fun k s hs=>?_) hl).mono ?_
    · have hsw:=yI (zZ hs)
      have hse:=St.wt_eq s
      have hPs:=St.allF_eq (wE hP s (zZ hs))
      refine (Con.pure_frame (Q:=fun r=>r=.tup [vSts s.Body,vI 0]) (mapSts_id hf hg s.Body hPs.2.2 (by omega)) []).mono ?_
      rintro r μ' ⟨rfl,rfl⟩
      exact ⟨_,.slice none 0 0,O,.inr ⟨by have:=zLq hs;omega,O,O⟩⟩
    · rintro r μ' ⟨sv,v,X,rfl,rfl,hX,_⟩
      refine ⟨[(j,sv)],O,O,?_⟩
      rw [hX (Nat.le_refl _),rowsI_none,chE]
  |j::j1::p,l,_,hw,hP,hl=>by
    have hg0:=zQu hw.1
    have hjw:=yI (zZ hg0)
    have hjb:=St.body_wt (l.getD j.toNat zSt)
    have hPj:=St.allF_eq (wE hP _ (zZ hg0))
    have ih:=mapStmtsP hf hg (j1::p) (l.getD j.toNat zSt).Body (by simp) hw.2 hPj.2.2 (by omega)
    refine (zJv hf hg l hP j.toNat (fun v μ=>∃ch,ch.map Prod.fst=j1::p/\v=hdV ch/\μ=chE ch (l.getD j.toNat zSt).Body) (fun k s hs=>?_) hl).mono ?_
    · by_cases hkj:k=j.toNat
      · subst hkj
        have e:l.getD j.toNat zSt=s:=by rw [List.getD_eq_getElem?_getD,hs];rfl
        rw [e] at ih⊢
        refine ih.mono ?_
        rintro r μ' ⟨ch,h1,rfl,rfl⟩
        exact ⟨_,hdV ch,O,.inl ⟨O,O,ch,h1,O,O⟩⟩
      · have hsw:=yI (zZ hs)
        have hse:=St.wt_eq s
        have hPs:=St.allF_eq (wE hP s (zZ hs))
        refine (Con.pure_frame (Q:=fun r=>r=.tup [vSts s.Body,vI 0]) (mapSts_id hf hg s.Body hPs.2.2 (by omega)) []).mono ?_
        rintro r μ' ⟨rfl,rfl⟩
        exact ⟨_,.slice none 0 0,O,.inr ⟨hkj,O,O⟩⟩
    · rintro r μ' ⟨sv,v,X,rfl,rfl,_,hQ⟩
      obtain ⟨ch,h1,rfl,rfl⟩:=hQ (by have:=hw.1;omega)
      match ch,h1 with
      |(i1,sv1)::r1,h1=>exact ⟨(j,sv)::(i1,sv1)::r1,by rw [List.map_cons,h1],rfl,by rw [rowsI_all,chE];rfl⟩
end Go.W
end
section
set_option maxRecDepth 10000
namespace Go.W
open Go Go.Eng Go.Proofs Go.L41 Go.Br
attribute [local irreducible] AWP RWP TD finQ
abbrev Chn (p:List Int):={ ch:List (Int×Value)//ch.map Prod.fst=p }
theorem chE_mono:∀(ch:List (Int×Value)) (l:List St),∀e,e∈chE ch l->e.Mono
  |[],_,e,h=>by rw [chE] at h;cases h
  |[(_,sv)],l,e,h=>by rw [chE] at h;obtain rfl:=List.mem_singleton.1 h;trivial
  |(i,sv)::(j,sv1)::r,l,e,h=>by
    rw [chE] at h
    rcases List.mem_cons.1 h with rfl|h
    · trivial
    · exact chE_mono ((j,sv1)::r) _ e h
theorem copyStmtsQ (p:List Int) (hp:p≠[]) (l:List St) (hw:wayOk p l) (hl:stsWt l<=1073741824):
    Con cfg 41 [vSts l] [] (fun r μ'=>∃ch,ch.map Prod.fst=p/\r=.c (.lit (hdV ch))/\μ'=chE ch l):=by
 refine zR Tryz.func41 O Tryz.ntmps41 Tryz.results41 O ?_
 intro z hz
 refine G O<|yA 20 O<|I<|G O<|F O<|zU O O (zGj O ok91 (mapStmtsP (P:=fun l=>l.L.length<=1073741824) (fun l hl=>FnPur.of_pur (first:=[]) (cap:=[]) ok92 (zTd l hl)) (fun s=>FnPur.of_pur (first:=[]) (cap:=[]) ok94 (zGo s)) p l hp hw (zLa hl) hl) ⟨H,O,H,O,H,O,T⟩) ?_
 rintro _ _ ⟨_,⟨ch,hch,rfl,rfl⟩,rfl⟩
 refine qP O<|qT O<|qT O<|F O<|F O<|I<|G O<|F O<|F O<|I<|o<|X O ?_
 exact ⟨ch,hch,O,O⟩
theorem copyStmtsC (p:List Int) (hp:p≠[]) (l:List St) (hw:wayOk p l) (hl:stsWt l<=1073741824):Con cfg 41 [vSts l] [] fun r μ'=>∃a:Chn p,r=.c (.lit (hdV a.1))/\μ'=[pk (chE a.1 l)]:=
  (Con.pack (copyStmtsQ p hp l hw hl)).mono fun r μ' ⟨φ,⟨ch,h1,h2,h3⟩,h4⟩=>⟨⟨ch,h1⟩,h2,by rw [h4,h3]⟩
theorem replaceC (p:List Int) (hp:p≠[]) (a:Chn p) (l q:List St) (hw:wayOk p l) (hl:stsWt l<=2000000) (hq:q.length<=2000000):Con cfg 40 [.c (.lit (hdV a.1)),vIs p,vSts q] [pk (chE a.1 l)] fun r' μ'=>∃sv',r'=.c (.lit sv')/\μ'=[.vec sv' 46 20 ((replL p l q).map St.cells)]:=by
  obtain ⟨ch,rfl⟩:=a
  match ch,hp,hw with
  |[],hp,_=>exact absurd rfl hp
  |(i,sv)::r,_,hw=>exact Con.unpack (zLh q hq r i sv l hw hl) (chE_mono _ _)
theorem loopnest_CopyC (p:List Int) (hp:p≠[]) (n:Ns) (hn:n.Ok) (hw:wayOk p n.Body):
    Con cfg 39 [vNs n] [] (fun r μ'=>∃a:Chn p,r=.agg [.sl 8 (n.Bufs.map Bf.cells),.lit (hdV a.1)]/\μ'=[pk (chE a.1 n.Body)]):=by
 refine Con.dropG<|zR Tryz.func39 O Tryz.ntmps39 Tryz.results39 O ?_
 intro z hz
 have hnb:=hn.bufs
 have hnw:=hn.body
 refine G O<|zU O O (qM O O) ?_
 rintro _ _ ⟨b1,rfl,rfl⟩
 refine zU O O (qE [some 8,some 20] O d O) ?_
 rintro _ _ ⟨b2,rfl,rfl⟩
 refine I<|G O<|zH O zAc<|zK kT (Y 1 O) O<|zU O O (zLk O ok41 (copyStmtsC p hp n.Body hw (by omega)) ⟨H,O,T⟩) ?_
 rintro _ _ ⟨ch,rfl,rfl⟩
 refine yP O d pl25<|zU O O (qE [some 8,some 20] O d O) ?_
 rintro _ _ ⟨b3,rfl,rfl⟩
 refine D 0 i O<|I<|zJ<|G O<|yN _ (kX 65 8)<|zH O zAg<|zK zDm (Y 4 O) O<|qB O el22<|F O<|I<|zQ<|zW ⟨[(12,.c _),(1,.c _),(2,.c _),(3,.c _),(11,.c _)],[_,_,_,_,_]⟩ (Weak.mk [true,true,true,true,true] ⟨H,H,H,H,H,T⟩ O)<|qK 1 2 O O (Nat×Value) (fun ⟨k,sv⟩=>[(12,vI k)]) (fun ⟨k,sv⟩=>[E.vec sv 65 8 ((n.Bufs.take k).map Bf.cells),E.row b3 25 [.lit sv,.lit (hdV ch.1)]]) (fun ⟨k,sv⟩=>k<=n.Bufs.length) (fun ⟨k,sv⟩=>n.Bufs.length-k) ⟨⟨0,(.slice none 0 0)⟩,(by omega),Weak.mk [true,true,true,true,true] ⟨H,H,H,H,H,T⟩ O⟩ ?_
 rintro ⟨k,sv⟩ hk
 show AWP _ _ _ _ _ ⟨[(12,vI k)]++_,[E.vec sv 65 8 ((n.Bufs.take k).map Bf.cells),E.row b3 25 [.lit sv,.lit (hdV ch.1)]]++_⟩
 refine G O<|yH O<|I<|zJ<|zF O (fun c1=>?_) (fun c1=>?_)
 ·try simp only [R] at c1
  obtain ⟨b,hb⟩:=qW n.Bufs k (by omega)
  have hbd:=hn.dims b (zZ hb)
  refine zI<|zJ<|zQ<|G O<|F O<|F O<|I<|qX 9 mixed (by kernel_rfl) O O<|M O O (zD O zAg O)<|M O O (Q O zDm O (Y 1 O) O)<|M O O (zD O zAg O)<|M O O (Q O zDm O (Y 4 O) O)<|M O O (zN O O)<|M O O (qD O el22 O O (by omega) (N (by assumption)))<|M O O (zY O zKu O qA O)<|M O O (qL O ok89 (zCd b (by omega)) ⟨H,O,T⟩)<|M O O (qS O el22 zr65 O O O O)<|kB<|zU O O (yD 0 O el22 O O O (by simp only [List.length_map,List.length_append,List.length_cons,List.length_nil,List.length_take,List.length_drop];omega) (by simp only [List.length_map,List.length_append,List.length_cons,List.length_nil,List.length_take,List.length_drop];omega)) ?_
  rintro _ _ ⟨sv4,rfl,rfl⟩
  refine zH O zAg<|D 1 sz22 O<|I<|zS O<|qH O ⟨by omega,by omega⟩<|F O<|I ?_
  refine ⟨⟨k+1,sv4⟩,(by omega),(by show n.Bufs.length-(k+1)<n.Bufs.length-k;omega),Weak.mk [true,true,true,true,true] ⟨H,H,H,H,H,T⟩ (by exact mem2_eq' (by rw [yF hb,List.map_append];rfl))⟩
 ·try simp only [R] at c1
  rw [yL (l:=n.Bufs) (k:=k) (by omega)]
  refine zW _ (yS 0 O (regs':=[]) (μ':=[_,_,_,_]) T ⟨EFle.row (ds:=[_,_]) ⟨.inr ⟨O,O⟩,.inl O,T⟩,EFle.refl _,EFle.refl _,EFle.refl _,T⟩)<|qN<|G O<|zO kG (Y 0 O) O<|D 2 i O<|I<|o<|fin1 (zV kG O (Y 2 O) O) ?_
  exact ⟨[pk _],⟨[E.row _ _ _],[E.row _ _ _,E.row _ _ _],O⟩,ch,O,O⟩
theorem zLt (n:Ns) (hn:n.Ok):
    Pur cfg 39 [vNs n] (vNs n):=by
 refine zR Tryz.func39 O Tryz.ntmps39 Tryz.results39 O ?_
 intro z hz
 have hnb:=hn.bufs
 have hnw:=hn.body
 refine G O<|zU O O (qM O O) ?_
 rintro _ _ ⟨b1,rfl,rfl⟩
 refine zU O O (qE [some 8,some 20] O d O) ?_
 rintro _ _ ⟨b2,rfl,rfl⟩
 refine I<|G O<|zH O zAc<|zK kT (Y 1 O) O<|qJ O ok41 (zCo n.Body (by omega)) ⟨H,O,T⟩<|yP O d pl25<|zU O O (qE [some 8,some 20] O d O) ?_
 rintro _ _ ⟨b3,rfl,rfl⟩
 refine D 0 i O<|I<|zJ<|G O<|yN _ (kX 65 8)<|zH O zAg<|zK zDm (Y 3 O) O<|qB O el22<|F O<|I<|zQ<|zW ⟨[(12,.c _),(1,.c _),(2,.c _),(3,.c _),(11,.c _)],[_,_,_,_]⟩ (Weak.mk [true,true,true,true] ⟨H,H,H,H,H,T⟩ O)<|qK 1 2 O O (Nat×Value) (fun ⟨k,sv⟩=>[(12,vI k)]) (fun ⟨k,sv⟩=>[E.vec sv 65 8 ((n.Bufs.take k).map Bf.cells),E.row b3 25 [.lit sv,.sl 20 (n.Body.map St.cells)]]) (fun ⟨k,sv⟩=>k<=n.Bufs.length) (fun ⟨k,sv⟩=>n.Bufs.length-k) ⟨⟨0,(.slice none 0 0)⟩,(by omega),Weak.mk [true,true,true,true] ⟨H,H,H,H,H,T⟩ O⟩ ?_
 rintro ⟨k,sv⟩ hk
 show AWP _ _ _ _ _ ⟨[(12,vI k)]++_,[E.vec sv 65 8 ((n.Bufs.take k).map Bf.cells),E.row b3 25 [.lit sv,.sl 20 (n.Body.map St.cells)]]++_⟩
 refine G O<|yH O<|I<|zJ<|zF O (fun c1=>?_) (fun c1=>?_)
 ·try simp only [R] at c1
  obtain ⟨b,hb⟩:=qW n.Bufs k (by omega)
  have hbd:=hn.dims b (zZ hb)
  refine zI<|zJ<|zQ<|G O<|F O<|F O<|I<|qX 9 mixed (by kernel_rfl) O O<|M O O (zD O zAg O)<|M O O (Q O zDm O (Y 1 O) O)<|M O O (zD O zAg O)<|M O O (Q O zDm O (Y 3 O) O)<|M O O (zN O O)<|M O O (qD O el22 O O (by omega) (N (by assumption)))<|M O O (zY O zKu O qA O)<|M O O (qL O ok89 (zCd b (by omega)) ⟨H,O,T⟩)<|M O O (qS O el22 zr65 O O O O)<|kB<|zU O O (yD 0 O el22 O O O (by simp only [List.length_map,List.length_append,List.length_cons,List.length_nil,List.length_take,List.length_drop];omega) (by simp only [List.length_map,List.length_append,List.length_cons,List.length_nil,List.length_take,List.length_drop];omega)) ?_
  rintro _ _ ⟨sv4,rfl,rfl⟩
  refine zH O zAg<|D 1 sz22 O<|I<|zS O<|qH O ⟨by omega,by omega⟩<|F O<|I ?_
  refine ⟨⟨k+1,sv4⟩,(by omega),(by show n.Bufs.length-(k+1)<n.Bufs.length-k;omega),Weak.mk [true,true,true,true] ⟨H,H,H,H,H,T⟩ (by exact mem2_eq' (by rw [yF hb,List.map_append];rfl))⟩
 ·try simp only [R] at c1
  rw [yL (l:=n.Bufs) (k:=k) (by omega)]
  refine zW _ (yS 0 O (regs':=[]) (μ':=[_,_,_]) T ⟨EFle.row (ds:=[_,_]) ⟨.inr ⟨O,O⟩,.inl O,T⟩,EFle.refl _,EFle.refl _,T⟩)<|qN<|G O<|zO kG (Y 0 O) O<|D 1 i O<|I<|o<|fin1 (zV kG O (Y 1 O) O) ?_
  rfl
end Go.W
end
