/-
  Walks: what functions of the program compute. Printed by wip/gen/mk2.py.
  Conditions: none.
-/
import Derived.Test.YtlfjpejkoccibaaGreatDoorNK
import Derived.Test.YtlfjpejkoccibaaGreatDoorPlain2
import Derived.Test.YtlfjpejkoccibaaGreatDoorEngZ
set_option linter.unusedSimpArgs false
set_option linter.unusedVariables false
set_option maxRecDepth 10000
namespace Go.W
open Go Go.Eng Go.Proofs Go.L41 Go.Br
attribute [local irreducible] AWP RWP TD finQ
theorem ok63:callOk Tryz.prog 63=true:=by kernel_rfl
theorem ok108:callOk Tryz.prog 108=true:=by kernel_rfl
theorem ok109:callOk Tryz.prog 109=true:=by kernel_rfl
theorem zEf (l:List St) (n:ByteArray) (u:Lf) (hu:u.L.length<=4294967296) (hru:u.rng) (hl:stsWt l<=1000000) (hr:allSs Lf.rng l) (ih:∀s,s∈l->Pur cfg 63 [vSts s.Body,vS n,vLin u] (.tup [vSts (outS (sbT n u s.Body)),vI (errE (sbT n u s.Body))])):
    Pur cfg 63 [vSts l,vS n,vLin u] (.tup [vSts (outS (sbT n u l)),vI (errE (sbT n u l))]):=by
 refine zT Tryz.func63 O Tryz.ntmps63 Tryz.results63 O ?_
 intro z hz
 have hll:=kP l
 refine F O<|zX O O (qN O O) ?_
 rintro _ _ ⟨b1,rfl,rfl⟩
 refine qZ 20 O<|A O<|G<|F O<|A O<|yI _ (kN 46 20)<|G<|zJ<|F O<|A O<|G<|zR<|zY ⟨[(9,.c _),(8,.c _),(0,.c _),(1,.c _),(5,.c _)],[_,_]⟩ (Weak.mk [true,true] ⟨H,H,H,H,H,T⟩ O)<|qK 2 1 O O (Nat×List St×Value) (fun ⟨k,outs,sv⟩=>[(9,vI k),(8,.c (.lit sv))]) (fun ⟨k,outs,sv⟩=>[E.vec sv 46 20 (outs.map St.cells)]) (fun ⟨k,outs,sv⟩=>k<=l.length/\(outs.length=k)/\(sbT n u l=mapRest outs (sbT n u (l.drop k)))) (fun ⟨k,outs,sv⟩=>l.length-k) ⟨⟨0,[],.slice none 0 0⟩,⟨by omega,O,(zBw _).symm⟩,Weak.mk [true,true] ⟨H,H,H,H,H,T⟩ O⟩ ?_
 rintro ⟨k,outs,sv⟩ ⟨hk,ho,hp⟩
 show AWP _ _ _ _ _ ⟨[(9,vI k),(8,.c (.lit sv))]++_,[E.vec sv 46 20 (outs.map St.cells)]++_⟩
 refine zJ<|F O<|A O<|A O<|qC O D<|yD O<|G<|zD O (fun c1=>?_) (fun c1=>?_)
 ·try simp only [I] at c1
  obtain ⟨s,hs⟩:=qV l k (by omega)
  have hsw:=yE (qB hs)
  have hse:=St.wt_eq s
  obtain ⟨hp1,hp2,hp3⟩:=St.all_parts (wP hr s (qB hs))
  refine zK<|zJ<|zR<|F O<|A O<|A O<|qD O D (by omega) (wG hs)<|zP zAt qA O<|zX O O (qE [none,none,none,none,none,some 4,none,none,none,none,none,none,none,none,none,none,some 2,some 4,some 13,some 20] O j O) ?_
  rintro _ _ ⟨b3,rfl,rfl⟩
  refine Y 0 sz46 O<|G<|F O<|zH O zDm<|zM wQ (R 0 O) O<|qT [none,none,none,none,none,none,none,none,none,none,some 2,none,some 13] O zr44 pl44<|A O<|zP yK (R 2 O) O<|qI O ok119 (zIg (rdX s.Idx) n u hu hru (rdX_all zrng hp1) (by rw [rdX_wt];omega)) ⟨H,O,H,O,H,O,T⟩<|qO O<|yJ O<|qU O<|zX O O (qE [none,none,none,none,none,none,none,none,none,none,some 2,some 4,some 13] O zr44 O) ?_
  rintro _ _ ⟨b4,rfl,rfl⟩
  refine Y 0 sz44 O<|A O<|G<|zJ<|F O<|A O<|yN O<|G<|zD O (fun c2=>?_) (fun c2=>?_)
  ·try simp only [I] at c2
   refine F O<|A O<|qZ 20 O<|A O<|G<|o<|p (J O) (J O) ?_
   rw [show sbT n u l=_ from zHp hs hp (sub_1 c2)];rfl
  ·try simp only [I] at c2
   refine zK<|F O<|zH O zBd<|zP kC (R 1 O) O<|A O<|zP yK (R 3 O) O<|qI O ok119 (zIg s.E n u hu hru hp2 (by omega)) ⟨H,O,H,O,H,O,T⟩<|qO O<|yJ O<|qU O<|zX O O (qE [none,none,none,none,none,none,none,none,none,none,some 2,some 4,some 13] O zr44 O) ?_
   rintro _ _ ⟨b5,rfl,rfl⟩
   refine Y 0 sz44 O<|A O<|G<|zJ<|F O<|A O<|yN O<|G<|zD O (fun c3=>?_) (fun c3=>?_)
   ·try simp only [I] at c3
    refine F O<|A O<|qZ 20 O<|A O<|G<|o<|p (J O) (J O) ?_
    rw [show sbT n u l=_ from zHp hs hp (sub_2 c2 c3)];rfl
   ·try simp only [I] at c3
    refine zK<|F O<|zH O kM<|zM kQ (R 2 O) O<|A O<|zP yK (R 4 O) O<|qI O ok63 (ih s (qB hs)) ⟨H,O,H,O,H,O,T⟩<|qO O<|qU O<|qU O<|A O<|A O<|G<|zJ<|F O<|A O<|yN O<|G<|zD O (fun c4=>?_) (fun c4=>?_)
    ·try simp only [I] at c4
     refine F O<|A O<|qZ 20 O<|A O<|G<|o<|p (J O) (J O) ?_
     rw [show sbT n u l=_ from zHp hs hp (sub_3 c2 c3 c4)];rfl
    ·try simp only [I] at c4
     refine zK<|F O<|zH O wD<|zM wQ (R 1 O) O<|zH O zDm<|Y 2 sz34 O<|G<|F O<|zP kC (R 0 O) O<|zH O zBd<|Y 2 sz44 O<|G<|F O<|A O<|zH O kM<|Y 2 sz23 O<|G<|zQ O<|A O<|zP zAt (R 2 O) O<|yZ O D j<|zX O O (qX 3 O D O O O (by simp only [List.length_map,List.length_append,List.length_cons,List.length_nil,List.length_take,List.length_drop];omega) (by simp only [List.length_map,List.length_append,List.length_cons,List.length_nil,List.length_take,List.length_drop];omega)) ?_
     rintro _ _ ⟨sv6,rfl,rfl⟩
     refine A O<|G<|zQ O<|A O<|qJ O ⟨by omega,by omega⟩<|A O<|G ?_
     refine ⟨⟨k+1,outs++[.mk s.Op s.Name s.Many s.Mark s.Fold (outE (mEx (sbF n u) (rdX s.Idx))).Idx (outE (mEx (sbF n u) s.E)) (outS (sbT n u s.Body))],sv6⟩,⟨by omega,by simp;omega,zTv hs hp (sub_4 c2 c3 c4)⟩,(by show l.length-(k+1)<l.length-k;omega),Weak.mk [false,false,false,true,true] ⟨H,H,H,H,H,T⟩ (by exact zHo (by rw [List.map_append,List.map_singleton,St.cells_eq];rfl))⟩
 ·try simp only [I] at c1
  have hfe:=mSts_end hp (by omega)
  refine qQ<|zJ<|zY _ (yH 0 O (regs':=[(8,_)]) (μ':=[_]) ⟨FLe.sl,T⟩ ⟨EFle.refl _,T⟩)<|zQ O<|A O<|A O<|A O<|G<|o<|p (J O) (J O) ?_
  rw [show sbT n u l=_ from hfe];rfl
theorem zJi (s:St) (n:ByteArray) (u:Lf) (hu:u.L.length<=4294967296) (hru:u.rng) (hl:stsWt s.Body<=1000000) (hr:allSs Lf.rng s.Body):Pur cfg 63 [vSts s.Body,vS n,vLin u] (.tup [vSts (outS (sbT n u s.Body)),vI (errE (sbT n u s.Body))]):=by
  induction s using St.ind with
  |_ s ih=>exact zEf s.Body n u hu hru hl hr fun a ha=>ih a ha (by have:=yE ha;have:=St.body_wt a;omega) (St.all_parts (wP hr a ha)).2.2
theorem zQi (l:List St) (n:ByteArray) (u:Lf) (hu:u.L.length<=4294967296) (hru:u.rng) (hl:stsWt l<=1000000) (hr:allSs Lf.rng l):Pur cfg 63 [vSts l,vS n,vLin u] (.tup [vSts (outS (sbT n u l)),vI (errE (sbT n u l))]):=
  zEf l n u hu hru hl hr fun s hs=>zJi s n u hu hru (by have:=yE hs;have:=St.body_wt s;omega) (St.all_parts (wP hr s hs)).2.2
theorem substitute_1 (n:ByteArray) (u:Lf) (hu:u.L.length<=4294967296) (hru:u.rng) (l:Lf) (hl:l.L.length<=1073741824) (hr:l.rng):
    Pur cfg 108 [vLin l,.c (.iptr [cS n]),.c (.iptr u.cells)] (.tup [vLin (sbF n u l).1,vI (sbF n u l).2]):=by
 refine zT Tryz.func108 O Tryz.ntmps108 Tryz.results108 O ?_
 intro z hz
 refine F O<|zX O O (qN O O) ?_
 rintro _ _ ⟨b1,rfl,rfl⟩
 refine zX O O (qE [none,some 2] O U O) ?_
 rintro _ _ ⟨b2,rfl,rfl⟩
 refine A O<|G<|F O<|zP yK (R 1 O) O<|zM one9 qA O<|zP yK qA O<|qI O ok109 (lin_SubstR l n u (by omega) hu hr hru) ⟨H,O,H,O,H,O,T⟩<|yJ O<|qU O<|Y 0 g O<|A O<|G<|o<|p (zV yK O (R 0 O) O) (J O) ?_
 exact O
theorem zBg (l:List St) (n:ByteArray) (u:Lf) (hu:u.L.length<=4294967296) (hru:u.rng) (hl:stsWt l<=1000000000) (hr:allSs Lf.rng l):
    Pur cfg 54 [vSts l,vS n,vLin u] (.tup [vSts (outS (sbT n u l)),vI (errE (sbT n u l))]):=by
 refine zT Tryz.func54 O Tryz.ntmps54 Tryz.results54 O ?_
 intro z hz
 refine F O<|zX O O (qN O O) ?_
 rintro _ _ ⟨b1,rfl,rfl⟩
 refine yI _ (yW 0 O 4 _ PLe.ptr)<|zX O O (qN O O) ?_
 rintro _ _ ⟨b2,rfl,rfl⟩
 refine yI _ (yW 0 O 5 _ PLe.ptr)<|qZ 20 O<|A O<|G<|F O<|A O<|zU O (zDz O O O O O)<|qI O ok91 (zDq (sbF n u) _ (fun l=>l.rng/\l.L.length<=1073741824) (fun l hl=>FnPur.of_pur (first:=[]) (cap:=[.iptr [cS n],.iptr u.cells]) ok108 (substitute_1 n u hu hru l hl.2 hl.1)) (fun x=>x) _ (fun s=>FnPur.of_pur (first:=[]) (cap:=[]) ok94 (zHq s)) l (zVm l hr (zMi (by omega))) (by omega)) ⟨H,O,H,O,H,O,T⟩<|qU O<|qU O<|A O<|A O<|G<|o<|p (J O) (J O) ?_
 exact O
end Go.W
