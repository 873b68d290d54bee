/-
  What functions compute.
  Conditions: none.
-/
import Derived.Test.YtlfjpejkoccibaaGreatDoorNK
import Derived.Test.YtlfjpejkoccibaaGreatDoorPlain2
import Derived.Test.YtlfjpejkoccibaaGreatDoorEngZ
set_option linter.unusedSimpArgs false
set_option linter.unusedVariables false
set_option maxRecDepth 10000
namespace Go.W
open Go Go.Eng Go.Proofs Go.L41 Go.Br
attribute [local irreducible] AWP RWP TD fH
theorem ok63:bA Tryz.prog 63=true:=by kernel_rfl
theorem ok108:bA Tryz.prog 108=true:=by kernel_rfl
theorem ok109:bA Tryz.prog 109=true:=by kernel_rfl
theorem zEi (l:List St) (n:ByteArray) (u:Lf) (hu:u.L.length<=4294967296) (hru:u.rng) (hl:bC l<=1000000) (hr:bH Lf.rng l) (ih:∀s,s∈l->Pur cfg 63 [bM s.Body,vS n,bZ u] (.tup [bM (gQ (sbT n u s.Body)),vI (dZ (sbT n u s.Body))])):
    Pur cfg 63 [bM l,vS n,bZ u] (.tup [bM (gQ (sbT n u l)),vI (dZ (sbT n u l))]):=by
 refine zT Tryz.func63 O Tryz.ntmps63 Tryz.results63 O ?_
 intro z hz
 have hll:=kO l
 refine F O<|zV O O (qN O O) ?_
 rintro _ _ ⟨b1,rfl,rfl⟩
 refine qX 20 O<|A O<|H<|F O<|A O<|yI _ (kR 46 20)<|H<|zK<|F O<|A O<|H<|zR<|zY ⟨[(9,.c _),(8,.c _),(0,.c _),(1,.c _),(5,.c _)],[_,_]⟩ (Weak.mk [true,true] ⟨G,G,G,G,G,T⟩ O)<|qK 2 1 O O (Nat×List St×Value) (fun ⟨k,outs,sv⟩=>[(9,vI k),(8,.c (.lit sv))]) (fun ⟨k,outs,sv⟩=>[E.vec sv 46 20 (outs.map St.cells)]) (fun ⟨k,outs,sv⟩=>k<=l.length/\(outs.length=k)/\(sbT n u l=dE outs (sbT n u (l.drop k)))) (fun ⟨k,outs,sv⟩=>l.length-k) ⟨⟨0,[],.slice none 0 0⟩,⟨by omega,O,(zBz _).symm⟩,Weak.mk [true,true] ⟨G,G,G,G,G,T⟩ O⟩ ?_
 rintro ⟨k,outs,sv⟩ ⟨hk,ho,hp⟩
 show AWP _ _ _ _ _ ⟨[(9,vI k),(8,.c (.lit sv))]++_,[E.vec sv 46 20 (outs.map St.cells)]++_⟩
 refine zK<|F O<|A O<|A O<|qC O D<|yD O<|H<|zD O (fun c1=>?_) (fun c1=>?_)
 ·try simp only [I] at c1
  obtain ⟨s,hs⟩:=qY l k (by omega)
  have hsw:=yC (zZ hs)
  have hse:=St.wt_eq s
  obtain ⟨hp1,hp2,hp3⟩:=St.all_parts (kY hr s (zZ hs))
  refine zM<|zK<|zR<|F O<|A O<|A O<|qD O D (by omega) (wD hs)<|zP zAv qA O<|zV O O (qE [none,none,none,none,none,some 4,none,none,none,none,none,none,none,none,none,none,some 2,some 4,some 13,some 20] O j O) ?_
  rintro _ _ ⟨b3,rfl,rfl⟩
  refine Y 0 sz46 O<|H<|F O<|zG O zDo<|zJ wO (R 0 O) O<|qT [none,none,none,none,none,none,none,none,none,none,some 2,none,some 13] O zr44 pl44<|A O<|zP yX (R 2 O) O<|qI O ok119 (zIt (rdX s.Idx) n u hu hru (rdX_all zrng hp1) (by rw [rdX_wt];omega)) ⟨G,O,G,O,G,O,T⟩<|qP O<|yJ O<|qU O<|zV O O (qE [none,none,none,none,none,none,none,none,none,none,some 2,some 4,some 13] O zr44 O) ?_
  rintro _ _ ⟨b4,rfl,rfl⟩
  refine Y 0 sz44 O<|A O<|H<|zK<|F O<|A O<|yM O<|H<|zD O (fun c2=>?_) (fun c2=>?_)
  ·try simp only [I] at c2
   refine F O<|A O<|qX 20 O<|A O<|H<|o<|w (J O) (J O) ?_
   rw [show sbT n u l=_ from zIe hs hp (sub_1 c2)];rfl
  ·try simp only [I] at c2
   refine zM<|F O<|zG O zAz<|zP kA (R 1 O) O<|A O<|zP yX (R 3 O) O<|qI O ok119 (zIt s.E n u hu hru hp2 (by omega)) ⟨G,O,G,O,G,O,T⟩<|qP O<|yJ O<|qU O<|zV O O (qE [none,none,none,none,none,none,none,none,none,none,some 2,some 4,some 13] O zr44 O) ?_
   rintro _ _ ⟨b5,rfl,rfl⟩
   refine Y 0 sz44 O<|A O<|H<|zK<|F O<|A O<|yM O<|H<|zD O (fun c3=>?_) (fun c3=>?_)
   ·try simp only [I] at c3
    refine F O<|A O<|qX 20 O<|A O<|H<|o<|w (J O) (J O) ?_
    rw [show sbT n u l=_ from zIe hs hp (sub_2 c2 c3)];rfl
   ·try simp only [I] at c3
    refine zM<|F O<|zG O kK<|zJ kP (R 2 O) O<|A O<|zP yX (R 4 O) O<|qI O ok63 (ih s (zZ hs)) ⟨G,O,G,O,G,O,T⟩<|qP O<|qU O<|qU O<|A O<|A O<|H<|zK<|F O<|A O<|yM O<|H<|zD O (fun c4=>?_) (fun c4=>?_)
    ·try simp only [I] at c4
     refine F O<|A O<|qX 20 O<|A O<|H<|o<|w (J O) (J O) ?_
     rw [show sbT n u l=_ from zIe hs hp (sub_3 c2 c3 c4)];rfl
    ·try simp only [I] at c4
     refine zM<|F O<|zG O kX<|zJ wO (R 1 O) O<|zG O zDo<|Y 2 sz34 O<|H<|F O<|zP kA (R 0 O) O<|zG O zAz<|Y 2 sz44 O<|H<|F O<|A O<|zG O kK<|Y 2 sz23 O<|H<|zQ O<|A O<|zP zAv (R 2 O) O<|yV O D j<|zV O O (qV 3 O D O O O (by simp only [List.length_map,List.length_append,List.length_cons,List.length_nil,List.length_take,List.length_drop];omega) (by simp only [List.length_map,List.length_append,List.length_cons,List.length_nil,List.length_take,List.length_drop];omega)) ?_
     rintro _ _ ⟨sv6,rfl,rfl⟩
     refine A O<|H<|zQ O<|A O<|qJ O ⟨by omega,by omega⟩<|A O<|H ?_
     refine ⟨⟨k+1,outs++[.mk s.Op s.Name s.Many s.Mark s.Fold (nD (mEx (sbF n u) (rdX s.Idx))).Idx (nD (mEx (sbF n u) s.E)) (gQ (sbT n u s.Body))],sv6⟩,⟨by omega,by simp;omega,zVg hs hp (sub_4 c2 c3 c4)⟩,(by show l.length-(k+1)<l.length-k;omega),Weak.mk [false,false,false,true,true] ⟨G,G,G,G,G,T⟩ (by exact zCv (by rw [List.map_append,List.map_singleton,St.cells_eq];rfl))⟩
 ·try simp only [I] at c1
  have hfe:=mSts_end hp (by omega)
  refine qQ<|zK<|zY _ (yK 0 O (regs':=[(8,_)]) (μ':=[_]) ⟨FLe.sl,T⟩ ⟨EFle.refl _,T⟩)<|zQ O<|A O<|A O<|A O<|H<|o<|w (J O) (J O) ?_
  rw [show sbT n u l=_ from hfe];rfl
theorem zJy (s:St) (n:ByteArray) (u:Lf) (hu:u.L.length<=4294967296) (hru:u.rng) (hl:bC s.Body<=1000000) (hr:bH Lf.rng s.Body):Pur cfg 63 [bM s.Body,vS n,bZ u] (.tup [bM (gQ (sbT n u s.Body)),vI (dZ (sbT n u s.Body))]):=by
  induction s using St.ind with
  |_ s ih=>exact zEi s.Body n u hu hru hl hr fun a ha=>ih a ha (by have:=yC ha;have:=St.body_wt a;omega) (St.all_parts (kY hr a ha)).2.2
theorem zIr (l:List St) (n:ByteArray) (u:Lf) (hu:u.L.length<=4294967296) (hru:u.rng) (hl:bC l<=1000000) (hr:bH Lf.rng l):Pur cfg 63 [bM l,vS n,bZ u] (.tup [bM (gQ (sbT n u l)),vI (dZ (sbT n u l))]):=
  zEi l n u hu hru hl hr fun s hs=>zJy s n u hu hru (by have:=yC hs;have:=St.body_wt s;omega) (St.all_parts (kY hr s hs)).2.2
theorem substitute_1 (n:ByteArray) (u:Lf) (hu:u.L.length<=4294967296) (hru:u.rng) (l:Lf) (hl:l.L.length<=1073741824) (hr:l.rng):
    Pur cfg 108 [bZ l,.c (.iptr [cS n]),.c (.iptr u.cells)] (.tup [bZ (sbF n u l).1,vI (sbF n u l).2]):=by
 refine zT Tryz.func108 O Tryz.ntmps108 Tryz.results108 O ?_
 intro z hz
 refine F O<|zV O O (qN O O) ?_
 rintro _ _ ⟨b1,rfl,rfl⟩
 refine zV O O (qE [none,some 2] O v O) ?_
 rintro _ _ ⟨b2,rfl,rfl⟩
 refine A O<|H<|F O<|zP yX (R 1 O) O<|zJ one9 qA O<|zP yX qA O<|qI O ok109 (lin_SubstR l n u (by omega) hu hr hru) ⟨G,O,G,O,G,O,T⟩<|yJ O<|qU O<|Y 0 sz41 O<|A O<|H<|o<|w (y yX O (R 0 O) O) (J O) ?_
 exact O
theorem zBh (l:List St) (n:ByteArray) (u:Lf) (hu:u.L.length<=4294967296) (hru:u.rng) (hl:bC l<=1000000000) (hr:bH Lf.rng l):
    Pur cfg 54 [bM l,vS n,bZ u] (.tup [bM (gQ (sbT n u l)),vI (dZ (sbT n u l))]):=by
 refine zT Tryz.func54 O Tryz.ntmps54 Tryz.results54 O ?_
 intro z hz
 refine F O<|zV O O (qN O O) ?_
 rintro _ _ ⟨b1,rfl,rfl⟩
 refine yI _ (yS 0 O 4 _ PLe.ptr)<|zV O O (qN O O) ?_
 rintro _ _ ⟨b2,rfl,rfl⟩
 refine yI _ (yS 0 O 5 _ PLe.ptr)<|qX 20 O<|A O<|H<|F O<|A O<|zU O (zEe O O O O O)<|qI O ok91 (zDx (sbF n u) _ (fun l=>l.rng/\l.L.length<=1073741824) (fun l hl=>FnPur.of_pur (first:=[]) (cap:=[.iptr [cS n],.iptr u.cells]) ok108 (substitute_1 n u hu hru l hl.2 hl.1)) (fun x=>x) _ (fun s=>FnPur.of_pur (first:=[]) (cap:=[]) ok94 (zIf s)) l (zKz l hr (zJi (by omega))) (by omega)) ⟨G,O,G,O,G,O,T⟩<|qU O<|qU O<|A O<|A O<|H<|o<|w (J O) (J O) ?_
 exact O
end Go.W
