/-
  Walks: what functions of the program compute. Printed by wip/gen/mk2.py.
  Conditions: none.
-/
import Derived.Test.YtdbflnlalkfeeaaGreatDoorVA
import Derived.Test.YtdbflnlalkfeeaaGreatDoorWV
import Derived.Test.YtdbflnlalkfeeaaGreatDoorPlain2
import Derived.Test.YtdbflnlalkfeeaaGreatDoorEngZ
set_option maxRecDepth 10000
namespace Go.W
open Go Go.Eng Go.Proofs Go.L41 Go.Br
attribute [local irreducible] AWP RWP TD finQ
theorem zHd (e : Ex) (he : e.wt ≤ 1073741824) :
    OwnR cfg 85 [vE e] 9 1 (strRows (indexT e)):= by
 refine zV Tryz.func85 rfl Tryz.ntmps85 Tryz.results85 rfl ?_
 intro z hz
 refine sReg rfl<|qA rfl rfl (qL rfl rfl) ?_
 rintro _ _ ⟨b1,rfl,rfl⟩
 refine zA rfl (qY 1 rfl rfl)<|zB<|sReg rfl<|qA rfl rfl (yJ rfl zr72) ?_
 rintro _ _ ⟨b2,rfl,rfl⟩
 refine yK _ (kI 9 1)<|zB<|zK<|sReg rfl<|zA rfl (zG rfl yS rfl (zF 2 rfl) rfl)<|zA rfl (zP rfl ok130 (zKn _) ⟨zE,rfl,trivial⟩)<|zB<|zS<|zY _ (Weak.mem [true,true,false] rfl)<|zRy (ps := [10]) hz (Value) 2 rfl rfl ok167 (zJf e (by omega)) (fun _ _ => rfl) rfl (fun pre sv => True) (fun pre sv => [E.vec sv 9 1 (strRows (namesA pre)),E.row b2 72 [.lit sv]]) ⟨.slice none 0 0,trivial,rfl⟩ ?_ ?_
 ·intro pre x suf sv hxs hi z hz
  show AWP _ _ _ _ _ ⟨_,[E.vec sv 9 1 (strRows (namesA pre)),E.row b2 72 [.lit sv]] ++ _⟩
  have hlen := namesP_len (pre := pre ++ [x]) (suf := suf) (by rw [hxs]; simp)
  rw [namesA_one,List.length_append] at hlen
  have hxw : x.wt ≤ e.wt := zCn e x (by rw [hxs]; simp)
  refine zU rfl<|qA rfl rfl (qO [none,none,none,none,none,none,none,none,none,none,some 2,some 4,some 13] rfl zr52 rfl) ?_
  rintro _ _ ⟨b4,rfl,rfl⟩
  refine zX rfl rfl (zT rfl sz52 rfl rfl rfl (qH 0 rfl rfl))<|zB ?_
  intro z hz
  refine zS<|sReg rfl<|zA rfl (zG rfl yS rfl (zF 0 rfl) rfl)<|zA rfl (zP rfl ok131 (expr_forms _) ⟨zE,rfl,trivial⟩)<|zB<|zS<|zY _ (Weak.mem [false,true,true] rfl)<|zRy (ps := [13]) hz (Value) 2 rfl rfl ok169 (forms_iter x (by omega)) (fun _ _ => rfl) rfl (fun pre2 sw => True) (fun pre2 sw => [E.vec sw 9 1 (strRows (namesA pre ++ pre2.flatMap namesF)),E.row b2 72 [.lit sw]]) ⟨sv,trivial,(by exact zQg (by simp))⟩ ?_ ?_
  ·intro pre2 l suf2 sw hxl hi2 z hz
   show AWP _ _ _ _ _ ⟨_,[E.vec sw 9 1 (strRows (namesA pre ++ pre2.flatMap namesF)),E.row b2 72 [.lit sw]] ++ _⟩
   have hl2 := namesX_len (pre := pre2 ++ [l]) (suf := suf2) (by rw [hxl]; simp)
   have hfl : (namesF l).length = l.L.length:= by unfold namesF; rw [List.length_map]
   rw [namesF_one,List.length_append] at hl2
   refine zU rfl<|qA rfl rfl (qO [none,some 2] rfl zr49 rfl) ?_
   rintro _ _ ⟨b5,rfl,rfl⟩
   refine zX rfl rfl (zT rfl sz49 rfl rfl rfl (qH 0 rfl rfl))<|zB ?_
   intro z hz
   refine zS<|sReg rfl<|zA rfl (zC rfl kO rfl)<|zA rfl (zD rfl wZ rfl (zF 0 rfl) rfl)<|zA rfl (zR rfl el47 rfl)<|rMv rfl<|zB<|zS<|zY ⟨[(17,.c _),(3,.c _),(15,.c _),(16,.c _)],[_,_]⟩ (Weak.mk [false,true,true] ⟨zE,zE,zE,zE,trivial⟩ rfl)<|qI 1 2 rfl rfl (Nat × Value) (fun ⟨k,sy⟩ => [(17,vI k)]) (fun ⟨k,sy⟩ => [E.vec sy 9 1 (strRows (namesA pre ++ pre2.flatMap namesF ++ (l.L.take k).map Mono.Name)),E.row b2 72 [.lit sy]]) (fun ⟨k,sy⟩ => k ≤ l.L.length) (fun ⟨k,sy⟩ => l.L.length - k) ⟨⟨0,_⟩,(by omega),Weak.mk [true,true] ⟨zE,zE,zE,zE,trivial⟩ (by exact zQg (by simp))⟩ ?_
   rintro ⟨k,sy⟩ hk
   show AWP _ _ _ _ _ ⟨[(17,vI k)] ++ _,[E.vec sy 9 1 (strRows (namesA pre ++ pre2.flatMap namesF ++ (l.L.take k).map Mono.Name)),E.row b2 72 [.lit sy]] ++ _⟩
   refine sReg rfl<|zA rfl (qM rfl rfl rfl)<|zB<|zK<|zH rfl (fun c1 => ?_) (fun c1 => ?_)
   ·try simp only [sx] at c1
    obtain ⟨m,hm2⟩ := qX l.L k (by omega)
    refine zJ<|zK<|zS<|sReg rfl<|zA rfl (zO rfl el47 rfl rfl (by omega) (getm (by assumption)))<|zA rfl (zG rfl zEc rfl qC rfl)<|qA rfl rfl (yJ rfl zFu) ?_
    rintro _ _ ⟨b6,rfl,rfl⟩
    refine zX rfl rfl (zT rfl sz111 rfl rfl rfl (qH 0 rfl rfl))<|zB<|zU rfl<|zA rfl (zD rfl zLo rfl (zF 2 rfl) rfl)<|zA rfl (zC rfl wG rfl)<|zA rfl (zD rfl one9 rfl (zF 0 rfl) rfl)<|zA rfl (qZ rfl el72 zr9 rfl rfl rfl rfl)<|qA rfl rfl (yI 1 rfl el72 rfl rfl rfl (by have hkk := List.length_take_le' k l.L; simp only [List.length_map,List.length_append,List.length_cons,List.length_nil]; omega) (by have hkk := List.length_take_le' k l.L; simp only [List.length_map,List.length_append,List.length_cons,List.length_nil]; omega)) ?_
    rintro _ _ ⟨sv7,rfl,rfl⟩
    refine zX rfl rfl (zT rfl sz72 rfl rfl rfl (qH 2 rfl rfl))<|zB<|zU rfl<|zA rfl (qB rfl rfl rfl ⟨by omega,by omega⟩)<|rMv rfl<|zB ?_
    refine ⟨⟨k + 1,_⟩,(by omega),(by show l.L.length - (k + 1) < l.L.length - k; omega),Weak.mk [false,true,true] ⟨zE,zE,zE,zE,trivial⟩ (by exact zQg (by rw [zQd hm2]; simp [strRows]))⟩
   ·try simp only [sx] at c1
    refine qN ?_
    exact zAs (τ := ⟨[],_⟩) (Weak.mk [true,true] trivial rfl) ⟨_,trivial,(by exact zQg (by rw [yO (l := l.L) (by omega),namesF_one,← List.append_assoc]; rfl))⟩
  ·intro sw hd2
   exact zAs (τ := ⟨[],_⟩) (Weak.mk [true,true] trivial rfl) ⟨_,trivial,(by exact zQg (by rw [namesA_one]; rfl))⟩
 ·intro sv hd
  refine sReg rfl<|zA rfl (zD rfl zLo rfl (zF 1 rfl) rfl)<|qA rfl rfl (zMr 0 rfl rfl ok132 (expr_sorted sv (namesA (nodes e)) (by have := zDs e; omega)) ⟨zE,rfl,trivial⟩) ?_
  rintro _ _ ⟨sv8,rfl,rfl⟩
  refine rMv rfl<|zB<|zY _ (Weak.mem [true,false] rfl)<|zI<|zQ rfl ?_
  exact ⟨_,rfl,rfl⟩
end Go.W
