/-
  What functions compute.
  Conditions: none.
-/
import Derived.Test.YtdldhbfgfkebjaaGreatDoorHO
import Derived.Test.YtdldhbfgfkebjaaGreatDoorPlainV
set_option linter.unusedSimpArgs false
set_option linter.unusedVariables false
set_option maxRecDepth 10000
namespace Go.W
open Go Go.Eng Go.Proofs Go.L41 Go.Br
attribute [local irreducible] AWP RWP TD fY
theorem agg185:lI Tryz.prog 185=some 5:=by kernel_rfl
theorem ar185:vY Tryz.prog 185=some (5,3,1):=by kernel_rfl
theorem ar188:vY Tryz.prog 188=some (17,187,6):=by kernel_rfl
theorem zMj:bD Tryz.prog 46 2=some (2,3):=by kernel_rfl
theorem fd46_5:bD Tryz.prog 46 5=some (6,31):=by kernel_rfl
theorem fd187_1:bD Tryz.prog 187 1=some (1,185):=by kernel_rfl
theorem ok38:bA Tryz.prog 38=true:=by kernel_rfl
theorem ok40:bA Tryz.prog 40=true:=by kernel_rfl
theorem ok91:bA Tryz.prog 91=true:=by kernel_rfl
theorem ok92:bA Tryz.prog 92=true:=by kernel_rfl
theorem ok131:bA Tryz.prog 131=true:=by kernel_rfl
theorem ok132:bA Tryz.prog 132=true:=by kernel_rfl
theorem ok133:bA Tryz.prog 133=true:=by kernel_rfl
theorem ok134:bA Tryz.prog 134=true:=by kernel_rfl
theorem sz44:(Tryz.prog.info? 44).map (·.size)=some 2:=by kernel_rfl
theorem isa_known (op:Int):
    Pur cfgO 131 [vI op] (vB (dL op)):=by
 refine zU Tryz.func131 O Tryz.ntmps131 Tryz.results131 O ?_
 intro z hz
 refine R O<|G O<|zA<|R O<|G O<|zW O (kN O O O)<|G O<|rL0 O (fun g1_2=>zN O O) O<|A 6 O (fun g1_2=>kM O O O) O<|yK O (fun h=>h)<|G O<|zA<|zK<|zR O ?_
 exact O
theorem zAi (n a b:Int):
    Pur cfgO 38 [vI n,vI a,vI b] (vB (bJ n a b)):=by
 refine zU Tryz.func38 O Tryz.ntmps38 Tryz.results38 O ?_
 intro z hz
 refine R O<|G O<|zA<|R O<|G O<|G O<|zW O (kN O O O)<|G O<|rL0 O (fun g1_3=>zN O O) O<|rL0 O (fun g1_3=>zN O O) O<|rLz [(11,_),(12,_)] O J ⟨O,O,O,O,T⟩ (fun g1_3=>kQ O O O) O<|yK O (fun h=>h)<|G O<|zA<|zK<|zR O ?_
 exact O
theorem isa_keep0 (b:Nat) (u x:In) (k:Int):
    Con cfgO 134 [.c (.lit (.pointer (some ⟨b,0,none⟩))),vIn x,vI k] [E.row b 46 u.cells] fun r μ'=>r=.tup []/\∃ν,μ'=ν++[E.row b 46 (dG u x k).cells]:=by
 refine zU Tryz.func134 O Tryz.ntmps134 Tryz.results134 O ?_
 intro z hz
 refine R O<|zV O O (qO O O) ?_
 rintro _ _ ⟨b1,rfl,rfl⟩
 refine zA<|R O<|G O<|zA<|zP<|zI<|R O<|qZ O<|G O<|zA<|zC O (fun c1=>?_) (fun c1=>?_)
 ·try simp only [sx] at c1
  refine zJ<|zC O (fun c3=>?_) (fun c3=>?_)
  ·exact l6
  ·try simp only [sx] at c3
   exact absurd c1 c3
 ·try simp only [sx] at c1
  refine R O<|qZ O<|G O<|zA<|zC O (fun c2=>?_) (fun c2=>?_)
  ·try simp only [sx] at c2
   refine zJ<|zC O (fun c3=>?_) (fun c3=>?_)
   ·exact l6
   ·try simp only [sx] at c3
    exact absurd c2 c3
  ·try simp only [sx] at c2
   refine zM O<|qZ O<|G O<|zA<|zC O (fun c3=>?_) (fun c3=>?_)
   ·exact l6
   ·try simp only [sx] at c3
    refine zI<|R O<|qZ O<|G O<|zA<|zC O (fun c4=>?_) (fun c4=>?_)
    ·try simp only [sx] at c4
     refine zJ<|zC O (fun c6=>?_) (fun c6=>?_)
     ·exact l5
     ·try simp only [sx] at c6
      exact absurd c4 c6
    ·try simp only [sx] at c4
     refine R O<|qZ O<|G O<|zA<|zC O (fun c5=>?_) (fun c5=>?_)
     ·try simp only [sx] at c5
      refine zJ<|zC O (fun c6=>?_) (fun c6=>?_)
      ·exact l5
      ·try simp only [sx] at c6
       exact absurd c5 c6
     ·try simp only [sx] at c5
      refine zM O<|qZ O<|G O<|zA<|zC O (fun c6=>?_) (fun c6=>?_)
      ·exact l5
      ·try simp only [sx] at c6
       refine zI<|R O<|qZ O<|G O<|zA<|zC O (fun c7=>?_) (fun c7=>?_)
       ·try simp only [sx] at c7
        refine zJ<|zC O (fun c11=>?_) (fun c11=>?_)
        ·exact s9
        ·try simp only [sx] at c11
         exact absurd c7 c11
       ·try simp only [sx] at c7
        refine R O<|qZ O<|G O<|zA<|zC O (fun c8=>?_) (fun c8=>?_)
        ·try simp only [sx] at c8
         refine zJ<|zC O (fun c11=>?_) (fun c11=>?_)
         ·exact s9
         ·try simp only [sx] at c11
          exact absurd c8 c11
        ·try simp only [sx] at c8
         refine R O<|qZ O<|G O<|zA<|zC O (fun c9=>?_) (fun c9=>?_)
         ·try simp only [sx] at c9
          refine zJ<|zC O (fun c11=>?_) (fun c11=>?_)
          ·exact s9
          ·try simp only [sx] at c11
           exact absurd c9 c11
         ·try simp only [sx] at c9
          refine R O<|qZ O<|G O<|zA<|zC O (fun c10=>?_) (fun c10=>?_)
          ·try simp only [sx] at c10
           refine zJ<|zC O (fun c11=>?_) (fun c11=>?_)
           ·exact s9
           ·try simp only [sx] at c11
            exact absurd c10 c11
          ·try simp only [sx] at c10
           refine zM O<|qZ O<|G O<|zA<|zC O (fun c11=>?_) (fun c11=>?_)
           ·exact s9
           ·try simp only [sx] at c11
            refine zI<|R O<|qZ O<|G O<|zA<|zC O (fun c12=>?_) (fun c12=>?_)
            ·try simp only [sx] at c12
             refine zJ<|zC O (fun c15=>?_) (fun c15=>?_)
             ·exact r9
             ·try simp only [sx] at c15
              exact absurd c12 c15
            ·try simp only [sx] at c12
             refine R O<|qZ O<|G O<|zA<|zC O (fun c13=>?_) (fun c13=>?_)
             ·try simp only [sx] at c13
              refine zJ<|zC O (fun c15=>?_) (fun c15=>?_)
              ·exact r9
              ·try simp only [sx] at c15
               exact absurd c13 c15
             ·try simp only [sx] at c13
              refine R O<|qZ O<|G O<|zA<|zC O (fun c14=>?_) (fun c14=>?_)
              ·try simp only [sx] at c14
               refine zJ<|zC O (fun c15=>?_) (fun c15=>?_)
               ·exact r9
               ·try simp only [sx] at c15
                exact absurd c14 c15
              ·try simp only [sx] at c14
               refine zM O<|qZ O<|G O<|zA<|zC O (fun c15=>?_) (fun c15=>?_)
               ·exact r9
               ·try simp only [sx] at c15
                refine R O<|qZ O<|G O<|zA<|zC O (fun c16=>?_) (fun c16=>?_)
                ·try simp only [sx] at c16
                 refine zM O<|G O<|zG O zCc<|zO zTv (Y 0 O) O<|qE O<|zG O zCc<|D 1 sz44 O<|zA ?_
                 repeat (first|refine qV ?_|refine qT ?_)
                 refine yF<|U ?_
                 exact ⟨O,[_],by rw [show dG u x k={ u with Val:=x.Val } by unfold dG;simp [*]];rfl⟩
                ·try simp only [sx] at c16
                 refine R O<|qZ O<|G O<|zA<|zC O (fun c17=>?_) (fun c17=>?_)
                 ·try simp only [sx] at c17
                  refine zM O<|G O<|zG O fd46_5<|zO yH (Y 0 O) O<|qE O<|zG O fd46_5<|D 1 sz31 O<|zA ?_
                  repeat (first|refine qV ?_|refine qT ?_)
                  refine yF<|U ?_
                  exact ⟨O,[_],by rw [show dG u x k={ u with Ty:=x.Ty } by unfold dG;simp [*]];rfl⟩
                 ·try simp only [sx] at c17
                  refine zJ ?_
                  repeat (first|refine qV ?_|refine qT ?_)
                  refine yF<|U ?_
                  exact ⟨O,[_],by rw [show dG u x k=u by unfold dG;simp [*]];rfl⟩
theorem isa_keep (b:Nat) (u x:In) (k:Int):Con cfgO 134 [.c (.lit (.pointer (some ⟨b,0,none⟩))),vIn x,vI k] [E.row b 46 u.cells] fun r μ'=>r=.tup []/\μ'=[E.row b 46 (dG u x k).cells]:=Con.drop (isa_keep0 b u x k)
theorem isa_fits (x:In) (k:Int):
    Pur cfgO 133 [vIn x,vI k] (vB (fZ x k)):=by
 refine zU Tryz.func133 O Tryz.ntmps133 Tryz.results133 O ?_
 intro z hz
 refine R O<|zV O O (qO O O) ?_
 rintro _ _ ⟨b1,rfl,rfl⟩
 refine G O<|zA<|zI<|R O<|G O<|zA<|zP<|zI<|R O<|qZ O<|G O<|zA<|zC O (fun c1=>?_) (fun c1=>?_)
 ·try simp only [sx] at c1
  refine zJ<|zC O (fun c2=>?_) (fun c2=>?_)
  ·try simp only [sx] at c2
   exact v29
  ·try simp only [sx] at c2
   exact absurd c1 c2
 ·try simp only [sx] at c1
  refine zM O<|qZ O<|G O<|zA<|zC O (fun c2=>?_) (fun c2=>?_)
  ·try simp only [sx] at c2
   exact v29
  ·try simp only [sx] at c2
   refine zI<|R O<|qZ O<|G O<|zA<|zC O (fun c3=>?_) (fun c3=>?_)
   ·try simp only [sx] at c3
    refine zJ<|zC O (fun c4=>?_) (fun c4=>?_)
    ·try simp only [sx] at c4
     exact v28
    ·try simp only [sx] at c4
     exact absurd c3 c4
   ·try simp only [sx] at c3
    refine zM O<|qZ O<|G O<|zA<|zC O (fun c4=>?_) (fun c4=>?_)
    ·try simp only [sx] at c4
     exact v28
    ·try simp only [sx] at c4
     refine zI<|R O<|qZ O<|G O<|zA<|zC O (fun c5=>?_) (fun c5=>?_)
     ·try simp only [sx] at c5
      refine zJ<|zC O (fun c6=>?_) (fun c6=>?_)
      ·try simp only [sx] at c6
       exact k7
      ·try simp only [sx] at c6
       exact absurd c5 c6
     ·try simp only [sx] at c5
      refine zM O<|qZ O<|G O<|zA<|zC O (fun c6=>?_) (fun c6=>?_)
      ·try simp only [sx] at c6
       exact k7
      ·try simp only [sx] at c6
       refine R O<|qZ O<|G O<|zA<|zC O (fun c7=>?_) (fun c7=>?_)
       ·try simp only [sx] at c7
        exact v29
       ·try simp only [sx] at c7
        refine R O<|qZ O<|G O<|zA<|zC O (fun c8=>?_) (fun c8=>?_)
        ·try simp only [sx] at c8
         exact v28
        ·try simp only [sx] at c8
         refine R O<|qZ O<|G O<|zA<|zC O (fun c9=>?_) (fun c9=>?_)
         ·try simp only [sx] at c9
          exact k7
         ·try simp only [sx] at c9
          refine R O<|qZ O<|G O<|zA<|zC O (fun c10=>?_) (fun c10=>?_)
          ·try simp only [sx] at c10
           refine R O<|zG O zCc<|zG O zAq<|zH W (Y 0 O) O<|zW O (kN O O O)<|G O<|rL0 O (fun g18_4=>zD O zCc O) O<|A 46 O (fun g18_4=>zD O zAq O) O<|A 47 O (fun g18_4=>zF O W O (Y 0 O) O) O<|rL0 O (fun g18_4=>zD O zDu O) O<|A 49 O (fun g18_4=>zF O one3 O (Y 0 O) O) O<|rLz [(48,_),(50,_)] O J ⟨O,O,O,O,T⟩ (fun g18_4=>kQ O O O) O<|yK O (fun h=>h)<|G O<|zA<|zK<|zR O ?_
           exact s6
          ·try simp only [sx] at c10
           refine R O<|qZ O<|G O<|zA<|zC O (fun c11=>?_) (fun c11=>?_)
           ·try simp only [sx] at c11
            exact k7
           ·try simp only [sx] at c11
            refine R O<|qZ O<|G O<|zA<|zC O (fun c12=>?_) (fun c12=>?_)
            ·try simp only [sx] at c12
             refine R O<|zG O zCc<|zG O zAq<|zH W (Y 0 O) O<|zW O (kN O O O)<|G O<|rL0 O (fun g22_4=>zD O zCc O) O<|A 65 O (fun g22_4=>zD O zAq O) O<|A 66 O (fun g22_4=>zF O W O (Y 0 O) O) O<|A 67 O (fun g22_4=>kQ O O O) O<|yK O (fun h=>h)<|G O<|zA<|zK<|zR O ?_
             exact s6
            ·try simp only [sx] at c12
             refine R O<|qZ O<|G O<|zA<|zC O (fun c13=>?_) (fun c13=>?_)
             ·try simp only [sx] at c13
              exact k7
             ·try simp only [sx] at c13
              refine R O<|qZ O<|G O<|zA<|zC O (fun c14=>?_) (fun c14=>?_)
              ·try simp only [sx] at c14
               refine R O<|zG O zCc<|zO zTv (Y 0 O) O<|qN O ok163 (upO (frac_Valid x.Val)) ⟨zB,O,T⟩<|G O<|zA<|zK<|zR O ?_
               exact s6
              ·try simp only [sx] at c14
               refine R O<|qZ O<|G O<|zA<|zC O (fun c15=>?_) (fun c15=>?_)
               ·try simp only [sx] at c15
                refine R O<|zG O zCc<|zG O zAq<|zH W (Y 0 O) O<|zW O (kN O O O)<|G O<|rL0 O (fun g28_4=>zD O zCc O) O<|A 87 O (fun g28_4=>zD O zAq O) O<|A 88 O (fun g28_4=>zF O W O (Y 0 O) O) O<|A 89 O (fun g28_4=>kQ O O O) O<|yK O (fun h=>h)<|G O<|zA<|zK<|zR O ?_
                exact s6
               ·try simp only [sx] at c15
                refine R O<|qZ O<|G O<|zA<|zC O (fun c16=>?_) (fun c16=>?_)
                ·try simp only [sx] at c16
                 refine R O<|zG O zCc<|zG O zAq<|zH W (Y 0 O) O<|zW O (kN O O O)<|G O<|rL0 O (fun g30_4=>zD O zCc O) O<|A 99 O (fun g30_4=>zD O zAq O) O<|A 100 O (fun g30_4=>zF O W O (Y 0 O) O) O<|A 101 O (fun g30_4=>kQ O O O) O<|yK O (fun h=>h)<|G O<|zA<|zK<|zR O ?_
                 exact s6
                ·try simp only [sx] at c16
                 refine zJ<|R O<|zG O fd46_5<|zO yH (Y 0 O) O<|qN O ok39 (upO (zAj x.Ty)) ⟨zB,O,T⟩<|qZ O<|G O<|zA<|zK<|zR O ?_
                 exact s6
theorem isa_operands (x:In) (h0:0<=x.Op) (h17:x.Op<17):
    OwnR cfgO 132 [vIn x] 3 1 ((kinds x).map fun n=>[cI n]):=by
 refine zU Tryz.func132 O Tryz.ntmps132 Tryz.results132 O ?_
 intro z hz
 have hlen:=kRow_len h0 h17
 refine R O<|zV O O (qO O O) ?_
 rintro _ _ ⟨b1,rfl,rfl⟩
 refine G O<|qX _ (wV 3 1)<|zA<|R O<|G O<|qX _ (wV 3 1)<|zA<|zI<|R O<|zG O zMk<|zH one3 (Y 2 O) O<|zW O (zTh O ar188 O O h0 h17)<|zG O fd187_1<|zW O (zMp O agg185 O (ops_len h0 h17) ops_one (ops_row h0 h17))<|G O<|zA<|zP<|zT ⟨[(11,.c _),(3,.c _),(1,.c _),(10,.agg _)],[_,_]⟩ (Weak.mk [true,false,true] ⟨zB,zB,zB,zB,T⟩ O)<|qG 2 1 O O (Nat×Value) (fun ⟨k,sv⟩=>[(11,vI k),(3,.c (.lit sv))]) (fun ⟨k,sv⟩=>[E.vec sv 3 1 ((((mH x.Op).take k).filter fun k=> !nG x k).map fun n=>[cI n])]) (fun ⟨k,sv⟩=>k<=(mH x.Op).length) (fun ⟨k,sv⟩=>(mH x.Op).length-k) ⟨⟨0,(.slice none 0 0)⟩,(by omega),Weak.mk [true,true] ⟨zB,zB,zB,zB,T⟩ O⟩ ?_
 rintro ⟨k,sv⟩ hk
 show AWP _ _ _ _ _ ⟨[(11,vI k),(3,.c (.lit sv))]++_,[E.vec sv 3 1 ((((mH x.Op).take k).filter fun k=> !nG x k).map fun n=>[cI n])]++_⟩
 refine R O<|yB O<|zA<|zI<|zC O (fun c1=>?_) (fun c1=>?_)
 ·try simp only [sx] at c1
  obtain ⟨q,hq⟩:=qU (mH x.Op) k (by omega)
  refine zJ<|zI<|zP<|R O<|zW O (zMq O ar185 one3 O O (by omega) (by omega) (kRow_at hq))<|G O<|zA<|zI<|R O<|G O<|qZ O<|G O<|rL0 O (fun g5_2=>zN O O) O<|A 17 O (fun g5_2=>yO O O O) O<|A 18 O (fun g5_2=>zN O O) O<|rLz [] O N T (fun g5_5=>zD O zMk O) O<|rLz [(20,_)] O N ⟨O,O,T⟩ (fun g5_5=>zF O one3 O (Y 1 O) O) O<|rLz [(21,_)] O N ⟨O,O,T⟩ (fun g5_5=>yO O O O) O<|A 19 O (fun g5_2=>wU O O O (fun h=>kH (by assumption) h) O) O<|A 23 O (fun g5_2=>zN O O) O<|rLz [] O N T (fun g5_10=>zD O zCc O) O<|rLz [(25,_)] O N ⟨O,O,T⟩ (fun g5_10=>zD O zAq O) O<|rLz [(26,_)] O N ⟨O,O,T⟩ (fun g5_10=>zF O W O (Y 1 O) O) O<|rLz [(27,_)] O N ⟨O,O,T⟩ (fun g5_10=>yO O O O) O<|A 24 O (fun g5_2=>wU O O O (fun h=>kH (by assumption) h) O) O<|r_or O (fun h=>(lzf h))<|zA<|zC O (fun c2=>?_) (fun c2=>?_)
  ·have c2:nG x q=true:=by rw [←skip_eq];exact c2
   refine qH<|zM O<|qB O ⟨by omega,by omega⟩<|G O<|zA ?_
   refine ⟨⟨k+1,sv⟩,(by omega),(by show (mH x.Op).length-(k+1)<(mH x.Op).length-k;omega),Weak.mk [true,true] ⟨zB,zB,zB,zB,T⟩ (by exact kC (by rw [filt_no hq (by rw [c2];rfl)]))⟩
  ·have c2:nG x q=false:=by rw [←skip_eq];exact c2
   have hfl:(((mH x.Op).take k).filter fun k=> !nG x k).length<=5:=Nat.le_trans (List.length_filter_le _ _) (by rw [List.length_take];omega)
   refine zJ<|zM O<|G O<|G O<|zW O (yM O el67 zr3 O O O O)<|zV O O (yQ 0 O el67 O O O (by simp only [List.length_map,List.length_cons,List.length_nil];omega) (by simp only [List.length_map,List.length_cons,List.length_nil];omega)) ?_
   rintro _ _ ⟨sv4,rfl,rfl⟩
   refine G O<|zA<|zM O<|qB O ⟨by omega,by omega⟩<|G O<|zA ?_
   refine ⟨⟨k+1,sv4⟩,(by omega),(by show (mH x.Op).length-(k+1)<(mH x.Op).length-k;omega),Weak.mk [true,true] ⟨zB,zB,zB,zB,T⟩ (by exact kC (by rw [filt_yes hq (by rw [c2];rfl),List.map_append];rfl))⟩
 ·try simp only [sx] at c1
  refine qH<|R O<|G O<|G O<|zA<|zT _ (Weak.mem [true,false] O)<|zK<|zR O ?_
  exact ⟨_,O,by rw [kinds_all (by omega)];rfl⟩
theorem isa_jumps (op:Int):
    Pur cfgO 92 [vI op] (vB (jR op)):=by
 refine zU Tryz.func92 O Tryz.ntmps92 Tryz.results92 O ?_
 intro z hz
 refine R O<|G O<|zA<|zI<|R O<|G O<|qN O ok131 (isa_known op) ⟨zB,O,T⟩<|kP O<|zA<|zC O (fun c1=>?_) (fun c1=>?_)
 ·have hk:dL op=false:=by simpa using c1
  refine R O<|G O<|zA<|zK<|zR O ?_
  rw [jmp_out hk]
 ·have hk:dL op=true:=by simpa using c1
  obtain ⟨h0,h17⟩:=known_in hk
  have hlen:=kRow_len h0 h17
  refine zJ<|zI<|R O<|G O<|zW O (zTh O ar188 O O h0 h17)<|zG O fd187_1<|zW O (zMp O agg185 O (ops_len h0 h17) ops_one (ops_row h0 h17))<|G O<|zA<|zP<|zT ⟨[(12,.c _),(11,.agg _)],[]⟩ (Weak.mk [] ⟨zB,zB,T⟩ O)<|qG 1 0 O O (Nat) (fun k=>[(12,vI k)]) (fun k=>[]) (fun k=>k<=(mH op).length/\(((mH op).take k).any (fun k=>decide (k=7))=false)) (fun k=>(mH op).length-k) ⟨0,⟨by omega,O⟩,Weak.mk [] ⟨zB,zB,T⟩ O⟩ ?_
  rintro k ⟨hk,hp⟩
  refine R O<|yB O<|zA<|zI<|zC O (fun c2=>?_) (fun c2=>?_)
  ·try simp only [sx] at c2
   obtain ⟨q,hq⟩:=qU (mH op) k (by omega)
   refine zJ<|zI<|zP<|R O<|zW O (zMq O ar185 one3 O O (by omega) (by omega) (kRow_at hq))<|G O<|zA<|R O<|G O<|qZ O<|zA<|zC O (fun c3=>?_) (fun c3=>?_)
   ·try simp only [sx] at c3
    refine R O<|G O<|zA<|zK<|zR O ?_
    rw [←jmp_tab h0 h17,List.any_eq_true.2 ⟨q,qA hq,decide_eq_true c3⟩]
   ·try simp only [sx] at c3
    refine zJ<|zM O<|qB O ⟨by omega,by omega⟩<|G O<|zA ?_
    refine ⟨k+1,⟨by omega,zCi hq hp (decide_eq_false c3)⟩,(by omega),Weak.mk [] ⟨zB,zB,T⟩ O⟩
  ·try simp only [sx] at c2
   refine qH<|R O<|G O<|zA<|zK<|zR O ?_
   rw [yA (by omega)] at hp
   rw [←jmp_tab h0 h17,hp]
theorem isa_wellFormed (x:In):
    Pur cfgO 91 [vIn x] (vB (wfP x)):=by
 refine zU Tryz.func91 O Tryz.ntmps91 Tryz.results91 O ?_
 intro z hz
 refine R O<|zV O O (qO O O) ?_
 rintro _ _ ⟨b1,rfl,rfl⟩
 refine G O<|zA<|zI<|R O<|zG O zMk<|zH one3 (Y 0 O) O<|qN O ok131 (isa_known x.Op) ⟨zB,O,T⟩<|kP O<|zA<|zC O (fun c1=>?_) (fun c1=>?_)
 ·have hk:dL x.Op=false:=by simpa using c1
  refine R O<|G O<|zA<|zK<|zR O ?_
  rw [wfP,hk];rfl
 ·have hkn:dL x.Op=true:=by simpa using c1
  obtain ⟨h0,h17⟩:=known_in hkn
  have hkl:(kinds x).length<=5:=Nat.le_trans (List.length_filter_le _ _) (Nat.le_of_eq (kRow_len h0 h17))
  refine zJ<|R O<|zG O zMk<|zH one3 (Y 0 O) O<|yZ O zr46 pl46<|zV O O (yN O zr46) ?_
  rintro _ _ ⟨b2,rfl,rfl⟩
  refine D 0 sz46 O<|zA<|zI<|R O<|zO agg46 (Y 1 O) O<|qN O ok132 (OwnR.pur (isa_operands x h0 h17)) ⟨zB,O,T⟩<|zZ O el67<|G O<|zA<|zP<|zT ⟨[(16,.c _),(1,.c _),(3,.c _),(14,.c _),(15,.c _)],[_,_]⟩ (Weak.mk [true,true] ⟨zB,zB,zB,zB,zB,T⟩ O)<|qG 1 1 O O (Nat) (fun k=>[(16,vI k)]) (fun k=>[E.row b2 46 (((kinds x).take k).foldl (fun u k=>dG u x k) (in0 x.Op)).cells]) (fun k=>k<=(kinds x).length/\(((kinds x).take k).all (fZ x)=true)) (fun k=>(kinds x).length-k) ⟨0,⟨by omega,O⟩,Weak.mk [true,true] ⟨zB,zB,zB,zB,zB,T⟩ O⟩ ?_
  rintro k ⟨hk,hp⟩
  refine R O<|yB O<|zA<|zI<|zC O (fun c2=>?_) (fun c2=>?_)
  ·try simp only [sx] at c2
   obtain ⟨q,hq⟩:=qU (kinds x) k (by omega)
   refine zJ<|zI<|zP<|R O<|qD O el67 (by omega) (B (by assumption))<|zH one3 zQ O<|G O<|zA<|zI<|R O<|zO agg46 (Y 1 O) O<|G O<|qN O ok133 (isa_fits x q) ⟨zB,O,zB,O,T⟩<|kP O<|zA<|zC O (fun c3=>?_) (fun c3=>?_)
   ·have c3:fZ x q=false:=by simpa using c3
    refine R O<|G O<|zA<|zK<|zR O ?_
    rw [wf_no hq c3]
   ·have c3:fZ x q=true:=by simpa using c3
    refine zJ<|zM O<|zO agg46 (Y 1 O) O<|G O<|zW O (zIv [0] O ok134 (isa_keep _ (((kinds x).take k).foldl (fun u k=>dG u x k) (in0 x.Op)) x q) ⟨zB,O,zB,O,zB,O,T⟩ O)<|zA<|zM O<|qB O ⟨by omega,by omega⟩<|G O<|zA ?_
    refine ⟨k+1,⟨by omega,all_next hq hp c3⟩,(by omega),Weak.mk [true,true] ⟨zB,zB,zB,zB,zB,T⟩ (by show _=[E.row b2 46 (((kinds x).take (k+1)).foldl (fun u k=>dG u x k) (in0 x.Op)).cells]++_;rw [yC hq,List.foldl_append];rfl)⟩
  ·try simp only [sx] at c2
   rw [yA (l:=kinds x) (k:=k) (by omega)] at hp
   rw [yA (l:=kinds x) (k:=k) (by omega)]
   refine qH<|R O<|zO agg46 (Y 0 O) O<|zO agg46 (Y 1 O) O<|zW O (det_aeql2 O fk46 O O O)<|G O<|zA<|zK<|zR O ?_
   exact congrArg vB (by rw [←wf_yes hkn hp,←in_lits];rfl)
theorem isa_valid (x:In) (m t w:Int):
    Pur cfgO 40 [vIn x,vI m,vI t,vI w] (vB (dF m t w x)):=by
 refine zU Tryz.func40 O Tryz.ntmps40 Tryz.results40 O ?_
 intro z hz
 refine R O<|zV O O (qO O O) ?_
 rintro _ _ ⟨b1,rfl,rfl⟩
 refine G O<|zA<|zI<|zP<|R O<|zO agg46 (Y 0 O) O<|qN O ok91 (isa_wellFormed x) ⟨zB,O,T⟩<|kP O<|G O<|zA<|zC O (fun c1=>?_) (fun c1=>?_)
 ·have hw:wfP x=false:=by simpa using c1
  refine R O<|G O<|zA<|zK<|zR O ?_
  rw [val1 hw]
 ·have hw:wfP x=true:=by simpa using c1
  refine R O<|zG O zMk<|zH one3 (Y 0 O) O<|qN O ok92 (isa_jumps x.Op) ⟨zB,O,T⟩<|G O<|zA<|zC O (fun c2=>?_) (fun c2=>?_)
  ·try simp only [sx] at c2
   refine R O<|zG O zIq<|zH one3 (Y 0 O) O<|G O<|yB O<|G O<|zA<|zK<|zR O ?_
   exact congrArg vB (val2 hw c2)
  ·try simp only [sx] at c2
   have hj:jR x.Op=false:=by simpa using c2
   refine R O<|zG O zMk<|zH one3 (Y 0 O) O<|qZ O<|G O<|rL0 O (fun g5_3=>zD O zMk O) O<|A 26 O (fun g5_3=>zF O one3 O (Y 0 O) O) O<|A 27 O (fun g5_3=>yO O O O) O<|r_or O (fun h=>(lzf h))<|G O<|zA<|zC O (fun c3=>?_) (fun c3=>?_)
   ·have h3:x.Op=10∨x.Op=11:=by simpa using c3
    refine R O<|zG O zDu<|zH one3 (Y 0 O) O<|G O<|zW O (kQ O O O)<|G O<|zA<|zK<|zR O ?_
    exact congrArg vB (val3 hw hj h3)
   ·have h3:¬(x.Op=10∨x.Op=11):=by simpa using c3
    refine R O<|zG O zMk<|zH one3 (Y 0 O) O<|qZ O<|G O<|zA<|zC O (fun c4=>?_) (fun c4=>?_)
    ·try simp only [sx] at c4
     refine R O<|zG O zCc<|zG O zAq<|zH W (Y 0 O) O<|G O<|yB O<|G O<|zA<|zK<|zR O ?_
     exact congrArg vB (val4 hw hj c4)
    ·try simp only [sx] at c4
     refine zJ<|R O<|G O<|zA<|zK<|zR O ?_
     rw [val5 hw hj h3 c4]
theorem isa_Validate (code:List In) (tys:List Ty) (w:Int) (htl:tys.length<=1000000):
    Pur cfgO 17 [cH code,xR tys,vI w] (.tup [vI (vld code tys w).1,vI (vld code tys w).2]):=by
 refine zU Tryz.func17 O Tryz.ntmps17 Tryz.results17 O ?_
 intro z hz
 refine R O<|G O<|G O<|zA<|zI<|zP<|R O<|G O<|zZ O el32<|zW O (yG O O O)<|G O<|zA<|zC O (fun c1=>?_) (fun c1=>?_)
 ·try simp only [sx] at c1
  refine R O<|G O<|G O<|zA<|zK<|fin2 (L O) (L O) ?_
  rw [vld1 c1]
 ·try simp only [sx] at c1
  refine R O<|G O<|qN O ok38 (zAi w 0 1048576) ⟨zB,O,zB,O,zB,O,T⟩<|kP O<|G O<|zA<|zC O (fun c2=>?_) (fun c2=>?_)
  ·have c2:bJ w 0 1048576=false:=by simpa using c2
   refine R O<|G O<|G O<|zA<|zK<|fin2 (L O) (L O) ?_
   rw [vld2 (by omega) c2]
  ·have c2:bJ w 0 1048576=true:=by simpa using c2
   refine zJ<|zI<|R O<|G O<|zZ O el28<|G O<|zA<|zP<|zT ⟨[(22,.c _),(0,.c _),(1,.c _),(2,.c _),(20,.c _),(21,.c _)],[]⟩ (Weak.mk [] ⟨zB,zB,zB,zB,zB,zB,T⟩ O)<|qG 1 0 O O (Nat) (fun k=>[(22,vI k)]) (fun k=>[]) (fun k=>k<=tys.length/\((tys.take k).any (fun t=> !dO t)=false)) (fun k=>tys.length-k) ⟨0,⟨by omega,O⟩,Weak.mk [] ⟨zB,zB,zB,zB,zB,zB,T⟩ O⟩ ?_
   rintro k ⟨hk,hp⟩
   refine R O<|yB O<|zA<|zI<|zC O (fun c3=>?_) (fun c3=>?_)
   ·try simp only [sx] at c3
    obtain ⟨x,hx⟩:=qU tys k (by omega)
    refine zJ<|zI<|zP<|R O<|qD O el28 (by omega) (B (by assumption))<|zO yH zQ O<|zV O O (yN O zr31) ?_
    rintro _ _ ⟨b1,rfl,rfl⟩
    refine D 0 sz31 O<|zA<|R O<|zO yH (Y 0 O) O<|qN O ok39 (upO (zAj x)) ⟨zB,O,T⟩<|kU O<|zA<|zC O (fun c4=>?_) (fun c4=>?_)
    ·try simp only [sx] at c4
     have h4:=zPl c4
     refine R O<|G O<|G O<|zA<|zK<|fin2 (L O) (L O) ?_
     rw [vld3 (by omega) c2 hx h4]
    ·try simp only [sx] at c4
     have h4:dO x=true:=zGk (by omega)
     refine zJ<|zM O<|qB O ⟨by omega,by omega⟩<|G O<|zA ?_
     refine ⟨k+1,⟨by omega,zCi hx hp (by rw [h4];rfl)⟩,(by omega),Weak.mk [false] ⟨zB,zB,zB,zB,zB,zB,T⟩ O⟩
   ·try simp only [sx] at c3
    rw [yA (l:=tys) (k:=k) (by omega)] at hp
    refine qH<|zI<|R O<|G O<|zZ O el32<|G O<|zA<|zP<|zT ⟨[(32,.c _),(0,.c _),(1,.c _),(2,.c _),(30,.c _),(31,.c _)],[]⟩ (Weak.mk [] ⟨zB,zB,zB,zB,zB,zB,T⟩ O)<|qG 1 0 O O (Nat) (fun j=>[(32,vI j)]) (fun j=>[]) (fun j=>j<=code.length/\((code.take j).any (fun x=> !dF code.length tys.length w x)=false)) (fun j=>code.length-j) ⟨0,⟨by omega,O⟩,Weak.mk [] ⟨zB,zB,zB,zB,zB,zB,T⟩ O⟩ ?_
    rintro j ⟨hj,hr⟩
    refine R O<|yB O<|zA<|zI<|zC O (fun c5=>?_) (fun c5=>?_)
    ·try simp only [sx] at c5
     obtain ⟨y,hy⟩:=qU code j (by omega)
     refine zJ<|zI<|zP<|R O<|G O<|qD O el32 (by omega) (B (by assumption))<|zO agg46 zQ O<|zV O O (yN O zr46) ?_
     rintro _ _ ⟨b2,rfl,rfl⟩
     refine G O<|D 0 sz46 O<|zA<|R O<|zO agg46 (Y 0 O) O<|G O<|zZ O el32<|G O<|zZ O el28<|G O<|qN O ok40 (isa_valid y code.length tys.length w) ⟨zB,O,zB,O,zB,O,zB,O,T⟩<|kP O<|zA<|zC O (fun c6=>?_) (fun c6=>?_)
     ·have c6:(!dF code.length tys.length w y)=true:=c6
      refine R O<|G O<|G O<|G O<|zA<|zK<|fin2 (L O) (L O) ?_
      rw [vldF (by omega) c2 hp,firstBad_at hy c6 hr]
     ·have c6:(!dF code.length tys.length w y)=false:=c6
      refine zJ<|zM O<|qB O ⟨by omega,by omega⟩<|G O<|zA ?_
      refine ⟨j+1,⟨by omega,zCi hy hr c6⟩,(by omega),Weak.mk [false] ⟨zB,zB,zB,zB,zB,zB,T⟩ O⟩
    ·try simp only [sx] at c5
     refine qH<|R O<|G O<|G O<|zA<|zK<|fin2 (L O) (L O) ?_
     rw [vldF (by omega) c2 hp,zSr (by omega) hr]
end Go.W
