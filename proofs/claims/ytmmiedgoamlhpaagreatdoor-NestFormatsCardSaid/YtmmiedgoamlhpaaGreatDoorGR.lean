/-
  Walks: what functions of the program compute. Printed by wip/gen/mk2.py.
  Walks: what functions of the program compute. Printed by wip/gen/mk2.py.
  Walks: what functions of the program compute. Printed by wip/gen/mk2.py.
  Walks: what functions of the program compute. Printed by wip/gen/mk2.py.
  Walks: what functions of the program compute. Printed by wip/gen/mk2.py.
  Conditions: none.
-/
import Derived.Test.YtmmiedgoamlhpaaGreatDoorGQ
import Derived.Test.YtmmiedgoamlhpaaGreatDoorEngZ
import Derived.Test.YtmmiedgoamlhpaaGreatDoorPlainF
set_option linter.unusedSimpArgs false
set_option linter.unusedVariables false
section
set_option maxRecDepth 10000
namespace Go.W
open Go Go.Eng Go.Proofs Go.L41 Go.Br
attribute [local irreducible] AWP RWP TD finQ
theorem ok206:callOk Tryz.prog 206=true:=by kernel_rfl
theorem bld_grow0 (b:Nat) (p:Value) (n:Nat) (h0:0<n) (hn:n<=100000000000):
    Con cfg 206 [vBp b,vI n] (bldE b p (.slice none 0 0) (bs [])) fun r μ'=>∃ν μ2,μ'.Perm (ν++μ2)/\r=.tup []/\∃sv',NN sv'/\μ2=bldE b p sv' (bs []):=by
 refine zS Tryz.func206 O Tryz.ntmps206 Tryz.results206 O ?_
 intro z hz
 refine zK<|kN 14 1 [⟨0,.q []⟩,⟨1,.q []⟩,⟨2,.q []⟩,⟨3,.q [1]⟩,⟨4,.q []⟩,⟨5,.q []⟩,⟨6,.q []⟩,⟨7,.q []⟩,⟨9,.q []⟩,⟨10,.q []⟩,⟨11,.q []⟩,⟨12,.q [1]⟩,⟨13,.q [2]⟩,⟨8,.e 0 []⟩] mixed (by kernel_rfl) (by kernel_rfl) O O O<|zW O<|zW O<|zW O<|zW O<|zW O<|zW O<|zW O<|zW O<|zW O<|zW O<|zW O<|zW O<|zW O<|zW O<|zCc<|qF O (by decide) O O (zP O O)<|qF O (by decide) O O (qB O O)<|qF O (by decide) O O (zE O zCr O)<|qF O (by decide) O O (zJ O zHk O (zD 0 O) O)<|qF O (by decide) O O (zTa O zNu O)<|qF O (by decide) O O (zJq O O O ⟨by omega,by omega⟩)<|qF O (by decide) O O (zP O O)<|qF O (by decide) O O (zCv O O O ⟨by omega,by omega⟩)<|qF O (by decide) O O (zP O O)<|qF O (by decide) O O (qB O O)<|qF O (by decide) O O (zE O zCr O)<|qF O (by decide) O O (zJ O zHk O (zD 0 O) O)<|qF O (by decide) O O (yQ 0 O zNu O O)<|zJw O O (by decide) O O (ope_mnz (fn:=Tryz.f268) (ps:= #[3]) (st:=128) (et:=5) n O O (by kernel_rfl) (by kernel_rfl) (by kernel_rfl) (by kernel_rfl) un128 (show vI (2*0+(n:Int))=vI (n:Int) from congrArg vI (by omega)) h0 (by omega)) ?_
 rintro _ _ ⟨b1,cap1,rfl,hcap1,rfl⟩
 refine ⟨_,O,?_⟩
 refine zCb O<|zT O (det_cut_row 0 O zNu O O O ⟨by omega,hcap1⟩)<|G O<|R<|A O<|G O<|G O<|zT O (qB O O)<|zH O zCr<|zM zHk (zD 1 O) O<|zT O (det_copy_zero O zNu O O)<|R<|zN O<|G O<|G O<|zT O (qB O O)<|zH O zCr<|rStR 1 sz128 O<|R ?_
 repeat (first|refine yS ?_|refine yM ?_)
 refine kZ<|fin0 ?_
 refine ⟨[E.vec (.slice none 0 0) 5 1 []],bldE b p (.slice (some ⟨b1,0,none⟩) 0 cap1) (bs []),?_,O,_,NN_room (by omega),O⟩
 have hp_:=(List.reverse_perm [E.vec (.slice (some ⟨b1,0,none⟩) 0 cap1) 5 1 [],E.row b 130 [.lit p,.lit (.slice (some ⟨b1,0,none⟩) 0 cap1)],E.vec (.slice none 0 0) 5 1 []]).symm
 exact hp_
theorem bld_grow (b:Nat) (p:Value) (n:Nat) (h0:0<n) (hn:n<=100000000000):Con cfg 206 [vBp b,vI n] (bldE b p (.slice none 0 0) (bs [])) fun r μ'=>r=.tup []/\∃sv',NN sv'/\μ'=bldE b p sv' (bs []):=Con.dropP (bld_grow0 b p n h0 hn)
theorem bld_Grow (b:Nat) (n:Nat) (hn:n<=100000000000):
    Con cfg 150 [vBp b,vI n] (bldE b (.pointer none) (.slice none 0 0) (bs [])) fun r μ'=>r=.tup []/\∃sv',NN sv'/\μ'=bldE b (bldP b) sv' (bs []):=by
 refine zS Tryz.func150 O Tryz.ntmps150 Tryz.results150 O ?_
 intro z hz
 have hbl:(byR (bs [])).length=0:=rfl
 refine A O<|G O<|zU O O (qH [0] O ok96 (bld_check b (.pointer none) (.slice none 0 0) (.inl O)) ⟨Y,O,T⟩ O) ?_
 rintro _ _ ⟨_,⟨rfl,rfl⟩,rfl⟩
 refine R<|zK<|A O<|G O<|yJ O<|R<|zC O (fun c1=>?_) (fun c1=>?_)
 ·try simp only [sx] at c1
  exact absurd c1 (by omega)
 ·try simp only [sx] at c1
  refine zI<|zK<|qU 13 mixed (by kernel_rfl) O O<|J O O (zP O O)<|J O O (qB O O)<|J O O (zE O zCr O)<|J O O (zJ O zHk O (zD 0 O) O)<|J O O (zTa O zNu O)<|J O O (zP O O)<|J O O (qB O O)<|J O O (zE O zCr O)<|J O O (zJ O zHk O (zD 0 O) O)<|J O O (yQ 1 O zNu O O)<|J O O (yD O O O ⟨by omega,by omega⟩)<|J O O (zP O O)<|J O O (zCh O O O)<|yO<|R<|zC O (fun c2=>?_) (fun c2=>?_)
  ·try simp only [sx] at c2
   refine zN O<|G O<|G O<|zU O O (qH [0,0] O ok206 (bld_grow b (bldP b) n (by omega) hn) ⟨Y,O,Y,O,T⟩ O) ?_
   rintro _ _ ⟨_,⟨rfl,sw1,hw1,rfl⟩,rfl⟩
   refine R ?_
   repeat (first|refine yS ?_|refine yM ?_)
   refine kZ<|fin0 ?_
   exact ⟨O,_,hw1,O⟩
  ·try simp only [sx] at c2
   refine zI ?_
   repeat (first|refine yS ?_|refine yM ?_)
   refine kZ<|fin0 ?_
   exact ⟨O,_,NN_nil,O⟩
end Go.W
end
section
set_option maxRecDepth 10000
namespace Go.W
open Go Go.Eng Go.Proofs Go.L41 Go.Br
attribute [local irreducible] AWP RWP TD finQ
theorem comS_nil:comS []=bs []:=by unfold comS;rw [comA]
theorem comS_one (x:ByteArray):comS [x]=x:=by unfold comS;rw [comA,comA,if_neg (by omega),zEa,zAj]
theorem szs_next {l:List ByteArray} {k:Nat} {x:ByteArray} (h:l[k]? =some x):szs (l.take (k+1))=szs (l.take k)+x.size:=by
  unfold szs;rw [yN h,List.map_append,List.sum_append];simp
theorem quo_big {n:Int} (h1:1<=n) (h2:n<=100000):2<IntKind.i64.wrap (Int.tdiv 9223372036854775807 n)/\True:=by
  have e:Int.tdiv 9223372036854775807 n=9223372036854775807/n:=Int.tdiv_eq_ediv_of_nonneg (by omega)
  have a1:3<=9223372036854775807/n:=by rw [Int.le_ediv_iff_mul_le (by omega)];omega
  have a2:9223372036854775807/n<=9223372036854775807:=Int.ediv_le_self _ (by omega)
  rw [e,zDg ⟨by omega,by omega⟩]
  exact ⟨by omega,T⟩
theorem one_of {l:List ByteArray} {x:ByteArray} (h:l[0]? =some x) (c:(l.length:Int)=1):l=[x]:=by
  match l,c with
  |[a],_=>simp at h;rw [h]
  |[],c=>simp at c
  |_::_::_,c=>simp at c;omega
theorem zFi {l:List ByteArray} {k:Nat} {x:ByteArray} (h:(l.drop 1)[k]? =some x):l[k+1]? =some x:=by rw [List.getElem?_drop,Nat.add_comm] at h;exact h
theorem ok150:callOk Tryz.prog 150=true:=by kernel_rfl
theorem strings_Join (l:List ByteArray) (hl:l.length<=100000) (hz0:szs l<=1000000000):
    Pur cfg 98 [.c (.sl 1 (l.map fun s=>[cS s])),vS (bs [44,32])] (vS (comS l)):=by
 refine zS Tryz.func98 O Tryz.ntmps98 Tryz.results98 O ?_
 intro z hz
 have hs2:((bs [44,32]).size:Int)=2:=rfl
 refine A O<|G O<|R<|zK<|A O<|G O<|zZ O zBz<|R<|zR<|A O<|L O<|G O<|R<|zC O (fun c1=>?_) (fun c1=>?_)
 ·try simp only [sx] at c1
  have hnil:l=[]:=by cases l with|nil=>rfl|cons a r=>simp at c1;omega
  subst hnil
  refine A O<|G O<|R<|zF<|zQ O ?_
  rw [comS_nil];first|done|rfl
 ·try simp only [sx] at c1
  refine A O<|L O<|G O<|R<|zC O (fun c2=>?_) (fun c2=>?_)
  ·try simp only [sx] at c2
   obtain ⟨x0,hx0⟩:=qY l 0 (by omega)
   refine A O<|G O<|qE O zBz (by omega) (getm hx0)<|zM one9 qA O<|G O<|R<|zF<|zQ O ?_
   rw [show l=[x0] from one_of hx0 c2,comS_one]
  ·try simp only [sx] at c2
   obtain ⟨x0,hx0⟩:=qY l 0 (by omega)
   have hx0z:=zKo (zY hx0)
   have hdl:(l.drop 1).length<=l.length:=by rw [List.length_drop];omega
   refine zI<|A O<|G O<|R<|zK<|A O<|G O<|zT O (kS O un9 O)<|zT O (yA O O O)<|R<|zC O (fun c3=>?_) (fun c3=>?_)
   ·try simp only [sx] at c3
    refine zK<|A O<|G O<|zT O (kS O un9 O)<|G O<|zZ O zBz<|zT O (yD O O O ⟨by omega,by omega⟩)<|zT O (det_quo O O O (by omega))<|zT O (wO O O O)<|R<|zC O (fun c4=>?_) (fun c4=>?_)
    ·try simp only [sx] at c4
     exact absurd c4 (by have:=(quo_big (n:=l.length-1) (by omega) (by omega)).1;show ¬_<=(2:Int);omega)
    ·try simp only [sx] at c4
     refine zI<|zN O<|G O<|G O<|zT O (kS O un9 O)<|G O<|zZ O zBz<|zT O (yD O O O ⟨by omega,by omega⟩)<|zT O (zJq O O O ⟨by rw [hs2];omega,by rw [hs2];omega⟩)<|qI O ⟨by rw [hs2];omega,by rw [hs2];omega⟩<|G O<|R<|zK<|A O<|G O<|zZ O zBz<|G O<|R<|zR<|zX ⟨[(41,.c _),(5,.c _),(0,.c _),(1,.c _),(39,.c _),(40,.c _)],[]⟩ (Weak.mk [] ⟨Y,Y,Y,Y,Y,Y,T⟩ O) ?_
     refine qG 2 0 O O (Nat) (fun k=>[(41,vI k),(5,vI ((2*(l.length-1)+szs (l.take k):Nat):Int))]) (fun k=>[]) (fun k=>k<=l.length) (fun k=>l.length-k) ⟨0,(by omega),Weak.mk [] ⟨Y,VLe.of_eq (congrArg vI (by rw [hs2];show (0:Int)+2*((l.length:Int)-1)=((2*(l.length-1)+0:Nat):Int);omega)),Y,Y,Y,Y,T⟩ O⟩ ?_
     rintro k hk
     refine A O<|yJ O<|R<|zK<|zC O (fun c5=>?_) (fun c5=>?_)
     ·try simp only [sx] at c5
      obtain ⟨x,hx⟩:=qY l k (by omega)
      have hzk:=szs_take l (k+1)
      rw [szs_next hx] at hzk
      refine zI<|zK<|zR<|A O<|qE O zBz (by omega) (getm hx)<|zM one9 qA O<|G O<|R<|zK<|A O<|G O<|zT O (kS O un9 O)<|G O<|zT O (yD O O O ⟨by omega,by omega⟩)<|zT O (yA O O O)<|R<|zC O (fun c6=>?_) (fun c6=>?_)
      ·try simp only [sx] at c6
       exact absurd c6 (by omega)
      ·try simp only [sx] at c6
       refine zI<|zN O<|G O<|G O<|zT O (kS O un9 O)<|qI O ⟨by omega,by omega⟩<|G O<|R<|zN O<|qI O ⟨by omega,by omega⟩<|G O<|R ?_
       refine ⟨k+1,(by omega),(by omega),Weak.mk [] ⟨Y,VLe.of_eq (congrArg vI (by rw [szs_next hx];omega)),Y,Y,Y,Y,T⟩ O⟩
     ·try simp only [sx] at c5
      rw [yE (l:=l) (k:=k) (by omega)]
      refine qP<|A O<|zU O O (yL O zr130) ?_
      rintro _ _ ⟨b1,rfl,rfl⟩
      refine yX _ (wI 5 1)<|R<|A O<|G O<|zU O O (qH [1,0] O ok150 (bld_Grow b1 (2*(l.length-1)+szs l) (by omega)) ⟨Y,O,Y,O,T⟩ O) ?_
      rintro _ _ ⟨_,⟨rfl,sw1,hw1,rfl⟩,rfl⟩
      refine R<|A O<|G O<|qE O zBz (by omega) (getm hx0)<|zM one9 qA O<|zU O O (qH [1,0] O ok49 (qS b1 (bldP b1) sw1 (bs []) (x0) hw1 (by (try simp only [U,W,yT,List.size_toArray,List.length_cons,List.length_nil]);omega) (.inr O)) ⟨Y,O,Y,O,T⟩ O) ?_
      rintro _ _ ⟨_,⟨sw2,hw2,rfl,rfl⟩,rfl⟩
      refine R<|zK<|A O<|G O<|zT O (det_cut_drop (k:=1) O zBz O O (by omega))<|zT O (det_len_sl O zBz O)<|G O<|R<|zR<|zX ⟨[(65,.c _),(1,.c _),(8,.c _),(63,.c _),(64,.c _)],[_,_]⟩ (Weak.mk [true,true] ⟨Y,Y,Y,Y,Y,T⟩ O)<|qG 1 2 O O (Nat×Value) (fun ⟨k,sv3⟩=>[(65,vI k)]) (fun ⟨k,sv3⟩=>[E.vec sv3 5 1 (byR (comS (l.take (k+1)))),E.row b1 130 [.lit (bldP b1),.lit sv3]]) (fun ⟨k,sv3⟩=>k<=(l.drop 1).length/\(NN sv3)) (fun ⟨k,sv3⟩=>(l.drop 1).length-k) ⟨⟨0,sw2⟩,⟨by omega,hw2⟩,Weak.mk [true,true] ⟨Y,Y,Y,Y,Y,T⟩ (by show _=E.vec sw2 _ 1 (byR (comS (l.take (0+1))))::_;rw [show comS (l.take (0+1))=bs []++x0 by rw [yN hx0,List.take_zero,List.nil_append,comS_one,zEa]];rfl)⟩ ?_
      rintro ⟨k,sv3⟩ ⟨hk,hn3⟩
      show AWP _ _ _ _ _ ⟨[(65,vI k)]++_,[E.vec sv3 5 1 (byR (comS (l.take (k+1)))),E.row b1 130 [.lit (bldP b1),.lit sv3]]++_⟩
      refine A O<|yJ O<|R<|zK<|zC O (fun c7=>?_) (fun c7=>?_)
      ·try simp only [sx] at c7
       obtain ⟨x,hx⟩:=qY (l.drop 1) k (by omega)
       have hx1:=zFi hx
       have hTk:=zIw l (k+1)
       have hxz:=zKo (zY hx1)
       refine zI<|zK<|zR<|A O<|qE O zBz (by omega) (getm hx)<|zM one9 qA O<|G O<|R<|A O<|G O<|zU O O (qH [1,0] O ok49 (qS b1 (bldP b1) sv3 (comS (l.take (k+1))) (bs [44,32]) hn3 (by (try simp only [U,W,yT,List.size_toArray,List.length_cons,List.length_nil]);omega) (.inr O)) ⟨Y,O,Y,O,T⟩ O) ?_
       rintro _ _ ⟨_,⟨sw4,hw4,rfl,rfl⟩,rfl⟩
       refine R<|zN O<|G O<|zU O O (qH [1,0] O ok49 (qS b1 (bldP b1) sw4 (comS (l.take (k+1))++bs [44,32]) (x) hw4 (by (try simp only [U,W,yT,List.size_toArray,List.length_cons,List.length_nil]);omega) (.inr O)) ⟨Y,O,Y,O,T⟩ O) ?_
       rintro _ _ ⟨_,⟨sw5,hw5,rfl,rfl⟩,rfl⟩
       refine R<|zN O<|qI O ⟨by omega,by omega⟩<|G O<|R ?_
       refine ⟨⟨k+1,sw5⟩,⟨by omega,hw5⟩,(by show (l.drop 1).length-(k+1)<(l.drop 1).length-k;omega),Weak.mk [true,true] ⟨Y,Y,Y,Y,Y,T⟩ (by show _=E.vec sw5 _ 1 (byR (comS (l.take (k+1+1))))::_;rw [zCo hx1 (by omega)];rfl)⟩
      ·try simp only [sx] at c7
       rw [yE (l:=l) (k:=k+1) (by rw [List.length_drop] at c7;omega)]
       refine qP<|A O<|zU O O (qH [1,0] O ok52 (zFz b1 (bldP b1) sv3 (comS l) hn3) ⟨Y,O,T⟩ O) ?_
       rintro _ _ ⟨_,⟨rfl,e_,rfl⟩,rfl⟩
       refine G O<|R<|zF<|zQ O ?_
       rfl
   ·try simp only [sx] at c3
    exact absurd c3 (by decide)
end Go.W
end
section
set_option maxRecDepth 10000
namespace Go.W
open Go Go.Eng Go.Proofs Go.L41 Go.Br
attribute [local irreducible] AWP RWP TD finQ
theorem use_arr {u:Int} (h1:1<=u) (h2:u<=3):([cS ⟨#[105,110]⟩,cS ⟨#[111,117,116]⟩,cS ⟨#[116,101,109,112]⟩]:List C)[(u-1).toNat]? =some (cS (useS u)):=by
  rcases (show u=1∨u=2∨u=3 by omega) with rfl|rfl|rfl<;>rfl
theorem ints_next {l:List Int} {k:Nat} {x:Int} (h:l[k]? =some x):(((l.map intS).take k).map fun s=>[cS s])++[[cS (intS x)]]=((l.map intS).take (k+1)).map fun s=>[cS s]:=by rw [yN (zMb h),List.map_append];rfl
theorem ar178:arrT Tryz.prog 178=some (3,9,1):=by kernel_rfl
theorem ok98:callOk Tryz.prog 98=true:=by kernel_rfl
theorem pla178:placesA Tryz.prog 178=some (3,1):=by kernel_rfl
theorem zr178:zeroT Tryz.prog 178=some [(Value.string (ByteArray.mk #[])),(Value.string (ByteArray.mk #[])),(Value.string (ByteArray.mk #[]))]:=by kernel_rfl
theorem ln_bufferLine (b:Bf) (hb:bfF b):
    Pur cfgI 50 [vBf b] (vS (bufS b)):=by
 refine zS Tryz.func50 O Tryz.ntmps50 Tryz.results50 O ?_
 intro z hz
 have hb1:=hb.1
 have hb2:=hb.2.1
 have hu:=hb.2.2.2
 have hty:=zJc b.T
 have hus:=zQp b.Use
 have hcz:=zCj (b.Dims.map intS)
 have hiz:=zPd (l:=b.Dims) (fun d hd=>by have:=hb.2.2.1 d hd;omega)
 rw [List.length_map] at hcz
 refine A O<|zU O O (qN O O) ?_
 rintro _ _ ⟨b1,rfl,rfl⟩
 refine G O<|R<|A O<|G O<|yX _ (wI 9 1)<|R<|zK<|A O<|zH O zEt<|zM zEh (zD 1 O) O<|zZ O el55<|G O<|R<|zR<|zX ⟨[(10,.c _),(3,.c _),(1,.c _),(8,.c _),(9,.c _)],[_,_]⟩ (Weak.mk [true,true] ⟨Y,Y,Y,Y,Y,T⟩ O)<|qG 2 1 O O (Nat×Value) (fun ⟨k,sv⟩=>[(10,vI k),(3,.c (.lit sv))]) (fun ⟨k,sv⟩=>[E.vec sv 9 1 (((b.Dims.map intS).take k).map fun s=>[cS s])]) (fun ⟨k,sv⟩=>k<=b.Dims.length) (fun ⟨k,sv⟩=>b.Dims.length-k) ⟨⟨0,(.slice none 0 0)⟩,(by omega),Weak.mk [true,true] ⟨Y,Y,Y,Y,Y,T⟩ O⟩ ?_
 rintro ⟨k,sv⟩ hk
 show AWP _ _ _ _ _ ⟨[(10,vI k),(3,.c (.lit sv))]++_,[E.vec sv 9 1 (((b.Dims.map intS).take k).map fun s=>[cS s])]++_⟩
 refine A O<|yJ O<|R<|zK<|zC O (fun c1=>?_) (fun c1=>?_)
 ·try simp only [sx] at c1
  obtain ⟨d,hd⟩:=qY b.Dims k (by omega)
  refine zI<|zK<|zR<|A O<|qE O el55 (by omega) (getm hd)<|zM one3 qA O<|G O<|R<|zN O<|G O<|G O<|qK O ok91 (itoaI d (by have:=hb.2.2.1 d (zY hd);omega) (by have:=hb.2.2.1 d (zY hd);omega)) ⟨Y,O,T⟩<|zT O (yK O zBz zr9 O O O O)<|zU O O (kG 0 O zBz O O O (by simp only [List.length_map,List.length_take,List.length_cons,List.length_nil];omega) (by simp only [List.length_map,List.length_take,List.length_cons,List.length_nil];omega)) ?_
  rintro _ _ ⟨sv3,rfl,rfl⟩
  refine G O<|R<|zN O<|qI O ⟨by omega,by omega⟩<|G O<|R ?_
  refine ⟨⟨k+1,sv3⟩,(by omega),(by show b.Dims.length-(k+1)<b.Dims.length-k;omega),Weak.mk [true,true] ⟨Y,Y,Y,Y,Y,T⟩ (by exact zFm (ints_next hd))⟩
 ·try simp only [sx] at c1
  rw [yE (l:=b.Dims.map intS) (k:=k) (by rw [List.length_map];omega)]
  refine qP<|A O<|zT O (zHb O zr178 pla178 O)<|zH O zMe<|zM one3 (zD 1 O) O<|zT O (yD O O O ⟨by omega,by omega⟩)<|zT O (zGz O ar178 one9 O O (by omega) (by omega) (use_arr hu.1 hu.2))<|G O<|R<|zK<|kN 13 0 [⟨0,.q []⟩,⟨1,.q [1]⟩,⟨2,.q []⟩,⟨3,.q []⟩,⟨4,.q [1]⟩,⟨5,.q []⟩,⟨6,.q []⟩,⟨7,.q []⟩,⟨8,.q []⟩,⟨9,.q [0]⟩,⟨10,.q []⟩,⟨11,.q []⟩,⟨12,.q []⟩] mixed (by kernel_rfl) (by kernel_rfl) O O O<|zW O<|zW O<|zW O<|zW O<|zW O<|zW O<|zW O<|zW O<|zW O<|zW O<|zW O<|zW O<|zW O<|zCc<|qF O (by decide) O O (zE O zHm O)<|qF O (by decide) O O (zJ O one9 O (zD 0 O) O)<|qF O (by decide) O O (qM O O O (by (try simp only [U,W,yT,List.size_toArray,List.length_cons,List.length_nil]);omega))<|qF O (by decide) O O (zE O zIn O)<|qF O (by decide) O O (zV O yI O (zD 0 O) O)<|qF O (by decide) O O (qC O ok97 (prn_Type b.T) ⟨Y,O,T⟩)<|qF O (by decide) O O (qM O O O (by (try simp only [U,W,yT,List.size_toArray,List.length_cons,List.length_nil]);omega))<|qF O (by decide) O O (qM O O O (by (try simp only [U,W,yT,List.size_toArray,List.length_cons,List.length_nil]);omega))<|qF O (by decide) O O (zP O O)<|qF O (by decide) O O (zHa 0 O ok98 O (upI (strings_Join (b.Dims.map intS) (by rw [List.length_map];omega) (by omega))) O ⟨.inl ⟨O,O⟩,.inr ⟨Y,O⟩,T⟩)<|qF O (by decide) O O (qM O O O (by (try simp only [U,W,yT,List.size_toArray,List.length_cons,List.length_nil]);omega))<|qF O (by decide) O O (qM O O O (by (try simp only [U,W,yT,List.size_toArray,List.length_cons,List.length_nil]);omega))<|qF O (by decide) O O (zP O O)<|zCb O<|kY O (by (try simp only [U,W,yT,List.size_toArray,List.length_cons,List.length_nil]);omega)<|kY O (by (try simp only [U,W,yT,List.size_toArray,List.length_cons,List.length_nil]);omega)<|G O<|R<|zF<|zQ O ?_
  first|rfl|(unfold bufS;rfl)
end Go.W
end
section
set_option maxRecDepth 10000
namespace Go.W
open Go Go.Eng Go.Proofs Go.L41 Go.Br
attribute [local irreducible] AWP RWP TD finQ
theorem ok50:callOk Tryz.prog 50=true:=by kernel_rfl
theorem ln_Format (n:Ns) (hok:n.Ok) (hv:(validN n).2=0) (h1:lnOks n.Body) (h2:fmSs n.Body) (hw:2*stsWt n.Body<=2000) (hbf:∀b,b∈n.Bufs->bfF b) (hbl:n.Bufs.length<=1000):
    Pur cfgI 17 [vNs n] (vS (nestS n)):=by
 refine zS Tryz.func17 O Tryz.ntmps17 Tryz.results17 O ?_
 intro z hz
 have hzt:=zFq n.Body (bs []) h1 (by show 0+_<=_;omega)
 have hbz:=zIz hbf
 refine A O<|zU O O (qN O O) ?_
 rintro _ _ ⟨b1,rfl,rfl⟩
 refine G O<|R<|zK<|A O<|zO zBb (zD 0 O) O<|qK O ok40 (upI (zDk n hok)) ⟨Y,O,T⟩<|zT O (yH O O)<|zT O (kC O O O)<|zT O (kC O O O)<|G O<|G O<|R<|A O<|G O<|kP O<|R<|zC O (fun c1=>?_) (fun c1=>?_)
 ·try simp only [sx] at c1
  exact absurd hv c1
 ·try simp only [sx] at c1
  refine zI<|A O<|zU O O (yL O zr130) ?_
  rintro _ _ ⟨b2,rfl,rfl⟩
  refine yX _ (wI 5 1)<|R<|zK<|A O<|zH O zAt<|zM zDv (zD 2 O) O<|zZ O el50<|G O<|R<|zR<|zX ⟨[(17,.c _),(1,.c _),(5,.c _),(16,.c _)],[_,_,_]⟩ (Weak.mk [true,true,true] ⟨Y,Y,Y,Y,T⟩ O)<|qG 1 2 O O (Nat×Value×Value) (fun ⟨k,pv,sv1⟩=>[(17,vI k)]) (fun ⟨k,pv,sv1⟩=>[E.vec sv1 5 1 (byR (bufsS (n.Bufs.take k))),E.row b2 130 [.lit pv,.lit sv1]]) (fun ⟨k,pv,sv1⟩=>k<=n.Bufs.length/\(NN sv1)/\(pv=.pointer none∨pv=bldP b2)) (fun ⟨k,pv,sv1⟩=>n.Bufs.length-k) ⟨⟨0,(.pointer none),(.slice none 0 0)⟩,⟨by omega,NN_nil,.inl O⟩,Weak.mk [true,true,true] ⟨Y,Y,Y,Y,T⟩ O⟩ ?_
  rintro ⟨k,pv,sv1⟩ ⟨hk,hnv,hpv⟩
  show AWP _ _ _ _ _ ⟨[(17,vI k)]++_,[E.vec sv1 5 1 (byR (bufsS (n.Bufs.take k))),E.row b2 130 [.lit pv,.lit sv1]]++_⟩
  refine A O<|yJ O<|R<|zK<|zC O (fun c2=>?_) (fun c2=>?_)
  ·try simp only [sx] at c2
   obtain ⟨b,hb⟩:=qY n.Bufs k (by omega)
   have hkz:=zIz (l:=n.Bufs.take k) (fun c hc=>hbf c (List.mem_of_mem_take hc))
   have hkl:(n.Bufs.take k).length<=1000:=by rw [List.length_take];omega
   have hbz1:=bf_size (hbf b (zY hb))
   refine zI<|zK<|zR<|A O<|G O<|G O<|R<|zN O<|zH O zAt<|zM zDv (zD 2 O) O<|G O<|qE O el50 (by omega) (getm hb)<|zO zLe qA O<|qK O ok50 (ln_bufferLine b (hbf b (zY hb))) ⟨Y,O,T⟩<|zU O O (qH [1,0] O ok49 (upI (qS b2 pv sv1 (bufsS (n.Bufs.take k)) (bufS b) hnv (by (try simp only [U,W,yT,List.size_toArray,List.length_cons,List.length_nil]);omega) hpv)) ⟨Y,O,Y,O,T⟩ O) ?_
   rintro _ _ ⟨_,⟨sw1,hw1,rfl,rfl⟩,rfl⟩
   refine R<|zN O<|qI O ⟨by omega,by omega⟩<|G O<|R ?_
   refine ⟨⟨k+1,(bldP b2),sw1⟩,⟨by omega,hw1,.inr O⟩,(by show n.Bufs.length-(k+1)<n.Bufs.length-k;omega),Weak.mk [true,true,true] ⟨Y,Y,Y,Y,T⟩ (by show _=E.vec sw1 _ 1 (byR (bufsS (n.Bufs.take (k+1))))::_;rw [bufsS_next hb];rfl)⟩
  ·try simp only [sx] at c2
   rw [yE (l:=n.Bufs) (k:=k) (by omega)]
   refine qP<|A O<|zH O zFf<|zM zCg (zD 2 O) O<|zU O O (qH [1,0] O ok51 (ln_writeStmts n.Body (bs []) h1 h2 (by show 0+_<=_;omega) b2 pv sv1 (bufsS n.Bufs) hnv hpv (by omega)) ⟨Y,O,Y,O,Y,O,T⟩ O) ?_
   rintro _ _ ⟨_,⟨rfl,pv2,sw2,hw2,hp2,rfl⟩,rfl⟩
   refine R<|A O<|zU O O (qH [1,0] O ok52 (upI (zFz b2 pv2 sw2 (bufsS n.Bufs++stsS (bs []) n.Body) hw2)) ⟨Y,O,T⟩ O) ?_
   rintro _ _ ⟨_,⟨rfl,e_,rfl⟩,rfl⟩
   refine G O<|R<|zF<|zQ O ?_
   rfl
end Go.W
end
section
set_option maxRecDepth 10000
namespace Go.W
open Go Go.Eng Go.Proofs Go.L41 Go.Br
attribute [local irreducible] AWP RWP TD finQ
theorem ok14:callOk Tryz.prog 14=true:=by kernel_rfl
theorem ok15:callOk Tryz.prog 15=true:=by kernel_rfl
theorem ok16:callOk Tryz.prog 16=true:=by kernel_rfl
theorem ok17:callOk Tryz.prog 17=true:=by kernel_rfl
theorem ok18:callOk Tryz.prog 18=true:=by kernel_rfl
theorem law_NestFormats0 (n:Ns) (hf:n.Fit) (hfm:(validN n).2=0->lnOks n.Body/\fmSs n.Body/\∀b,b∈n.Bufs->bfF b):
    Pur cfgI 4 [vNs n] (vB true):=by
 refine zS Tryz.func4 O Tryz.ntmps4 Tryz.results4 O ?_
 intro z hz
 refine A O<|zU O O (qN O O) ?_
 rintro _ _ ⟨b1,rfl,rfl⟩
 refine G O<|R<|zK<|A O<|zO zBb (zD 0 O) O<|qK O ok14 (upI (law30_Few n 300 300 hf (by omega) O)) ⟨Y,O,Y,O,T⟩<|wA O<|R<|zC O (fun c1=>?_) (fun c1=>?_)
 ·try simp only [sx] at c1
  refine A O<|qK O ok15 zNn T<|G O<|R<|zF<|zQ O ?_
  first|rfl|exact congrArg vB (by simp [Lz])
 ·try simp only [sx] at c1
  obtain ⟨k1,k2,k3,k4⟩:=few_parts c1
  have hok:=hf.ok (m:=300) (by omega) k1 k3
  have hw:=zQg k3
  have hN:=zHr n.Body
  refine zI<|zK<|A O<|zO zBb (zD 0 O) O<|qK O ok16 (upI (ref30_Validate n hok (by omega))) ⟨Y,O,T⟩<|zT O (yH O O)<|zT O (kC O O O)<|zT O (kC O O O)<|G O<|G O<|R<|A O<|G O<|kP O<|R<|zC O (fun c2=>?_) (fun c2=>?_)
  ·try simp only [sx] at c2
   refine A O<|qK O ok15 zNn T<|G O<|R<|zF<|zQ O ?_
   first|rfl|exact congrArg vB (by simp [Lz])
  ·try simp only [sx] at c2
   obtain ⟨g1,g2,g3⟩:=hfm c2
   refine zI<|zK<|qU 9 mixed (by kernel_rfl) O O<|J O O (zV O zBb O (zD 0 O) O)<|J O O (qC O ok17 (ln_Format n hok c2 g1 g2 (by omega) g3 (by omega)) ⟨Y,O,T⟩)<|J O O (zV O zBb O (zD 0 O) O)<|J O O (qC O ok18 (upI (r30_Format n g1 g2 (by omega) g3 (by omega))) ⟨Y,O,T⟩)<|J O O (zGw O O O)<|J O O (zP O O)<|qR [] O O O O gv1 T (fun g6_5=>qC O ok15 zNn T) O<|J O O (zAp O O O (fun h=>h) O)<|J O O (qV O O)<|yO<|R<|zF<|zQ O ?_
   first|rfl|exact congrArg vB (by simp [Lz])
theorem nest_fm {n:Ns} (h:(validN n).2=0) (hr:allSs Lf.rng n.Body):lnOks n.Body/\fmSs n.Body/\∀b,b∈n.Bufs->bfF b:=by
  obtain ⟨h1,h2⟩:=valid_fm h hr
  refine ⟨h1,h2,fun b hb=>?_⟩
  obtain ⟨k1,k2,k3,k4⟩:=bufs_all (zQm h).2.2.1 b hb
  obtain ⟨d1,d2⟩:=dims_mem k2
  exact ⟨zGp k1,by omega,fun d hd=>by have:=d2 d hd;omega,k3,k4⟩
theorem law_NestFormats (n:Ns) (hf:n.Fit) (hr:allSs Lf.rng n.Body):Pur cfgI 4 [vNs n] (vB true):=law_NestFormats0 n hf fun h=>nest_fm h hr
end Go.W
end
