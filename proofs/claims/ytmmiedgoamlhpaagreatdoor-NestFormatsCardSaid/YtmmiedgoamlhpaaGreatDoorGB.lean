/-
  Walks: what functions of the program compute. Printed by wip/gen/mk2.py.
  Walks: what functions of the program compute. Printed by wip/gen/mk2.py.
  Walks: what functions of the program compute. Printed by wip/gen/mk2.py.
  Walks: what functions of the program compute. Printed by wip/gen/mk2.py.
  Walks: what functions of the program compute. Printed by wip/gen/mk2.py.
  Conditions: none.
-/
import Derived.Test.YtmmiedgoamlhpaaGreatDoorGF
import Derived.Test.YtmmiedgoamlhpaaGreatDoorEngZ
import Derived.Test.YtmmiedgoamlhpaaGreatDoorPlainF
import Derived.Test.YtmmiedgoamlhpaaGreatDoorOpenX
import Derived.Test.YtmmiedgoamlhpaaGreatDoorFmtX
set_option linter.unusedSimpArgs false
set_option linter.unusedVariables false
section
set_option maxRecDepth 10000
namespace Go.W
open Go Go.Eng Go.Proofs Go.L41 Go.Br
attribute [local irreducible] AWP RWP TD finQ
abbrev bldE (b:Nat) (p sv:Value) (s:ByteArray):List E:=[.row b 130 [.lit p,.lit sv],.vec sv 5 1 (byR s)]
abbrev bldP (b:Nat):Value:=.pointer (some ⟨b,0,none⟩)
abbrev vBp (b:Nat):V:=.c (.lit (bldP b))
theorem byR_app (a b:ByteArray):byR (a++b)=byR a++byR b:=by
  unfold byR Lib.strCells
  rw [←List.map_append]
  congr 1
  rw [←List.map_append]
  congr 1
theorem ce5:Tryz.prog.cellsOf 5=1:=by kernel_rfl
theorem zIq:fieldT Tryz.prog 130 0=some (0,127):=by kernel_rfl
theorem zCr:fieldT Tryz.prog 130 1=some (1,128):=by kernel_rfl
theorem in130:(Tryz.prog.info? 130).isSome=true:=by kernel_rfl
theorem li130:liesAt Tryz.prog Tryz.prog.depth 130 (2/Tryz.prog.cellsOf 130) 0 130 1=true:=by kernel_rfl
theorem nz130:(Tryz.prog.info? 130).map (fun j=>decide (j.size≠0))=some true:=by kernel_rfl
theorem ok96:callOk Tryz.prog 96=true:=by kernel_rfl
theorem one127:oneT Tryz.prog 127=true:=by kernel_rfl
theorem zHk:oneT Tryz.prog 128=true:=by kernel_rfl
theorem sz127:(Tryz.prog.info? 127).map (·.size)=some 1:=by kernel_rfl
theorem sz128:(Tryz.prog.info? 128).map (·.size)=some 1:=by kernel_rfl
theorem un127:Tryz.prog.underlying 127=some (.pointer 130):=by kernel_rfl
theorem un183:Tryz.prog.underlying 183=some (.pointer 5):=by kernel_rfl
theorem un224:Tryz.prog.underlying 224=some .unsafePointer:=by kernel_rfl
theorem zu5:(Tryz.prog.info? 5).bind (·.zero)=some (.int .u8 0):=by kernel_rfl
theorem zTk (b:Nat) (sv:Value):
    Con cfg 96 [vBp b] [.row b 130 [.lit (.pointer none),.lit sv]] fun r μ'=>r=.tup []/\μ'=[.row b 130 [.lit (bldP b),.lit sv]]:=by
 refine zS Tryz.func96 O Tryz.ntmps96 Tryz.results96 O ?_
 intro z hz
 refine A O<|G O<|zT O (qB O O)<|zH O zIq<|zM one127 (zD 0 O) O<|zT O (zGx (a:=none) O O O un127)<|R<|zC O (fun c1=>?_) (fun c1=>?_)
 ·try simp only [sx] at c1
  refine zN O<|G O<|G O<|zT O (zMj 0 O O O un127 un224 nz130 (Nat.succ_pos _))<|zT O (det_extern (fn:=Tryz.f148) (ex:=Extern.AbiNoEscape.same) O O (by kernel_rfl) (by kernel_rfl) (by kernel_rfl) (by kernel_rfl) (fun v w=>Lib.run_noEscape w v) O O)<|zT O (zIv 0 O O O un224 un127 in130 li130)<|zT O (qB O O)<|zH O zIq<|rStR 0 sz127 O<|R ?_
  repeat (first|refine yS ?_|refine yM ?_)
  refine kZ<|fin0 ?_
  exact ⟨O,O⟩
 ·try simp only [sx] at c1
  exact absurd c1 (by simp)
theorem bld_check_used (b:Nat) (sv:Value):
    Con cfg 96 [vBp b] [.row b 130 [.lit (bldP b),.lit sv]] fun r μ'=>r=.tup []/\μ'=[.row b 130 [.lit (bldP b),.lit sv]]:=by
 refine zS Tryz.func96 O Tryz.ntmps96 Tryz.results96 O ?_
 intro z hz
 refine A O<|G O<|zT O (qB O O)<|zH O zIq<|zM one127 (zD 0 O) O<|zT O (zGx (a:=(some ⟨b,0,none⟩)) O O O un127)<|R<|zC O (fun c1=>?_) (fun c1=>?_)
 ·try simp only [sx] at c1
  exact absurd c1 (by simp)
 ·try simp only [sx] at c1
  refine A O<|G O<|zT O (qB O O)<|zH O zIq<|zM one127 (zD 0 O) O<|G O<|zT O (zOn O O O un127 in130)<|R<|zC O (fun c2=>?_) (fun c2=>?_)
  ·try simp only [sx] at c2
   exact absurd c2 (by simp)
  ·try simp only [sx] at c2
   refine zI ?_
   repeat (first|refine yS ?_|refine yM ?_)
   refine kZ<|fin0 ?_
   exact ⟨O,O⟩
theorem bld_check (b:Nat) (p sv:Value) (hp:p=.pointer none∨p=bldP b):Con cfg 96 [vBp b] [.row b 130 [.lit (p),.lit sv]] fun r μ'=>r=.tup []/\μ'=[.row b 130 [.lit (bldP b),.lit sv]]:=by
  rcases hp with rfl|rfl
  · exact zTk b sv
  · exact bld_check_used b sv
theorem qS (b:Nat) (p sv:Value) (t s:ByteArray) (hnn:NN sv) (hs:t.size+s.size<=100000000000000) (hp:p=.pointer none∨p=bldP b):
    Con cfg 49 [vBp b,vS s] (bldE b p sv t) fun r μ'=>∃sv',NN sv'/\r=.tup [vI s.size,.c (.lit .nilIface)]/\μ'=bldE b (bldP b) sv' (t++s):=by
 refine zS Tryz.func49 O Tryz.ntmps49 Tryz.results49 O ?_
 intro z hz
 refine A O<|G O<|G O<|R<|A O<|G O<|zU O O (qH [0] O ok96 (bld_check b p sv hp) ⟨Y,O,T⟩ O) ?_
 rintro _ _ ⟨_,⟨rfl,rfl⟩,rfl⟩
 refine R<|A O<|G O<|G O<|zT O (qB O O)<|zH O zCr<|zM zHk (zD 0 O) O<|G O<|zU O O (zKi 1 O zNu un9 zu5 O O O (by rw [zDo];omega) hnn) ?_
 rintro _ _ ⟨sv1,hn1,rfl,rfl⟩
 refine zT O (qB O O)<|zH O zCr<|rStR 0 sz128 O<|R<|A O<|G O<|zT O (kS O un9 O)<|G O<|G O<|R<|zF<|D (B O) (B O) ?_
 exact ⟨_,hn1,O,by show _=[E.row b 130 [.lit (bldP b),.lit _],E.vec _ 5 1 (byR (t++s))];rw [byR_app];rfl⟩
theorem bld_Len (b:Nat) (p sv:Value) (t:ByteArray):
    Con cfg 277 [vBp b] (bldE b p sv t) fun r μ'=>r=vI t.size/\μ'=bldE b p sv t:=by
 refine zS Tryz.func277 O Tryz.ntmps277 Tryz.results277 O ?_
 intro z hz
 refine A O<|G O<|R<|A O<|G O<|zT O (qB O O)<|zH O zCr<|zM zHk (zD 0 O) O<|zT O (yQ 1 O zNu O O)<|G O<|R<|zF<|zQ O ?_
 exact ⟨by rw [zDo],O⟩
theorem zFz (b:Nat) (p sv:Value) (t:ByteArray) (hnn:NN sv):
    Con cfg 52 [vBp b] (bldE b p sv t) fun r μ'=>r=vS t/\∃e,μ'=[e,.vec (.slice none 0 0) 5 1 []]:=by
 refine zS Tryz.func52 O Tryz.ntmps52 Tryz.results52 O ?_
 intro z hz
 refine A O<|G O<|R<|zK<|qU 10 mixed (by kernel_rfl) O O<|J O O (zP O O)<|J O O (qB O O)<|J O O (zE O zCr O)<|J O O (zJ O zHk O (zD 0 O) O)<|J O O (det_sdata 1 O O O hnn)<|J O O (zP O O)<|J O O (qB O O)<|J O O (zE O zCr O)<|J O O (zJ O zHk O (zD 0 O) O)<|J O O (yQ 1 O zNu O O)<|yO<|zU O O (zRr (s:=t) 1 O O (congrArg (fun n=>V.c (C.lit (Value.int .i64 n))) (by rw [zDo])) O un183 ce5 hnn) ?_
 rintro _ _ ⟨rfl,rfl⟩
 refine G O<|R<|zF<|zQ O ?_
 exact ⟨O,_,O⟩
end Go.W
end
section
set_option maxRecDepth 10000
namespace Go.W
open Go Go.Eng Go.Proofs Go.L41 Go.Br
attribute [local irreducible] AWP RWP TD finQ
theorem prn_mode (r:Int):
    Pur cfg 149 [vI r] (vS (modeS r)):=by
 refine zS Tryz.func149 O Tryz.ntmps149 Tryz.results149 O ?_
 intro z hz
 refine A O<|G O<|R<|zK<|A O<|G O<|R<|zR<|A O<|L O<|G O<|R<|zC O (fun c1=>?_) (fun c1=>?_)
 ·try simp only [sx] at c1
  refine A O<|G O<|R<|zF<|v (B O)<|congrArg vS (?_:_=modeS r)
  unfold modeS
  first|(exfalso;omega)|rfl|(simp [*];done)|(simp [*];rfl)|(repeat (first|rw [if_pos (by first|assumption|omega)]|rw [if_neg (by first|assumption|omega)]));rfl
 ·try simp only [sx] at c1
  refine A O<|L O<|G O<|R<|zC O (fun c2=>?_) (fun c2=>?_)
  ·try simp only [sx] at c2
   refine A O<|G O<|R<|zF<|v (B O)<|congrArg vS (?_:_=modeS r)
   unfold modeS
   first|(exfalso;omega)|rfl|(simp [*];done)|(simp [*];rfl)|(repeat (first|rw [if_pos (by first|assumption|omega)]|rw [if_neg (by first|assumption|omega)]));rfl
  ·try simp only [sx] at c2
   refine A O<|L O<|G O<|R<|zC O (fun c3=>?_) (fun c3=>?_)
   ·try simp only [sx] at c3
    refine A O<|G O<|R<|zF<|v (B O)<|congrArg vS (?_:_=modeS r)
    unfold modeS
    first|(exfalso;omega)|rfl|(simp [*];done)|(simp [*];rfl)|(repeat (first|rw [if_pos (by first|assumption|omega)]|rw [if_neg (by first|assumption|omega)]));rfl
   ·try simp only [sx] at c3
    refine zI<|A O<|G O<|R<|zF<|v (B O)<|congrArg vS (?_:_=modeS r)
    unfold modeS
    first|(exfalso;omega)|rfl|(simp [*];done)|(simp [*];rfl)|(repeat (first|rw [if_pos (by first|assumption|omega)]|rw [if_neg (by first|assumption|omega)]));rfl
theorem r15_mode (r:Int):
    Pur cfg 102 [vI r] (vS (modeS r)):=by
 refine zS Tryz.func102 O Tryz.ntmps102 Tryz.results102 O ?_
 intro z hz
 refine A O<|G O<|R<|zK<|A O<|G O<|R<|zR<|A O<|L O<|G O<|R<|zC O (fun c1=>?_) (fun c1=>?_)
 ·try simp only [sx] at c1
  refine A O<|G O<|R<|zF<|v (B O)<|congrArg vS (?_:_=modeS r)
  unfold modeS
  first|(exfalso;omega)|rfl|(simp [*];done)|(simp [*];rfl)|(repeat (first|rw [if_pos (by first|assumption|omega)]|rw [if_neg (by first|assumption|omega)]));rfl
 ·try simp only [sx] at c1
  refine A O<|L O<|G O<|R<|zC O (fun c2=>?_) (fun c2=>?_)
  ·try simp only [sx] at c2
   refine A O<|G O<|R<|zF<|v (B O)<|congrArg vS (?_:_=modeS r)
   unfold modeS
   first|(exfalso;omega)|rfl|(simp [*];done)|(simp [*];rfl)|(repeat (first|rw [if_pos (by first|assumption|omega)]|rw [if_neg (by first|assumption|omega)]));rfl
  ·try simp only [sx] at c2
   refine A O<|L O<|G O<|R<|zC O (fun c3=>?_) (fun c3=>?_)
   ·try simp only [sx] at c3
    refine A O<|G O<|R<|zF<|v (B O)<|congrArg vS (?_:_=modeS r)
    unfold modeS
    first|(exfalso;omega)|rfl|(simp [*];done)|(simp [*];rfl)|(repeat (first|rw [if_pos (by first|assumption|omega)]|rw [if_neg (by first|assumption|omega)]));rfl
   ·try simp only [sx] at c3
    refine zI<|A O<|G O<|R<|zF<|v (B O)<|congrArg vS (?_:_=modeS r)
    unfold modeS
    first|(exfalso;omega)|rfl|(simp [*];done)|(simp [*];rfl)|(repeat (first|rw [if_pos (by first|assumption|omega)]|rw [if_neg (by first|assumption|omega)]));rfl
theorem r30_use (r:Int):
    Pur cfg 55 [vI r] (vS (useS r)):=by
 refine zS Tryz.func55 O Tryz.ntmps55 Tryz.results55 O ?_
 intro z hz
 refine A O<|G O<|R<|zK<|A O<|G O<|R<|zR<|A O<|L O<|G O<|R<|zC O (fun c1=>?_) (fun c1=>?_)
 ·try simp only [sx] at c1
  refine A O<|G O<|R<|zF<|v (B O)<|congrArg vS (?_:_=useS r)
  unfold useS
  first|(exfalso;omega)|rfl|(simp [*];done)|(simp [*];rfl)|(repeat (first|rw [if_pos (by first|assumption|omega)]|rw [if_neg (by first|assumption|omega)]));rfl
 ·try simp only [sx] at c1
  refine A O<|L O<|G O<|R<|zC O (fun c2=>?_) (fun c2=>?_)
  ·try simp only [sx] at c2
   refine A O<|G O<|R<|zF<|v (B O)<|congrArg vS (?_:_=useS r)
   unfold useS
   first|(exfalso;omega)|rfl|(simp [*];done)|(simp [*];rfl)|(repeat (first|rw [if_pos (by first|assumption|omega)]|rw [if_neg (by first|assumption|omega)]));rfl
  ·try simp only [sx] at c2
   refine zI<|A O<|G O<|R<|zF<|v (B O)<|congrArg vS (?_:_=useS r)
   unfold useS
   first|(exfalso;omega)|rfl|(simp [*];done)|(simp [*];rfl)|(repeat (first|rw [if_pos (by first|assumption|omega)]|rw [if_neg (by first|assumption|omega)]));rfl
theorem r30_mark (r:Int):
    Pur cfg 103 [vI r] (vS (markS r)):=by
 refine zS Tryz.func103 O Tryz.ntmps103 Tryz.results103 O ?_
 intro z hz
 refine A O<|G O<|R<|zK<|A O<|G O<|R<|zR<|A O<|L O<|G O<|R<|zC O (fun c1=>?_) (fun c1=>?_)
 ·try simp only [sx] at c1
  refine A O<|G O<|R<|zF<|v (B O)<|congrArg vS (?_:_=markS r)
  unfold markS
  first|(exfalso;omega)|rfl|(simp [*];done)|(simp [*];rfl)|(repeat (first|rw [if_pos (by first|assumption|omega)]|rw [if_neg (by first|assumption|omega)]));rfl
 ·try simp only [sx] at c1
  refine A O<|L O<|G O<|R<|zC O (fun c2=>?_) (fun c2=>?_)
  ·try simp only [sx] at c2
   refine A O<|G O<|R<|zF<|v (B O)<|congrArg vS (?_:_=markS r)
   unfold markS
   first|(exfalso;omega)|rfl|(simp [*];done)|(simp [*];rfl)|(repeat (first|rw [if_pos (by first|assumption|omega)]|rw [if_neg (by first|assumption|omega)]));rfl
  ·try simp only [sx] at c2
   refine A O<|L O<|G O<|R<|zC O (fun c3=>?_) (fun c3=>?_)
   ·try simp only [sx] at c3
    refine A O<|G O<|R<|zF<|v (B O)<|congrArg vS (?_:_=markS r)
    unfold markS
    first|(exfalso;omega)|rfl|(simp [*];done)|(simp [*];rfl)|(repeat (first|rw [if_pos (by first|assumption|omega)]|rw [if_neg (by first|assumption|omega)]));rfl
   ·try simp only [sx] at c3
    refine zI<|A O<|G O<|R<|zF<|v (B O)<|congrArg vS (?_:_=markS r)
    unfold markS
    first|(exfalso;omega)|rfl|(simp [*];done)|(simp [*];rfl)|(repeat (first|rw [if_pos (by first|assumption|omega)]|rw [if_neg (by first|assumption|omega)]));rfl
theorem zKh (r:Int):
    Pur cfg 210 [vI r] (vI (precI r)):=by
 refine zS Tryz.func210 O Tryz.ntmps210 Tryz.results210 O ?_
 intro z hz
 refine A O<|G O<|R<|zK<|A O<|G O<|R<|zR<|A O<|L O<|G O<|R<|zC O (fun c1=>?_) (fun c1=>?_)
 ·try simp only [sx] at c1
  refine A O<|G O<|R<|zF<|v (B O)<|congrArg vI (?_:_=precI r)
  unfold precI
  first|(exfalso;omega)|rfl|(simp [*];done)|(simp [*];rfl)|(repeat (first|rw [if_pos (by first|assumption|omega)]|rw [if_neg (by first|assumption|omega)]));rfl
 ·try simp only [sx] at c1
  refine A O<|L O<|G O<|R<|zC O (fun c2=>?_) (fun c2=>?_)
  ·try simp only [sx] at c2
   refine A O<|G O<|R<|zF<|v (B O)<|congrArg vI (?_:_=precI r)
   unfold precI
   first|(exfalso;omega)|rfl|(simp [*];done)|(simp [*];rfl)|(repeat (first|rw [if_pos (by first|assumption|omega)]|rw [if_neg (by first|assumption|omega)]));rfl
  ·try simp only [sx] at c2
   refine A O<|L O<|G O<|R<|zC O (fun c3=>?_) (fun c3=>?_)
   ·try simp only [sx] at c3
    refine A O<|G O<|R<|zF<|v (B O)<|congrArg vI (?_:_=precI r)
    unfold precI
    first|(exfalso;omega)|rfl|(simp [*];done)|(simp [*];rfl)|(repeat (first|rw [if_pos (by first|assumption|omega)]|rw [if_neg (by first|assumption|omega)]));rfl
   ·try simp only [sx] at c3
    refine zK<|A O<|L O<|G O<|R<|zC O (fun c4=>?_) (fun c4=>?_)
    ·try simp only [sx] at c4
     refine zI<|zC O (fun c6=>?_) (fun c6=>?_)
     ·try simp only [sx] at c6
      refine A O<|G O<|R<|zF<|v (B O)<|congrArg vI (?_:_=precI r)
      unfold precI
      first|(exfalso;omega)|rfl|(simp [*];done)|(simp [*];rfl)|(repeat (first|rw [if_pos (by first|assumption|omega)]|rw [if_neg (by first|assumption|omega)]));rfl
     ·try simp only [sx] at c6
      refine zK<|A O<|L O<|G O<|R<|zC O (fun c7=>?_) (fun c7=>?_)
      ·try simp only [sx] at c7
       refine zI<|zC O (fun c8=>?_) (fun c8=>?_)
       ·try simp only [sx] at c8
        refine A O<|G O<|R<|zF<|v (B O)<|congrArg vI (?_:_=precI r)
        unfold precI
        first|(exfalso;omega)|rfl|(simp [*];done)|(simp [*];rfl)|(repeat (first|rw [if_pos (by first|assumption|omega)]|rw [if_neg (by first|assumption|omega)]));rfl
       ·try simp only [sx] at c8
        refine zK<|A O<|L O<|G O<|R<|zC O (fun c9=>?_) (fun c9=>?_)
        ·try simp only [sx] at c9
         refine zI<|zC O (fun c10=>?_) (fun c10=>?_)
         ·try simp only [sx] at c10
          refine A O<|G O<|R<|zF<|v (B O)<|congrArg vI (?_:_=precI r)
          unfold precI
          first|(exfalso;omega)|rfl|(simp [*];done)|(simp [*];rfl)|(repeat (first|rw [if_pos (by first|assumption|omega)]|rw [if_neg (by first|assumption|omega)]));rfl
         ·try simp only [sx] at c10
          refine A O<|L O<|G O<|R<|zC O (fun c11=>?_) (fun c11=>?_)
          ·try simp only [sx] at c11
           refine A O<|G O<|R<|zF<|v (B O)<|congrArg vI (?_:_=precI r)
           unfold precI
           first|(exfalso;omega)|rfl|(simp [*];done)|(simp [*];rfl)|(repeat (first|rw [if_pos (by first|assumption|omega)]|rw [if_neg (by first|assumption|omega)]));rfl
          ·try simp only [sx] at c11
           refine zI<|A O<|G O<|R<|zF<|v (B O)<|congrArg vI (?_:_=precI r)
           unfold precI
           first|(exfalso;omega)|rfl|(simp [*];done)|(simp [*];rfl)|(repeat (first|rw [if_pos (by first|assumption|omega)]|rw [if_neg (by first|assumption|omega)]));rfl
        ·try simp only [sx] at c9
         refine zN O<|L O<|G O<|R<|zC O (fun c10=>?_) (fun c10=>?_)
         ·try simp only [sx] at c10
          refine A O<|G O<|R<|zF<|v (B O)<|congrArg vI (?_:_=precI r)
          unfold precI
          first|(exfalso;omega)|rfl|(simp [*];done)|(simp [*];rfl)|(repeat (first|rw [if_pos (by first|assumption|omega)]|rw [if_neg (by first|assumption|omega)]));rfl
         ·try simp only [sx] at c10
          refine A O<|L O<|G O<|R<|zC O (fun c11=>?_) (fun c11=>?_)
          ·try simp only [sx] at c11
           refine A O<|G O<|R<|zF<|v (B O)<|congrArg vI (?_:_=precI r)
           unfold precI
           first|(exfalso;omega)|rfl|(simp [*];done)|(simp [*];rfl)|(repeat (first|rw [if_pos (by first|assumption|omega)]|rw [if_neg (by first|assumption|omega)]));rfl
          ·try simp only [sx] at c11
           refine zI<|A O<|G O<|R<|zF<|v (B O)<|congrArg vI (?_:_=precI r)
           unfold precI
           first|(exfalso;omega)|rfl|(simp [*];done)|(simp [*];rfl)|(repeat (first|rw [if_pos (by first|assumption|omega)]|rw [if_neg (by first|assumption|omega)]));rfl
      ·try simp only [sx] at c7
       refine zN O<|L O<|G O<|R<|zC O (fun c8=>?_) (fun c8=>?_)
       ·try simp only [sx] at c8
        refine A O<|G O<|R<|zF<|v (B O)<|congrArg vI (?_:_=precI r)
        unfold precI
        first|(exfalso;omega)|rfl|(simp [*];done)|(simp [*];rfl)|(repeat (first|rw [if_pos (by first|assumption|omega)]|rw [if_neg (by first|assumption|omega)]));rfl
       ·try simp only [sx] at c8
        refine zK<|A O<|L O<|G O<|R<|zC O (fun c9=>?_) (fun c9=>?_)
        ·try simp only [sx] at c9
         refine zI<|zC O (fun c10=>?_) (fun c10=>?_)
         ·try simp only [sx] at c10
          refine A O<|G O<|R<|zF<|v (B O)<|congrArg vI (?_:_=precI r)
          unfold precI
          first|(exfalso;omega)|rfl|(simp [*];done)|(simp [*];rfl)|(repeat (first|rw [if_pos (by first|assumption|omega)]|rw [if_neg (by first|assumption|omega)]));rfl
         ·try simp only [sx] at c10
          refine A O<|L O<|G O<|R<|zC O (fun c11=>?_) (fun c11=>?_)
          ·try simp only [sx] at c11
           refine A O<|G O<|R<|zF<|v (B O)<|congrArg vI (?_:_=precI r)
           unfold precI
           first|(exfalso;omega)|rfl|(simp [*];done)|(simp [*];rfl)|(repeat (first|rw [if_pos (by first|assumption|omega)]|rw [if_neg (by first|assumption|omega)]));rfl
          ·try simp only [sx] at c11
           refine zI<|A O<|G O<|R<|zF<|v (B O)<|congrArg vI (?_:_=precI r)
           unfold precI
           first|(exfalso;omega)|rfl|(simp [*];done)|(simp [*];rfl)|(repeat (first|rw [if_pos (by first|assumption|omega)]|rw [if_neg (by first|assumption|omega)]));rfl
        ·try simp only [sx] at c9
         refine zN O<|L O<|G O<|R<|zC O (fun c10=>?_) (fun c10=>?_)
         ·try simp only [sx] at c10
          refine A O<|G O<|R<|zF<|v (B O)<|congrArg vI (?_:_=precI r)
          unfold precI
          first|(exfalso;omega)|rfl|(simp [*];done)|(simp [*];rfl)|(repeat (first|rw [if_pos (by first|assumption|omega)]|rw [if_neg (by first|assumption|omega)]));rfl
         ·try simp only [sx] at c10
          refine A O<|L O<|G O<|R<|zC O (fun c11=>?_) (fun c11=>?_)
          ·try simp only [sx] at c11
           refine A O<|G O<|R<|zF<|v (B O)<|congrArg vI (?_:_=precI r)
           unfold precI
           first|(exfalso;omega)|rfl|(simp [*];done)|(simp [*];rfl)|(repeat (first|rw [if_pos (by first|assumption|omega)]|rw [if_neg (by first|assumption|omega)]));rfl
          ·try simp only [sx] at c11
           refine zI<|A O<|G O<|R<|zF<|v (B O)<|congrArg vI (?_:_=precI r)
           unfold precI
           first|(exfalso;omega)|rfl|(simp [*];done)|(simp [*];rfl)|(repeat (first|rw [if_pos (by first|assumption|omega)]|rw [if_neg (by first|assumption|omega)]));rfl
    ·try simp only [sx] at c4
     refine A O<|L O<|G O<|R<|zC O (fun c5=>?_) (fun c5=>?_)
     ·try simp only [sx] at c5
      refine zI<|zC O (fun c6=>?_) (fun c6=>?_)
      ·try simp only [sx] at c6
       refine A O<|G O<|R<|zF<|v (B O)<|congrArg vI (?_:_=precI r)
       unfold precI
       first|(exfalso;omega)|rfl|(simp [*];done)|(simp [*];rfl)|(repeat (first|rw [if_pos (by first|assumption|omega)]|rw [if_neg (by first|assumption|omega)]));rfl
      ·try simp only [sx] at c6
       refine zK<|A O<|L O<|G O<|R<|zC O (fun c7=>?_) (fun c7=>?_)
       ·try simp only [sx] at c7
        refine zI<|zC O (fun c8=>?_) (fun c8=>?_)
        ·try simp only [sx] at c8
         refine A O<|G O<|R<|zF<|v (B O)<|congrArg vI (?_:_=precI r)
         unfold precI
         first|(exfalso;omega)|rfl|(simp [*];done)|(simp [*];rfl)|(repeat (first|rw [if_pos (by first|assumption|omega)]|rw [if_neg (by first|assumption|omega)]));rfl
        ·try simp only [sx] at c8
         refine zK<|A O<|L O<|G O<|R<|zC O (fun c9=>?_) (fun c9=>?_)
         ·try simp only [sx] at c9
          refine zI<|zC O (fun c10=>?_) (fun c10=>?_)
          ·try simp only [sx] at c10
           refine A O<|G O<|R<|zF<|v (B O)<|congrArg vI (?_:_=precI r)
           unfold precI
           first|(exfalso;omega)|rfl|(simp [*];done)|(simp [*];rfl)|(repeat (first|rw [if_pos (by first|assumption|omega)]|rw [if_neg (by first|assumption|omega)]));rfl
          ·try simp only [sx] at c10
           refine A O<|L O<|G O<|R<|zC O (fun c11=>?_) (fun c11=>?_)
           ·try simp only [sx] at c11
            refine A O<|G O<|R<|zF<|v (B O)<|congrArg vI (?_:_=precI r)
            unfold precI
            first|(exfalso;omega)|rfl|(simp [*];done)|(simp [*];rfl)|(repeat (first|rw [if_pos (by first|assumption|omega)]|rw [if_neg (by first|assumption|omega)]));rfl
           ·try simp only [sx] at c11
            refine zI<|A O<|G O<|R<|zF<|v (B O)<|congrArg vI (?_:_=precI r)
            unfold precI
            first|(exfalso;omega)|rfl|(simp [*];done)|(simp [*];rfl)|(repeat (first|rw [if_pos (by first|assumption|omega)]|rw [if_neg (by first|assumption|omega)]));rfl
         ·try simp only [sx] at c9
          refine zN O<|L O<|G O<|R<|zC O (fun c10=>?_) (fun c10=>?_)
          ·try simp only [sx] at c10
           refine A O<|G O<|R<|zF<|v (B O)<|congrArg vI (?_:_=precI r)
           unfold precI
           first|(exfalso;omega)|rfl|(simp [*];done)|(simp [*];rfl)|(repeat (first|rw [if_pos (by first|assumption|omega)]|rw [if_neg (by first|assumption|omega)]));rfl
          ·try simp only [sx] at c10
           refine A O<|L O<|G O<|R<|zC O (fun c11=>?_) (fun c11=>?_)
           ·try simp only [sx] at c11
            refine A O<|G O<|R<|zF<|v (B O)<|congrArg vI (?_:_=precI r)
            unfold precI
            first|(exfalso;omega)|rfl|(simp [*];done)|(simp [*];rfl)|(repeat (first|rw [if_pos (by first|assumption|omega)]|rw [if_neg (by first|assumption|omega)]));rfl
           ·try simp only [sx] at c11
            refine zI<|A O<|G O<|R<|zF<|v (B O)<|congrArg vI (?_:_=precI r)
            unfold precI
            first|(exfalso;omega)|rfl|(simp [*];done)|(simp [*];rfl)|(repeat (first|rw [if_pos (by first|assumption|omega)]|rw [if_neg (by first|assumption|omega)]));rfl
       ·try simp only [sx] at c7
        refine zN O<|L O<|G O<|R<|zC O (fun c8=>?_) (fun c8=>?_)
        ·try simp only [sx] at c8
         refine A O<|G O<|R<|zF<|v (B O)<|congrArg vI (?_:_=precI r)
         unfold precI
         first|(exfalso;omega)|rfl|(simp [*];done)|(simp [*];rfl)|(repeat (first|rw [if_pos (by first|assumption|omega)]|rw [if_neg (by first|assumption|omega)]));rfl
        ·try simp only [sx] at c8
         refine zK<|A O<|L O<|G O<|R<|zC O (fun c9=>?_) (fun c9=>?_)
         ·try simp only [sx] at c9
          refine zI<|zC O (fun c10=>?_) (fun c10=>?_)
          ·try simp only [sx] at c10
           refine A O<|G O<|R<|zF<|v (B O)<|congrArg vI (?_:_=precI r)
           unfold precI
           first|(exfalso;omega)|rfl|(simp [*];done)|(simp [*];rfl)|(repeat (first|rw [if_pos (by first|assumption|omega)]|rw [if_neg (by first|assumption|omega)]));rfl
          ·try simp only [sx] at c10
           refine A O<|L O<|G O<|R<|zC O (fun c11=>?_) (fun c11=>?_)
           ·try simp only [sx] at c11
            refine A O<|G O<|R<|zF<|v (B O)<|congrArg vI (?_:_=precI r)
            unfold precI
            first|(exfalso;omega)|rfl|(simp [*];done)|(simp [*];rfl)|(repeat (first|rw [if_pos (by first|assumption|omega)]|rw [if_neg (by first|assumption|omega)]));rfl
           ·try simp only [sx] at c11
            refine zI<|A O<|G O<|R<|zF<|v (B O)<|congrArg vI (?_:_=precI r)
            unfold precI
            first|(exfalso;omega)|rfl|(simp [*];done)|(simp [*];rfl)|(repeat (first|rw [if_pos (by first|assumption|omega)]|rw [if_neg (by first|assumption|omega)]));rfl
         ·try simp only [sx] at c9
          refine zN O<|L O<|G O<|R<|zC O (fun c10=>?_) (fun c10=>?_)
          ·try simp only [sx] at c10
           refine A O<|G O<|R<|zF<|v (B O)<|congrArg vI (?_:_=precI r)
           unfold precI
           first|(exfalso;omega)|rfl|(simp [*];done)|(simp [*];rfl)|(repeat (first|rw [if_pos (by first|assumption|omega)]|rw [if_neg (by first|assumption|omega)]));rfl
          ·try simp only [sx] at c10
           refine A O<|L O<|G O<|R<|zC O (fun c11=>?_) (fun c11=>?_)
           ·try simp only [sx] at c11
            refine A O<|G O<|R<|zF<|v (B O)<|congrArg vI (?_:_=precI r)
            unfold precI
            first|(exfalso;omega)|rfl|(simp [*];done)|(simp [*];rfl)|(repeat (first|rw [if_pos (by first|assumption|omega)]|rw [if_neg (by first|assumption|omega)]));rfl
           ·try simp only [sx] at c11
            refine zI<|A O<|G O<|R<|zF<|v (B O)<|congrArg vI (?_:_=precI r)
            unfold precI
            first|(exfalso;omega)|rfl|(simp [*];done)|(simp [*];rfl)|(repeat (first|rw [if_pos (by first|assumption|omega)]|rw [if_neg (by first|assumption|omega)]));rfl
     ·try simp only [sx] at c5
      refine zN O<|L O<|G O<|R<|zC O (fun c6=>?_) (fun c6=>?_)
      ·try simp only [sx] at c6
       refine A O<|G O<|R<|zF<|v (B O)<|congrArg vI (?_:_=precI r)
       unfold precI
       first|(exfalso;omega)|rfl|(simp [*];done)|(simp [*];rfl)|(repeat (first|rw [if_pos (by first|assumption|omega)]|rw [if_neg (by first|assumption|omega)]));rfl
      ·try simp only [sx] at c6
       refine zK<|A O<|L O<|G O<|R<|zC O (fun c7=>?_) (fun c7=>?_)
       ·try simp only [sx] at c7
        refine zI<|zC O (fun c8=>?_) (fun c8=>?_)
        ·try simp only [sx] at c8
         refine A O<|G O<|R<|zF<|v (B O)<|congrArg vI (?_:_=precI r)
         unfold precI
         first|(exfalso;omega)|rfl|(simp [*];done)|(simp [*];rfl)|(repeat (first|rw [if_pos (by first|assumption|omega)]|rw [if_neg (by first|assumption|omega)]));rfl
        ·try simp only [sx] at c8
         refine zK<|A O<|L O<|G O<|R<|zC O (fun c9=>?_) (fun c9=>?_)
         ·try simp only [sx] at c9
          refine zI<|zC O (fun c10=>?_) (fun c10=>?_)
          ·try simp only [sx] at c10
           refine A O<|G O<|R<|zF<|v (B O)<|congrArg vI (?_:_=precI r)
           unfold precI
           first|(exfalso;omega)|rfl|(simp [*];done)|(simp [*];rfl)|(repeat (first|rw [if_pos (by first|assumption|omega)]|rw [if_neg (by first|assumption|omega)]));rfl
          ·try simp only [sx] at c10
           refine A O<|L O<|G O<|R<|zC O (fun c11=>?_) (fun c11=>?_)
           ·try simp only [sx] at c11
            refine A O<|G O<|R<|zF<|v (B O)<|congrArg vI (?_:_=precI r)
            unfold precI
            first|(exfalso;omega)|rfl|(simp [*];done)|(simp [*];rfl)|(repeat (first|rw [if_pos (by first|assumption|omega)]|rw [if_neg (by first|assumption|omega)]));rfl
           ·try simp only [sx] at c11
            refine zI<|A O<|G O<|R<|zF<|v (B O)<|congrArg vI (?_:_=precI r)
            unfold precI
            first|(exfalso;omega)|rfl|(simp [*];done)|(simp [*];rfl)|(repeat (first|rw [if_pos (by first|assumption|omega)]|rw [if_neg (by first|assumption|omega)]));rfl
         ·try simp only [sx] at c9
          refine zN O<|L O<|G O<|R<|zC O (fun c10=>?_) (fun c10=>?_)
          ·try simp only [sx] at c10
           refine A O<|G O<|R<|zF<|v (B O)<|congrArg vI (?_:_=precI r)
           unfold precI
           first|(exfalso;omega)|rfl|(simp [*];done)|(simp [*];rfl)|(repeat (first|rw [if_pos (by first|assumption|omega)]|rw [if_neg (by first|assumption|omega)]));rfl
          ·try simp only [sx] at c10
           refine A O<|L O<|G O<|R<|zC O (fun c11=>?_) (fun c11=>?_)
           ·try simp only [sx] at c11
            refine A O<|G O<|R<|zF<|v (B O)<|congrArg vI (?_:_=precI r)
            unfold precI
            first|(exfalso;omega)|rfl|(simp [*];done)|(simp [*];rfl)|(repeat (first|rw [if_pos (by first|assumption|omega)]|rw [if_neg (by first|assumption|omega)]));rfl
           ·try simp only [sx] at c11
            refine zI<|A O<|G O<|R<|zF<|v (B O)<|congrArg vI (?_:_=precI r)
            unfold precI
            first|(exfalso;omega)|rfl|(simp [*];done)|(simp [*];rfl)|(repeat (first|rw [if_pos (by first|assumption|omega)]|rw [if_neg (by first|assumption|omega)]));rfl
       ·try simp only [sx] at c7
        refine zN O<|L O<|G O<|R<|zC O (fun c8=>?_) (fun c8=>?_)
        ·try simp only [sx] at c8
         refine A O<|G O<|R<|zF<|v (B O)<|congrArg vI (?_:_=precI r)
         unfold precI
         first|(exfalso;omega)|rfl|(simp [*];done)|(simp [*];rfl)|(repeat (first|rw [if_pos (by first|assumption|omega)]|rw [if_neg (by first|assumption|omega)]));rfl
        ·try simp only [sx] at c8
         refine zK<|A O<|L O<|G O<|R<|zC O (fun c9=>?_) (fun c9=>?_)
         ·try simp only [sx] at c9
          refine zI<|zC O (fun c10=>?_) (fun c10=>?_)
          ·try simp only [sx] at c10
           refine A O<|G O<|R<|zF<|v (B O)<|congrArg vI (?_:_=precI r)
           unfold precI
           first|(exfalso;omega)|rfl|(simp [*];done)|(simp [*];rfl)|(repeat (first|rw [if_pos (by first|assumption|omega)]|rw [if_neg (by first|assumption|omega)]));rfl
          ·try simp only [sx] at c10
           refine A O<|L O<|G O<|R<|zC O (fun c11=>?_) (fun c11=>?_)
           ·try simp only [sx] at c11
            refine A O<|G O<|R<|zF<|v (B O)<|congrArg vI (?_:_=precI r)
            unfold precI
            first|(exfalso;omega)|rfl|(simp [*];done)|(simp [*];rfl)|(repeat (first|rw [if_pos (by first|assumption|omega)]|rw [if_neg (by first|assumption|omega)]));rfl
           ·try simp only [sx] at c11
            refine zI<|A O<|G O<|R<|zF<|v (B O)<|congrArg vI (?_:_=precI r)
            unfold precI
            first|(exfalso;omega)|rfl|(simp [*];done)|(simp [*];rfl)|(repeat (first|rw [if_pos (by first|assumption|omega)]|rw [if_neg (by first|assumption|omega)]));rfl
         ·try simp only [sx] at c9
          refine zN O<|L O<|G O<|R<|zC O (fun c10=>?_) (fun c10=>?_)
          ·try simp only [sx] at c10
           refine A O<|G O<|R<|zF<|v (B O)<|congrArg vI (?_:_=precI r)
           unfold precI
           first|(exfalso;omega)|rfl|(simp [*];done)|(simp [*];rfl)|(repeat (first|rw [if_pos (by first|assumption|omega)]|rw [if_neg (by first|assumption|omega)]));rfl
          ·try simp only [sx] at c10
           refine A O<|L O<|G O<|R<|zC O (fun c11=>?_) (fun c11=>?_)
           ·try simp only [sx] at c11
            refine A O<|G O<|R<|zF<|v (B O)<|congrArg vI (?_:_=precI r)
            unfold precI
            first|(exfalso;omega)|rfl|(simp [*];done)|(simp [*];rfl)|(repeat (first|rw [if_pos (by first|assumption|omega)]|rw [if_neg (by first|assumption|omega)]));rfl
           ·try simp only [sx] at c11
            refine zI<|A O<|G O<|R<|zF<|v (B O)<|congrArg vI (?_:_=precI r)
            unfold precI
            first|(exfalso;omega)|rfl|(simp [*];done)|(simp [*];rfl)|(repeat (first|rw [if_pos (by first|assumption|omega)]|rw [if_neg (by first|assumption|omega)]));rfl
theorem zRm (r:Int):
    Pur cfg 223 [vI r] (vI (precI r)):=by
 refine zS Tryz.func223 O Tryz.ntmps223 Tryz.results223 O ?_
 intro z hz
 refine A O<|G O<|R<|zK<|A O<|G O<|R<|zR<|A O<|L O<|G O<|R<|zC O (fun c1=>?_) (fun c1=>?_)
 ·try simp only [sx] at c1
  refine A O<|G O<|R<|zF<|v (B O)<|congrArg vI (?_:_=precI r)
  unfold precI
  first|(exfalso;omega)|rfl|(simp [*];done)|(simp [*];rfl)|(repeat (first|rw [if_pos (by first|assumption|omega)]|rw [if_neg (by first|assumption|omega)]));rfl
 ·try simp only [sx] at c1
  refine A O<|L O<|G O<|R<|zC O (fun c2=>?_) (fun c2=>?_)
  ·try simp only [sx] at c2
   refine A O<|G O<|R<|zF<|v (B O)<|congrArg vI (?_:_=precI r)
   unfold precI
   first|(exfalso;omega)|rfl|(simp [*];done)|(simp [*];rfl)|(repeat (first|rw [if_pos (by first|assumption|omega)]|rw [if_neg (by first|assumption|omega)]));rfl
  ·try simp only [sx] at c2
   refine A O<|L O<|G O<|R<|zC O (fun c3=>?_) (fun c3=>?_)
   ·try simp only [sx] at c3
    refine A O<|G O<|R<|zF<|v (B O)<|congrArg vI (?_:_=precI r)
    unfold precI
    first|(exfalso;omega)|rfl|(simp [*];done)|(simp [*];rfl)|(repeat (first|rw [if_pos (by first|assumption|omega)]|rw [if_neg (by first|assumption|omega)]));rfl
   ·try simp only [sx] at c3
    refine zK<|A O<|L O<|G O<|R<|zC O (fun c4=>?_) (fun c4=>?_)
    ·try simp only [sx] at c4
     refine zI<|zC O (fun c6=>?_) (fun c6=>?_)
     ·try simp only [sx] at c6
      refine A O<|G O<|R<|zF<|v (B O)<|congrArg vI (?_:_=precI r)
      unfold precI
      first|(exfalso;omega)|rfl|(simp [*];done)|(simp [*];rfl)|(repeat (first|rw [if_pos (by first|assumption|omega)]|rw [if_neg (by first|assumption|omega)]));rfl
     ·try simp only [sx] at c6
      refine zK<|A O<|L O<|G O<|R<|zC O (fun c7=>?_) (fun c7=>?_)
      ·try simp only [sx] at c7
       refine zI<|zC O (fun c8=>?_) (fun c8=>?_)
       ·try simp only [sx] at c8
        refine A O<|G O<|R<|zF<|v (B O)<|congrArg vI (?_:_=precI r)
        unfold precI
        first|(exfalso;omega)|rfl|(simp [*];done)|(simp [*];rfl)|(repeat (first|rw [if_pos (by first|assumption|omega)]|rw [if_neg (by first|assumption|omega)]));rfl
       ·try simp only [sx] at c8
        refine zK<|A O<|L O<|G O<|R<|zC O (fun c9=>?_) (fun c9=>?_)
        ·try simp only [sx] at c9
         refine zI<|zC O (fun c10=>?_) (fun c10=>?_)
         ·try simp only [sx] at c10
          refine A O<|G O<|R<|zF<|v (B O)<|congrArg vI (?_:_=precI r)
          unfold precI
          first|(exfalso;omega)|rfl|(simp [*];done)|(simp [*];rfl)|(repeat (first|rw [if_pos (by first|assumption|omega)]|rw [if_neg (by first|assumption|omega)]));rfl
         ·try simp only [sx] at c10
          refine A O<|L O<|G O<|R<|zC O (fun c11=>?_) (fun c11=>?_)
          ·try simp only [sx] at c11
           refine A O<|G O<|R<|zF<|v (B O)<|congrArg vI (?_:_=precI r)
           unfold precI
           first|(exfalso;omega)|rfl|(simp [*];done)|(simp [*];rfl)|(repeat (first|rw [if_pos (by first|assumption|omega)]|rw [if_neg (by first|assumption|omega)]));rfl
          ·try simp only [sx] at c11
           refine zI<|A O<|G O<|R<|zF<|v (B O)<|congrArg vI (?_:_=precI r)
           unfold precI
           first|(exfalso;omega)|rfl|(simp [*];done)|(simp [*];rfl)|(repeat (first|rw [if_pos (by first|assumption|omega)]|rw [if_neg (by first|assumption|omega)]));rfl
        ·try simp only [sx] at c9
         refine zN O<|L O<|G O<|R<|zC O (fun c10=>?_) (fun c10=>?_)
         ·try simp only [sx] at c10
          refine A O<|G O<|R<|zF<|v (B O)<|congrArg vI (?_:_=precI r)
          unfold precI
          first|(exfalso;omega)|rfl|(simp [*];done)|(simp [*];rfl)|(repeat (first|rw [if_pos (by first|assumption|omega)]|rw [if_neg (by first|assumption|omega)]));rfl
         ·try simp only [sx] at c10
          refine A O<|L O<|G O<|R<|zC O (fun c11=>?_) (fun c11=>?_)
          ·try simp only [sx] at c11
           refine A O<|G O<|R<|zF<|v (B O)<|congrArg vI (?_:_=precI r)
           unfold precI
           first|(exfalso;omega)|rfl|(simp [*];done)|(simp [*];rfl)|(repeat (first|rw [if_pos (by first|assumption|omega)]|rw [if_neg (by first|assumption|omega)]));rfl
          ·try simp only [sx] at c11
           refine zI<|A O<|G O<|R<|zF<|v (B O)<|congrArg vI (?_:_=precI r)
           unfold precI
           first|(exfalso;omega)|rfl|(simp [*];done)|(simp [*];rfl)|(repeat (first|rw [if_pos (by first|assumption|omega)]|rw [if_neg (by first|assumption|omega)]));rfl
      ·try simp only [sx] at c7
       refine zN O<|L O<|G O<|R<|zC O (fun c8=>?_) (fun c8=>?_)
       ·try simp only [sx] at c8
        refine A O<|G O<|R<|zF<|v (B O)<|congrArg vI (?_:_=precI r)
        unfold precI
        first|(exfalso;omega)|rfl|(simp [*];done)|(simp [*];rfl)|(repeat (first|rw [if_pos (by first|assumption|omega)]|rw [if_neg (by first|assumption|omega)]));rfl
       ·try simp only [sx] at c8
        refine zK<|A O<|L O<|G O<|R<|zC O (fun c9=>?_) (fun c9=>?_)
        ·try simp only [sx] at c9
         refine zI<|zC O (fun c10=>?_) (fun c10=>?_)
         ·try simp only [sx] at c10
          refine A O<|G O<|R<|zF<|v (B O)<|congrArg vI (?_:_=precI r)
          unfold precI
          first|(exfalso;omega)|rfl|(simp [*];done)|(simp [*];rfl)|(repeat (first|rw [if_pos (by first|assumption|omega)]|rw [if_neg (by first|assumption|omega)]));rfl
         ·try simp only [sx] at c10
          refine A O<|L O<|G O<|R<|zC O (fun c11=>?_) (fun c11=>?_)
          ·try simp only [sx] at c11
           refine A O<|G O<|R<|zF<|v (B O)<|congrArg vI (?_:_=precI r)
           unfold precI
           first|(exfalso;omega)|rfl|(simp [*];done)|(simp [*];rfl)|(repeat (first|rw [if_pos (by first|assumption|omega)]|rw [if_neg (by first|assumption|omega)]));rfl
          ·try simp only [sx] at c11
           refine zI<|A O<|G O<|R<|zF<|v (B O)<|congrArg vI (?_:_=precI r)
           unfold precI
           first|(exfalso;omega)|rfl|(simp [*];done)|(simp [*];rfl)|(repeat (first|rw [if_pos (by first|assumption|omega)]|rw [if_neg (by first|assumption|omega)]));rfl
        ·try simp only [sx] at c9
         refine zN O<|L O<|G O<|R<|zC O (fun c10=>?_) (fun c10=>?_)
         ·try simp only [sx] at c10
          refine A O<|G O<|R<|zF<|v (B O)<|congrArg vI (?_:_=precI r)
          unfold precI
          first|(exfalso;omega)|rfl|(simp [*];done)|(simp [*];rfl)|(repeat (first|rw [if_pos (by first|assumption|omega)]|rw [if_neg (by first|assumption|omega)]));rfl
         ·try simp only [sx] at c10
          refine A O<|L O<|G O<|R<|zC O (fun c11=>?_) (fun c11=>?_)
          ·try simp only [sx] at c11
           refine A O<|G O<|R<|zF<|v (B O)<|congrArg vI (?_:_=precI r)
           unfold precI
           first|(exfalso;omega)|rfl|(simp [*];done)|(simp [*];rfl)|(repeat (first|rw [if_pos (by first|assumption|omega)]|rw [if_neg (by first|assumption|omega)]));rfl
          ·try simp only [sx] at c11
           refine zI<|A O<|G O<|R<|zF<|v (B O)<|congrArg vI (?_:_=precI r)
           unfold precI
           first|(exfalso;omega)|rfl|(simp [*];done)|(simp [*];rfl)|(repeat (first|rw [if_pos (by first|assumption|omega)]|rw [if_neg (by first|assumption|omega)]));rfl
    ·try simp only [sx] at c4
     refine A O<|L O<|G O<|R<|zC O (fun c5=>?_) (fun c5=>?_)
     ·try simp only [sx] at c5
      refine zI<|zC O (fun c6=>?_) (fun c6=>?_)
      ·try simp only [sx] at c6
       refine A O<|G O<|R<|zF<|v (B O)<|congrArg vI (?_:_=precI r)
       unfold precI
       first|(exfalso;omega)|rfl|(simp [*];done)|(simp [*];rfl)|(repeat (first|rw [if_pos (by first|assumption|omega)]|rw [if_neg (by first|assumption|omega)]));rfl
      ·try simp only [sx] at c6
       refine zK<|A O<|L O<|G O<|R<|zC O (fun c7=>?_) (fun c7=>?_)
       ·try simp only [sx] at c7
        refine zI<|zC O (fun c8=>?_) (fun c8=>?_)
        ·try simp only [sx] at c8
         refine A O<|G O<|R<|zF<|v (B O)<|congrArg vI (?_:_=precI r)
         unfold precI
         first|(exfalso;omega)|rfl|(simp [*];done)|(simp [*];rfl)|(repeat (first|rw [if_pos (by first|assumption|omega)]|rw [if_neg (by first|assumption|omega)]));rfl
        ·try simp only [sx] at c8
         refine zK<|A O<|L O<|G O<|R<|zC O (fun c9=>?_) (fun c9=>?_)
         ·try simp only [sx] at c9
          refine zI<|zC O (fun c10=>?_) (fun c10=>?_)
          ·try simp only [sx] at c10
           refine A O<|G O<|R<|zF<|v (B O)<|congrArg vI (?_:_=precI r)
           unfold precI
           first|(exfalso;omega)|rfl|(simp [*];done)|(simp [*];rfl)|(repeat (first|rw [if_pos (by first|assumption|omega)]|rw [if_neg (by first|assumption|omega)]));rfl
          ·try simp only [sx] at c10
           refine A O<|L O<|G O<|R<|zC O (fun c11=>?_) (fun c11=>?_)
           ·try simp only [sx] at c11
            refine A O<|G O<|R<|zF<|v (B O)<|congrArg vI (?_:_=precI r)
            unfold precI
            first|(exfalso;omega)|rfl|(simp [*];done)|(simp [*];rfl)|(repeat (first|rw [if_pos (by first|assumption|omega)]|rw [if_neg (by first|assumption|omega)]));rfl
           ·try simp only [sx] at c11
            refine zI<|A O<|G O<|R<|zF<|v (B O)<|congrArg vI (?_:_=precI r)
            unfold precI
            first|(exfalso;omega)|rfl|(simp [*];done)|(simp [*];rfl)|(repeat (first|rw [if_pos (by first|assumption|omega)]|rw [if_neg (by first|assumption|omega)]));rfl
         ·try simp only [sx] at c9
          refine zN O<|L O<|G O<|R<|zC O (fun c10=>?_) (fun c10=>?_)
          ·try simp only [sx] at c10
           refine A O<|G O<|R<|zF<|v (B O)<|congrArg vI (?_:_=precI r)
           unfold precI
           first|(exfalso;omega)|rfl|(simp [*];done)|(simp [*];rfl)|(repeat (first|rw [if_pos (by first|assumption|omega)]|rw [if_neg (by first|assumption|omega)]));rfl
          ·try simp only [sx] at c10
           refine A O<|L O<|G O<|R<|zC O (fun c11=>?_) (fun c11=>?_)
           ·try simp only [sx] at c11
            refine A O<|G O<|R<|zF<|v (B O)<|congrArg vI (?_:_=precI r)
            unfold precI
            first|(exfalso;omega)|rfl|(simp [*];done)|(simp [*];rfl)|(repeat (first|rw [if_pos (by first|assumption|omega)]|rw [if_neg (by first|assumption|omega)]));rfl
           ·try simp only [sx] at c11
            refine zI<|A O<|G O<|R<|zF<|v (B O)<|congrArg vI (?_:_=precI r)
            unfold precI
            first|(exfalso;omega)|rfl|(simp [*];done)|(simp [*];rfl)|(repeat (first|rw [if_pos (by first|assumption|omega)]|rw [if_neg (by first|assumption|omega)]));rfl
       ·try simp only [sx] at c7
        refine zN O<|L O<|G O<|R<|zC O (fun c8=>?_) (fun c8=>?_)
        ·try simp only [sx] at c8
         refine A O<|G O<|R<|zF<|v (B O)<|congrArg vI (?_:_=precI r)
         unfold precI
         first|(exfalso;omega)|rfl|(simp [*];done)|(simp [*];rfl)|(repeat (first|rw [if_pos (by first|assumption|omega)]|rw [if_neg (by first|assumption|omega)]));rfl
        ·try simp only [sx] at c8
         refine zK<|A O<|L O<|G O<|R<|zC O (fun c9=>?_) (fun c9=>?_)
         ·try simp only [sx] at c9
          refine zI<|zC O (fun c10=>?_) (fun c10=>?_)
          ·try simp only [sx] at c10
           refine A O<|G O<|R<|zF<|v (B O)<|congrArg vI (?_:_=precI r)
           unfold precI
           first|(exfalso;omega)|rfl|(simp [*];done)|(simp [*];rfl)|(repeat (first|rw [if_pos (by first|assumption|omega)]|rw [if_neg (by first|assumption|omega)]));rfl
          ·try simp only [sx] at c10
           refine A O<|L O<|G O<|R<|zC O (fun c11=>?_) (fun c11=>?_)
           ·try simp only [sx] at c11
            refine A O<|G O<|R<|zF<|v (B O)<|congrArg vI (?_:_=precI r)
            unfold precI
            first|(exfalso;omega)|rfl|(simp [*];done)|(simp [*];rfl)|(repeat (first|rw [if_pos (by first|assumption|omega)]|rw [if_neg (by first|assumption|omega)]));rfl
           ·try simp only [sx] at c11
            refine zI<|A O<|G O<|R<|zF<|v (B O)<|congrArg vI (?_:_=precI r)
            unfold precI
            first|(exfalso;omega)|rfl|(simp [*];done)|(simp [*];rfl)|(repeat (first|rw [if_pos (by first|assumption|omega)]|rw [if_neg (by first|assumption|omega)]));rfl
         ·try simp only [sx] at c9
          refine zN O<|L O<|G O<|R<|zC O (fun c10=>?_) (fun c10=>?_)
          ·try simp only [sx] at c10
           refine A O<|G O<|R<|zF<|v (B O)<|congrArg vI (?_:_=precI r)
           unfold precI
           first|(exfalso;omega)|rfl|(simp [*];done)|(simp [*];rfl)|(repeat (first|rw [if_pos (by first|assumption|omega)]|rw [if_neg (by first|assumption|omega)]));rfl
          ·try simp only [sx] at c10
           refine A O<|L O<|G O<|R<|zC O (fun c11=>?_) (fun c11=>?_)
           ·try simp only [sx] at c11
            refine A O<|G O<|R<|zF<|v (B O)<|congrArg vI (?_:_=precI r)
            unfold precI
            first|(exfalso;omega)|rfl|(simp [*];done)|(simp [*];rfl)|(repeat (first|rw [if_pos (by first|assumption|omega)]|rw [if_neg (by first|assumption|omega)]));rfl
           ·try simp only [sx] at c11
            refine zI<|A O<|G O<|R<|zF<|v (B O)<|congrArg vI (?_:_=precI r)
            unfold precI
            first|(exfalso;omega)|rfl|(simp [*];done)|(simp [*];rfl)|(repeat (first|rw [if_pos (by first|assumption|omega)]|rw [if_neg (by first|assumption|omega)]));rfl
     ·try simp only [sx] at c5
      refine zN O<|L O<|G O<|R<|zC O (fun c6=>?_) (fun c6=>?_)
      ·try simp only [sx] at c6
       refine A O<|G O<|R<|zF<|v (B O)<|congrArg vI (?_:_=precI r)
       unfold precI
       first|(exfalso;omega)|rfl|(simp [*];done)|(simp [*];rfl)|(repeat (first|rw [if_pos (by first|assumption|omega)]|rw [if_neg (by first|assumption|omega)]));rfl
      ·try simp only [sx] at c6
       refine zK<|A O<|L O<|G O<|R<|zC O (fun c7=>?_) (fun c7=>?_)
       ·try simp only [sx] at c7
        refine zI<|zC O (fun c8=>?_) (fun c8=>?_)
        ·try simp only [sx] at c8
         refine A O<|G O<|R<|zF<|v (B O)<|congrArg vI (?_:_=precI r)
         unfold precI
         first|(exfalso;omega)|rfl|(simp [*];done)|(simp [*];rfl)|(repeat (first|rw [if_pos (by first|assumption|omega)]|rw [if_neg (by first|assumption|omega)]));rfl
        ·try simp only [sx] at c8
         refine zK<|A O<|L O<|G O<|R<|zC O (fun c9=>?_) (fun c9=>?_)
         ·try simp only [sx] at c9
          refine zI<|zC O (fun c10=>?_) (fun c10=>?_)
          ·try simp only [sx] at c10
           refine A O<|G O<|R<|zF<|v (B O)<|congrArg vI (?_:_=precI r)
           unfold precI
           first|(exfalso;omega)|rfl|(simp [*];done)|(simp [*];rfl)|(repeat (first|rw [if_pos (by first|assumption|omega)]|rw [if_neg (by first|assumption|omega)]));rfl
          ·try simp only [sx] at c10
           refine A O<|L O<|G O<|R<|zC O (fun c11=>?_) (fun c11=>?_)
           ·try simp only [sx] at c11
            refine A O<|G O<|R<|zF<|v (B O)<|congrArg vI (?_:_=precI r)
            unfold precI
            first|(exfalso;omega)|rfl|(simp [*];done)|(simp [*];rfl)|(repeat (first|rw [if_pos (by first|assumption|omega)]|rw [if_neg (by first|assumption|omega)]));rfl
           ·try simp only [sx] at c11
            refine zI<|A O<|G O<|R<|zF<|v (B O)<|congrArg vI (?_:_=precI r)
            unfold precI
            first|(exfalso;omega)|rfl|(simp [*];done)|(simp [*];rfl)|(repeat (first|rw [if_pos (by first|assumption|omega)]|rw [if_neg (by first|assumption|omega)]));rfl
         ·try simp only [sx] at c9
          refine zN O<|L O<|G O<|R<|zC O (fun c10=>?_) (fun c10=>?_)
          ·try simp only [sx] at c10
           refine A O<|G O<|R<|zF<|v (B O)<|congrArg vI (?_:_=precI r)
           unfold precI
           first|(exfalso;omega)|rfl|(simp [*];done)|(simp [*];rfl)|(repeat (first|rw [if_pos (by first|assumption|omega)]|rw [if_neg (by first|assumption|omega)]));rfl
          ·try simp only [sx] at c10
           refine A O<|L O<|G O<|R<|zC O (fun c11=>?_) (fun c11=>?_)
           ·try simp only [sx] at c11
            refine A O<|G O<|R<|zF<|v (B O)<|congrArg vI (?_:_=precI r)
            unfold precI
            first|(exfalso;omega)|rfl|(simp [*];done)|(simp [*];rfl)|(repeat (first|rw [if_pos (by first|assumption|omega)]|rw [if_neg (by first|assumption|omega)]));rfl
           ·try simp only [sx] at c11
            refine zI<|A O<|G O<|R<|zF<|v (B O)<|congrArg vI (?_:_=precI r)
            unfold precI
            first|(exfalso;omega)|rfl|(simp [*];done)|(simp [*];rfl)|(repeat (first|rw [if_pos (by first|assumption|omega)]|rw [if_neg (by first|assumption|omega)]));rfl
       ·try simp only [sx] at c7
        refine zN O<|L O<|G O<|R<|zC O (fun c8=>?_) (fun c8=>?_)
        ·try simp only [sx] at c8
         refine A O<|G O<|R<|zF<|v (B O)<|congrArg vI (?_:_=precI r)
         unfold precI
         first|(exfalso;omega)|rfl|(simp [*];done)|(simp [*];rfl)|(repeat (first|rw [if_pos (by first|assumption|omega)]|rw [if_neg (by first|assumption|omega)]));rfl
        ·try simp only [sx] at c8
         refine zK<|A O<|L O<|G O<|R<|zC O (fun c9=>?_) (fun c9=>?_)
         ·try simp only [sx] at c9
          refine zI<|zC O (fun c10=>?_) (fun c10=>?_)
          ·try simp only [sx] at c10
           refine A O<|G O<|R<|zF<|v (B O)<|congrArg vI (?_:_=precI r)
           unfold precI
           first|(exfalso;omega)|rfl|(simp [*];done)|(simp [*];rfl)|(repeat (first|rw [if_pos (by first|assumption|omega)]|rw [if_neg (by first|assumption|omega)]));rfl
          ·try simp only [sx] at c10
           refine A O<|L O<|G O<|R<|zC O (fun c11=>?_) (fun c11=>?_)
           ·try simp only [sx] at c11
            refine A O<|G O<|R<|zF<|v (B O)<|congrArg vI (?_:_=precI r)
            unfold precI
            first|(exfalso;omega)|rfl|(simp [*];done)|(simp [*];rfl)|(repeat (first|rw [if_pos (by first|assumption|omega)]|rw [if_neg (by first|assumption|omega)]));rfl
           ·try simp only [sx] at c11
            refine zI<|A O<|G O<|R<|zF<|v (B O)<|congrArg vI (?_:_=precI r)
            unfold precI
            first|(exfalso;omega)|rfl|(simp [*];done)|(simp [*];rfl)|(repeat (first|rw [if_pos (by first|assumption|omega)]|rw [if_neg (by first|assumption|omega)]));rfl
         ·try simp only [sx] at c9
          refine zN O<|L O<|G O<|R<|zC O (fun c10=>?_) (fun c10=>?_)
          ·try simp only [sx] at c10
           refine A O<|G O<|R<|zF<|v (B O)<|congrArg vI (?_:_=precI r)
           unfold precI
           first|(exfalso;omega)|rfl|(simp [*];done)|(simp [*];rfl)|(repeat (first|rw [if_pos (by first|assumption|omega)]|rw [if_neg (by first|assumption|omega)]));rfl
          ·try simp only [sx] at c10
           refine A O<|L O<|G O<|R<|zC O (fun c11=>?_) (fun c11=>?_)
           ·try simp only [sx] at c11
            refine A O<|G O<|R<|zF<|v (B O)<|congrArg vI (?_:_=precI r)
            unfold precI
            first|(exfalso;omega)|rfl|(simp [*];done)|(simp [*];rfl)|(repeat (first|rw [if_pos (by first|assumption|omega)]|rw [if_neg (by first|assumption|omega)]));rfl
           ·try simp only [sx] at c11
            refine zI<|A O<|G O<|R<|zF<|v (B O)<|congrArg vI (?_:_=precI r)
            unfold precI
            first|(exfalso;omega)|rfl|(simp [*];done)|(simp [*];rfl)|(repeat (first|rw [if_pos (by first|assumption|omega)]|rw [if_neg (by first|assumption|omega)]));rfl
theorem prn_symbol (r:Int):
    Pur cfg 217 [vI r] (vS (symS r)):=by
 refine zS Tryz.func217 O Tryz.ntmps217 Tryz.results217 O ?_
 intro z hz
 refine A O<|G O<|R<|zK<|A O<|G O<|R<|zR<|A O<|L O<|G O<|R<|zC O (fun c1=>?_) (fun c1=>?_)
 ·try simp only [sx] at c1
  refine A O<|G O<|R<|zF<|v (B O)<|congrArg vS (?_:_=symS r)
  unfold symS
  first|(exfalso;omega)|rfl|(simp [*];done)|(simp [*];rfl)|(repeat (first|rw [if_pos (by first|assumption|omega)]|rw [if_neg (by first|assumption|omega)]));rfl
 ·try simp only [sx] at c1
  refine A O<|L O<|G O<|R<|zC O (fun c2=>?_) (fun c2=>?_)
  ·try simp only [sx] at c2
   refine A O<|G O<|R<|zF<|v (B O)<|congrArg vS (?_:_=symS r)
   unfold symS
   first|(exfalso;omega)|rfl|(simp [*];done)|(simp [*];rfl)|(repeat (first|rw [if_pos (by first|assumption|omega)]|rw [if_neg (by first|assumption|omega)]));rfl
  ·try simp only [sx] at c2
   refine A O<|L O<|G O<|R<|zC O (fun c3=>?_) (fun c3=>?_)
   ·try simp only [sx] at c3
    refine A O<|G O<|R<|zF<|v (B O)<|congrArg vS (?_:_=symS r)
    unfold symS
    first|(exfalso;omega)|rfl|(simp [*];done)|(simp [*];rfl)|(repeat (first|rw [if_pos (by first|assumption|omega)]|rw [if_neg (by first|assumption|omega)]));rfl
   ·try simp only [sx] at c3
    refine A O<|L O<|G O<|R<|zC O (fun c4=>?_) (fun c4=>?_)
    ·try simp only [sx] at c4
     refine A O<|G O<|R<|zF<|v (B O)<|congrArg vS (?_:_=symS r)
     unfold symS
     first|(exfalso;omega)|rfl|(simp [*];done)|(simp [*];rfl)|(repeat (first|rw [if_pos (by first|assumption|omega)]|rw [if_neg (by first|assumption|omega)]));rfl
    ·try simp only [sx] at c4
     refine A O<|L O<|G O<|R<|zC O (fun c5=>?_) (fun c5=>?_)
     ·try simp only [sx] at c5
      refine A O<|G O<|R<|zF<|v (B O)<|congrArg vS (?_:_=symS r)
      unfold symS
      first|(exfalso;omega)|rfl|(simp [*];done)|(simp [*];rfl)|(repeat (first|rw [if_pos (by first|assumption|omega)]|rw [if_neg (by first|assumption|omega)]));rfl
     ·try simp only [sx] at c5
      refine A O<|L O<|G O<|R<|zC O (fun c6=>?_) (fun c6=>?_)
      ·try simp only [sx] at c6
       refine A O<|G O<|R<|zF<|v (B O)<|congrArg vS (?_:_=symS r)
       unfold symS
       first|(exfalso;omega)|rfl|(simp [*];done)|(simp [*];rfl)|(repeat (first|rw [if_pos (by first|assumption|omega)]|rw [if_neg (by first|assumption|omega)]));rfl
      ·try simp only [sx] at c6
       refine A O<|L O<|G O<|R<|zC O (fun c7=>?_) (fun c7=>?_)
       ·try simp only [sx] at c7
        refine A O<|G O<|R<|zF<|v (B O)<|congrArg vS (?_:_=symS r)
        unfold symS
        first|(exfalso;omega)|rfl|(simp [*];done)|(simp [*];rfl)|(repeat (first|rw [if_pos (by first|assumption|omega)]|rw [if_neg (by first|assumption|omega)]));rfl
       ·try simp only [sx] at c7
        refine A O<|L O<|G O<|R<|zC O (fun c8=>?_) (fun c8=>?_)
        ·try simp only [sx] at c8
         refine A O<|G O<|R<|zF<|v (B O)<|congrArg vS (?_:_=symS r)
         unfold symS
         first|(exfalso;omega)|rfl|(simp [*];done)|(simp [*];rfl)|(repeat (first|rw [if_pos (by first|assumption|omega)]|rw [if_neg (by first|assumption|omega)]));rfl
        ·try simp only [sx] at c8
         refine A O<|L O<|G O<|R<|zC O (fun c9=>?_) (fun c9=>?_)
         ·try simp only [sx] at c9
          refine A O<|G O<|R<|zF<|v (B O)<|congrArg vS (?_:_=symS r)
          unfold symS
          first|(exfalso;omega)|rfl|(simp [*];done)|(simp [*];rfl)|(repeat (first|rw [if_pos (by first|assumption|omega)]|rw [if_neg (by first|assumption|omega)]));rfl
         ·try simp only [sx] at c9
          refine zI<|A O<|G O<|R<|zF<|v (B O)<|congrArg vS (?_:_=symS r)
          unfold symS
          first|(exfalso;omega)|rfl|(simp [*];done)|(simp [*];rfl)|(repeat (first|rw [if_pos (by first|assumption|omega)]|rw [if_neg (by first|assumption|omega)]));rfl
theorem r15_sign (r:Int):
    Pur cfg 221 [vI r] (vS (infS r)):=by
 refine zS Tryz.func221 O Tryz.ntmps221 Tryz.results221 O ?_
 intro z hz
 refine A O<|G O<|R<|zK<|A O<|G O<|R<|zR<|A O<|L O<|G O<|R<|zC O (fun c1=>?_) (fun c1=>?_)
 ·try simp only [sx] at c1
  refine A O<|G O<|R<|zF<|v (B O)<|congrArg vS (?_:_=infS r)
  unfold infS
  first|(exfalso;omega)|rfl|(simp [*];done)|(simp [*];rfl)|(repeat (first|rw [if_pos (by first|assumption|omega)]|rw [if_neg (by first|assumption|omega)]));rfl
 ·try simp only [sx] at c1
  refine A O<|L O<|G O<|R<|zC O (fun c2=>?_) (fun c2=>?_)
  ·try simp only [sx] at c2
   refine A O<|G O<|R<|zF<|v (B O)<|congrArg vS (?_:_=infS r)
   unfold infS
   first|(exfalso;omega)|rfl|(simp [*];done)|(simp [*];rfl)|(repeat (first|rw [if_pos (by first|assumption|omega)]|rw [if_neg (by first|assumption|omega)]));rfl
  ·try simp only [sx] at c2
   refine A O<|L O<|G O<|R<|zC O (fun c3=>?_) (fun c3=>?_)
   ·try simp only [sx] at c3
    refine A O<|G O<|R<|zF<|v (B O)<|congrArg vS (?_:_=infS r)
    unfold infS
    first|(exfalso;omega)|rfl|(simp [*];done)|(simp [*];rfl)|(repeat (first|rw [if_pos (by first|assumption|omega)]|rw [if_neg (by first|assumption|omega)]));rfl
   ·try simp only [sx] at c3
    refine A O<|L O<|G O<|R<|zC O (fun c4=>?_) (fun c4=>?_)
    ·try simp only [sx] at c4
     refine A O<|G O<|R<|zF<|v (B O)<|congrArg vS (?_:_=infS r)
     unfold infS
     first|(exfalso;omega)|rfl|(simp [*];done)|(simp [*];rfl)|(repeat (first|rw [if_pos (by first|assumption|omega)]|rw [if_neg (by first|assumption|omega)]));rfl
    ·try simp only [sx] at c4
     refine A O<|L O<|G O<|R<|zC O (fun c5=>?_) (fun c5=>?_)
     ·try simp only [sx] at c5
      refine A O<|G O<|R<|zF<|v (B O)<|congrArg vS (?_:_=infS r)
      unfold infS
      first|(exfalso;omega)|rfl|(simp [*];done)|(simp [*];rfl)|(repeat (first|rw [if_pos (by first|assumption|omega)]|rw [if_neg (by first|assumption|omega)]));rfl
     ·try simp only [sx] at c5
      refine A O<|L O<|G O<|R<|zC O (fun c6=>?_) (fun c6=>?_)
      ·try simp only [sx] at c6
       refine A O<|G O<|R<|zF<|v (B O)<|congrArg vS (?_:_=infS r)
       unfold infS
       first|(exfalso;omega)|rfl|(simp [*];done)|(simp [*];rfl)|(repeat (first|rw [if_pos (by first|assumption|omega)]|rw [if_neg (by first|assumption|omega)]));rfl
      ·try simp only [sx] at c6
       refine A O<|L O<|G O<|R<|zC O (fun c7=>?_) (fun c7=>?_)
       ·try simp only [sx] at c7
        refine A O<|G O<|R<|zF<|v (B O)<|congrArg vS (?_:_=infS r)
        unfold infS
        first|(exfalso;omega)|rfl|(simp [*];done)|(simp [*];rfl)|(repeat (first|rw [if_pos (by first|assumption|omega)]|rw [if_neg (by first|assumption|omega)]));rfl
       ·try simp only [sx] at c7
        refine A O<|L O<|G O<|R<|zC O (fun c8=>?_) (fun c8=>?_)
        ·try simp only [sx] at c8
         refine A O<|G O<|R<|zF<|v (B O)<|congrArg vS (?_:_=infS r)
         unfold infS
         first|(exfalso;omega)|rfl|(simp [*];done)|(simp [*];rfl)|(repeat (first|rw [if_pos (by first|assumption|omega)]|rw [if_neg (by first|assumption|omega)]));rfl
        ·try simp only [sx] at c8
         refine A O<|L O<|G O<|R<|zC O (fun c9=>?_) (fun c9=>?_)
         ·try simp only [sx] at c9
          refine A O<|G O<|R<|zF<|v (B O)<|congrArg vS (?_:_=infS r)
          unfold infS
          first|(exfalso;omega)|rfl|(simp [*];done)|(simp [*];rfl)|(repeat (first|rw [if_pos (by first|assumption|omega)]|rw [if_neg (by first|assumption|omega)]));rfl
         ·try simp only [sx] at c9
          refine zI<|A O<|G O<|R<|zF<|v (B O)<|congrArg vS (?_:_=infS r)
          unfold infS
          first|(exfalso;omega)|rfl|(simp [*];done)|(simp [*];rfl)|(repeat (first|rw [if_pos (by first|assumption|omega)]|rw [if_neg (by first|assumption|omega)]));rfl
end Go.W
end
section
set_option maxRecDepth 10000
namespace Go.W
open Go Go.Eng Go.Proofs Go.L41 Go.Br
attribute [local irreducible] AWP RWP TD finQ
theorem intS_nat {n:Int} (h:0<=n):intS n=decB n.toNat:=by
  unfold intS
  rw [if_neg (by omega),show n.natAbs=n.toNat by omega]
theorem itoaI (n:Int) (h:0<=n) (h2:n<=9223372036854775807):Pur cfgI 91 [vI n] (vS (intS n)):=by
  have k:=strconv_Itoa n.toNat (by omega)
  rw [show ((n.toNat:Nat):Int)=n by omega] at k
  rw [intS_nat h];exact k
theorem ty_no {t:Ty} (h:¬tyErr t=0):tyOk t=false:=by
  cases c:tyOk t with
  |false=>rfl
  |true=>rw [tyErr,c] at h;exact absurd rfl h
theorem ty_yes {t:Ty} (h:tyErr t=0):tyOk t=true:=by
  cases c:tyOk t with
  |true=>rfl
  |false=>rw [tyErr,c] at h;cases h
theorem ty_fix {t:Ty} (h:tyOk t=true) (h1:¬t.Kind=1) (h3:¬t.Kind=3):2<=t.Bits/\t.Bits<=31/\0<=t.Frac/\t.Frac<=30:=by
  unfold tyOk at h
  simp only [Bool.or_eq_true,Bool.and_eq_true,decide_eq_true_eq] at h
  omega
theorem W (a:Array UInt8):(ByteArray.mk a).size=a.size:=rfl
theorem modeS_size (r:Int):(modeS r).size<=5:=by unfold modeS;split;decide;split;decide;split;decide;decide
theorem tyS_0 {t:Ty} (h:tyOk t=false):tyS t=bs []:=by unfold tyS;rw [if_pos h]
theorem tyS_1 {t:Ty} (h:tyOk t=true) (h1:t.Kind=1):tyS t=bs [102,114,97,99]:=by unfold tyS;rw [if_neg (by rw [h];simp),if_pos h1]
theorem tyS_3 {t:Ty} (h:tyOk t=true) (h1:¬t.Kind=1) (h3:t.Kind=3):tyS t=bs [105,110,116]:=by unfold tyS;rw [if_neg (by rw [h];simp),if_neg h1,if_pos h3]
theorem tyS_2 {t:Ty} (h:tyOk t=true) (h1:¬t.Kind=1) (h3:¬t.Kind=3):tyS t=bs [102,105,120,40]++intS t.Bits++bs [44,32]++intS t.Frac++bs [44,32]++modeS t.Round++bs [44,32]++overS t.Over++bs [41]:=by
  unfold tyS;rw [if_neg (by rw [h];simp),if_neg h1,if_neg h3]
theorem ok149:callOk Tryz.prog 149=true:=by kernel_rfl
theorem prn_Type (t:Ty):
    Pur cfgI 97 [vTy t] (vS (tyS t)):=by
 refine zS Tryz.func97 O Tryz.ntmps97 Tryz.results97 O ?_
 intro z hz
 refine A O<|zU O O (qN O O) ?_
 rintro _ _ ⟨b1,rfl,rfl⟩
 refine G O<|R<|zK<|A O<|zO yI (zD 0 O) O<|qK O ok60 (upI (zBi t)) ⟨Y,O,T⟩<|kP O<|R<|zC O (fun c1=>?_) (fun c1=>?_)
 ·try simp only [sx] at c1
  have h0:=ty_no c1
  refine A O<|G O<|R<|zF<|zQ O ?_
  rw [tyS_0 h0];first|done|rfl
 ·try simp only [sx] at c1
  have h0:=ty_yes c1
  refine zI<|zK<|A O<|zH O zDd<|zM one3 (zD 0 O) O<|R<|zR<|A O<|L O<|G O<|R<|zC O (fun c2=>?_) (fun c2=>?_)
  ·try simp only [sx] at c2
   refine A O<|G O<|R<|zF<|zQ O ?_
   rw [tyS_1 h0 c2];first|done|rfl
  ·try simp only [sx] at c2
   refine A O<|L O<|G O<|R<|zC O (fun c3=>?_) (fun c3=>?_)
   ·try simp only [sx] at c3
    refine A O<|G O<|R<|zF<|zQ O ?_
    rw [tyS_3 h0 c2 c3];first|done|rfl
   ·try simp only [sx] at c3
    obtain ⟨f1,f2,f3,f4⟩:=ty_fix h0 c2 c3
    have a1:=wT (n:=t.Bits) (by omega)
    have a2:=wT (n:=t.Frac) (by omega)
    have a3:=modeS_size t.Round
    refine zI<|A O<|G O<|R<|zK<|A O<|zH O zMf<|zM one3 (zD 0 O) O<|L O<|R<|zC O (fun c4=>?_) (fun c4=>?_)
    ·try simp only [sx] at c4
     refine zN O<|G O<|R<|zK<|qU 19 mixed (by kernel_rfl) O O<|J O O (zE O zFe O)<|J O O (zJ O one3 O (zD 0 O) O)<|J O O (qC O ok91 (itoaI t.Bits (by omega) (by omega)) ⟨Y,O,T⟩)<|J O O (qM O O O (by simp only [U,W,List.size_toArray,List.length_cons,List.length_nil];omega))<|J O O (qM O O O (by simp only [U,W,List.size_toArray,List.length_cons,List.length_nil];omega))<|J O O (zE O zFw O)<|J O O (zJ O one3 O (zD 0 O) O)<|J O O (qC O ok91 (itoaI t.Frac (by omega) (by omega)) ⟨Y,O,T⟩)<|J O O (qM O O O (by simp only [U,W,List.size_toArray,List.length_cons,List.length_nil];omega))<|J O O (qM O O O (by simp only [U,W,List.size_toArray,List.length_cons,List.length_nil];omega))<|J O O (zE O zIo O)<|J O O (zJ O one3 O (zD 0 O) O)<|J O O (qC O ok149 (upI (prn_mode t.Round)) ⟨Y,O,T⟩)<|J O O (qM O O O (by simp only [U,W,List.size_toArray,List.length_cons,List.length_nil];omega))<|J O O (qM O O O (by simp only [U,W,List.size_toArray,List.length_cons,List.length_nil];omega))<|J O O (zP O O)<|J O O (qM O O O (by simp only [U,W,List.size_toArray,List.length_cons,List.length_nil];omega))<|J O O (qM O O O (by simp only [U,W,List.size_toArray,List.length_cons,List.length_nil];omega))<|J O O (qV O O)<|yO<|R<|zF<|zQ O ?_
     rw [tyS_2 h0 c2 c3,show overS t.Over=bs [119,114,97,112] by unfold overS;rw [if_pos c4]];first|done|rfl
    ·try simp only [sx] at c4
     refine zI<|zK<|qU 19 mixed (by kernel_rfl) O O<|J O O (zE O zFe O)<|J O O (zJ O one3 O (zD 0 O) O)<|J O O (qC O ok91 (itoaI t.Bits (by omega) (by omega)) ⟨Y,O,T⟩)<|J O O (qM O O O (by simp only [U,W,List.size_toArray,List.length_cons,List.length_nil];omega))<|J O O (qM O O O (by simp only [U,W,List.size_toArray,List.length_cons,List.length_nil];omega))<|J O O (zE O zFw O)<|J O O (zJ O one3 O (zD 0 O) O)<|J O O (qC O ok91 (itoaI t.Frac (by omega) (by omega)) ⟨Y,O,T⟩)<|J O O (qM O O O (by simp only [U,W,List.size_toArray,List.length_cons,List.length_nil];omega))<|J O O (qM O O O (by simp only [U,W,List.size_toArray,List.length_cons,List.length_nil];omega))<|J O O (zE O zIo O)<|J O O (zJ O one3 O (zD 0 O) O)<|J O O (qC O ok149 (upI (prn_mode t.Round)) ⟨Y,O,T⟩)<|J O O (qM O O O (by simp only [U,W,List.size_toArray,List.length_cons,List.length_nil];omega))<|J O O (qM O O O (by simp only [U,W,List.size_toArray,List.length_cons,List.length_nil];omega))<|J O O (zP O O)<|J O O (qM O O O (by simp only [U,W,List.size_toArray,List.length_cons,List.length_nil];omega))<|J O O (qM O O O (by simp only [U,W,List.size_toArray,List.length_cons,List.length_nil];omega))<|J O O (qV O O)<|yO<|R<|zF<|zQ O ?_
     rw [tyS_2 h0 c2 c3,show overS t.Over=bs [115,97,116] by unfold overS;rw [if_neg c4]];first|done|rfl
end Go.W
end
section
set_option maxRecDepth 10000
namespace Go.W
open Go Go.Eng Go.Proofs Go.L41 Go.Br
attribute [local irreducible] AWP RWP TD finQ
theorem r30_fold (s:St):
    Pur cfg 105 [vSt s] (vS (foldS s.Op s.Fold)):=by
 refine zS Tryz.func105 O Tryz.ntmps105 Tryz.results105 O ?_
 intro z hz
 refine A O<|zU O O (qN O O) ?_
 rintro _ _ ⟨b1,rfl,rfl⟩
 refine G O<|R<|zK<|A O<|zH O zAf<|zM one3 (zD 0 O) O<|L O<|R<|zC O (fun c1=>?_) (fun c1=>?_)
 ·try simp only [sx] at c1
  refine A O<|G O<|R<|zF<|v (B O)<|congrArg vS (?_:_=foldS s.Op s.Fold)
  unfold foldS
  first|(exfalso;omega)|rfl|(simp [*];done)|(simp [*];rfl)|(repeat (first|rw [if_pos (by first|assumption|omega)]|rw [if_neg (by first|assumption|omega)]));rfl
 ·try simp only [sx] at c1
  refine zI<|zK<|A O<|zH O zIr<|zM one3 (zD 0 O) O<|R<|zR<|A O<|L O<|G O<|R<|zC O (fun c2=>?_) (fun c2=>?_)
  ·try simp only [sx] at c2
   refine A O<|G O<|R<|zF<|v (B O)<|congrArg vS (?_:_=foldS s.Op s.Fold)
   unfold foldS
   first|(exfalso;omega)|rfl|(simp [*];done)|(simp [*];rfl)|(repeat (first|rw [if_pos (by first|assumption|omega)]|rw [if_neg (by first|assumption|omega)]));rfl
  ·try simp only [sx] at c2
   refine A O<|L O<|G O<|R<|zC O (fun c3=>?_) (fun c3=>?_)
   ·try simp only [sx] at c3
    refine A O<|G O<|R<|zF<|v (B O)<|congrArg vS (?_:_=foldS s.Op s.Fold)
    unfold foldS
    first|(exfalso;omega)|rfl|(simp [*];done)|(simp [*];rfl)|(repeat (first|rw [if_pos (by first|assumption|omega)]|rw [if_neg (by first|assumption|omega)]));rfl
   ·try simp only [sx] at c3
    refine A O<|L O<|G O<|R<|zC O (fun c4=>?_) (fun c4=>?_)
    ·try simp only [sx] at c4
     refine A O<|G O<|R<|zF<|v (B O)<|congrArg vS (?_:_=foldS s.Op s.Fold)
     unfold foldS
     first|(exfalso;omega)|rfl|(simp [*];done)|(simp [*];rfl)|(repeat (first|rw [if_pos (by first|assumption|omega)]|rw [if_neg (by first|assumption|omega)]));rfl
    ·try simp only [sx] at c4
     refine zI<|A O<|G O<|R<|zF<|v (B O)<|congrArg vS (?_:_=foldS s.Op s.Fold)
     unfold foldS
     first|(exfalso;omega)|rfl|(simp [*];done)|(simp [*];rfl)|(repeat (first|rw [if_pos (by first|assumption|omega)]|rw [if_neg (by first|assumption|omega)]));rfl
theorem r05_term (s:ByteArray) (b:Bool) (t:ByteArray) (h:s.size+t.size<=100000000000000):
    Pur cfg 292 [vS s,vB b,vS t] (vS (termS s b t)):=by
 refine zS Tryz.func292 O Tryz.ntmps292 Tryz.results292 O ?_
 intro z hz
 refine A O<|G O<|R<|zK<|A O<|G O<|wF O<|G O<|rL0 O (fun g1_2=>zP O O) O<|yZ O (fun h=>h)<|R<|zC O (fun c1=>?_) (fun c1=>?_)
 ·try simp only [sx] at c1
  refine A O<|G O<|kY O (by simp only [U,W,List.size_toArray,List.length_cons,List.length_nil];omega)<|G O<|R<|zF<|v (B O)<|congrArg vS (?_:_=termS s b t)
  unfold termS
  first|(simp [*];done)|(simp [*];rfl)|(simp_all;done)|(simp_all;rfl)
 ·try simp only [sx] at c1
  refine zI<|zK<|A O<|G O<|wF O<|R<|zC O (fun c2=>?_) (fun c2=>?_)
  ·try simp only [sx] at c2
   refine A O<|G O<|G O<|R<|zF<|v (B O)<|congrArg vS (?_:_=termS s b t)
   unfold termS
   first|(simp [*];done)|(simp [*];rfl)|(simp_all;done)|(simp_all;rfl)
  ·try simp only [sx] at c2
   refine zI<|zK<|A O<|G O<|R<|zC O (fun c3=>?_) (fun c3=>?_)
   ·try simp only [sx] at c3
    refine A O<|G O<|kY O (by simp only [U,W,List.size_toArray,List.length_cons,List.length_nil];omega)<|G O<|kY O (by simp only [U,W,List.size_toArray,List.length_cons,List.length_nil];omega)<|G O<|R<|zF<|v (B O)<|congrArg vS (?_:_=termS s b t)
    unfold termS
    first|(simp [*];done)|(simp [*];rfl)|(simp_all;done)|(simp_all;rfl)
   ·try simp only [sx] at c3
    refine zI<|A O<|G O<|kY O (by simp only [U,W,List.size_toArray,List.length_cons,List.length_nil];omega)<|G O<|kY O (by simp only [U,W,List.size_toArray,List.length_cons,List.length_nil];omega)<|G O<|R<|zF<|v (B O)<|congrArg vS (?_:_=termS s b t)
    unfold termS
    first|(simp [*];done)|(simp [*];rfl)|(simp_all;done)|(simp_all;rfl)
end Go.W
end
section
set_option maxRecDepth 10000
namespace Go.W
open Go Go.Eng Go.Proofs Go.L41 Go.Br
attribute [local irreducible] AWP RWP TD finQ
def frT (v:Vl):ByteArray:=if frOk v=false then bs [] else frS v
theorem frOk_b {v:Vl} (h:frOk v=true):1<=v.D/\v.D<=2147483647/\ -2147483647<=v.N/\v.N<=2147483647:=by
  unfold frOk num31 at h
  simp only [Bool.and_eq_true,decide_eq_true_eq] at h
  omega
theorem frT_no {v:Vl} (h:frOk v=false):frT v=bs []:=if_pos h
theorem frT_1 {v:Vl} (h:frOk v=true) (h1:v.D=1):frT v=intS v.N:=by unfold frT frS;rw [if_neg (by rw [h];simp),if_pos h1]
theorem frT_2 {v:Vl} (h:frOk v=true) (h1:¬v.D=1):frT v=intS v.N++bs [47]++intS v.D:=by unfold frT frS;rw [if_neg (by rw [h];simp),if_neg h1]
theorem ok341:callOk Tryz.prog 341=true:=by kernel_rfl
theorem frac_Format (v:Vl):
    Pur cfgI 275 [vVal v] (vS (frT v)):=by
 refine zS Tryz.func275 O Tryz.ntmps275 Tryz.results275 O ?_
 intro z hz
 refine A O<|zU O O (qN O O) ?_
 rintro _ _ ⟨b1,rfl,rfl⟩
 refine G O<|R<|zK<|zR<|A O<|zO zAw (zD 0 O) O<|qK O ok165 (show Pur cfgI 165 [vVal v] (vB (frOk v)) from upI (frac_Valid v)) ⟨Y,O,T⟩<|wA O<|G O<|R<|zC O (fun c1=>?_) (fun c1=>?_)
 ·have h0:frOk v=false:=by simpa using c1
  refine A O<|G O<|R<|zF<|zQ O ?_
  rw [frT_no h0];first|done|rfl
 ·have h0:frOk v=true:=by simpa using c1
  obtain ⟨f1,f2,f3,f4⟩:=frOk_b h0
  have a1:=wT (n:=v.N) (by omega)
  have a2:=wT (n:=v.D) (by omega)
  refine A O<|zH O zEc<|zM r (zD 0 O) O<|L O<|G O<|R<|zC O (fun c2=>?_) (fun c2=>?_)
  ·try simp only [sx] at c2
   refine A O<|zH O zDa<|zM r (zD 0 O) O<|qK O ok341 (zLa v.N (by omega) (by omega)) ⟨Y,O,Y,O,T⟩<|G O<|R<|zF<|zQ O ?_
   rw [frT_1 h0 c2];first|done|rfl
  ·try simp only [sx] at c2
   refine zI<|zK<|qU 9 mixed (by kernel_rfl) O O<|J O O (zE O zDa O)<|J O O (zJ O r O (zD 0 O) O)<|J O O (qC O ok341 (zLa v.N (by omega) (by omega)) ⟨Y,O,Y,O,T⟩)<|J O O (qM O O O (by simp only [U,W,List.size_toArray,List.length_cons,List.length_nil];omega))<|J O O (zE O zEc O)<|J O O (zJ O r O (zD 0 O) O)<|J O O (qC O ok341 (zLa v.D (by omega) (by omega)) ⟨Y,O,Y,O,T⟩)<|J O O (qM O O O (by simp only [U,W,List.size_toArray,List.length_cons,List.length_nil];omega))<|J O O (qV O O)<|yO<|R<|zF<|zQ O ?_
   rw [frT_2 h0 c2];first|done|rfl
end Go.W
end
