/-
  Walks: what functions of the program compute. Printed by wip/gen/mk2.py.
  Conditions: none.
-/
import Derived.Test.YtdldhbfgfkebjaaGreatDoorHC
import Derived.Test.YtdldhbfgfkebjaaGreatDoorPlainG
set_option linter.unusedSimpArgs false
set_option linter.unusedVariables false
set_option maxRecDepth 10000
namespace Go.W
open Go Go.Eng Go.Proofs Go.L41 Go.Br
attribute [local irreducible] AWP RWP TD finQ
abbrev vPt (b:Nat):V:=.c (.lit (.pointer (some ⟨b,0,none⟩)))
abbrev genE (b:Nat) (sv sl:Value) (code:List In) (full:Bool) (g:Gn) (L:List ByteArray):List E:=
  [.row b 80 [.lit sv,.lit (.bool full),.sl 8 (g.n.Bufs.map Bf.cells),.sl 20 (g.n.Body.map St.cells),.sl 5 (g.ty.map tyC),.sl 3 (g.sl.map Sl.cells),.lit sl],.vec sv 46 11 (code.map In.cells),.vec sl 9 1 (L.map fun s=>[cS s])]
abbrev vPl (g:Gn) (s:ByteArray):V:=.agg (plC g s)
theorem atC_1 {L:List ByteArray} {d st:List Int} {j:Nat} {f:Lf} (h:2<=d.length):atC L d st j f=frmC L f 105++([iA 10 255 105 0 (d.getD j 0)]++[iN 4 105 105 (st.getD j 0),iN 3 104 104 105]):=by
  unfold atC lodC;rw [if_pos h,List.append_assoc]
theorem atC_0 {L:List ByteArray} {d st:List Int} {j:Nat} {f:Lf} (h:¬2<=d.length):atC L d st j f=frmC L f 105++[iN 4 105 105 (st.getD j 0),iN 3 104 104 105]:=by
  unfold atC lodC;rw [if_neg h,List.append_nil]
theorem axC_g {g:Gn} {L:List ByteArray} {d st:List Int} {i:Nat} {x:Ix} (h:¬x.From=bs []):axC g L d st i x=gatC g L x (d.getD i 0)++[iN 4 101 101 (st.getD i 0),iN 3 100 100 101]:=by
  unfold axC;rw [if_neg h]
theorem axC_1 {g:Gn} {L:List ByteArray} {d st:List Int} {i:Nat} {x:Ix} (h:x.From=bs []) (h2:2<=d.length):axC g L d st i x=frmC L x.Lin 101++([iA 10 255 101 0 (d.getD i 0)]++[iN 4 101 101 (st.getD i 0),iN 3 100 100 101]):=by
  unfold axC lodC;rw [if_pos h,if_pos h2,List.append_assoc]
theorem axC_0 {g:Gn} {L:List ByteArray} {d st:List Int} {i:Nat} {x:Ix} (h:x.From=bs []) (h2:¬2<=d.length):axC g L d st i x=frmC L x.Lin 101++[iN 4 101 101 (st.getD i 0),iN 3 100 100 101]:=by
  unfold axC lodC;rw [if_pos h,if_neg h2,List.append_nil]
theorem agg46:aggT Tryz.prog 46=some 11:=by kernel_rfl
theorem agg118:aggT Tryz.prog 118=some 11:=by kernel_rfl
theorem el32:elemT Tryz.prog 32=some (46,11,88):=by kernel_rfl
theorem fd46_1:fieldT Tryz.prog 46 1=some (1,3):=by kernel_rfl
theorem fd48_0:fieldT Tryz.prog 48 0=some (0,9):=by kernel_rfl
theorem zLj:fieldT Tryz.prog 77 0=some (0,32):=by kernel_rfl
theorem zOd:fieldT Tryz.prog 77 1=some (1,4):=by kernel_rfl
theorem yQ:fieldT Tryz.prog 80 0=some (0,77):=by kernel_rfl
theorem fd80_1:fieldT Tryz.prog 80 1=some (2,25):=by kernel_rfl
theorem fd80_3:fieldT Tryz.prog 80 3=some (5,33):=by kernel_rfl
theorem fd80_4:fieldT Tryz.prog 80 4=some (6,78):=by kernel_rfl
theorem zKm:fieldT Tryz.prog 118 0=some (0,69):=by kernel_rfl
theorem zDt:fieldT Tryz.prog 118 1=some (8,3):=by kernel_rfl
theorem zGe:fieldT Tryz.prog 118 2=some (9,3):=by kernel_rfl
theorem zOj:fieldT Tryz.prog 118 3=some (10,67):=by kernel_rfl
theorem ok30:callOk Tryz.prog 30=true:=by kernel_rfl
theorem ok60:callOk Tryz.prog 60=true:=by kernel_rfl
theorem W:callOk Tryz.prog 61=true:=by kernel_rfl
theorem ok63:callOk Tryz.prog 63=true:=by kernel_rfl
theorem ok113:callOk Tryz.prog 113=true:=by kernel_rfl
theorem ok119:callOk Tryz.prog 119=true:=by kernel_rfl
theorem ok154:callOk Tryz.prog 154=true:=by kernel_rfl
theorem ok155:callOk Tryz.prog 155=true:=by kernel_rfl
theorem one4:oneT Tryz.prog 4=true:=by kernel_rfl
theorem zNl:oneT Tryz.prog 32=true:=by kernel_rfl
theorem one33:oneT Tryz.prog 33=true:=by kernel_rfl
theorem pl46:placesT Tryz.prog 46=some [(0,1),(1,1),(2,1),(3,1),(4,2),(6,5)]:=by kernel_rfl
theorem pl118:placesT Tryz.prog 118=some [(0,8),(8,1),(9,1),(10,1)]:=by kernel_rfl
theorem sz4:(Tryz.prog.info? 4).map (·.size)=some 1:=by kernel_rfl
theorem sz32:(Tryz.prog.info? 32).map (·.size)=some 1:=by kernel_rfl
theorem sz118:(Tryz.prog.info? 118).map (·.size)=some 11:=by kernel_rfl
theorem zr46:zeroT Tryz.prog 46=some [(Value.int IntKind.i64 0),(Value.int IntKind.i64 0),(Value.int IntKind.i64 0),(Value.int IntKind.i64 0),(Value.int IntKind.i64 0),(Value.int IntKind.i64 0),(Value.int IntKind.i64 0),(Value.int IntKind.i64 0),(Value.int IntKind.i64 0),(Value.int IntKind.i64 0),(Value.int IntKind.i64 0)]:=by kernel_rfl
theorem zr118:zeroT Tryz.prog 118=some [(Value.string (ByteArray.mk #[])),(Value.int IntKind.i64 0),(Value.int IntKind.i64 0),(Value.int IntKind.i64 0),(Value.int IntKind.i64 0),(Value.int IntKind.i64 0),(Value.slice none 0 0),(Value.int IntKind.i64 0),(Value.int IntKind.i64 0),(Value.int IntKind.i64 0),(Value.slice none 0 0)]:=by kernel_rfl
theorem zKw (b:Nat) (sv sl:Value) (code:List In) (full:Bool) (g:Gn) (L:List ByteArray) (pre:List In) (hE:Em pre code full) (i j:In) (hij:pre.length<65536->i=j):
    Con cfg 30 [vPt b,vIn i] (genE b sv sl code full g L) fun r μ'=>r=vI (psI pre.length)/\∃sv' code' full',Em (pre++[j]) code' full'/\μ'=genE b sv' sl code' full' g L:=by
 refine zW Tryz.func30 O Tryz.ntmps30 Tryz.results30 O ?_
 intro z hz
 have hlen:=hE.len
 refine R O<|zU O O (qT O O) ?_
 rintro _ _ ⟨b1,rfl,rfl⟩
 refine G O<|zA<|zF<|R O<|G O<|qE O<|zN O zLj<|zL zNl (A 1 O) O<|v O (yJ 2 O el32 O O)<|v O (wG O O O)<|zA<|zC O (fun c1=>?_) (fun c1=>?_)
 ·try simp only [sx] at c1
  refine R O<|G O<|qE O<|zN O zOd<|D 1 sz4 O<|zA<|R O<|G O<|zA<|zS _ (Weak.mem [false,true,true,true] O)<|zM<|zX O ?_
  exact ⟨congrArg vI (hE.ps0 (by omega)),sv,code,true,hE.full (by omega) j,O⟩
 ·try simp only [sx] at c1
  refine zH<|zF<|yN 8 0 [⟨0,.q []⟩,⟨1,.q []⟩,⟨2,.q []⟩,⟨3,.q []⟩,⟨4,.q [1]⟩,⟨5,.q [0]⟩,⟨6,.q []⟩,⟨7,.e 2 []⟩] mixed (by kernel_rfl) (by kernel_rfl) O O O<|N O<|N O<|N O<|N O<|N O<|N O<|N O<|N O<|wX<|J O (by decide) O O (zG O O)<|J O (by decide) O O (zG O O)<|J O (by decide) O O (qF O O)<|J O (by decide) O O (zJ O zLj O)<|J O (by decide) O O (zD O zNl O (A 0 O) O)<|J O (by decide) O O (qG O agg46 O (A 0 O) O)<|J O (by decide) O O (kF O el32 zr46 O O O O)<|zIm O O (by decide) O O (kL 0 O el32 O O O (by simp only [List.length_map,List.length_cons,List.length_nil];omega) (by simp only [List.length_map,List.length_cons,List.length_nil];omega)) ?_
  rintro _ _ ⟨sv2,rfl,rfl⟩
  refine ⟨_,O,?_⟩
  refine wV O<|qE O<|zN O zLj<|D 1 sz32 O<|zA<|R O<|G O<|qE O<|zN O zLj<|zL zNl (A 1 O) O<|v O (yJ 2 O el32 O O)<|yF O (by simp only [List.length_append,List.length_map,List.length_cons,List.length_nil];exact ⟨by omega,by omega⟩)<|G O<|zA<|zS _ (Weak.mem [false,true,true,true] O)<|zM<|zX O ?_
  refine ⟨congrArg vI ?_,sv2,code++[i],full,hE.push (by omega) hij,?_⟩
  · rw [←hE.ps (by omega) i];simp only [List.length_append,List.length_map,List.length_cons,List.length_nil]
  · rw [show genE b sv2 sl (code++[i]) full g L=genE b sv2 sl (code++[i]) full g L from rfl];simp only [genE,List.map_append];rfl
theorem yZ (b:Nat) (sv sl:Value) (code:List In) (full:Bool) (g:Gn) (L:List ByteArray) (pre:List In) (hE:Em pre code full) (op x y u:Int) (j:In) (hij:pre.length<65536->iN op x y u=j):
    Con cfg 61 [vPt b,vI op,vI x,vI y,vI u] (genE b sv sl code full g L) fun r μ'=>r=vI (psI pre.length)/\∃sv' code' full',Em (pre++[j]) code' full'/\μ'=genE b sv' sl code' full' g L:=by
 refine zW Tryz.func61 O Tryz.ntmps61 Tryz.results61 O ?_
 intro z hz
 refine R O<|G O<|zA<|R O<|G O<|G O<|G O<|G O<|G O<|v O (yB O zr46 pl46 O)<|zU O O (zT [0,0,0] O ok30 (zKw b sv sl code full g L (pre) hE (iN op x y u) j hij) ⟨zB,O,zB,O,T⟩ O) ?_
 rintro _ _ ⟨_,⟨rfl,sv1,cd1,fu1,hE1,rfl⟩,rfl⟩
 refine G O<|zA<|zM<|zX O ?_
 exact ⟨O,_,_,_,hE1,O⟩
theorem zCj (b:Nat) (sv sl:Value) (code:List In) (full:Bool) (g:Gn) (L:List ByteArray) (pre:List In) (hE:Em pre code full) (op q x f t:Int):
    Con cfg 63 [vPt b,vI op,vI q,vI x,vI f,vI t] (genE b sv sl code full g L) fun r μ'=>r=.tup []/\∃sv' code' full',Em (pre++[iA op q x f t]) code' full'/\μ'=genE b sv' sl code' full' g L:=by
 refine zW Tryz.func63 O Tryz.ntmps63 Tryz.results63 O ?_
 intro z hz
 refine zI O<|G O<|G O<|G O<|G O<|G O<|G O<|v O (yB O zr44 pl44 O)<|v O (yB O zr46 pl46 O)<|zU O O (zT [0,0,0] O ok30 (zKw b sv sl code full g L (pre) hE (iA op q x f t) _ (fun _=>O)) ⟨zB,O,zB,O,T⟩ O) ?_
 rintro _ _ ⟨_,⟨rfl,sv1,cd1,fu1,hE1,rfl⟩,rfl⟩
 refine zA ?_
 repeat (first|refine qO ?_|refine qN ?_)
 refine yC<|U ?_
 exact ⟨O,_,_,_,hE1,O⟩
theorem cg_here (b:Nat) (sv sl:Value) (code:List In) (full:Bool) (g:Gn) (L:List ByteArray)  :
    Con cfg 62 [vPt b] (genE b sv sl code full g L) fun r μ'=>r=vI code.length/\μ'=genE b sv sl code full g L:=by
 refine zW Tryz.func62 O Tryz.ntmps62 Tryz.results62 O ?_
 intro z hz
 refine R O<|G O<|zA<|R O<|G O<|qE O<|zN O zLj<|zL zNl (A 0 O) O<|v O (yJ 1 O el32 O O)<|G O<|zA<|zM<|zX O ?_
 exact ⟨congrArg vI (by rw [List.length_map]),O⟩
theorem cg_land (b:Nat) (sv sl:Value) (code:List In) (full:Bool) (g:Gn) (L:List ByteArray) (pre:List In) (hE:Em pre code full) (i:Nat) (hi:i<pre.length) (p:Int) (hp:p=psI i):
    Con cfg 67 [vPt b,vI p] (genE b sv sl code full g L) fun r μ'=>r=.tup []/\∃sv' code' full',Em (jmpTo pre i pre.length) code' full'/\μ'=genE b sv' sl code' full' g L:=by
 refine zW Tryz.func67 O Tryz.ntmps67 Tryz.results67 O ?_
 intro z hz
 refine R O<|G O<|qE O<|zN O zOd<|zL one4 (A 0 O) O<|wK O<|zA<|zC O (fun c1=>?_) (fun c1=>?_)
 ·try simp only [sx] at c1
  have hfl:full=false:=by simpa using c1
  obtain ⟨q1,q2,q3⟩:=hE.jmp hi hfl
  have hx:=List.getElem?_eq_getElem q2
  have hpi:p=(i:Int):=hp.trans q1
  subst hpi
  have hrw:=jmp_rows (a:=code.length) hx
  generalize code[i]=x at hx hrw
  refine qU 12 mixed (by kernel_rfl) O O<|zE O O (zG O O)<|zE O O (qF O O)<|zE O O (zJ O zLj O)<|zE O O (zD O zNl O (A 0 O) O)<|zE O O (zG O O)<|zE O O (zG O O)<|zE O O (qF O O)<|zE O O (zJ O zLj O)<|zE O O (zD O zNl O (A 0 O) O)<|zE O O (yJ 1 O el32 O O)<|zE O O (qC 1 O el32 O O O (by omega) (by rw [List.length_map];omega))<|zE O O (det_field_vec O fd46_1 O)<|yM<|zAd O O (yY O sz3 O O O (zBr 1 O (yU (enc:=In.cells) hx O) O))<|zA ?_
  repeat (first|refine qO ?_|refine qN ?_)
  refine yC<|U ?_
  refine ⟨O,sv,jmpTo code i code.length,full,q3,?_⟩
  simp only [genE,hrw,List.length_map,Int.toNat_natCast]
  rfl
 ·try simp only [sx] at c1
  refine zH ?_
  repeat (first|refine qO ?_|refine qN ?_)
  refine yC<|U ?_
  have hfl:full=true:=by simpa using c1
  subst hfl
  exact ⟨O,sv,code,true,hE.jmp0 i _,O⟩
theorem cg_op (b:Nat) (sv sl:Value) (code:List In) (full:Bool) (g:Gn) (L:List ByteArray) (pre:List In) (hE:Em pre code full) (op k a c d:Int) (t:Ty) (j:In) (hij:pre.length<65536->iO op k a c d t=j):
    Con cfg 116 [vPt b,vI op,vI k,vI a,vI c,vI d,vTy t] (genE b sv sl code full g L) fun r μ'=>r=vI (psI pre.length)/\∃sv' code' full',Em (pre++[j]) code' full'/\μ'=genE b sv' sl code' full' g L:=by
 refine zW Tryz.func116 O Tryz.ntmps116 Tryz.results116 O ?_
 intro z hz
 refine R O<|zU O O (qT O O) ?_
 rintro _ _ ⟨b1,rfl,rfl⟩
 refine G O<|zA<|zF<|qU 11 mixed (by kernel_rfl) O O<|zE O O (zG O O)<|zE O O (qF O O)<|zE O O (zJ O yQ O)<|zE O O (zG O O)<|zE O O (zG O O)<|zE O O (zG O O)<|zE O O (zG O O)<|zE O O (zG O O)<|zE O O (yB O zr44 pl44 O)<|zE O O (qG O yP O (A 0 O) O)<|zE O O (yB O zr46 pl46 O)<|yM<|zU O O (zT [1,1,1] O ok30 (zKw b sv sl code full g L (pre) hE (iO op k a c d t) j hij) ⟨zB,O,zB,O,T⟩ O) ?_
 rintro _ _ ⟨_,⟨rfl,sv1,cd1,fu1,hE1,rfl⟩,rfl⟩
 refine G O<|zA<|zS _ (Weak.mem [false,true,true,true] O)<|zM<|zX O ?_
 exact ⟨O,_,_,_,hE1,O⟩
theorem cg_find (b:Nat) (sv sl:Value) (code:List In) (full:Bool) (g:Gn) (L:List ByteArray) (s:ByteArray) (hg:g.Ok):
    Con cfg 60 [vPt b,vS s] (genE b sv sl code full g L) fun r μ'=>r=vPl g s/\μ'=genE b sv sl code full g L:=by
 refine Con.drop<|zW Tryz.func60 O Tryz.ntmps60 Tryz.results60 O ?_
 intro z hz
 have hsl:=hg.sl
 have hnb:=hg.nb
 refine R O<|zU O O (qR [none,none,none,none,none,none,some 1,none,none,none,some 1] O zr118 O) ?_
 rintro _ _ ⟨b1,rfl,rfl⟩
 refine zA<|R O<|G O<|qE O<|zN O fd80_1<|zP zFj (A 1 O) O<|G O<|qW O ok112 (wE g.n s hg.hn) ⟨zB,O,zB,O,T⟩<|v O (yW O O)<|v O (kV O O O)<|v O (kO O O O)<|zU O O (qR [none,none,none,none,none,none,some 1,none] O zr69 O) ?_
 rintro _ _ ⟨b2,rfl,rfl⟩
 refine D 0 sz69 O<|G O<|zA<|zF<|yN 6 1 [⟨0,.q [1]⟩,⟨1,.q []⟩,⟨2,.q [1]⟩,⟨3,.q []⟩,⟨4,.q []⟩,⟨5,.f 0⟩] mixed (by kernel_rfl) (by kernel_rfl) O O O<|N O<|N O<|N O<|N O<|N O<|fx_fresh O O (fresh_alloc' (qR [none,none,none,none,none,none,some 1,none,none,none,some 1] O zr118 O)) ⟨_,_,0,O,O⟩<|wX<|J O (by decide) O O (qG O zPd O (A 0 O) O)<|J O (by decide) O O (zJ O zCm O)<|J O (by decide) O O (zD O zCh O (A 0 O) O)<|J O (by decide) O O (qY O ok113 (shape_Strides (g.dm s) (by have:=hg.hn.buf s;exact this)) ⟨zB,O,T⟩)<|J O (by decide) O O (yB O zr118 pl118 O)<|sq_fresh O O ?_
 rintro _ _ ⟨b3,rfl,rfl⟩
 refine wV O<|D 0 sz118 O<|zA<|zF<|R O<|G O<|qE O<|zN O fd80_3<|zL one33 (A 3 O) O<|qH O el33<|G O<|zA<|zQ<|zS ⟨[(29,.c _),(1,.c _),(4,.c _),(7,.c _),(27,.c _),(28,.c _)],[_,_,_,_,_]⟩ (Weak.mk [true,false,true,true,true,true] ⟨zB,zB,zB,zB,zB,zB,T⟩ O)<|qJ 1 0 O O (Nat) (fun k=>[(29,vI k)]) (fun k=>[]) (fun k=>k<=g.sl.length/\(slD g.sl s=slD (g.sl.drop k) s)) (fun k=>g.sl.length-k) ⟨0,⟨by omega,O⟩,Weak.mk [true,true,true,true,true] ⟨zB,zB,zB,zB,zB,zB,T⟩ O⟩ ?_
 rintro k ⟨hk,hp⟩
 refine R O<|yE O<|zA<|zF<|zC O (fun c1=>?_) (fun c1=>?_)
 ·try simp only [sx] at c1
  obtain ⟨x,hx⟩:=qX g.sl k (by omega)
  have hxb:=hg.slb x (qB hx)
  refine zH<|zF<|zQ<|R O<|qI O el33 (by omega) (getm (by assumption))<|zP zDc Y O<|zU O O (yX O zr48) ?_
  rintro _ _ ⟨b4,rfl,rfl⟩
  refine D 0 sz48 O<|qS _ (qK 0 O 9 _ PLe.ptr)<|zA<|R O<|zZ O fd48_0<|zL one9 Y O<|G O<|v O (kH O O O)<|zA<|zC O (fun c2=>?_) (fun c2=>?_)
  ·try simp only [sx] at c2
   have hsd:=slD_at hx c2
   refine zF<|yN 9 0 [⟨0,.q []⟩,⟨1,.q []⟩,⟨2,.q []⟩,⟨3,.q []⟩,⟨4,.q []⟩,⟨5,.q []⟩,⟨6,.q []⟩,⟨7,.q []⟩,⟨8,.e 0 []⟩] mixed (by kernel_rfl) (by kernel_rfl) O O O<|N O<|N O<|N O<|N O<|N O<|N O<|N O<|N O<|N O<|wX<|J O (by decide) O O (qA O zLl O)<|J O (by decide) O O (zD O one3 O Y O)<|J O (by decide) O O (qA O zLl O)<|J O (by decide) O O (zD O one3 O Y O)<|J O (by decide) O O (qA O fd48_2 O)<|J O (by decide) O O (zD O one3 O Y O)<|J O (by decide) O O (kB O O O ⟨by omega,by omega⟩)<|J O (by decide) O O (zJ O zDt O)<|zCl O O (by decide) O O (yY O sz3 O O O (zIk 0 O O)) ?_
   rintro _ _ ⟨rfl,rfl⟩
   refine ⟨_,O,?_⟩
   refine wV O<|zN O zGe<|D 0 sz3 O<|zA<|qL<|R O<|zP agg118 (A 0 O) O<|D 1 sz118 O<|zA<|zS _ (Weak.mem [false,true,true,true,true] O)<|zM<|fin1 (qQ agg118 O (A 0 O) O) ?_
   have h9:=hp.trans hsd
   exact ⟨by show _=V.agg (plC g s);unfold plC Gn.bs_ Gn.en;rw [h9];rfl,[_],O⟩
  ·try simp only [sx] at c2
   have hsd:=slD_nx hx c2
   refine zH<|zI O<|qD O ⟨by omega,by omega⟩<|G O<|zA ?_
   refine ⟨k+1,⟨by omega,hp.trans hsd⟩,(by omega),Weak.mk [true,true,true,true,true] ⟨zB,zB,zB,zB,zB,zB,T⟩ O⟩
 ·try simp only [sx] at c1
  refine qL<|R O<|zP agg118 (A 0 O) O<|D 1 sz118 O<|zA<|zS _ (Weak.mem [false,true,true,true,true] O)<|zM<|fin1 (qQ agg118 O (A 0 O) O) ?_
  have h9:slD g.sl s=⟨bs [],0,0⟩:=by rw [hp,wM (by omega)];rfl
  exact ⟨by show _=V.agg (plC g s);unfold plC Gn.bs_ Gn.en;rw [h9];rfl,[_],O⟩
theorem cg_kind_step (b:Nat) (sv sl:Value) (code:List In) (full:Bool) (g:Gn) (L:List ByteArray) (hg:g.Ok) (e:Ex) (ih:∀a,a∈e.Args->Rdy g L a->isCond a=false->Con cfg 119 [vPt b,vE a] (genE b sv sl code full g L) fun r μ'=>r=vTy (knd g.n.Bufs a)/\μ'=genE b sv sl code full g L) (h:Rdy g L e) (hc:isCond e=false):
    Con cfg 119 [vPt b,vE e] (genE b sv sl code full g L) fun r μ'=>r=vTy (knd g.n.Bufs e)/\μ'=genE b sv sl code full g L:=by
 refine Con.drop<|zW Tryz.func119 O Tryz.ntmps119 Tryz.results119 O ?_
 intro z hz
 have hop:=node_op (zAu h.part)
 have h13:¬13<=e.Op:=fun k9=>by rw [isC_op.2 ⟨k9,hop.2⟩] at hc;cases hc
 refine R O<|zU O O (qT O O) ?_
 rintro _ _ ⟨b1,rfl,rfl⟩
 refine qS _ (qK 0 O 3 _ PLe.ptr)<|zU O O (yX O zr31) ?_
 rintro _ _ ⟨b2,rfl,rfl⟩
 refine zA<|zF<|R O<|zZ O wY<|zL one3 Y O<|zA<|zQ<|zF<|R O<|yO O<|G O<|zA<|zC O (fun c1=>?_) (fun c1=>?_)
 ·have d1:e.Op=1:=of_decide_eq_true c1
  refine zH<|zC O (fun c2=>?_) (fun c2=>?_)
  ·have d3:e.Op=1∨e.Op=12:=by first|exact .inl d1|exact .inr (of_decide_eq_true c2)
   refine R O<|zZ O zFa<|zP yP Y O<|D 0 sz31 O<|zA<|zM<|fin1 (qQ yP O (A 0 O) O) ?_
   exact ⟨by rw [knd_1 d3];rfl,[_],O⟩
  ·exact absurd (c1.symm.trans c2) (by simp)
 ·have d1:¬e.Op=1:=of_decide_eq_false c1
  refine zI O<|yO O<|G O<|zA<|zC O (fun c2=>?_) (fun c2=>?_)
  ·have d3:e.Op=1∨e.Op=12:=by first|exact .inl d1|exact .inr (of_decide_eq_true c2)
   refine R O<|zZ O zFa<|zP yP Y O<|D 0 sz31 O<|zA<|zM<|fin1 (qQ yP O (A 0 O) O) ?_
   exact ⟨by rw [knd_1 d3];rfl,[_],O⟩
  ·have d2:¬e.Op=12:=of_decide_eq_false c2
   refine R O<|yO O<|G O<|zA<|zC O (fun c3=>?_) (fun c3=>?_)
   ·try simp only [sx] at c3
    refine R O<|v O (yB O zr31 pl31 O)<|D 0 sz31 O<|zA<|zM<|fin1 (qQ yP O (A 0 O) O) ?_
    exact ⟨by rw [knd_2 d1 d2 c3];rfl,[_],O⟩
   ·try simp only [sx] at c3
    refine R O<|yO O<|G O<|zA<|zC O (fun c4=>?_) (fun c4=>?_)
    ·try simp only [sx] at c4
     refine zF<|yN 12 1 [⟨0,.q []⟩,⟨1,.q []⟩,⟨2,.q []⟩,⟨3,.q [2]⟩,⟨4,.q []⟩,⟨5,.q []⟩,⟨6,.q []⟩,⟨7,.q []⟩,⟨8,.q []⟩,⟨9,.q []⟩,⟨10,.e 0 []⟩,⟨11,.e 0 []⟩] mixed (by kernel_rfl) (by kernel_rfl) O O O<|N O<|N O<|N O<|N O<|N O<|N O<|N O<|N O<|N O<|N O<|N O<|N O<|wX<|J O (by decide) O O (zG O O)<|J O (by decide) O O (qF O O)<|J O (by decide) O O (zJ O fd80_1 O)<|J O (by decide) O O (qG O zFj O (A 0 O) O)<|J O (by decide) O O (qA O zHl O)<|J O (by decide) O O (zD O one9 O Y O)<|J O (by decide) O O (qY O ok112 (wE g.n e.Name hg.hn) ⟨zB,O,zB,O,T⟩)<|J O (by decide) O O (yW O O)<|J O (by decide) O O (kV O O O)<|J O (by decide) O O (kO O O O)<|zIm O O (by decide) O O (qR [none,none,none,none,none,none,some 1,none] O zr69 O) ?_
     rintro _ _ ⟨b3,rfl,rfl⟩
     refine ⟨_,O,?_⟩
     refine zCl O O (by decide) O O (yY O sz69 O O O (zIk 0 O O)) ?_
     rintro _ _ ⟨rfl,rfl⟩
     refine ⟨_,O,?_⟩
     refine wV O<|G O<|zA<|R O<|zN O zOe<|zP yP (A 0 O) O<|D 1 sz31 O<|zA<|zS _ (Weak.mem [false,true,true,true,true] O)<|zM<|fin1 (qQ yP O (A 0 O) O) ?_
     exact ⟨by rw [knd_3 d1 d2 c3 c4];rfl,[_],O⟩
    ·try simp only [sx] at c4
     refine R O<|yO O<|G O<|zA<|zC O (fun c5=>?_) (fun c5=>?_)
     ·try simp only [sx] at c5
      obtain ⟨a,c,d,ha,⟨r1,k1⟩,⟨r2,k2⟩,⟨r3,k3⟩⟩:=h.args3 c5
      refine R O<|G O<|zZ O wH<|zL zAw Y O<|qI O el55 (by omega) (zBi (show e.Args[(1:Int).toNat]? =some c by rw [ha];rfl))<|zP kC Y O<|v O (yD [1,1,1] O ok119 (ih c (by rw [ha];simp) r2 k2) ⟨zB,O,zB,O,T⟩ O)<|D 0 sz31 O<|zA<|zM<|fin1 (qQ yP O (A 0 O) O) ?_
      exact ⟨by rw [knd_11 c5 ha];rfl,[_],O⟩
     ·try simp only [sx] at c5
      obtain ⟨a,r,ha,hra,hca⟩:=h.first d1 c3 c4 d2 c5 h13
      have ham:a∈e.Args:=by rw [ha];simp
      refine zH<|R O<|G O<|zZ O wH<|zL zAw Y O<|qI O el55 (by omega) (zBi (show e.Args[(0:Int).toNat]? =some a by rw [ha];rfl))<|zP kC Y O<|v O (yD [1,1,1] O ok119 (ih a ham hra hca) ⟨zB,O,zB,O,T⟩ O)<|D 0 sz31 O<|zA<|zM<|fin1 (qQ yP O (A 0 O) O) ?_
      exact ⟨by rw [knd_o d1 d2 c3 c4 c5 ha];rfl,[_],O⟩
theorem cg_kind (b:Nat) (sv sl:Value) (code:List In) (full:Bool) (g:Gn) (L:List ByteArray) (hg:g.Ok) (e:Ex) (h:Rdy g L e) (hc:isCond e=false):Con cfg 119 [vPt b,vE e] (genE b sv sl code full g L) fun r μ'=>r=vTy (knd g.n.Bufs e)/\μ'=genE b sv sl code full g L:=by
  induction e using Ex.ind with
  |_ e ih=>exact cg_kind_step b sv sl code full g L hg e (fun a ha h1 h2=>ih a ha h1 h2) h hc
theorem cg_operator (f:Int):
    Pur cfg 117 [vI f] (vI (oprI f)):=by
 refine zW Tryz.func117 O Tryz.ntmps117 Tryz.results117 O ?_
 intro z hz
 refine R O<|G O<|zA<|zF<|R O<|G O<|zA<|zQ<|R O<|yO O<|G O<|zA<|zC O (fun c1=>?_) (fun c1=>?_)
 ·try simp only [sx] at c1
  refine R O<|G O<|zA<|zM<|zX O ?_
  unfold oprI;rw [if_pos c1]
 ·try simp only [sx] at c1
  refine R O<|yO O<|G O<|zA<|zC O (fun c2=>?_) (fun c2=>?_)
  ·try simp only [sx] at c2
   refine R O<|G O<|zA<|zM<|zX O ?_
   unfold oprI;rw [if_neg c1,if_pos c2]
  ·try simp only [sx] at c2
   refine R O<|yO O<|G O<|zA<|zC O (fun c3=>?_) (fun c3=>?_)
   ·try simp only [sx] at c3
    refine R O<|G O<|zA<|zM<|zX O ?_
    unfold oprI;rw [if_neg c1,if_neg c2,if_pos c3]
   ·try simp only [sx] at c3
    refine zH<|R O<|G O<|zA<|zM<|zX O ?_
    unfold oprI;rw [if_neg c1,if_neg c2,if_neg c3]
theorem cg_form (b:Nat) (sv sl:Value) (code:List In) (full:Bool) (g:Gn) (L:List ByteArray) (pre:List In) (hE:Em pre code full) (hL:L.length<=1000000) (f:Lf) (x:Int) (hl:f.L.length<=4294967296):
    Con cfg 154 [vPt b,vLin f,vI x] (genE b sv sl code full g L) fun r μ'=>r=.tup []/\∃sv' code' full',Em (pre++frmC L f x) code' full'/\μ'=genE b sv' sl code' full' g L:=by
 refine zW Tryz.func154 O Tryz.ntmps154 Tryz.results154 O ?_
 intro z hz
 refine R O<|zU O O (qT O O) ?_
 rintro _ _ ⟨b1,rfl,rfl⟩
 refine qS _ (qK 0 O 4 _ PLe.ptr)<|zA<|zF<|qU 6 mixed (by kernel_rfl) O O<|zE O O (zG O O)<|zE O O (qF O O)<|zE O O (zJ O yQ O)<|zE O O (zG O O)<|zE O O (qA O fd54_0 O)<|zE O O (zD O one2 O Y O)<|yM<|zU O O (zT [0,0,0] O W (yZ b sv sl code full g L (pre) hE (1) (x) (f.K) (0) _ (fun _=>O)) ⟨zB,O,zB,O,zB,O,zB,O,zB,O,T⟩ O) ?_
 rintro _ _ ⟨_,⟨rfl,sv1,cd1,fu1,hE1,rfl⟩,rfl⟩
 refine zA<|R O<|zZ O zGb<|zL zNk Y O<|qH O el52<|G O<|zA<|zQ<|zS ⟨[(18,.c _),(0,.c _),(2,.c _),(16,.c _),(17,.c _)],[_,_,_]⟩ (Weak.mk [true,true,true] ⟨zB,zB,zB,zB,zB,T⟩ O)<|qJ 1 3 O O (Nat×Value×List In×Bool) (fun ⟨k,sw,cw,fw⟩=>[(18,vI k)]) (fun ⟨k,sw,cw,fw⟩=>[E.row b 80 [.lit sw,.lit (.bool fw),.sl 8 (g.n.Bufs.map Bf.cells),.sl 20 (g.n.Body.map St.cells),.sl 5 (g.ty.map tyC),.sl 3 (g.sl.map Sl.cells),.lit sl],E.vec sw 46 11 (cw.map In.cells),E.vec sl 9 1 (L.map fun s=>[cS s])]) (fun ⟨k,sw,cw,fw⟩=>k<=f.L.length/\(Em (pre++(iN 1 x f.K 0::(f.L.take k).flatMap (monC L x))) cw fw)) (fun ⟨k,sw,cw,fw⟩=>f.L.length-k) ⟨⟨0,sv1,cd1,fu1⟩,⟨by omega,(by rw [List.take_zero,List.flatMap_nil];have h9:=hE1;(try simp only [List.append_assoc,List.cons_append,List.nil_append,List.append_nil] at h9);(try simp only [List.append_assoc,List.cons_append,List.nil_append,List.append_nil]);exact h9)⟩,Weak.mk [true,true,true] ⟨zB,zB,zB,zB,zB,T⟩ O⟩ ?_
 rintro ⟨k,sw,cw,fw⟩ ⟨hk,hq⟩
 show AWP _ _ _ _ _ ⟨[(18,vI k)]++_,[E.row b 80 [.lit sw,.lit (.bool fw),.sl 8 (g.n.Bufs.map Bf.cells),.sl 20 (g.n.Body.map St.cells),.sl 5 (g.ty.map tyC),.sl 3 (g.sl.map Sl.cells),.lit sl],E.vec sw 46 11 (cw.map In.cells),E.vec sl 9 1 (L.map fun s=>[cS s])]++_⟩
 refine R O<|yE O<|zA<|zF<|zC O (fun c1=>?_) (fun c1=>?_)
 ·try simp only [sx] at c1
  obtain ⟨m,hm⟩:=qX f.L k (by omega)
  refine zH<|zF<|zQ<|R O<|qI O el52 (by omega) (getm (by assumption))<|zP zLp Y O<|zU O O (yX O zr205) ?_
  rintro _ _ ⟨b2,rfl,rfl⟩
  refine D 0 sz205 O<|qS _ (qK 0 O 7 _ PLe.ptr)<|zA<|zF<|yN 12 0 [⟨0,.q []⟩,⟨1,.q []⟩,⟨2,.q []⟩,⟨3,.q []⟩,⟨4,.q []⟩,⟨5,.q []⟩,⟨6,.q [0]⟩,⟨7,.q []⟩,⟨8,.q []⟩,⟨9,.q [2]⟩,⟨10,.q []⟩,⟨11,.q []⟩] mixed (by kernel_rfl) (by kernel_rfl) O O O<|N O<|N O<|N O<|N O<|N O<|N O<|N O<|N O<|N O<|N O<|N O<|N O<|wX<|J O (by decide) O O (zG O O)<|J O (by decide) O O (qF O O)<|J O (by decide) O O (zJ O yQ O)<|J O (by decide) O O (zG O O)<|J O (by decide) O O (qF O O)<|J O (by decide) O O (zJ O fd80_4 O)<|J O (by decide) O O (zD O zHx O (A 0 O) O)<|J O (by decide) O O (qA O zEn O)<|J O (by decide) O O (zD O one9 O Y O)<|J O (by decide) O O (zBx 0 O ok182 O (zEu L m.Name (by omega)) O ⟨.inl ⟨O,O⟩,.inr ⟨zB,O⟩,T⟩)<|J O (by decide) O O (qA O zKk O)<|J O (by decide) O O (zD O one2 O Y O)<|wV O<|zU O O (zT [0,0,0] O W (yZ b sw sl cw fw g L (pre++(iN 1 x f.K 0::(f.L.take k).flatMap (monC L x))) hq (4) (103) (idxB L m.Name) (m.By) _ (fun _=>O)) ⟨zB,O,zB,O,zB,O,zB,O,zB,O,T⟩ O) ?_
  rintro _ _ ⟨_,⟨rfl,sv3,cd3,fu3,hE3,rfl⟩,rfl⟩
  refine zA<|zI O<|G O<|qE O<|zN O yQ<|G O<|G O<|zU O O (zT [0,0,0] O W (yZ b sv3 sl cd3 fu3 g L (pre++(iN 1 x f.K 0::(f.L.take k).flatMap (monC L x))++[iN 4 103 (idxB L m.Name) m.By]) hE3 (3) (x) (x) (103) _ (fun _=>O)) ⟨zB,O,zB,O,zB,O,zB,O,zB,O,T⟩ O) ?_
  rintro _ _ ⟨_,⟨rfl,sv4,cd4,fu4,hE4,rfl⟩,rfl⟩
  refine zA<|zI O<|qD O ⟨by omega,by omega⟩<|G O<|zA ?_
  refine ⟨⟨k+1,sv4,cd4,fu4⟩,⟨by omega,(by rw [flat_next hm];unfold monC;have h9:=hE4;(try simp only [List.append_assoc,List.cons_append,List.nil_append,List.append_nil] at h9);(try simp only [List.append_assoc,List.cons_append,List.nil_append,List.append_nil]);exact h9)⟩,(by show f.L.length-(k+1)<f.L.length-k;omega),Weak.mk [true,true,true] ⟨zB,zB,zB,zB,zB,T⟩ O⟩
 ·try simp only [sx] at c1
  refine qL ?_
  repeat (first|refine qO ?_|refine qN ?_)
  refine yC<|U ?_
  rw [yI (l:=f.L) (k:=k) (by omega)] at hq
  exact ⟨O,_,_,_,hq,O⟩
set_option maxHeartbeats 4000000 in
theorem cg_gather (b:Nat) (sv sl:Value) (code:List In) (full:Bool) (g:Gn) (L:List ByteArray) (pre:List In) (hE:Em pre code full) (hL:L.length<=1000000) (x:Ix) (ext:Int) (hg:g.Ok) (hb:hasBf g.n.Bufs x.From=true) (hd:(g.dm x.From).length=x.At.length) (hw:x.wt<=1000000000):
    Con cfg 155 [vPt b,vIndex x,vI ext] (genE b sv sl code full g L) fun r μ'=>r=.tup []/\∃sv' code' full',Em (pre++gatC g L x ext) code' full'/\μ'=genE b sv' sl code' full' g L:=by
 refine zW Tryz.func155 O Tryz.ntmps155 Tryz.results155 O ?_
 intro z hz
 obtain ⟨p1,p2,p3,p4,p5,p6,p7⟩:=hg.plc hb
 unfold Ix.wt at hw
 refine R O<|zU O O (qT O O) ?_
 rintro _ _ ⟨b1,rfl,rfl⟩
 refine qS _ (qK 0 O 4 _ PLe.ptr)<|zA<|R O<|G O<|zZ O zAs<|zL one9 Y O<|v O (yD [0,0,0] O ok60 (cg_find b sv sl code full g L x.From hg) ⟨zB,O,zB,O,T⟩ O)<|zU O O (qR [none,none,none,none,none,none,some 1,none,none,none,some 1] O zr118 O) ?_
 rintro _ _ ⟨b2,rfl,rfl⟩
 refine D 0 sz118 O<|qS _ (qK 0 O 6 _ PLe.ptr)<|zA<|zF<|qU 5 mixed (by kernel_rfl) O O<|zE O O (zG O O)<|zE O O (qF O O)<|zE O O (zJ O yQ O)<|zE O O (qA O zDt O)<|zE O O (zD O one3 O Y O)<|yM<|zU O O (zT [0,0,0] O W (yZ b sv sl code full g L (pre) hE (1) (104) (g.bs_ x.From) (0) _ (fun _=>O)) ⟨zB,O,zB,O,zB,O,zB,O,zB,O,T⟩ O) ?_
 rintro _ _ ⟨_,⟨rfl,sv1,cd1,fu1,hE1,rfl⟩,rfl⟩
 refine zA<|zF<|R O<|zZ O zCk<|zL zEw Y O<|qH O zDb<|G O<|zA<|zQ<|zS ⟨[(22,.c _),(0,.c _),(2,.c _),(6,.c _),(20,.c _),(21,.c _)],[_,_,_]⟩ (Weak.mk [true,true,true] ⟨zB,zB,zB,zB,zB,zB,T⟩ O)<|qJ 1 3 O O (Nat×Value×List In×Bool) (fun ⟨k,sw,cw,fw⟩=>[(22,vI k)]) (fun ⟨k,sw,cw,fw⟩=>[E.row b 80 [.lit sw,.lit (.bool fw),.sl 8 (g.n.Bufs.map Bf.cells),.sl 20 (g.n.Body.map St.cells),.sl 5 (g.ty.map tyC),.sl 3 (g.sl.map Sl.cells),.lit sl],E.vec sw 46 11 (cw.map In.cells),E.vec sl 9 1 (L.map fun s=>[cS s])]) (fun ⟨k,sw,cw,fw⟩=>k<=x.At.length/\(Em (pre++(iN 1 104 (g.bs_ x.From) 0::mapI (atC L (g.dm x.From) (strT (g.dm x.From))) 0 (x.At.take k))) cw fw)) (fun ⟨k,sw,cw,fw⟩=>x.At.length-k) ⟨⟨0,sv1,cd1,fu1⟩,⟨by omega,(by rw [List.take_zero,mapI];have h9:=hE1;(try simp only [List.append_assoc,List.cons_append,List.nil_append,List.append_nil] at h9);(try simp only [List.append_assoc,List.cons_append,List.nil_append,List.append_nil]);exact h9)⟩,Weak.mk [true,true,true] ⟨zB,zB,zB,zB,zB,zB,T⟩ O⟩ ?_
 rintro ⟨k,sw,cw,fw⟩ ⟨hk,hq⟩
 show AWP _ _ _ _ _ ⟨[(22,vI k)]++_,[E.row b 80 [.lit sw,.lit (.bool fw),.sl 8 (g.n.Bufs.map Bf.cells),.sl 20 (g.n.Body.map St.cells),.sl 5 (g.ty.map tyC),.sl 3 (g.sl.map Sl.cells),.lit sl],E.vec sw 46 11 (cw.map In.cells),E.vec sl 9 1 (L.map fun s=>[cS s])]++_⟩
 refine R O<|yE O<|zA<|zF<|zC O (fun c1=>?_) (fun c1=>?_)
 ·try simp only [sx] at c1
  obtain ⟨f,hf⟩:=qX x.At k (by omega)
  have hdk:=getD0_at (d:=(g.dm x.From)) (j:=k) (by omega)
  have hsk:=strT_at (d:=(g.dm x.From)) (j:=k) p6 (by omega)
  refine zH<|zF<|zQ<|R O<|G O<|qI O zDb (by omega) (getm (by assumption))<|zP zCd Y O<|zU O O (qR [none,some 2] O zr54 O) ?_
  rintro _ _ ⟨b3,rfl,rfl⟩
  refine G O<|D 0 sz54 O<|qS _ (qK 0 O 8 _ PLe.ptr)<|zA<|R O<|G O<|zP zCd Y O<|zU O O (zT [0,0,0] O ok154 (cg_form b sw sl cw fw g L (pre++(iN 1 104 (g.bs_ x.From) 0::mapI (atC L (g.dm x.From) (strT (g.dm x.From))) 0 (x.At.take k))) hq hL f 105 (by have:=zCu (qB hf);omega)) ⟨zB,O,zB,O,zB,O,T⟩ O) ?_
  rintro _ _ ⟨_,⟨rfl,sv2,cd2,fu2,hE2,rfl⟩,rfl⟩
  refine zA<|zF<|R O<|zZ O zKm<|zZ O zCm<|zL zCh Y O<|qH O el67<|v O (wG O O O)<|zA<|zC O (fun c2=>?_) (fun c2=>?_)
  ·try simp only [sx] at c2
   refine qU 9 mixed (by kernel_rfl) O O<|zE O O (zG O O)<|zE O O (qF O O)<|zE O O (zJ O yQ O)<|zE O O (qA O zKm O)<|zE O O (qA O zCm O)<|zE O O (zD O zCh O Y O)<|zE O O (zG O O)<|zE O O (yA O el67 O O (by omega) (getm hdk))<|zE O O (zD O one3 O Y O)<|yM<|zU O O (zT [0,0,0] O ok63 (zCj b sv2 sl cd2 fu2 g L (pre++(iN 1 104 (g.bs_ x.From) 0::mapI (atC L (g.dm x.From) (strT (g.dm x.From))) 0 (x.At.take k))++frmC L f 105) hE2 (10) (255) (105) (0) ((g.dm x.From).getD k 0)) ⟨zB,O,zB,O,zB,O,zB,O,zB,O,zB,O,T⟩ O) ?_
   rintro _ _ ⟨_,⟨rfl,sv3,cd3,fu3,hE3,rfl⟩,rfl⟩
   refine zA<|zF<|qU 8 mixed (by kernel_rfl) O O<|zE O O (zG O O)<|zE O O (qF O O)<|zE O O (zJ O yQ O)<|zE O O (qA O zOj O)<|zE O O (zD O zCh O Y O)<|zE O O (zG O O)<|zE O O (yA O el67 O O (by omega) (getm hsk))<|zE O O (zD O one3 O Y O)<|yM<|zU O O (zT [0,0,0] O W (yZ b sv3 sl cd3 fu3 g L (pre++(iN 1 104 (g.bs_ x.From) 0::mapI (atC L (g.dm x.From) (strT (g.dm x.From))) 0 (x.At.take k))++frmC L f 105++[iA 10 255 105 0 ((g.dm x.From).getD k 0)]) hE3 (4) (105) (105) ((strT (g.dm x.From)).getD k 0) _ (fun _=>O)) ⟨zB,O,zB,O,zB,O,zB,O,zB,O,T⟩ O) ?_
   rintro _ _ ⟨_,⟨rfl,sv4,cd4,fu4,hE4,rfl⟩,rfl⟩
   refine zA<|zI O<|G O<|qE O<|zN O yQ<|zU O O (zT [0,0,0] O W (yZ b sv4 sl cd4 fu4 g L (pre++(iN 1 104 (g.bs_ x.From) 0::mapI (atC L (g.dm x.From) (strT (g.dm x.From))) 0 (x.At.take k))++frmC L f 105++[iA 10 255 105 0 ((g.dm x.From).getD k 0)]++[iN 4 105 105 ((strT (g.dm x.From)).getD k 0)]) hE4 (3) (104) (104) (105) _ (fun _=>O)) ⟨zB,O,zB,O,zB,O,zB,O,zB,O,T⟩ O) ?_
   rintro _ _ ⟨_,⟨rfl,sv5,cd5,fu5,hE5,rfl⟩,rfl⟩
   refine zA<|zI O<|qD O ⟨by omega,by omega⟩<|G O<|zA ?_
   refine ⟨⟨k+1,sv5,cd5,fu5⟩,⟨by omega,(by rw [zBh _ hf,atC_1 (by omega)];have h9:=hE5;(try simp only [List.append_assoc,List.cons_append,List.nil_append,List.append_nil] at h9);(try simp only [List.append_assoc,List.cons_append,List.nil_append,List.append_nil]);exact h9)⟩,(by show x.At.length-(k+1)<x.At.length-k;omega),Weak.mk [true,true,true] ⟨zB,zB,zB,zB,zB,zB,T⟩ O⟩
  ·try simp only [sx] at c2
   refine zH<|zF<|qU 8 mixed (by kernel_rfl) O O<|zE O O (zG O O)<|zE O O (qF O O)<|zE O O (zJ O yQ O)<|zE O O (qA O zOj O)<|zE O O (zD O zCh O Y O)<|zE O O (zG O O)<|zE O O (yA O el67 O O (by omega) (getm hsk))<|zE O O (zD O one3 O Y O)<|yM<|zU O O (zT [0,0,0] O W (yZ b sv2 sl cd2 fu2 g L (pre++(iN 1 104 (g.bs_ x.From) 0::mapI (atC L (g.dm x.From) (strT (g.dm x.From))) 0 (x.At.take k))++frmC L f 105) hE2 (4) (105) (105) ((strT (g.dm x.From)).getD k 0) _ (fun _=>O)) ⟨zB,O,zB,O,zB,O,zB,O,zB,O,T⟩ O) ?_
   rintro _ _ ⟨_,⟨rfl,sv4,cd4,fu4,hE4,rfl⟩,rfl⟩
   refine zA<|zI O<|G O<|qE O<|zN O yQ<|zU O O (zT [0,0,0] O W (yZ b sv4 sl cd4 fu4 g L (pre++(iN 1 104 (g.bs_ x.From) 0::mapI (atC L (g.dm x.From) (strT (g.dm x.From))) 0 (x.At.take k))++frmC L f 105++[iN 4 105 105 ((strT (g.dm x.From)).getD k 0)]) hE4 (3) (104) (104) (105) _ (fun _=>O)) ⟨zB,O,zB,O,zB,O,zB,O,zB,O,T⟩ O) ?_
   rintro _ _ ⟨_,⟨rfl,sv5,cd5,fu5,hE5,rfl⟩,rfl⟩
   refine zA<|zI O<|qD O ⟨by omega,by omega⟩<|G O<|zA ?_
   refine ⟨⟨k+1,sv5,cd5,fu5⟩,⟨by omega,(by rw [zBh _ hf,atC_0 (by omega)];have h9:=hE5;(try simp only [List.append_assoc,List.cons_append,List.nil_append,List.append_nil] at h9);(try simp only [List.append_assoc,List.cons_append,List.nil_append,List.append_nil]);exact h9)⟩,(by show x.At.length-(k+1)<x.At.length-k;omega),Weak.mk [true,true,true] ⟨zB,zB,zB,zB,zB,zB,T⟩ O⟩
 ·try simp only [sx] at c1
  rw [yI (l:=x.At) (k:=k) (by omega)] at hq
  refine qL<|zF<|qU 7 mixed (by kernel_rfl) O O<|zE O O (zG O O)<|zE O O (qF O O)<|zE O O (zJ O yQ O)<|zE O O (qA O zDt O)<|zE O O (zD O one3 O Y O)<|zE O O (qA O zGe O)<|zE O O (zD O one3 O Y O)<|yM<|zU O O (zT [0,0,0] O ok63 (zCj b sw sl cw fw g L (pre++(iN 1 104 (g.bs_ x.From) 0::mapI (atC L (g.dm x.From) (strT (g.dm x.From))) 0 x.At)) hq (10) (254) (104) (g.bs_ x.From) (g.en x.From)) ⟨zB,O,zB,O,zB,O,zB,O,zB,O,zB,O,T⟩ O) ?_
  rintro _ _ ⟨_,⟨rfl,sv6,cd6,fu6,hE6,rfl⟩,rfl⟩
  refine zA<|zI O<|G O<|qE O<|zN O yQ<|G O<|zU O O (zT [0,0,0] O W (yZ b sv6 sl cd6 fu6 g L (pre++(iN 1 104 (g.bs_ x.From) 0::mapI (atC L (g.dm x.From) (strT (g.dm x.From))) 0 x.At)++[iA 10 254 104 (g.bs_ x.From) (g.en x.From)]) hE6 (15) (101) (254) (ext) _ (fun _=>O)) ⟨zB,O,zB,O,zB,O,zB,O,zB,O,T⟩ O) ?_
  rintro _ _ ⟨_,⟨rfl,sv7,cd7,fu7,hE7,rfl⟩,rfl⟩
  refine zA ?_
  repeat (first|refine qO ?_|refine qN ?_)
  refine yC<|U ?_
  refine ⟨O,_,_,_,?_,O⟩
  unfold gatC
  have h9:=hE7
  simp only [List.append_assoc,List.cons_append,List.nil_append,List.append_nil] at h9⊢
  exact h9
set_option maxHeartbeats 4000000 in
theorem cg_address (b:Nat) (sv sl:Value) (code:List In) (full:Bool) (g:Gn) (L:List ByteArray) (pre:List In) (hE:Em pre code full) (hL:L.length<=1000000) (s:ByteArray) (idx:List Ix) (hg:g.Ok) (hb:hasBf g.n.Bufs s=true) (hd:(g.dm s).length=idx.length) (hi:∀x,x∈idx->RdI g L x) (hw:idxWt idx<=1000000000):
    Con cfg 115 [vPt b,vPl g s,vIndices idx] (genE b sv sl code full g L) fun r μ'=>r=.tup []/\∃sv' code' full',Em (pre++adrC g L s idx) code' full'/\μ'=genE b sv' sl code' full' g L:=by
 refine zW Tryz.func115 O Tryz.ntmps115 Tryz.results115 O ?_
 intro z hz
 obtain ⟨p1,p2,p3,p4,p5,p6,p7⟩:=hg.plc hb
 refine R O<|zU O O (qT O O) ?_
 rintro _ _ ⟨b1,rfl,rfl⟩
 refine qS _ (qK 0 O 4 _ PLe.ptr)<|zA<|zF<|qU 5 mixed (by kernel_rfl) O O<|zE O O (zG O O)<|zE O O (qF O O)<|zE O O (zJ O yQ O)<|zE O O (qA O zDt O)<|zE O O (zD O one3 O Y O)<|yM<|zU O O (zT [0,0,0] O W (yZ b sv sl code full g L (pre) hE (1) (100) (g.bs_ s) (0) _ (fun _=>O)) ⟨zB,O,zB,O,zB,O,zB,O,zB,O,T⟩ O) ?_
 rintro _ _ ⟨_,⟨rfl,sv1,cd1,fu1,hE1,rfl⟩,rfl⟩
 refine zA<|R O<|G O<|qH O el51<|G O<|zA<|zQ<|zS ⟨[(16,.c _),(0,.c _),(4,.c _),(14,.c _),(15,.c _)],[_,_,_]⟩ (Weak.mk [true,true,true] ⟨zB,zB,zB,zB,zB,T⟩ O)<|qJ 1 3 O O (Nat×Value×List In×Bool) (fun ⟨k,sw,cw,fw⟩=>[(16,vI k)]) (fun ⟨k,sw,cw,fw⟩=>[E.row b 80 [.lit sw,.lit (.bool fw),.sl 8 (g.n.Bufs.map Bf.cells),.sl 20 (g.n.Body.map St.cells),.sl 5 (g.ty.map tyC),.sl 3 (g.sl.map Sl.cells),.lit sl],E.vec sw 46 11 (cw.map In.cells),E.vec sl 9 1 (L.map fun s=>[cS s])]) (fun ⟨k,sw,cw,fw⟩=>k<=idx.length/\(Em (pre++(iN 1 100 (g.bs_ s) 0::mapI (axC g L (g.dm s) (strT (g.dm s))) 0 (idx.take k))) cw fw)) (fun ⟨k,sw,cw,fw⟩=>idx.length-k) ⟨⟨0,sv1,cd1,fu1⟩,⟨by omega,(by rw [List.take_zero,mapI];have h9:=hE1;(try simp only [List.append_assoc,List.cons_append,List.nil_append,List.append_nil] at h9);(try simp only [List.append_assoc,List.cons_append,List.nil_append,List.append_nil]);exact h9)⟩,Weak.mk [true,true,true] ⟨zB,zB,zB,zB,zB,T⟩ O⟩ ?_
 rintro ⟨k,sw,cw,fw⟩ ⟨hk,hq⟩
 show AWP _ _ _ _ _ ⟨[(16,vI k)]++_,[E.row b 80 [.lit sw,.lit (.bool fw),.sl 8 (g.n.Bufs.map Bf.cells),.sl 20 (g.n.Body.map St.cells),.sl 5 (g.ty.map tyC),.sl 3 (g.sl.map Sl.cells),.lit sl],E.vec sw 46 11 (cw.map In.cells),E.vec sl 9 1 (L.map fun s=>[cS s])]++_⟩
 refine R O<|yE O<|zA<|zF<|zC O (fun c1=>?_) (fun c1=>?_)
 ·try simp only [sx] at c1
  obtain ⟨x,hx⟩:=qX idx k (by omega)
  have hdk:=getD0_at (d:=(g.dm s)) (j:=k) (by omega)
  have hsk:=strT_at (d:=(g.dm s)) (j:=k) p6 (by omega)
  have hxw:=zCx (qB hx)
  refine zH<|zF<|zQ<|R O<|G O<|qI O el51 (by omega) (getm (by assumption))<|zP zCo Y O<|zU O O (qR [none,some 2,none,some 2] O zMo O) ?_
  rintro _ _ ⟨b2,rfl,rfl⟩
  refine G O<|D 0 zMx O<|qS _ (qK 0 O 7 _ PLe.ptr)<|zA<|zF<|R O<|zZ O zAs<|zL one9 Y O<|v O (zCf O O O)<|zA<|zC O (fun c2=>?_) (fun c2=>?_)
  ·try simp only [sx] at c2
   refine qU 8 mixed (by kernel_rfl) O O<|zE O O (zG O O)<|zE O O (qG O zCo O Y O)<|zE O O (qA O zKm O)<|zE O O (qA O zCm O)<|zE O O (zD O zCh O Y O)<|zE O O (zG O O)<|zE O O (yA O el67 O O (by omega) (getm hdk))<|zE O O (zD O one3 O Y O)<|yM<|zU O O (zT [0,0,0] O ok155 (cg_gather b sw sl cw fw g L (pre++(iN 1 100 (g.bs_ s) 0::mapI (axC g L (g.dm s) (strT (g.dm s))) 0 (idx.take k))) hq hL x ((g.dm s).getD k 0) hg ((hi x (qB hx)).2 c2).1 ((hi x (qB hx)).2 c2).2.1 (by omega)) ⟨zB,O,zB,O,zB,O,T⟩ O) ?_
   rintro _ _ ⟨_,⟨rfl,sv2,cd2,fu2,hE2,rfl⟩,rfl⟩
   refine zA<|zF<|qU 8 mixed (by kernel_rfl) O O<|zE O O (zG O O)<|zE O O (qF O O)<|zE O O (zJ O yQ O)<|zE O O (qA O zOj O)<|zE O O (zD O zCh O Y O)<|zE O O (zG O O)<|zE O O (yA O el67 O O (by omega) (getm hsk))<|zE O O (zD O one3 O Y O)<|yM<|zU O O (zT [0,0,0] O W (yZ b sv2 sl cd2 fu2 g L (pre++(iN 1 100 (g.bs_ s) 0::mapI (axC g L (g.dm s) (strT (g.dm s))) 0 (idx.take k))++gatC g L x ((g.dm s).getD k 0)) hE2 (4) (101) (101) ((strT (g.dm s)).getD k 0) _ (fun _=>O)) ⟨zB,O,zB,O,zB,O,zB,O,zB,O,T⟩ O) ?_
   rintro _ _ ⟨_,⟨rfl,sv4,cd4,fu4,hE4,rfl⟩,rfl⟩
   refine zA<|zI O<|G O<|qE O<|zN O yQ<|zU O O (zT [0,0,0] O W (yZ b sv4 sl cd4 fu4 g L (pre++(iN 1 100 (g.bs_ s) 0::mapI (axC g L (g.dm s) (strT (g.dm s))) 0 (idx.take k))++gatC g L x ((g.dm s).getD k 0)++[iN 4 101 101 ((strT (g.dm s)).getD k 0)]) hE4 (3) (100) (100) (101) _ (fun _=>O)) ⟨zB,O,zB,O,zB,O,zB,O,zB,O,T⟩ O) ?_
   rintro _ _ ⟨_,⟨rfl,sv5,cd5,fu5,hE5,rfl⟩,rfl⟩
   refine zA<|zI O<|qD O ⟨by omega,by omega⟩<|G O<|zA ?_
   refine ⟨⟨k+1,sv5,cd5,fu5⟩,⟨by omega,(by rw [zBh _ hx,axC_g c2];have h9:=hE5;(try simp only [List.append_assoc,List.cons_append,List.nil_append,List.append_nil] at h9);(try simp only [List.append_assoc,List.cons_append,List.nil_append,List.append_nil]);exact h9)⟩,(by show idx.length-(k+1)<idx.length-k;omega),Weak.mk [true,true,true] ⟨zB,zB,zB,zB,zB,T⟩ O⟩
  ·try simp only [sx] at c2
   refine R O<|G O<|zZ O zGd<|zP zCd Y O<|zU O O (zT [0,0,0] O ok154 (cg_form b sw sl cw fw g L (pre++(iN 1 100 (g.bs_ s) 0::mapI (axC g L (g.dm s) (strT (g.dm s))) 0 (idx.take k))) hq hL x.Lin 101 (by unfold Ix.wt at hxw;omega)) ⟨zB,O,zB,O,zB,O,T⟩ O) ?_
   rintro _ _ ⟨_,⟨rfl,sv2,cd2,fu2,hE2,rfl⟩,rfl⟩
   refine zA<|R O<|zZ O zKm<|zZ O zCm<|zL zCh Y O<|qH O el67<|v O (wG O O O)<|zA<|zC O (fun c3=>?_) (fun c3=>?_)
   ·try simp only [sx] at c3
    refine qU 9 mixed (by kernel_rfl) O O<|zE O O (zG O O)<|zE O O (qF O O)<|zE O O (zJ O yQ O)<|zE O O (qA O zKm O)<|zE O O (qA O zCm O)<|zE O O (zD O zCh O Y O)<|zE O O (zG O O)<|zE O O (yA O el67 O O (by omega) (getm hdk))<|zE O O (zD O one3 O Y O)<|yM<|zU O O (zT [0,0,0] O ok63 (zCj b sv2 sl cd2 fu2 g L (pre++(iN 1 100 (g.bs_ s) 0::mapI (axC g L (g.dm s) (strT (g.dm s))) 0 (idx.take k))++frmC L x.Lin 101) hE2 (10) (255) (101) (0) ((g.dm s).getD k 0)) ⟨zB,O,zB,O,zB,O,zB,O,zB,O,zB,O,T⟩ O) ?_
    rintro _ _ ⟨_,⟨rfl,sv3,cd3,fu3,hE3,rfl⟩,rfl⟩
    refine zA<|zF<|qU 8 mixed (by kernel_rfl) O O<|zE O O (zG O O)<|zE O O (qF O O)<|zE O O (zJ O yQ O)<|zE O O (qA O zOj O)<|zE O O (zD O zCh O Y O)<|zE O O (zG O O)<|zE O O (yA O el67 O O (by omega) (getm hsk))<|zE O O (zD O one3 O Y O)<|yM<|zU O O (zT [0,0,0] O W (yZ b sv3 sl cd3 fu3 g L (pre++(iN 1 100 (g.bs_ s) 0::mapI (axC g L (g.dm s) (strT (g.dm s))) 0 (idx.take k))++frmC L x.Lin 101++[iA 10 255 101 0 ((g.dm s).getD k 0)]) hE3 (4) (101) (101) ((strT (g.dm s)).getD k 0) _ (fun _=>O)) ⟨zB,O,zB,O,zB,O,zB,O,zB,O,T⟩ O) ?_
    rintro _ _ ⟨_,⟨rfl,sv4,cd4,fu4,hE4,rfl⟩,rfl⟩
    refine zA<|zI O<|G O<|qE O<|zN O yQ<|zU O O (zT [0,0,0] O W (yZ b sv4 sl cd4 fu4 g L (pre++(iN 1 100 (g.bs_ s) 0::mapI (axC g L (g.dm s) (strT (g.dm s))) 0 (idx.take k))++frmC L x.Lin 101++[iA 10 255 101 0 ((g.dm s).getD k 0)]++[iN 4 101 101 ((strT (g.dm s)).getD k 0)]) hE4 (3) (100) (100) (101) _ (fun _=>O)) ⟨zB,O,zB,O,zB,O,zB,O,zB,O,T⟩ O) ?_
    rintro _ _ ⟨_,⟨rfl,sv5,cd5,fu5,hE5,rfl⟩,rfl⟩
    refine zA<|zI O<|qD O ⟨by omega,by omega⟩<|G O<|zA ?_
    refine ⟨⟨k+1,sv5,cd5,fu5⟩,⟨by omega,(by rw [zBh _ hx,axC_1 c2 (by omega)];have h9:=hE5;(try simp only [List.append_assoc,List.cons_append,List.nil_append,List.append_nil] at h9);(try simp only [List.append_assoc,List.cons_append,List.nil_append,List.append_nil]);exact h9)⟩,(by show idx.length-(k+1)<idx.length-k;omega),Weak.mk [true,true,true] ⟨zB,zB,zB,zB,zB,T⟩ O⟩
   ·try simp only [sx] at c3
    refine zH<|zF<|qU 8 mixed (by kernel_rfl) O O<|zE O O (zG O O)<|zE O O (qF O O)<|zE O O (zJ O yQ O)<|zE O O (qA O zOj O)<|zE O O (zD O zCh O Y O)<|zE O O (zG O O)<|zE O O (yA O el67 O O (by omega) (getm hsk))<|zE O O (zD O one3 O Y O)<|yM<|zU O O (zT [0,0,0] O W (yZ b sv2 sl cd2 fu2 g L (pre++(iN 1 100 (g.bs_ s) 0::mapI (axC g L (g.dm s) (strT (g.dm s))) 0 (idx.take k))++frmC L x.Lin 101) hE2 (4) (101) (101) ((strT (g.dm s)).getD k 0) _ (fun _=>O)) ⟨zB,O,zB,O,zB,O,zB,O,zB,O,T⟩ O) ?_
    rintro _ _ ⟨_,⟨rfl,sv4,cd4,fu4,hE4,rfl⟩,rfl⟩
    refine zA<|zI O<|G O<|qE O<|zN O yQ<|zU O O (zT [0,0,0] O W (yZ b sv4 sl cd4 fu4 g L (pre++(iN 1 100 (g.bs_ s) 0::mapI (axC g L (g.dm s) (strT (g.dm s))) 0 (idx.take k))++frmC L x.Lin 101++[iN 4 101 101 ((strT (g.dm s)).getD k 0)]) hE4 (3) (100) (100) (101) _ (fun _=>O)) ⟨zB,O,zB,O,zB,O,zB,O,zB,O,T⟩ O) ?_
    rintro _ _ ⟨_,⟨rfl,sv5,cd5,fu5,hE5,rfl⟩,rfl⟩
    refine zA<|zI O<|qD O ⟨by omega,by omega⟩<|G O<|zA ?_
    refine ⟨⟨k+1,sv5,cd5,fu5⟩,⟨by omega,(by rw [zBh _ hx,axC_0 c2 (by omega)];have h9:=hE5;(try simp only [List.append_assoc,List.cons_append,List.nil_append,List.append_nil] at h9);(try simp only [List.append_assoc,List.cons_append,List.nil_append,List.append_nil]);exact h9)⟩,(by show idx.length-(k+1)<idx.length-k;omega),Weak.mk [true,true,true] ⟨zB,zB,zB,zB,zB,T⟩ O⟩
 ·try simp only [sx] at c1
  refine qL ?_
  repeat (first|refine qO ?_|refine qN ?_)
  refine yC<|U ?_
  rw [yI (l:=idx) (k:=k) (by omega)] at hq
  exact ⟨O,_,_,_,hq,O⟩
end Go.W
