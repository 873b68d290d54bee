/-
  What functions compute.
  Conditions: none.
-/
import Derived.Test.YtdldhbfgfkebjaaGreatDoorHC
import Derived.Test.YtdldhbfgfkebjaaGreatDoorPlainG
set_option linter.unusedSimpArgs false
set_option linter.unusedVariables false
set_option maxRecDepth 10000
namespace Go.W
open Go Go.Eng Go.Proofs Go.L41 Go.Br
attribute [local irreducible] AWP RWP TD fY
abbrev vPt (b:Nat):V:=.c (.lit (.pointer (some ⟨b,0,none⟩)))
abbrev fJ (b:Nat) (sv sl:Value) (code:List In) (full:Bool) (g:Gn) (L:List ByteArray):List E:=
  [.row b 80 [.lit sv,.lit (.bool full),.sl 8 (g.n.Bufs.map Bf.cells),.sl 20 (g.n.Body.map St.cells),.sl 5 (g.ty.map tyC),.sl 3 (g.sl.map Sl.cells),.lit sl],.vec sv 46 11 (code.map In.cells),.vec sl 9 1 (L.map fun s=>[cS s])]
abbrev vPl (g:Gn) (s:ByteArray):V:=.agg (plC g s)
theorem atC_1 {L:List ByteArray} {d st:List Int} {j:Nat} {f:Lf} (h:2<=d.length):atC L d st j f=rN L f 105++([iA 10 255 105 0 (d.getD j 0)]++[iN 4 105 105 (st.getD j 0),iN 3 104 104 105]):=by
  unfold atC tI;rw [if_pos h,List.append_assoc]
theorem atC_0 {L:List ByteArray} {d st:List Int} {j:Nat} {f:Lf} (h:¬2<=d.length):atC L d st j f=rN L f 105++[iN 4 105 105 (st.getD j 0),iN 3 104 104 105]:=by
  unfold atC tI;rw [if_neg h,List.append_nil]
theorem axC_g {g:Gn} {L:List ByteArray} {d st:List Int} {i:Nat} {x:Ix} (h:¬x.From=bs []):axC g L d st i x=vU g L x (d.getD i 0)++[iN 4 101 101 (st.getD i 0),iN 3 100 100 101]:=by
  unfold axC;rw [if_neg h]
theorem axC_1 {g:Gn} {L:List ByteArray} {d st:List Int} {i:Nat} {x:Ix} (h:x.From=bs []) (h2:2<=d.length):axC g L d st i x=rN L x.Lin 101++([iA 10 255 101 0 (d.getD i 0)]++[iN 4 101 101 (st.getD i 0),iN 3 100 100 101]):=by
  unfold axC tI;rw [if_pos h,if_pos h2,List.append_assoc]
theorem axC_0 {g:Gn} {L:List ByteArray} {d st:List Int} {i:Nat} {x:Ix} (h:x.From=bs []) (h2:¬2<=d.length):axC g L d st i x=rN L x.Lin 101++[iN 4 101 101 (st.getD i 0),iN 3 100 100 101]:=by
  unfold axC tI;rw [if_pos h,if_neg h2,List.append_nil]
theorem agg46:lI Tryz.prog 46=some 11:=by kernel_rfl
theorem agg118:lI Tryz.prog 118=some 11:=by kernel_rfl
theorem el32:fA Tryz.prog 32=some (46,11,88):=by kernel_rfl
theorem zIq:bD Tryz.prog 46 1=some (1,3):=by kernel_rfl
theorem fd48_0:bD Tryz.prog 48 0=some (0,9):=by kernel_rfl
theorem zOv:bD Tryz.prog 77 0=some (0,32):=by kernel_rfl
theorem zSt:bD Tryz.prog 77 1=some (1,4):=by kernel_rfl
theorem kB:bD Tryz.prog 80 0=some (0,77):=by kernel_rfl
theorem fd80_1:bD Tryz.prog 80 1=some (2,25):=by kernel_rfl
theorem fd80_3:bD Tryz.prog 80 3=some (5,33):=by kernel_rfl
theorem fd80_4:bD Tryz.prog 80 4=some (6,78):=by kernel_rfl
theorem zNx:bD Tryz.prog 118 0=some (0,69):=by kernel_rfl
theorem zFm:bD Tryz.prog 118 1=some (8,3):=by kernel_rfl
theorem zIs:bD Tryz.prog 118 2=some (9,3):=by kernel_rfl
theorem zSz:bD Tryz.prog 118 3=some (10,67):=by kernel_rfl
theorem ok30:bA Tryz.prog 30=true:=by kernel_rfl
theorem ok60:bA Tryz.prog 60=true:=by kernel_rfl
theorem ok61:bA Tryz.prog 61=true:=by kernel_rfl
theorem ok63:bA Tryz.prog 63=true:=by kernel_rfl
theorem ok113:bA Tryz.prog 113=true:=by kernel_rfl
theorem ok119:bA Tryz.prog 119=true:=by kernel_rfl
theorem ok154:bA Tryz.prog 154=true:=by kernel_rfl
theorem ok155:bA Tryz.prog 155=true:=by kernel_rfl
theorem one4:jQ Tryz.prog 4=true:=by kernel_rfl
theorem one32:jQ Tryz.prog 32=true:=by kernel_rfl
theorem one33:jQ Tryz.prog 33=true:=by kernel_rfl
theorem pl46:fL Tryz.prog 46=some [(0,1),(1,1),(2,1),(3,1),(4,2),(6,5)]:=by kernel_rfl
theorem pl118:fL Tryz.prog 118=some [(0,8),(8,1),(9,1),(10,1)]:=by kernel_rfl
theorem sz4:(Tryz.prog.info? 4).map (·.size)=some 1:=by kernel_rfl
theorem sz32:(Tryz.prog.info? 32).map (·.size)=some 1:=by kernel_rfl
theorem sz118:(Tryz.prog.info? 118).map (·.size)=some 11:=by kernel_rfl
theorem zr46:dS Tryz.prog 46=some [(Value.int IntKind.i64 0),(Value.int IntKind.i64 0),(Value.int IntKind.i64 0),(Value.int IntKind.i64 0),(Value.int IntKind.i64 0),(Value.int IntKind.i64 0),(Value.int IntKind.i64 0),(Value.int IntKind.i64 0),(Value.int IntKind.i64 0),(Value.int IntKind.i64 0),(Value.int IntKind.i64 0)]:=by kernel_rfl
theorem zr118:dS Tryz.prog 118=some [(Value.string (ByteArray.mk #[])),(Value.int IntKind.i64 0),(Value.int IntKind.i64 0),(Value.int IntKind.i64 0),(Value.int IntKind.i64 0),(Value.int IntKind.i64 0),(Value.slice none 0 0),(Value.int IntKind.i64 0),(Value.int IntKind.i64 0),(Value.int IntKind.i64 0),(Value.slice none 0 0)]:=by kernel_rfl
theorem zOh {b:Nat} {sv sl:Value} {code:List In} {full:Bool} {g:Gn} {L:List ByteArray} {pre:List In} (hE:Em pre code full) (i j:In) (hij:pre.length<65536->i=j):
    Con cfg 30 [vPt b,vIn i] (fJ b sv sl code full g L) fun r μ'=>r=vI (psI pre.length)/\∃sv' code' full',Em (pre++[j]) code' full'/\μ'=fJ b sv' sl code' full' g L:=by
 refine zU Tryz.func30 O Tryz.ntmps30 Tryz.results30 O ?_
 intro z hz
 have hlen:=hE.len
 refine R O<|zV O O (qO O O) ?_
 rintro _ _ ⟨b1,rfl,rfl⟩
 refine G O<|zA<|zI<|R O<|G O<|qE O<|zG O zOv<|zH one32 (Y 1 O) O<|zW O (yL 2 O el32 O O)<|zW O (kN O O O)<|zA<|zC O (fun c1=>?_) (fun c1=>?_)
 ·try simp only [sx] at c1
  refine R O<|G O<|qE O<|zG O zSt<|D 1 sz4 O<|zA<|R O<|G O<|zA<|zT _ (Weak.mem [false,true,true,true] O)<|zK<|zR O ?_
  exact ⟨congrArg vI (hE.ps0 (by omega)),sv,code,true,hE.full (by omega) j,O⟩
 ·try simp only [sx] at c1
  refine zJ<|zI<|yS 8 0 [⟨0,.q []⟩,⟨1,.q []⟩,⟨2,.q []⟩,⟨3,.q []⟩,⟨4,.q [1]⟩,⟨5,.q [0]⟩,⟨6,.q []⟩,⟨7,.e 2 []⟩] mixed (by kernel_rfl) (by kernel_rfl) O O O<|v O<|v O<|v O<|v O<|v O<|v O<|v O<|v O<|zAg<|zY O (by decide) O O (zN O O)<|zY O (by decide) O O (zN O O)<|zY O (by decide) O O (qI O O)<|zY O (by decide) O O (zD O zOv O)<|zY O (by decide) O O (zF O one32 O (Y 0 O) O)<|zY O (by decide) O O (qC O agg46 O (Y 0 O) O)<|zY O (by decide) O O (yM O el32 zr46 O O O O)<|zHk O O (by decide) O O (yQ 0 O el32 O O O (by simp only [List.length_map,List.length_cons,List.length_nil];omega) (by simp only [List.length_map,List.length_cons,List.length_nil];omega)) ?_
  rintro _ _ ⟨sv2,rfl,rfl⟩
  refine ⟨_,O,?_⟩
  refine zAe O<|qE O<|zG O zOv<|D 1 sz32 O<|zA<|R O<|G O<|qE O<|zG O zOv<|zH one32 (Y 1 O) O<|zW O (yL 2 O el32 O O)<|yY O (by simp only [List.length_append,List.length_map,List.length_cons,List.length_nil];exact ⟨by omega,by omega⟩)<|G O<|zA<|zT _ (Weak.mem [false,true,true,true] O)<|zK<|zR O ?_
  refine ⟨congrArg vI ?_,sv2,code++[i],full,hE.push (by omega) hij,?_⟩
  · rw [←hE.ps (by omega) i];simp only [List.length_append,List.length_map,List.length_cons,List.length_nil]
  · rw [show fJ b sv2 sl (code++[i]) full g L=fJ b sv2 sl (code++[i]) full g L from rfl];simp only [fJ,List.map_append];rfl
theorem kJ {b:Nat} {sv sl:Value} {code:List In} {full:Bool} {g:Gn} {L:List ByteArray} {pre:List In} (hE:Em pre code full) (op x y u:Int) (j:In) (hij:pre.length<65536->iN op x y u=j):
    Con cfg 61 [vPt b,vI op,vI x,vI y,vI u] (fJ b sv sl code full g L) fun r μ'=>r=vI (psI pre.length)/\∃sv' code' full',Em (pre++[j]) code' full'/\μ'=fJ b sv' sl code' full' g L:=by
 refine zU Tryz.func61 O Tryz.ntmps61 Tryz.results61 O ?_
 intro z hz
 refine R O<|G O<|zA<|R O<|G O<|G O<|G O<|G O<|G O<|yZ O zr46 pl46<|zV O O (qQ O ok30 (zOh hE (iN op x y u) j hij) ⟨zB,O,zB,O,T⟩) ?_
 rintro _ _ ⟨rfl,sv1,cd1,fu1,hE1,rfl⟩
 refine G O<|zA<|zK<|zR O ?_
 exact ⟨O,_,_,_,hE1,O⟩
theorem zDx {b:Nat} {sv sl:Value} {code:List In} {full:Bool} {g:Gn} {L:List ByteArray} {pre:List In} (hE:Em pre code full) (op q x f t:Int):
    Con cfg 63 [vPt b,vI op,vI q,vI x,vI f,vI t] (fJ b sv sl code full g L) fun r μ'=>r=.tup []/\∃sv' code' full',Em (pre++[iA op q x f t]) code' full'/\μ'=fJ b sv' sl code' full' g L:=by
 refine zU Tryz.func63 O Tryz.ntmps63 Tryz.results63 O ?_
 intro z hz
 refine zM O<|G O<|G O<|G O<|G O<|G O<|G O<|yZ O zr44 pl44<|yZ O zr46 pl46<|zV O O (qQ O ok30 (zOh hE (iA op q x f t) _ (fun _=>O)) ⟨zB,O,zB,O,T⟩) ?_
 rintro _ _ ⟨rfl,sv1,cd1,fu1,hE1,rfl⟩
 refine zA ?_
 repeat (first|refine qV ?_|refine qT ?_)
 refine yF<|U ?_
 exact ⟨O,_,_,_,hE1,O⟩
theorem cg_here {b:Nat} {sv sl:Value} {code:List In} {full:Bool} {g:Gn} {L:List ByteArray}  :
    Con cfg 62 [vPt b] (fJ b sv sl code full g L) fun r μ'=>r=vI code.length/\μ'=fJ b sv sl code full g L:=by
 refine zU Tryz.func62 O Tryz.ntmps62 Tryz.results62 O ?_
 intro z hz
 refine R O<|G O<|zA<|R O<|G O<|qE O<|zG O zOv<|zH one32 (Y 0 O) O<|zW O (yL 1 O el32 O O)<|G O<|zA<|zK<|zR O ?_
 exact ⟨congrArg vI (by rw [List.length_map]),O⟩
theorem cg_land {b:Nat} {sv sl:Value} {code:List In} {full:Bool} {g:Gn} {L:List ByteArray} {pre:List In} (hE:Em pre code full) (i:Nat) (hi:i<pre.length) (p:Int) (hp:p=psI i):
    Con cfg 67 [vPt b,vI p] (fJ b sv sl code full g L) fun r μ'=>r=.tup []/\∃sv' code' full',Em (lD pre i pre.length) code' full'/\μ'=fJ b sv' sl code' full' g L:=by
 refine zU Tryz.func67 O Tryz.ntmps67 Tryz.results67 O ?_
 intro z hz
 refine R O<|G O<|qE O<|zG O zSt<|zH one4 (Y 0 O) O<|kP O<|zA<|zC O (fun c1=>?_) (fun c1=>?_)
 ·try simp only [sx] at c1
  have hfl:full=false:=by simpa using c1
  obtain ⟨q1,q2,q3⟩:=hE.jmp hi hfl
  have hx:=List.getElem?_eq_getElem q2
  have hpi:p=(i:Int):=hp.trans q1
  subst hpi
  have hrw:=jmp_rows (a:=code.length) hx
  generalize code[i]=x at hx hrw
  refine qW 12 mixed (by kernel_rfl) O O<|zL O O (zN O O)<|zL O O (qI O O)<|zL O O (zD O zOv O)<|zL O O (zF O one32 O (Y 0 O) O)<|zL O O (zN O O)<|zL O O (zN O O)<|zL O O (qI O O)<|zL O O (zD O zOv O)<|zL O O (zF O one32 O (Y 0 O) O)<|zL O O (yL 1 O el32 O O)<|zL O O (qP 1 O el32 O O O (by omega) (by rw [List.length_map];omega))<|zL O O (det_field_vec O zIq O)<|yJ<|zCs O O (kX O sz3 O O O (zHs 1 O (zAd (enc:=In.cells) hx O) O))<|zA ?_
  repeat (first|refine qV ?_|refine qT ?_)
  refine yF<|U ?_
  refine ⟨O,sv,lD code i code.length,full,q3,?_⟩
  simp only [fJ,hrw,List.length_map,Int.toNat_natCast]
  rfl
 ·try simp only [sx] at c1
  refine zJ ?_
  repeat (first|refine qV ?_|refine qT ?_)
  refine yF<|U ?_
  have hfl:full=true:=by simpa using c1
  subst hfl
  exact ⟨O,sv,code,true,hE.jmp0 i _,O⟩
theorem cg_op {b:Nat} {sv sl:Value} {code:List In} {full:Bool} {g:Gn} {L:List ByteArray} {pre:List In} (hE:Em pre code full) (op k a c d:Int) (t:Ty) (j:In) (hij:pre.length<65536->iO op k a c d t=j):
    Con cfg 116 [vPt b,vI op,vI k,vI a,vI c,vI d,vTy t] (fJ b sv sl code full g L) fun r μ'=>r=vI (psI pre.length)/\∃sv' code' full',Em (pre++[j]) code' full'/\μ'=fJ b sv' sl code' full' g L:=by
 refine zU Tryz.func116 O Tryz.ntmps116 Tryz.results116 O ?_
 intro z hz
 refine R O<|zV O O (qO O O) ?_
 rintro _ _ ⟨b1,rfl,rfl⟩
 refine G O<|zA<|zI<|qW 11 mixed (by kernel_rfl) O O<|zL O O (zN O O)<|zL O O (qI O O)<|zL O O (zD O kB O)<|zL O O (zN O O)<|zL O O (zN O O)<|zL O O (zN O O)<|zL O O (zN O O)<|zL O O (zN O O)<|zL O O (zAb O zr44 pl44 O)<|zL O O (qC O yH O (Y 0 O) O)<|zL O O (zAb O zr46 pl46 O)<|yJ<|zV O O (yE [1,1,1] O ok30 (zOh hE (iO op k a c d t) j hij) ⟨zB,O,zB,O,T⟩ O) ?_
 rintro _ _ ⟨_,⟨rfl,sv1,cd1,fu1,hE1,rfl⟩,rfl⟩
 refine G O<|zA<|zT _ (Weak.mem [false,true,true,true] O)<|zK<|zR O ?_
 exact ⟨O,_,_,_,hE1,O⟩
theorem cg_find {b:Nat} {sv sl:Value} {code:List In} {full:Bool} {g:Gn} {L:List ByteArray} (s:ByteArray) (hg:g.Ok):
    Con cfg 60 [vPt b,vS s] (fJ b sv sl code full g L) fun r μ'=>r=vPl g s/\μ'=fJ b sv sl code full g L:=by
 refine Con.drop<|zU Tryz.func60 O Tryz.ntmps60 Tryz.results60 O ?_
 intro z hz
 have hsl:=hg.sl
 have hnb:=hg.nb
 refine R O<|zV O O (qR [none,none,none,none,none,none,some 1,none,none,none,some 1] O zr118 O) ?_
 rintro _ _ ⟨b1,rfl,rfl⟩
 refine zA<|R O<|G O<|qE O<|zG O fd80_1<|zO zBi (Y 1 O) O<|G O<|qN O ok112 (wS g.n s hg.hn) ⟨zB,O,zB,O,T⟩<|zW O (yD O O)<|zW O (kD O O O)<|zW O (yR O O O)<|zV O O (qR [none,none,none,none,none,none,some 1,none] O zr69 O) ?_
 rintro _ _ ⟨b2,rfl,rfl⟩
 refine D 0 sz69 O<|G O<|zA<|zI<|yS 6 1 [⟨0,.q [1]⟩,⟨1,.q []⟩,⟨2,.q [1]⟩,⟨3,.q []⟩,⟨4,.q []⟩,⟨5,.f 0⟩] mixed (by kernel_rfl) (by kernel_rfl) O O O<|v O<|v O<|v O<|v O<|v O<|zQe O O (zFb (qR [none,none,none,none,none,none,some 1,none,none,none,some 1] O zr118 O)) ⟨_,_,0,O,O⟩<|zAg<|zY O (by decide) O O (qC O zJs O (Y 0 O) O)<|zY O (by decide) O O (zD O zDe O)<|zY O (by decide) O O (zF O zCt O (Y 0 O) O)<|zY O (by decide) O O (qS O ok113 (shape_Strides (g.dm s) (by have:=hg.hn.buf s;exact this)) ⟨zB,O,T⟩)<|zY O (by decide) O O (zAb O zr118 pl118 O)<|zPq O O ?_
 rintro _ _ ⟨b3,rfl,rfl⟩
 refine zAe O<|D 0 sz118 O<|zA<|zI<|R O<|G O<|qE O<|zG O fd80_3<|zH one33 (Y 3 O) O<|zZ O el33<|G O<|zA<|zP<|zT ⟨[(29,.c _),(1,.c _),(4,.c _),(7,.c _),(27,.c _),(28,.c _)],[_,_,_,_,_]⟩ (Weak.mk [true,false,true,true,true,true] ⟨zB,zB,zB,zB,zB,zB,T⟩ O)<|qG 1 0 O O (Nat) (fun k=>[(29,vI k)]) (fun k=>[]) (fun k=>k<=g.sl.length/\(slD g.sl s=slD (g.sl.drop k) s)) (fun k=>g.sl.length-k) ⟨0,⟨by omega,O⟩,Weak.mk [true,true,true,true,true] ⟨zB,zB,zB,zB,zB,zB,T⟩ O⟩ ?_
 rintro k ⟨hk,hp⟩
 refine R O<|yB O<|zA<|zI<|zC O (fun c1=>?_) (fun c1=>?_)
 ·try simp only [sx] at c1
  obtain ⟨x,hx⟩:=qU g.sl k (by omega)
  have hxb:=hg.slb x (qA hx)
  refine zJ<|zI<|zP<|R O<|qD O el33 (by omega) (B (by assumption))<|zO agg48 zQ O<|zV O O (yN O zr48) ?_
  rintro _ _ ⟨b4,rfl,rfl⟩
  refine D 0 sz48 O<|qX _ (qK 0 O 9 _ PLe.ptr)<|zA<|R O<|zX O fd48_0<|zH one9 zQ O<|G O<|zW O (kE O O O)<|zA<|zC O (fun c2=>?_) (fun c2=>?_)
  ·try simp only [sx] at c2
   have hsd:=slD_at hx c2
   refine zI<|yS 9 0 [⟨0,.q []⟩,⟨1,.q []⟩,⟨2,.q []⟩,⟨3,.q []⟩,⟨4,.q []⟩,⟨5,.q []⟩,⟨6,.q []⟩,⟨7,.q []⟩,⟨8,.e 0 []⟩] mixed (by kernel_rfl) (by kernel_rfl) O O O<|v O<|v O<|v O<|v O<|v O<|v O<|v O<|v O<|v O<|zAg<|zY O (by decide) O O (qF O zHh O)<|zY O (by decide) O O (zF O one3 O zQ O)<|zY O (by decide) O O (qF O zHh O)<|zY O (by decide) O O (zF O one3 O zQ O)<|zY O (by decide) O O (qF O zKc O)<|zY O (by decide) O O (zF O one3 O zQ O)<|zY O (by decide) O O (kZ O O O ⟨by omega,by omega⟩)<|zY O (by decide) O O (zD O zFm O)<|zEs O O (by decide) O O (kX O sz3 O O O (zHt 0 O O)) ?_
   rintro _ _ ⟨rfl,rfl⟩
   refine ⟨_,O,?_⟩
   refine zAe O<|zG O zIs<|D 0 sz3 O<|zA<|qH<|R O<|zO agg118 (Y 0 O) O<|D 1 sz118 O<|zA<|zT _ (Weak.mem [false,true,true,true,true] O)<|zK<|fin1 (qM agg118 O (Y 0 O) O) ?_
   have h9:=hp.trans hsd
   exact ⟨by show _=V.agg (plC g s);unfold plC Gn.bs_ Gn.en;rw [h9];rfl,[_],O⟩
  ·try simp only [sx] at c2
   have hsd:=slD_nx hx c2
   refine zJ<|zM O<|qB O ⟨by omega,by omega⟩<|G O<|zA ?_
   refine ⟨k+1,⟨by omega,hp.trans hsd⟩,(by omega),Weak.mk [true,true,true,true,true] ⟨zB,zB,zB,zB,zB,zB,T⟩ O⟩
 ·try simp only [sx] at c1
  refine qH<|R O<|zO agg118 (Y 0 O) O<|D 1 sz118 O<|zA<|zT _ (Weak.mem [false,true,true,true,true] O)<|zK<|fin1 (qM agg118 O (Y 0 O) O) ?_
  have h9:slD g.sl s=⟨bs [],0,0⟩:=by rw [hp,kV (by omega)];rfl
  exact ⟨by show _=V.agg (plC g s);unfold plC Gn.bs_ Gn.en;rw [h9];rfl,[_],O⟩
theorem cg_kind_step {b:Nat} {sv sl:Value} {code:List In} {full:Bool} {g:Gn} {L:List ByteArray} (hg:g.Ok) (e:Ex) (ih:∀a,a∈e.Args->Rdy g L a->bC a=false->Con cfg 119 [vPt b,vE a] (fJ b sv sl code full g L) fun r μ'=>r=vTy (knd g.n.Bufs a)/\μ'=fJ b sv sl code full g L) (h:Rdy g L e) (hc:bC e=false):
    Con cfg 119 [vPt b,vE e] (fJ b sv sl code full g L) fun r μ'=>r=vTy (knd g.n.Bufs e)/\μ'=fJ b sv sl code full g L:=by
 refine Con.drop<|zU Tryz.func119 O Tryz.ntmps119 Tryz.results119 O ?_
 intro z hz
 have hop:=zNr (wY h.part)
 have h13:¬13<=e.Op:=fun k9=>by rw [isC_op.2 ⟨k9,hop.2⟩] at hc;cases hc
 refine R O<|zV O O (qO O O) ?_
 rintro _ _ ⟨b1,rfl,rfl⟩
 refine qX _ (qK 0 O 3 _ PLe.ptr)<|zV O O (yN O zr31) ?_
 rintro _ _ ⟨b2,rfl,rfl⟩
 refine zA<|zI<|R O<|zX O kS<|zH one3 zQ O<|zA<|zP<|zI<|R O<|qZ O<|G O<|zA<|zC O (fun c1=>?_) (fun c1=>?_)
 ·have d1:e.Op=1:=of_decide_eq_true c1
  refine zJ<|zC O (fun c2=>?_) (fun c2=>?_)
  ·exact v33
  ·exact absurd (c1.symm.trans c2) (by simp)
 ·have d1:¬e.Op=1:=of_decide_eq_false c1
  refine zM O<|qZ O<|G O<|zA<|zC O (fun c2=>?_) (fun c2=>?_)
  ·exact v33
  ·have d2:¬e.Op=12:=of_decide_eq_false c2
   refine R O<|qZ O<|G O<|zA<|zC O (fun c3=>?_) (fun c3=>?_)
   ·try simp only [sx] at c3
    refine R O<|yZ O zr31 pl31<|D 0 sz31 O<|zA<|zK<|fin1 (qM yH O (Y 0 O) O) ?_
    exact ⟨by rw [knd_2 d1 d2 c3];rfl,[_],O⟩
   ·try simp only [sx] at c3
    refine R O<|qZ O<|G O<|zA<|zC O (fun c4=>?_) (fun c4=>?_)
    ·try simp only [sx] at c4
     refine zI<|yS 12 1 [⟨0,.q []⟩,⟨1,.q []⟩,⟨2,.q []⟩,⟨3,.q [2]⟩,⟨4,.q []⟩,⟨5,.q []⟩,⟨6,.q []⟩,⟨7,.q []⟩,⟨8,.q []⟩,⟨9,.q []⟩,⟨10,.e 0 []⟩,⟨11,.e 0 []⟩] mixed (by kernel_rfl) (by kernel_rfl) O O O<|v O<|v O<|v O<|v O<|v O<|v O<|v O<|v O<|v O<|v O<|v O<|v O<|zAg<|zY O (by decide) O O (zN O O)<|zY O (by decide) O O (qI O O)<|zY O (by decide) O O (zD O fd80_1 O)<|zY O (by decide) O O (qC O zBi O (Y 0 O) O)<|zY O (by decide) O O (qF O zDg O)<|zY O (by decide) O O (zF O one9 O zQ O)<|zY O (by decide) O O (qS O ok112 (wS g.n e.Name hg.hn) ⟨zB,O,zB,O,T⟩)<|zY O (by decide) O O (yD O O)<|zY O (by decide) O O (kD O O O)<|zY O (by decide) O O (yR O O O)<|zHk O O (by decide) O O (qR [none,none,none,none,none,none,some 1,none] O zr69 O) ?_
     rintro _ _ ⟨b3,rfl,rfl⟩
     refine ⟨_,O,?_⟩
     refine zEs O O (by decide) O O (kX O sz69 O O O (zHt 0 O O)) ?_
     rintro _ _ ⟨rfl,rfl⟩
     refine ⟨_,O,?_⟩
     refine zAe O<|G O<|zA<|R O<|zG O zHg<|zO yH (Y 0 O) O<|D 1 sz31 O<|zA<|zT _ (Weak.mem [false,true,true,true,true] O)<|zK<|fin1 (qM yH O (Y 0 O) O) ?_
     exact ⟨by rw [knd_3 d1 d2 c3 c4];rfl,[_],O⟩
    ·try simp only [sx] at c4
     refine R O<|qZ O<|G O<|zA<|zC O (fun c5=>?_) (fun c5=>?_)
     ·try simp only [sx] at c5
      obtain ⟨a,c,d,ha,⟨r1,k1⟩,⟨r2,k2⟩,⟨r3,k3⟩⟩:=h.args3 c5
      refine R O<|G O<|zX O kO<|zH wZ zQ O<|qD O el55 (by omega) (zAa (show e.Args[(1:Int).toNat]? =some c by rw [ha];rfl))<|zO yP zQ O<|zW O (yI [1,1,1] O ok119 (ih c (by rw [ha];simp) r2 k2) ⟨zB,O,zB,O,T⟩ O)<|D 0 sz31 O<|zA<|zK<|fin1 (qM yH O (Y 0 O) O) ?_
      exact ⟨by rw [knd_11 c5 ha];rfl,[_],O⟩
     ·try simp only [sx] at c5
      obtain ⟨a,r,ha,hra,hca⟩:=h.first d1 c3 c4 d2 c5 h13
      have ham:a∈e.Args:=by rw [ha];simp
      refine zJ<|R O<|G O<|zX O kO<|zH wZ zQ O<|qD O el55 (by omega) (zAa (show e.Args[(0:Int).toNat]? =some a by rw [ha];rfl))<|zO yP zQ O<|zW O (yI [1,1,1] O ok119 (ih a ham hra hca) ⟨zB,O,zB,O,T⟩ O)<|D 0 sz31 O<|zA<|zK<|fin1 (qM yH O (Y 0 O) O) ?_
      exact ⟨by rw [knd_o d1 d2 c3 c4 c5 ha];rfl,[_],O⟩
theorem cg_kind {b:Nat} {sv sl:Value} {code:List In} {full:Bool} {g:Gn} {L:List ByteArray} (hg:g.Ok) (e:Ex) (h:Rdy g L e) (hc:bC e=false):Con cfg 119 [vPt b,vE e] (fJ b sv sl code full g L) fun r μ'=>r=vTy (knd g.n.Bufs e)/\μ'=fJ b sv sl code full g L:=by
  induction e using Ex.ind with
  |_ e ih=>exact cg_kind_step hg e (fun a ha h1 h2=>ih a ha h1 h2) h hc
theorem cg_operator (f:Int):
    Pur cfg 117 [vI f] (vI (rK f)):=by
 refine zU Tryz.func117 O Tryz.ntmps117 Tryz.results117 O ?_
 intro z hz
 refine R O<|G O<|zA<|zI<|R O<|G O<|zA<|zP<|R O<|qZ O<|G O<|zA<|zC O (fun c1=>?_) (fun c1=>?_)
 ·try simp only [sx] at c1
  refine R O<|G O<|zA<|zK<|zR O ?_
  unfold rK;rw [if_pos c1]
 ·try simp only [sx] at c1
  refine R O<|qZ O<|G O<|zA<|zC O (fun c2=>?_) (fun c2=>?_)
  ·try simp only [sx] at c2
   refine R O<|G O<|zA<|zK<|zR O ?_
   unfold rK;rw [if_neg c1,if_pos c2]
  ·try simp only [sx] at c2
   refine R O<|qZ O<|G O<|zA<|zC O (fun c3=>?_) (fun c3=>?_)
   ·try simp only [sx] at c3
    refine R O<|G O<|zA<|zK<|zR O ?_
    unfold rK;rw [if_neg c1,if_neg c2,if_pos c3]
   ·try simp only [sx] at c3
    refine zJ<|R O<|G O<|zA<|zK<|zR O ?_
    unfold rK;rw [if_neg c1,if_neg c2,if_neg c3]
theorem cg_form {b:Nat} {sv sl:Value} {code:List In} {full:Bool} {g:Gn} {L:List ByteArray} {pre:List In} (hE:Em pre code full) (hL:L.length<=1000000) (f:Lf) (x:Int) (hl:f.L.length<=4294967296):
    Con cfg 154 [vPt b,mD f,vI x] (fJ b sv sl code full g L) fun r μ'=>r=.tup []/\∃sv' code' full',Em (pre++rN L f x) code' full'/\μ'=fJ b sv' sl code' full' g L:=by
 refine zU Tryz.func154 O Tryz.ntmps154 Tryz.results154 O ?_
 intro z hz
 refine R O<|zV O O (qO O O) ?_
 rintro _ _ ⟨b1,rfl,rfl⟩
 refine qX _ (qK 0 O 4 _ PLe.ptr)<|zA<|zI<|qW 6 mixed (by kernel_rfl) O O<|zL O O (zN O O)<|zL O O (qI O O)<|zL O O (zD O kB O)<|zL O O (zN O O)<|zL O O (qF O zKb O)<|zL O O (zF O W O zQ O)<|yJ<|zV O O (qQ O ok61 (kJ hE (1) (x) (f.K) (0) _ (fun _=>O)) ⟨zB,O,zB,O,zB,O,zB,O,zB,O,T⟩) ?_
 rintro _ _ ⟨rfl,sv1,cd1,fu1,hE1,rfl⟩
 refine zA<|R O<|zX O zAy<|zH zDz zQ O<|zZ O el52<|G O<|zA<|zP<|zT ⟨[(18,.c _),(0,.c _),(2,.c _),(16,.c _),(17,.c _)],[_,_,_]⟩ (Weak.mk [true,true,true] ⟨zB,zB,zB,zB,zB,T⟩ O)<|qG 1 3 O O (Nat×Value×List In×Bool) (fun ⟨k,sw,cw,fw⟩=>[(18,vI k)]) (fun ⟨k,sw,cw,fw⟩=>[E.row b 80 [.lit sw,.lit (.bool fw),.sl 8 (g.n.Bufs.map Bf.cells),.sl 20 (g.n.Body.map St.cells),.sl 5 (g.ty.map tyC),.sl 3 (g.sl.map Sl.cells),.lit sl],E.vec sw 46 11 (cw.map In.cells),E.vec sl 9 1 (L.map fun s=>[cS s])]) (fun ⟨k,sw,cw,fw⟩=>k<=f.L.length/\(Em (pre++(iN 1 x f.K 0::(f.L.take k).flatMap (cC L x))) cw fw)) (fun ⟨k,sw,cw,fw⟩=>f.L.length-k) ⟨⟨0,sv1,cd1,fu1⟩,⟨by omega,(by rw [List.take_zero,List.flatMap_nil];have h9:=hE1;(try simp only [List.append_assoc,List.cons_append,List.nil_append,List.append_nil] at h9);(try simp only [List.append_assoc,List.cons_append,List.nil_append,List.append_nil]);exact h9)⟩,Weak.mk [true,true,true] ⟨zB,zB,zB,zB,zB,T⟩ O⟩ ?_
 rintro ⟨k,sw,cw,fw⟩ ⟨hk,hq⟩
 show AWP _ _ _ _ _ ⟨[(18,vI k)]++_,[E.row b 80 [.lit sw,.lit (.bool fw),.sl 8 (g.n.Bufs.map Bf.cells),.sl 20 (g.n.Body.map St.cells),.sl 5 (g.ty.map tyC),.sl 3 (g.sl.map Sl.cells),.lit sl],E.vec sw 46 11 (cw.map In.cells),E.vec sl 9 1 (L.map fun s=>[cS s])]++_⟩
 refine R O<|yB O<|zA<|zI<|zC O (fun c1=>?_) (fun c1=>?_)
 ·try simp only [sx] at c1
  obtain ⟨m,hm⟩:=qU f.L k (by omega)
  refine zJ<|zI<|zP<|R O<|qD O el52 (by omega) (B (by assumption))<|zO zKf zQ O<|zV O O (yN O zr205) ?_
  rintro _ _ ⟨b2,rfl,rfl⟩
  refine D 0 sz205 O<|qX _ (qK 0 O 7 _ PLe.ptr)<|zA<|zI<|yS 12 0 [⟨0,.q []⟩,⟨1,.q []⟩,⟨2,.q []⟩,⟨3,.q []⟩,⟨4,.q []⟩,⟨5,.q []⟩,⟨6,.q [0]⟩,⟨7,.q []⟩,⟨8,.q []⟩,⟨9,.q [2]⟩,⟨10,.q []⟩,⟨11,.q []⟩] mixed (by kernel_rfl) (by kernel_rfl) O O O<|v O<|v O<|v O<|v O<|v O<|v O<|v O<|v O<|v O<|v O<|v O<|v O<|zAg<|zY O (by decide) O O (zN O O)<|zY O (by decide) O O (qI O O)<|zY O (by decide) O O (zD O kB O)<|zY O (by decide) O O (zN O O)<|zY O (by decide) O O (qI O O)<|zY O (by decide) O O (zD O fd80_4 O)<|zY O (by decide) O O (zF O zIh O (Y 0 O) O)<|zY O (by decide) O O (qF O zDl O)<|zY O (by decide) O O (zF O one9 O zQ O)<|zY O (by decide) O O (zDb 0 O ok182 O (zHc L m.Name (by omega)) O ⟨.inl ⟨O,O⟩,.inr ⟨zB,O⟩,T⟩)<|zY O (by decide) O O (qF O zKw O)<|zY O (by decide) O O (zF O W O zQ O)<|zAe O<|zV O O (qQ O ok61 (kJ hq (4) (103) (pV L m.Name) (m.By) _ (fun _=>O)) ⟨zB,O,zB,O,zB,O,zB,O,zB,O,T⟩) ?_
  rintro _ _ ⟨rfl,sv3,cd3,fu3,hE3,rfl⟩
  refine zA<|zM O<|G O<|qE O<|zG O kB<|G O<|G O<|zV O O (qQ O ok61 (kJ hE3 (3) (x) (x) (103) _ (fun _=>O)) ⟨zB,O,zB,O,zB,O,zB,O,zB,O,T⟩) ?_
  rintro _ _ ⟨rfl,sv4,cd4,fu4,hE4,rfl⟩
  refine zA<|zM O<|qB O ⟨by omega,by omega⟩<|G O<|zA ?_
  refine ⟨⟨k+1,sv4,cd4,fu4⟩,⟨by omega,(by rw [flat_next hm];unfold cC;have h9:=hE4;(try simp only [List.append_assoc,List.cons_append,List.nil_append,List.append_nil] at h9);(try simp only [List.append_assoc,List.cons_append,List.nil_append,List.append_nil]);exact h9)⟩,(by show f.L.length-(k+1)<f.L.length-k;omega),Weak.mk [true,true,true] ⟨zB,zB,zB,zB,zB,T⟩ O⟩
 ·try simp only [sx] at c1
  refine qH ?_
  repeat (first|refine qV ?_|refine qT ?_)
  refine yF<|U ?_
  rw [yA (l:=f.L) (k:=k) (by omega)] at hq
  exact ⟨O,_,_,_,hq,O⟩
set_option maxHeartbeats 4000000 in
theorem cg_gather {b:Nat} {sv sl:Value} {code:List In} {full:Bool} {g:Gn} {L:List ByteArray} {pre:List In} (hE:Em pre code full) (hL:L.length<=1000000) (x:Ix) (ext:Int) (hg:g.Ok) (hb:bP g.n.Bufs x.From=true) (hd:(g.dm x.From).length=x.At.length) (hw:x.wt<=1000000000):
    Con cfg 155 [vPt b,hM x,vI ext] (fJ b sv sl code full g L) fun r μ'=>r=.tup []/\∃sv' code' full',Em (pre++vU g L x ext) code' full'/\μ'=fJ b sv' sl code' full' g L:=by
 refine zU Tryz.func155 O Tryz.ntmps155 Tryz.results155 O ?_
 intro z hz
 obtain ⟨p1,p2,p3,p4,p5,p6,p7⟩:=hg.plc hb
 unfold Ix.wt at hw
 refine R O<|zV O O (qO O O) ?_
 rintro _ _ ⟨b1,rfl,rfl⟩
 refine qX _ (qK 0 O 4 _ PLe.ptr)<|zA<|R O<|G O<|zX O wG<|zH one9 zQ O<|zW O (yI [0,0,0] O ok60 (cg_find  x.From hg) ⟨zB,O,zB,O,T⟩ O)<|zV O O (qR [none,none,none,none,none,none,some 1,none,none,none,some 1] O zr118 O) ?_
 rintro _ _ ⟨b2,rfl,rfl⟩
 refine D 0 sz118 O<|qX _ (qK 0 O 6 _ PLe.ptr)<|zA<|zI<|qW 5 mixed (by kernel_rfl) O O<|zL O O (zN O O)<|zL O O (qI O O)<|zL O O (zD O kB O)<|zL O O (qF O zFm O)<|zL O O (zF O one3 O zQ O)<|yJ<|zV O O (qQ O ok61 (kJ hE (1) (104) (g.bs_ x.From) (0) _ (fun _=>O)) ⟨zB,O,zB,O,zB,O,zB,O,zB,O,T⟩) ?_
 rintro _ _ ⟨rfl,sv1,cd1,fu1,hE1,rfl⟩
 refine zA<|zI<|R O<|zX O zAr<|zH zCl zQ O<|zZ O zAv<|G O<|zA<|zP<|zT ⟨[(22,.c _),(0,.c _),(2,.c _),(6,.c _),(20,.c _),(21,.c _)],[_,_,_]⟩ (Weak.mk [true,true,true] ⟨zB,zB,zB,zB,zB,zB,T⟩ O)<|qG 1 3 O O (Nat×Value×List In×Bool) (fun ⟨k,sw,cw,fw⟩=>[(22,vI k)]) (fun ⟨k,sw,cw,fw⟩=>[E.row b 80 [.lit sw,.lit (.bool fw),.sl 8 (g.n.Bufs.map Bf.cells),.sl 20 (g.n.Body.map St.cells),.sl 5 (g.ty.map tyC),.sl 3 (g.sl.map Sl.cells),.lit sl],E.vec sw 46 11 (cw.map In.cells),E.vec sl 9 1 (L.map fun s=>[cS s])]) (fun ⟨k,sw,cw,fw⟩=>k<=x.At.length/\(Em (pre++(iN 1 104 (g.bs_ x.From) 0::gK (atC L (g.dm x.From) (mF (g.dm x.From))) 0 (x.At.take k))) cw fw)) (fun ⟨k,sw,cw,fw⟩=>x.At.length-k) ⟨⟨0,sv1,cd1,fu1⟩,⟨by omega,(by rw [List.take_zero,gK];have h9:=hE1;(try simp only [List.append_assoc,List.cons_append,List.nil_append,List.append_nil] at h9);(try simp only [List.append_assoc,List.cons_append,List.nil_append,List.append_nil]);exact h9)⟩,Weak.mk [true,true,true] ⟨zB,zB,zB,zB,zB,zB,T⟩ O⟩ ?_
 rintro ⟨k,sw,cw,fw⟩ ⟨hk,hq⟩
 show AWP _ _ _ _ _ ⟨[(22,vI k)]++_,[E.row b 80 [.lit sw,.lit (.bool fw),.sl 8 (g.n.Bufs.map Bf.cells),.sl 20 (g.n.Body.map St.cells),.sl 5 (g.ty.map tyC),.sl 3 (g.sl.map Sl.cells),.lit sl],E.vec sw 46 11 (cw.map In.cells),E.vec sl 9 1 (L.map fun s=>[cS s])]++_⟩
 refine R O<|yB O<|zA<|zI<|zC O (fun c1=>?_) (fun c1=>?_)
 ·try simp only [sx] at c1
  obtain ⟨f,hf⟩:=qU x.At k (by omega)
  have hdk:=zMf (d:=(g.dm x.From)) (j:=k) (by omega)
  have hsk:=strT_at (d:=(g.dm x.From)) (j:=k) p6 (by omega)
  refine zJ<|zI<|zP<|R O<|G O<|qD O zAv (by omega) (B (by assumption))<|zO zBa zQ O<|zV O O (qR [none,some 2] O zr54 O) ?_
  rintro _ _ ⟨b3,rfl,rfl⟩
  refine G O<|D 0 sz54 O<|qX _ (qK 0 O 8 _ PLe.ptr)<|zA<|R O<|G O<|zO zBa zQ O<|zV O O (qQ O ok154 (cg_form hq hL f 105 (by have:=zCn (qA hf);omega)) ⟨zB,O,zB,O,zB,O,T⟩) ?_
  rintro _ _ ⟨rfl,sv2,cd2,fu2,hE2,rfl⟩
  refine zA<|zI<|R O<|zX O zNx<|zX O zDe<|zH zCt zQ O<|zZ O el67<|zW O (kN O O O)<|zA<|zC O (fun c2=>?_) (fun c2=>?_)
  ·try simp only [sx] at c2
   refine qW 9 mixed (by kernel_rfl) O O<|zL O O (zN O O)<|zL O O (qI O O)<|zL O O (zD O kB O)<|zL O O (qF O zNx O)<|zL O O (qF O zDe O)<|zL O O (zF O zCt O zQ O)<|zL O O (zN O O)<|zL O O (qL O el67 O O (by omega) (B hdk))<|zL O O (zF O one3 O zQ O)<|yJ<|zV O O (qQ O ok63 (zDx hE2 (10) (255) (105) (0) ((g.dm x.From).getD k 0)) ⟨zB,O,zB,O,zB,O,zB,O,zB,O,zB,O,T⟩) ?_
   rintro _ _ ⟨rfl,sv3,cd3,fu3,hE3,rfl⟩
   refine zA<|zI<|qW 8 mixed (by kernel_rfl) O O<|zL O O (zN O O)<|zL O O (qI O O)<|zL O O (zD O kB O)<|zL O O (qF O zSz O)<|zL O O (zF O zCt O zQ O)<|zL O O (zN O O)<|zL O O (qL O el67 O O (by omega) (B hsk))<|zL O O (zF O one3 O zQ O)<|yJ<|zV O O (qQ O ok61 (kJ hE3 (4) (105) (105) ((mF (g.dm x.From)).getD k 0) _ (fun _=>O)) ⟨zB,O,zB,O,zB,O,zB,O,zB,O,T⟩) ?_
   rintro _ _ ⟨rfl,sv4,cd4,fu4,hE4,rfl⟩
   refine zA<|zM O<|G O<|qE O<|zG O kB<|zV O O (qQ O ok61 (kJ hE4 (3) (104) (104) (105) _ (fun _=>O)) ⟨zB,O,zB,O,zB,O,zB,O,zB,O,T⟩) ?_
   rintro _ _ ⟨rfl,sv5,cd5,fu5,hE5,rfl⟩
   refine zA<|zM O<|qB O ⟨by omega,by omega⟩<|G O<|zA ?_
   refine ⟨⟨k+1,sv5,cd5,fu5⟩,⟨by omega,(by rw [zCa _ hf,atC_1 (by omega)];have h9:=hE5;(try simp only [List.append_assoc,List.cons_append,List.nil_append,List.append_nil] at h9);(try simp only [List.append_assoc,List.cons_append,List.nil_append,List.append_nil]);exact h9)⟩,(by show x.At.length-(k+1)<x.At.length-k;omega),Weak.mk [true,true,true] ⟨zB,zB,zB,zB,zB,zB,T⟩ O⟩
  ·try simp only [sx] at c2
   refine zJ<|zI<|qW 8 mixed (by kernel_rfl) O O<|zL O O (zN O O)<|zL O O (qI O O)<|zL O O (zD O kB O)<|zL O O (qF O zSz O)<|zL O O (zF O zCt O zQ O)<|zL O O (zN O O)<|zL O O (qL O el67 O O (by omega) (B hsk))<|zL O O (zF O one3 O zQ O)<|yJ<|zV O O (qQ O ok61 (kJ hE2 (4) (105) (105) ((mF (g.dm x.From)).getD k 0) _ (fun _=>O)) ⟨zB,O,zB,O,zB,O,zB,O,zB,O,T⟩) ?_
   rintro _ _ ⟨rfl,sv4,cd4,fu4,hE4,rfl⟩
   refine zA<|zM O<|G O<|qE O<|zG O kB<|zV O O (qQ O ok61 (kJ hE4 (3) (104) (104) (105) _ (fun _=>O)) ⟨zB,O,zB,O,zB,O,zB,O,zB,O,T⟩) ?_
   rintro _ _ ⟨rfl,sv5,cd5,fu5,hE5,rfl⟩
   refine zA<|zM O<|qB O ⟨by omega,by omega⟩<|G O<|zA ?_
   refine ⟨⟨k+1,sv5,cd5,fu5⟩,⟨by omega,(by rw [zCa _ hf,atC_0 (by omega)];have h9:=hE5;(try simp only [List.append_assoc,List.cons_append,List.nil_append,List.append_nil] at h9);(try simp only [List.append_assoc,List.cons_append,List.nil_append,List.append_nil]);exact h9)⟩,(by show x.At.length-(k+1)<x.At.length-k;omega),Weak.mk [true,true,true] ⟨zB,zB,zB,zB,zB,zB,T⟩ O⟩
 ·try simp only [sx] at c1
  rw [yA (l:=x.At) (k:=k) (by omega)] at hq
  refine qH<|zI<|qW 7 mixed (by kernel_rfl) O O<|zL O O (zN O O)<|zL O O (qI O O)<|zL O O (zD O kB O)<|zL O O (qF O zFm O)<|zL O O (zF O one3 O zQ O)<|zL O O (qF O zIs O)<|zL O O (zF O one3 O zQ O)<|yJ<|zV O O (qQ O ok63 (zDx hq (10) (254) (104) (g.bs_ x.From) (g.en x.From)) ⟨zB,O,zB,O,zB,O,zB,O,zB,O,zB,O,T⟩) ?_
  rintro _ _ ⟨rfl,sv6,cd6,fu6,hE6,rfl⟩
  refine zA<|zM O<|G O<|qE O<|zG O kB<|G O<|zV O O (qQ O ok61 (kJ hE6 (15) (101) (254) (ext) _ (fun _=>O)) ⟨zB,O,zB,O,zB,O,zB,O,zB,O,T⟩) ?_
  rintro _ _ ⟨rfl,sv7,cd7,fu7,hE7,rfl⟩
  refine zA ?_
  repeat (first|refine qV ?_|refine qT ?_)
  refine yF<|U ?_
  refine ⟨O,_,_,_,?_,O⟩
  unfold vU
  have h9:=hE7
  exact v15
set_option maxHeartbeats 4000000 in
theorem cg_address {b:Nat} {sv sl:Value} {code:List In} {full:Bool} {g:Gn} {L:List ByteArray} {pre:List In} (hE:Em pre code full) (hL:L.length<=1000000) (s:ByteArray) (idx:List Ix) (hg:g.Ok) (hb:bP g.n.Bufs s=true) (hd:(g.dm s).length=idx.length) (hi:∀x,x∈idx->RdI g L x) (hw:gF idx<=1000000000):
    Con cfg 115 [vPt b,vPl g s,mJ idx] (fJ b sv sl code full g L) fun r μ'=>r=.tup []/\∃sv' code' full',Em (pre++xA g L s idx) code' full'/\μ'=fJ b sv' sl code' full' g L:=by
 refine zU Tryz.func115 O Tryz.ntmps115 Tryz.results115 O ?_
 intro z hz
 obtain ⟨p1,p2,p3,p4,p5,p6,p7⟩:=hg.plc hb
 refine R O<|zV O O (qO O O) ?_
 rintro _ _ ⟨b1,rfl,rfl⟩
 refine qX _ (qK 0 O 4 _ PLe.ptr)<|zA<|zI<|qW 5 mixed (by kernel_rfl) O O<|zL O O (zN O O)<|zL O O (qI O O)<|zL O O (zD O kB O)<|zL O O (qF O zFm O)<|zL O O (zF O one3 O zQ O)<|yJ<|zV O O (qQ O ok61 (kJ hE (1) (100) (g.bs_ s) (0) _ (fun _=>O)) ⟨zB,O,zB,O,zB,O,zB,O,zB,O,T⟩) ?_
 rintro _ _ ⟨rfl,sv1,cd1,fu1,hE1,rfl⟩
 refine zA<|R O<|G O<|zZ O el51<|G O<|zA<|zP<|zT ⟨[(16,.c _),(0,.c _),(4,.c _),(14,.c _),(15,.c _)],[_,_,_]⟩ (Weak.mk [true,true,true] ⟨zB,zB,zB,zB,zB,T⟩ O)<|qG 1 3 O O (Nat×Value×List In×Bool) (fun ⟨k,sw,cw,fw⟩=>[(16,vI k)]) (fun ⟨k,sw,cw,fw⟩=>[E.row b 80 [.lit sw,.lit (.bool fw),.sl 8 (g.n.Bufs.map Bf.cells),.sl 20 (g.n.Body.map St.cells),.sl 5 (g.ty.map tyC),.sl 3 (g.sl.map Sl.cells),.lit sl],E.vec sw 46 11 (cw.map In.cells),E.vec sl 9 1 (L.map fun s=>[cS s])]) (fun ⟨k,sw,cw,fw⟩=>k<=idx.length/\(Em (pre++(iN 1 100 (g.bs_ s) 0::gK (axC g L (g.dm s) (mF (g.dm s))) 0 (idx.take k))) cw fw)) (fun ⟨k,sw,cw,fw⟩=>idx.length-k) ⟨⟨0,sv1,cd1,fu1⟩,⟨by omega,(by rw [List.take_zero,gK];have h9:=hE1;(try simp only [List.append_assoc,List.cons_append,List.nil_append,List.append_nil] at h9);(try simp only [List.append_assoc,List.cons_append,List.nil_append,List.append_nil]);exact h9)⟩,Weak.mk [true,true,true] ⟨zB,zB,zB,zB,zB,T⟩ O⟩ ?_
 rintro ⟨k,sw,cw,fw⟩ ⟨hk,hq⟩
 show AWP _ _ _ _ _ ⟨[(16,vI k)]++_,[E.row b 80 [.lit sw,.lit (.bool fw),.sl 8 (g.n.Bufs.map Bf.cells),.sl 20 (g.n.Body.map St.cells),.sl 5 (g.ty.map tyC),.sl 3 (g.sl.map Sl.cells),.lit sl],E.vec sw 46 11 (cw.map In.cells),E.vec sl 9 1 (L.map fun s=>[cS s])]++_⟩
 refine R O<|yB O<|zA<|zI<|zC O (fun c1=>?_) (fun c1=>?_)
 ·try simp only [sx] at c1
  obtain ⟨x,hx⟩:=qU idx k (by omega)
  have hdk:=zMf (d:=(g.dm s)) (j:=k) (by omega)
  have hsk:=strT_at (d:=(g.dm s)) (j:=k) p6 (by omega)
  have hxw:=zCv (qA hx)
  refine zJ<|zI<|zP<|R O<|G O<|qD O el51 (by omega) (B (by assumption))<|zO zDc zQ O<|zV O O (qR [none,some 2,none,some 2] O zPb O) ?_
  rintro _ _ ⟨b2,rfl,rfl⟩
  refine G O<|D 0 zPc O<|qX _ (qK 0 O 7 _ PLe.ptr)<|zA<|zI<|R O<|zX O wG<|zH one9 zQ O<|zW O (zAl O O O)<|zA<|zC O (fun c2=>?_) (fun c2=>?_)
  ·try simp only [sx] at c2
   refine qW 8 mixed (by kernel_rfl) O O<|zL O O (zN O O)<|zL O O (qC O zDc O zQ O)<|zL O O (qF O zNx O)<|zL O O (qF O zDe O)<|zL O O (zF O zCt O zQ O)<|zL O O (zN O O)<|zL O O (qL O el67 O O (by omega) (B hdk))<|zL O O (zF O one3 O zQ O)<|yJ<|zV O O (qQ O ok155 (cg_gather hq hL x ((g.dm s).getD k 0) hg ((hi x (qA hx)).2 c2).1 ((hi x (qA hx)).2 c2).2.1 (by omega)) ⟨zB,O,zB,O,zB,O,T⟩) ?_
   rintro _ _ ⟨rfl,sv2,cd2,fu2,hE2,rfl⟩
   refine zA<|zI<|qW 8 mixed (by kernel_rfl) O O<|zL O O (zN O O)<|zL O O (qI O O)<|zL O O (zD O kB O)<|zL O O (qF O zSz O)<|zL O O (zF O zCt O zQ O)<|zL O O (zN O O)<|zL O O (qL O el67 O O (by omega) (B hsk))<|zL O O (zF O one3 O zQ O)<|yJ<|zV O O (qQ O ok61 (kJ hE2 (4) (101) (101) ((mF (g.dm s)).getD k 0) _ (fun _=>O)) ⟨zB,O,zB,O,zB,O,zB,O,zB,O,T⟩) ?_
   rintro _ _ ⟨rfl,sv4,cd4,fu4,hE4,rfl⟩
   refine zA<|zM O<|G O<|qE O<|zG O kB<|zV O O (qQ O ok61 (kJ hE4 (3) (100) (100) (101) _ (fun _=>O)) ⟨zB,O,zB,O,zB,O,zB,O,zB,O,T⟩) ?_
   rintro _ _ ⟨rfl,sv5,cd5,fu5,hE5,rfl⟩
   refine zA<|zM O<|qB O ⟨by omega,by omega⟩<|G O<|zA ?_
   refine ⟨⟨k+1,sv5,cd5,fu5⟩,⟨by omega,(by rw [zCa _ hx,axC_g c2];have h9:=hE5;(try simp only [List.append_assoc,List.cons_append,List.nil_append,List.append_nil] at h9);(try simp only [List.append_assoc,List.cons_append,List.nil_append,List.append_nil]);exact h9)⟩,(by show idx.length-(k+1)<idx.length-k;omega),Weak.mk [true,true,true] ⟨zB,zB,zB,zB,zB,T⟩ O⟩
  ·try simp only [sx] at c2
   refine R O<|G O<|zX O zCy<|zO zBa zQ O<|zV O O (qQ O ok154 (cg_form hq hL x.Lin 101 (by unfold Ix.wt at hxw;omega)) ⟨zB,O,zB,O,zB,O,T⟩) ?_
   rintro _ _ ⟨rfl,sv2,cd2,fu2,hE2,rfl⟩
   refine zA<|R O<|zX O zNx<|zX O zDe<|zH zCt zQ O<|zZ O el67<|zW O (kN O O O)<|zA<|zC O (fun c3=>?_) (fun c3=>?_)
   ·try simp only [sx] at c3
    refine qW 9 mixed (by kernel_rfl) O O<|zL O O (zN O O)<|zL O O (qI O O)<|zL O O (zD O kB O)<|zL O O (qF O zNx O)<|zL O O (qF O zDe O)<|zL O O (zF O zCt O zQ O)<|zL O O (zN O O)<|zL O O (qL O el67 O O (by omega) (B hdk))<|zL O O (zF O one3 O zQ O)<|yJ<|zV O O (qQ O ok63 (zDx hE2 (10) (255) (101) (0) ((g.dm s).getD k 0)) ⟨zB,O,zB,O,zB,O,zB,O,zB,O,zB,O,T⟩) ?_
    rintro _ _ ⟨rfl,sv3,cd3,fu3,hE3,rfl⟩
    refine zA<|zI<|qW 8 mixed (by kernel_rfl) O O<|zL O O (zN O O)<|zL O O (qI O O)<|zL O O (zD O kB O)<|zL O O (qF O zSz O)<|zL O O (zF O zCt O zQ O)<|zL O O (zN O O)<|zL O O (qL O el67 O O (by omega) (B hsk))<|zL O O (zF O one3 O zQ O)<|yJ<|zV O O (qQ O ok61 (kJ hE3 (4) (101) (101) ((mF (g.dm s)).getD k 0) _ (fun _=>O)) ⟨zB,O,zB,O,zB,O,zB,O,zB,O,T⟩) ?_
    rintro _ _ ⟨rfl,sv4,cd4,fu4,hE4,rfl⟩
    refine zA<|zM O<|G O<|qE O<|zG O kB<|zV O O (qQ O ok61 (kJ hE4 (3) (100) (100) (101) _ (fun _=>O)) ⟨zB,O,zB,O,zB,O,zB,O,zB,O,T⟩) ?_
    rintro _ _ ⟨rfl,sv5,cd5,fu5,hE5,rfl⟩
    refine zA<|zM O<|qB O ⟨by omega,by omega⟩<|G O<|zA ?_
    refine ⟨⟨k+1,sv5,cd5,fu5⟩,⟨by omega,(by rw [zCa _ hx,axC_1 c2 (by omega)];have h9:=hE5;(try simp only [List.append_assoc,List.cons_append,List.nil_append,List.append_nil] at h9);(try simp only [List.append_assoc,List.cons_append,List.nil_append,List.append_nil]);exact h9)⟩,(by show idx.length-(k+1)<idx.length-k;omega),Weak.mk [true,true,true] ⟨zB,zB,zB,zB,zB,T⟩ O⟩
   ·try simp only [sx] at c3
    refine zJ<|zI<|qW 8 mixed (by kernel_rfl) O O<|zL O O (zN O O)<|zL O O (qI O O)<|zL O O (zD O kB O)<|zL O O (qF O zSz O)<|zL O O (zF O zCt O zQ O)<|zL O O (zN O O)<|zL O O (qL O el67 O O (by omega) (B hsk))<|zL O O (zF O one3 O zQ O)<|yJ<|zV O O (qQ O ok61 (kJ hE2 (4) (101) (101) ((mF (g.dm s)).getD k 0) _ (fun _=>O)) ⟨zB,O,zB,O,zB,O,zB,O,zB,O,T⟩) ?_
    rintro _ _ ⟨rfl,sv4,cd4,fu4,hE4,rfl⟩
    refine zA<|zM O<|G O<|qE O<|zG O kB<|zV O O (qQ O ok61 (kJ hE4 (3) (100) (100) (101) _ (fun _=>O)) ⟨zB,O,zB,O,zB,O,zB,O,zB,O,T⟩) ?_
    rintro _ _ ⟨rfl,sv5,cd5,fu5,hE5,rfl⟩
    refine zA<|zM O<|qB O ⟨by omega,by omega⟩<|G O<|zA ?_
    refine ⟨⟨k+1,sv5,cd5,fu5⟩,⟨by omega,(by rw [zCa _ hx,axC_0 c2 (by omega)];have h9:=hE5;(try simp only [List.append_assoc,List.cons_append,List.nil_append,List.append_nil] at h9);(try simp only [List.append_assoc,List.cons_append,List.nil_append,List.append_nil]);exact h9)⟩,(by show idx.length-(k+1)<idx.length-k;omega),Weak.mk [true,true,true] ⟨zB,zB,zB,zB,zB,T⟩ O⟩
 ·try simp only [sx] at c1
  refine qH ?_
  repeat (first|refine qV ?_|refine qT ?_)
  refine yF<|U ?_
  rw [yA (l:=idx) (k:=k) (by omega)] at hq
  exact ⟨O,_,_,_,hq,O⟩
end Go.W
