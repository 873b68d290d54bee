/-
  What functions compute.
  Conditions: none.
-/
import Derived.Test.YtdldhbfgfkebjaaGreatDoorHC
import Derived.Test.YtdldhbfgfkebjaaGreatDoorPlainG
set_option linter.unusedSimpArgs false
set_option linter.unusedVariables false
set_option maxRecDepth 10000
namespace Go.W
open Go Go.Eng Go.Proofs Go.L41 Go.Br
attribute [local irreducible] AWP RWP TD fP
abbrev vPt (b:Nat):V:=.c (.lit (.pointer (some ⟨b,0,none⟩)))
abbrev fH (b:Nat) (sv sl:Value) (code:List In) (full:Bool) (g:Gn) (L:List ByteArray):List E:=
  [.row b 80 [.lit sv,.lit (.bool full),.sl 8 (g.n.Bufs.map Bf.cells),.sl 20 (g.n.Body.map St.cells),.sl 5 (g.ty.map tyC),.sl 3 (g.sl.map Sl.cells),.lit sl],.vec sv 46 11 (code.map In.cells),.vec sl 9 1 (L.map fun s=>[cS s])]
abbrev vPl (g:Gn) (s:ByteArray):V:=.agg (plC g s)
theorem atC_1 {L:List ByteArray} {d st:List Int} {j:Nat} {f:Lf} (h:2<=d.length):atC L d st j f=rK L f 105++([iA 10 255 105 0 (d.getD j 0)]++[iN 4 105 105 (st.getD j 0),iN 3 104 104 105]):=by
  unfold atC tY;rw [if_pos h,List.append_assoc]
theorem atC_0 {L:List ByteArray} {d st:List Int} {j:Nat} {f:Lf} (h:¬2<=d.length):atC L d st j f=rK L f 105++[iN 4 105 105 (st.getD j 0),iN 3 104 104 105]:=by
  unfold atC tY;rw [if_neg h,List.append_nil]
theorem axC_g {g:Gn} {L:List ByteArray} {d st:List Int} {i:Nat} {x:Ix} (h:¬x.From=bs []):axC g L d st i x=vD g L x (d.getD i 0)++[iN 4 101 101 (st.getD i 0),iN 3 100 100 101]:=by
  unfold axC;rw [if_neg h]
theorem axC_1 {g:Gn} {L:List ByteArray} {d st:List Int} {i:Nat} {x:Ix} (h:x.From=bs []) (h2:2<=d.length):axC g L d st i x=rK L x.Lin 101++([iA 10 255 101 0 (d.getD i 0)]++[iN 4 101 101 (st.getD i 0),iN 3 100 100 101]):=by
  unfold axC tY;rw [if_pos h,if_pos h2,List.append_assoc]
theorem axC_0 {g:Gn} {L:List ByteArray} {d st:List Int} {i:Nat} {x:Ix} (h:x.From=bs []) (h2:¬2<=d.length):axC g L d st i x=rK L x.Lin 101++[iN 4 101 101 (st.getD i 0),iN 3 100 100 101]:=by
  unfold axC tY;rw [if_pos h,if_neg h2,List.append_nil]
theorem agg46:lK Tryz.prog 46=some 11:=by kernel_rfl
theorem agg118:lK Tryz.prog 118=some 11:=by kernel_rfl
theorem el32:dZ Tryz.prog 32=some (46,11,88):=by kernel_rfl
theorem fd46_1:bD Tryz.prog 46 1=some (1,3):=by kernel_rfl
theorem fd48_0:bD Tryz.prog 48 0=some (0,9):=by kernel_rfl
theorem zPs:bD Tryz.prog 77 0=some (0,32):=by kernel_rfl
theorem zTn:bD Tryz.prog 77 1=some (1,4):=by kernel_rfl
theorem kJ:bD Tryz.prog 80 0=some (0,77):=by kernel_rfl
theorem fd80_1:bD Tryz.prog 80 1=some (2,25):=by kernel_rfl
theorem fd80_3:bD Tryz.prog 80 3=some (5,33):=by kernel_rfl
theorem fd80_4:bD Tryz.prog 80 4=some (6,78):=by kernel_rfl
theorem zOv:bD Tryz.prog 118 0=some (0,69):=by kernel_rfl
theorem zGa:bD Tryz.prog 118 1=some (8,3):=by kernel_rfl
theorem zJi:bD Tryz.prog 118 2=some (9,3):=by kernel_rfl
theorem zTs:bD Tryz.prog 118 3=some (10,67):=by kernel_rfl
theorem ok30:bA Tryz.prog 30=true:=by kernel_rfl
theorem ok60:bA Tryz.prog 60=true:=by kernel_rfl
theorem ok61:bA Tryz.prog 61=true:=by kernel_rfl
theorem ok63:bA Tryz.prog 63=true:=by kernel_rfl
theorem ok113:bA Tryz.prog 113=true:=by kernel_rfl
theorem ok119:bA Tryz.prog 119=true:=by kernel_rfl
theorem ok154:bA Tryz.prog 154=true:=by kernel_rfl
theorem ok155:bA Tryz.prog 155=true:=by kernel_rfl
theorem one4:jK Tryz.prog 4=true:=by kernel_rfl
theorem zIk:jK Tryz.prog 32=true:=by kernel_rfl
theorem one33:jK Tryz.prog 33=true:=by kernel_rfl
theorem pl46:dN Tryz.prog 46=some [(0,1),(1,1),(2,1),(3,1),(4,2),(6,5)]:=by kernel_rfl
theorem pl118:dN Tryz.prog 118=some [(0,8),(8,1),(9,1),(10,1)]:=by kernel_rfl
theorem sz4:(Tryz.prog.info? 4).map (·.size)=some 1:=by kernel_rfl
theorem sz32:(Tryz.prog.info? 32).map (·.size)=some 1:=by kernel_rfl
theorem sz118:(Tryz.prog.info? 118).map (·.size)=some 11:=by kernel_rfl
theorem zr46:dL Tryz.prog 46=some [(Value.int IntKind.i64 0),(Value.int IntKind.i64 0),(Value.int IntKind.i64 0),(Value.int IntKind.i64 0),(Value.int IntKind.i64 0),(Value.int IntKind.i64 0),(Value.int IntKind.i64 0),(Value.int IntKind.i64 0),(Value.int IntKind.i64 0),(Value.int IntKind.i64 0),(Value.int IntKind.i64 0)]:=by kernel_rfl
theorem zr118:dL Tryz.prog 118=some [(Value.string (ByteArray.mk #[])),(Value.int IntKind.i64 0),(Value.int IntKind.i64 0),(Value.int IntKind.i64 0),(Value.int IntKind.i64 0),(Value.int IntKind.i64 0),(Value.slice none 0 0),(Value.int IntKind.i64 0),(Value.int IntKind.i64 0),(Value.int IntKind.i64 0),(Value.slice none 0 0)]:=by kernel_rfl
theorem zPh {b:Nat} {sv sl:Value} {code:List In} {full:Bool} {g:Gn} {L:List ByteArray} {pre:List In} (hE:Em pre code full) (i j:In) (hij:pre.length<65536->i=j):
    Con cfg 30 [vPt b,vIn i] (fH b sv sl code full g L) fun r μ'=>r=vI (psI pre.length)/\∃sv' code' full',Em (pre++[j]) code' full'/\μ'=fH b sv' sl code' full' g L:=by
 refine zW Tryz.func30 O Tryz.ntmps30 Tryz.results30 O ?_
 intro z hz
 have hlen:=hE.len
 refine R O<|zS O O (qP O O) ?_
 rintro _ _ ⟨b1,rfl,rfl⟩
 refine G O<|zA<|zF<|R O<|G O<|qI O<|zJ O zPs<|zE zIk (A 1 O) O<|zZ O (yK 2 O el32 O O)<|zZ O (kY O O O)<|zA<|zD O (fun c1=>?_) (fun c1=>?_)
 ·try simp only [sx] at c1
  refine R O<|G O<|qI O<|zJ O zTn<|Y 1 sz4 O<|zA<|R O<|G O<|zA<|zU _ (Weak.mem [false,true,true,true] O)<|zN<|zV O ?_
  exact ⟨congrArg vI (hE.ps0 (by omega)),sv,code,true,hE.full (by omega) j,O⟩
 ·try simp only [sx] at c1
  refine zI<|zF<|yL 8 0 [⟨0,.q []⟩,⟨1,.q []⟩,⟨2,.q []⟩,⟨3,.q []⟩,⟨4,.q [1]⟩,⟨5,.q [0]⟩,⟨6,.q []⟩,⟨7,.e 2 []⟩] mixed (by kernel_rfl) (by kernel_rfl) O O O<|J O<|J O<|J O<|J O<|J O<|J O<|J O<|J O<|wQ<|zX O (by decide) O O (zM O O)<|zX O (by decide) O O (zM O O)<|zX O (by decide) O O (qL O O)<|zX O (by decide) O O (zH O zPs O)<|zX O (by decide) O O (zC O zIk O (A 0 O) O)<|zX O (by decide) O O (qC O agg46 O (A 0 O) O)<|zX O (by decide) O O (yJ O el32 zr46 O O O O)<|zEs O O (by decide) O O (yI 0 O el32 O O O (by simp only [List.length_map,List.length_cons,List.length_nil];omega) (by simp only [List.length_map,List.length_cons,List.length_nil];omega)) ?_
  rintro _ _ ⟨sv2,rfl,rfl⟩
  refine ⟨_,O,?_⟩
  refine wP O<|qI O<|zJ O zPs<|Y 1 sz32 O<|zA<|R O<|G O<|qI O<|zJ O zPs<|zE zIk (A 1 O) O<|zZ O (yK 2 O el32 O O)<|yY O (by simp only [List.length_append,List.length_map,List.length_cons,List.length_nil];exact ⟨by omega,by omega⟩)<|G O<|zA<|zU _ (Weak.mem [false,true,true,true] O)<|zN<|zV O ?_
  refine ⟨congrArg vI ?_,sv2,code++[i],full,hE.push (by omega) hij,?_⟩
  · rw [←hE.ps (by omega) i];simp only [List.length_append,List.length_map,List.length_cons,List.length_nil]
  · rw [show fH b sv2 sl (code++[i]) full g L=fH b sv2 sl (code++[i]) full g L from rfl];simp only [fH,List.map_append];rfl
theorem kS {b:Nat} {sv sl:Value} {code:List In} {full:Bool} {g:Gn} {L:List ByteArray} {pre:List In} (hE:Em pre code full) (op x y u:Int) (j:In) (hij:pre.length<65536->iN op x y u=j):
    Con cfg 61 [vPt b,vI op,vI x,vI y,vI u] (fH b sv sl code full g L) fun r μ'=>r=vI (psI pre.length)/\∃sv' code' full',Em (pre++[j]) code' full'/\μ'=fH b sv' sl code' full' g L:=by
 refine zW Tryz.func61 O Tryz.ntmps61 Tryz.results61 O ?_
 intro z hz
 refine R O<|G O<|zA<|R O<|G O<|G O<|G O<|G O<|G O<|yS O zr46 pl46<|zS O O (W O ok30 (zPh hE (iN op x y u) j hij) ⟨zB,O,zB,O,T⟩) ?_
 rintro _ _ ⟨rfl,sv1,cd1,fu1,hE1,rfl⟩
 refine G O<|zA<|zN<|zV O ?_
 exact ⟨O,_,_,_,hE1,O⟩
theorem zEf {b:Nat} {sv sl:Value} {code:List In} {full:Bool} {g:Gn} {L:List ByteArray} {pre:List In} (hE:Em pre code full) (op q x f t:Int):
    Con cfg 63 [vPt b,vI op,vI q,vI x,vI f,vI t] (fH b sv sl code full g L) fun r μ'=>r=.tup []/\∃sv' code' full',Em (pre++[iA op q x f t]) code' full'/\μ'=fH b sv' sl code' full' g L:=by
 refine zW Tryz.func63 O Tryz.ntmps63 Tryz.results63 O ?_
 intro z hz
 refine zK O<|G O<|G O<|G O<|G O<|G O<|G O<|yS O zr44 pl44<|yS O zr46 pl46<|zS O O (W O ok30 (zPh hE (iA op q x f t) _ (fun _=>O)) ⟨zB,O,zB,O,T⟩) ?_
 rintro _ _ ⟨rfl,sv1,cd1,fu1,hE1,rfl⟩
 refine zA ?_
 repeat (first|refine qZ ?_|refine qV ?_)
 refine yP<|U ?_
 exact ⟨O,_,_,_,hE1,O⟩
theorem cg_here {b:Nat} {sv sl:Value} {code:List In} {full:Bool} {g:Gn} {L:List ByteArray}  :
    Con cfg 62 [vPt b] (fH b sv sl code full g L) fun r μ'=>r=vI code.length/\μ'=fH b sv sl code full g L:=by
 refine zW Tryz.func62 O Tryz.ntmps62 Tryz.results62 O ?_
 intro z hz
 refine R O<|G O<|zA<|R O<|G O<|qI O<|zJ O zPs<|zE zIk (A 0 O) O<|zZ O (yK 1 O el32 O O)<|G O<|zA<|zN<|zV O ?_
 exact ⟨congrArg vI (by rw [List.length_map]),O⟩
theorem cg_land {b:Nat} {sv sl:Value} {code:List In} {full:Bool} {g:Gn} {L:List ByteArray} {pre:List In} (hE:Em pre code full) (i:Nat) (hi:i<pre.length) (p:Int) (hp:p=psI i):
    Con cfg 67 [vPt b,vI p] (fH b sv sl code full g L) fun r μ'=>r=.tup []/\∃sv' code' full',Em (gR pre i pre.length) code' full'/\μ'=fH b sv' sl code' full' g L:=by
 refine zW Tryz.func67 O Tryz.ntmps67 Tryz.results67 O ?_
 intro z hz
 refine R O<|G O<|qI O<|zJ O zTn<|zE one4 (A 0 O) O<|wE O<|zA<|zD O (fun c1=>?_) (fun c1=>?_)
 ·try simp only [sx] at c1
  have hfl:full=false:=by simpa using c1
  obtain ⟨q1,q2,q3⟩:=hE.jmp hi hfl
  have hx:=List.getElem?_eq_getElem q2
  have hpi:p=(i:Int):=hp.trans q1
  subst hpi
  have hrw:=jmp_rows (a:=code.length) hx
  generalize code[i]=x at hx hrw
  refine qW 12 mixed (by kernel_rfl) O O<|zL O O (zM O O)<|zL O O (qL O O)<|zL O O (zH O zPs O)<|zL O O (zC O zIk O (A 0 O) O)<|zL O O (zM O O)<|zL O O (zM O O)<|zL O O (qL O O)<|zL O O (zH O zPs O)<|zL O O (zC O zIk O (A 0 O) O)<|zL O O (yK 1 O el32 O O)<|zL O O (qO 1 O el32 O O O (by omega) (by rw [List.length_map];omega))<|zL O O (zDn O fd46_1 O)<|yM<|zAo O O (kN O sz3 O O O (zDz 1 O (wM (enc:=In.cells) hx O) O))<|zA ?_
  repeat (first|refine qZ ?_|refine qV ?_)
  refine yP<|U ?_
  refine ⟨O,sv,gR code i code.length,full,q3,?_⟩
  simp only [fH,hrw,List.length_map,Int.toNat_natCast]
  rfl
 ·try simp only [sx] at c1
  refine zI ?_
  repeat (first|refine qZ ?_|refine qV ?_)
  refine yP<|U ?_
  have hfl:full=true:=by simpa using c1
  subst hfl
  exact ⟨O,sv,code,true,hE.jmp0 i _,O⟩
theorem cg_op {b:Nat} {sv sl:Value} {code:List In} {full:Bool} {g:Gn} {L:List ByteArray} {pre:List In} (hE:Em pre code full) (op k a c d:Int) (t:Ty) (j:In) (hij:pre.length<65536->iO op k a c d t=j):
    Con cfg 116 [vPt b,vI op,vI k,vI a,vI c,vI d,vTy t] (fH b sv sl code full g L) fun r μ'=>r=vI (psI pre.length)/\∃sv' code' full',Em (pre++[j]) code' full'/\μ'=fH b sv' sl code' full' g L:=by
 refine zW Tryz.func116 O Tryz.ntmps116 Tryz.results116 O ?_
 intro z hz
 refine R O<|zS O O (qP O O) ?_
 rintro _ _ ⟨b1,rfl,rfl⟩
 refine G O<|zA<|zF<|qW 11 mixed (by kernel_rfl) O O<|zL O O (zM O O)<|zL O O (qL O O)<|zL O O (zH O kJ O)<|zL O O (zM O O)<|zL O O (zM O O)<|zL O O (zM O O)<|zL O O (zM O O)<|zL O O (zM O O)<|zL O O (kU O zr44 pl44 O)<|zL O O (qC O yG O (A 0 O) O)<|zL O O (kU O zr46 pl46 O)<|yM<|zS O O (yF [1,1,1] O ok30 (zPh hE (iO op k a c d t) j hij) ⟨zB,O,zB,O,T⟩ O) ?_
 rintro _ _ ⟨_,⟨rfl,sv1,cd1,fu1,hE1,rfl⟩,rfl⟩
 refine G O<|zA<|zU _ (Weak.mem [false,true,true,true] O)<|zN<|zV O ?_
 exact ⟨O,_,_,_,hE1,O⟩
theorem cg_find {b:Nat} {sv sl:Value} {code:List In} {full:Bool} {g:Gn} {L:List ByteArray} (s:ByteArray) (hg:g.Ok):
    Con cfg 60 [vPt b,vS s] (fH b sv sl code full g L) fun r μ'=>r=vPl g s/\μ'=fH b sv sl code full g L:=by
 refine Con.drop<|zW Tryz.func60 O Tryz.ntmps60 Tryz.results60 O ?_
 intro z hz
 have hsl:=hg.sl
 have hnb:=hg.nb
 refine R O<|zS O O (qQ [none,none,none,none,none,none,some 1,none,none,none,some 1] O zr118 O) ?_
 rintro _ _ ⟨b1,rfl,rfl⟩
 refine zA<|R O<|G O<|qI O<|zJ O fd80_1<|zQ zAm (A 1 O) O<|G O<|qS O ok112 (zAb g.n s hg.hn) ⟨zB,O,zB,O,T⟩<|zZ O (yA O O)<|zZ O (kB O O O)<|kP O<|zS O O (qQ [none,none,none,none,none,none,some 1,none] O zr69 O) ?_
 rintro _ _ ⟨b2,rfl,rfl⟩
 refine Y 0 sz69 O<|G O<|zA<|zF<|yL 6 1 [⟨0,.q [1]⟩,⟨1,.q []⟩,⟨2,.q [1]⟩,⟨3,.q []⟩,⟨4,.q []⟩,⟨5,.f 0⟩] mixed (by kernel_rfl) (by kernel_rfl) O O O<|J O<|J O<|J O<|J O<|J O<|zKb O O (zDa (qQ [none,none,none,none,none,none,some 1,none,none,none,some 1] O zr118 O)) ⟨_,_,0,O,O⟩<|wQ<|zX O (by decide) O O (qC O zIm O (A 0 O) O)<|zX O (by decide) O O (zH O zCn O)<|zX O (by decide) O O (zC O zCy O (A 0 O) O)<|zX O (by decide) O O (qR O ok113 (shape_Strides (g.dm s) (by have:=hg.hn.buf s;exact this)) ⟨zB,O,T⟩)<|zX O (by decide) O O (kU O zr118 pl118 O)<|zJt O O ?_
 rintro _ _ ⟨b3,rfl,rfl⟩
 refine wP O<|Y 0 sz118 O<|zA<|zF<|R O<|G O<|qI O<|zJ O fd80_3<|zE one33 (A 3 O) O<|qD O el33<|G O<|zA<|zP<|zU ⟨[(29,.c _),(1,.c _),(4,.c _),(7,.c _),(27,.c _),(28,.c _)],[_,_,_,_,_]⟩ (Weak.mk [true,false,true,true,true,true] ⟨zB,zB,zB,zB,zB,zB,T⟩ O)<|qF 1 0 O O (Nat) (fun k=>[(29,vI k)]) (fun k=>[]) (fun k=>k<=g.sl.length/\(slD g.sl s=slD (g.sl.drop k) s)) (fun k=>g.sl.length-k) ⟨0,⟨by omega,O⟩,Weak.mk [true,true,true,true,true] ⟨zB,zB,zB,zB,zB,zB,T⟩ O⟩ ?_
 rintro k ⟨hk,hp⟩
 refine R O<|yC O<|zA<|zF<|zD O (fun c1=>?_) (fun c1=>?_)
 ·try simp only [sx] at c1
  obtain ⟨x,hx⟩:=qU g.sl k (by omega)
  have hxb:=hg.slb x (qE hx)
  refine zI<|zF<|zP<|R O<|zY O el33 (by omega) (v (by assumption))<|zQ agg48 zO O<|zS O O (yZ O zr48) ?_
  rintro _ _ ⟨b4,rfl,rfl⟩
  refine Y 0 sz48 O<|qT _ (qM 0 O 9 _ PLe.ptr)<|zA<|R O<|zT O fd48_0<|zE one9 zO O<|G O<|zZ O (kE O O O)<|zA<|zD O (fun c2=>?_) (fun c2=>?_)
  ·try simp only [sx] at c2
   have hsd:=slD_at hx c2
   refine zF<|yL 9 0 [⟨0,.q []⟩,⟨1,.q []⟩,⟨2,.q []⟩,⟨3,.q []⟩,⟨4,.q []⟩,⟨5,.q []⟩,⟨6,.q []⟩,⟨7,.q []⟩,⟨8,.e 0 []⟩] mixed (by kernel_rfl) (by kernel_rfl) O O O<|J O<|J O<|J O<|J O<|J O<|J O<|J O<|J O<|J O<|wQ<|zX O (by decide) O O (qB O zTo O)<|zX O (by decide) O O (zC O one3 O zO O)<|zX O (by decide) O O (qB O zTo O)<|zX O (by decide) O O (zC O one3 O zO O)<|zX O (by decide) O O (qB O fd48_2 O)<|zX O (by decide) O O (zC O one3 O zO O)<|zX O (by decide) O O (wC O O O ⟨by omega,by omega⟩)<|zX O (by decide) O O (zH O zGa O)<|zEj O O (by decide) O O (kN O sz3 O O O (zGd 0 O O)) ?_
   rintro _ _ ⟨rfl,rfl⟩
   refine ⟨_,O,?_⟩
   refine wP O<|zJ O zJi<|Y 0 sz3 O<|zA<|qK<|R O<|zQ agg118 (A 0 O) O<|Y 1 sz118 O<|zA<|zU _ (Weak.mem [false,true,true,true,true] O)<|zN<|fin1 (qN agg118 O (A 0 O) O) ?_
   have h9:=hp.trans hsd
   exact ⟨by show _=V.agg (plC g s);unfold plC Gn.bs_ Gn.en;rw [h9];rfl,[_],O⟩
  ·try simp only [sx] at c2
   have hsd:=slD_nx hx c2
   refine zI<|zK O<|qA O ⟨by omega,by omega⟩<|G O<|zA ?_
   refine ⟨k+1,⟨by omega,hp.trans hsd⟩,(by omega),Weak.mk [true,true,true,true,true] ⟨zB,zB,zB,zB,zB,zB,T⟩ O⟩
 ·try simp only [sx] at c1
  refine qK<|R O<|zQ agg118 (A 0 O) O<|Y 1 sz118 O<|zA<|zU _ (Weak.mem [false,true,true,true,true] O)<|zN<|fin1 (qN agg118 O (A 0 O) O) ?_
  have h9:slD g.sl s=⟨bs [],0,0⟩:=by rw [hp,wG (by omega)];rfl
  exact ⟨by show _=V.agg (plC g s);unfold plC Gn.bs_ Gn.en;rw [h9];rfl,[_],O⟩
theorem cg_kind_step {b:Nat} {sv sl:Value} {code:List In} {full:Bool} {g:Gn} {L:List ByteArray} (hg:g.Ok) (e:Ex) (ih:∀a,a∈e.Args->Rdy g L a->bC a=false->Con cfg 119 [vPt b,vE a] (fH b sv sl code full g L) fun r μ'=>r=vTy (knd g.n.Bufs a)/\μ'=fH b sv sl code full g L) (h:Rdy g L e) (hc:bC e=false):
    Con cfg 119 [vPt b,vE e] (fH b sv sl code full g L) fun r μ'=>r=vTy (knd g.n.Bufs e)/\μ'=fH b sv sl code full g L:=by
 refine Con.drop<|zW Tryz.func119 O Tryz.ntmps119 Tryz.results119 O ?_
 intro z hz
 have hop:=zLk (zAf h.part)
 have h13:¬13<=e.Op:=fun k9=>by rw [isC_op.2 ⟨k9,hop.2⟩] at hc;cases hc
 refine R O<|zS O O (qP O O) ?_
 rintro _ _ ⟨b1,rfl,rfl⟩
 refine qT _ (qM 0 O 3 _ PLe.ptr)<|zS O O (yZ O zr31) ?_
 rintro _ _ ⟨b2,rfl,rfl⟩
 refine zA<|zF<|R O<|zT O kR<|zE one3 zO O<|zA<|zP<|zF<|R O<|yE O<|G O<|zA<|zD O (fun c1=>?_) (fun c1=>?_)
 ·have d1:e.Op=1:=of_decide_eq_true c1
  refine zI<|zD O (fun c2=>?_) (fun c2=>?_)
  ·exact n5
  ·exact absurd (c1.symm.trans c2) (by simp)
 ·have d1:¬e.Op=1:=of_decide_eq_false c1
  refine zK O<|yE O<|G O<|zA<|zD O (fun c2=>?_) (fun c2=>?_)
  ·exact n5
  ·have d2:¬e.Op=12:=of_decide_eq_false c2
   refine R O<|yE O<|G O<|zA<|zD O (fun c3=>?_) (fun c3=>?_)
   ·try simp only [sx] at c3
    refine R O<|yS O zr31 pl31<|Y 0 sz31 O<|zA<|zN<|fin1 (qN yG O (A 0 O) O) ?_
    exact ⟨by rw [knd_2 d1 d2 c3];rfl,[_],O⟩
   ·try simp only [sx] at c3
    refine R O<|yE O<|G O<|zA<|zD O (fun c4=>?_) (fun c4=>?_)
    ·try simp only [sx] at c4
     refine zF<|yL 12 1 [⟨0,.q []⟩,⟨1,.q []⟩,⟨2,.q []⟩,⟨3,.q [2]⟩,⟨4,.q []⟩,⟨5,.q []⟩,⟨6,.q []⟩,⟨7,.q []⟩,⟨8,.q []⟩,⟨9,.q []⟩,⟨10,.e 0 []⟩,⟨11,.e 0 []⟩] mixed (by kernel_rfl) (by kernel_rfl) O O O<|J O<|J O<|J O<|J O<|J O<|J O<|J O<|J O<|J O<|J O<|J O<|J O<|wQ<|zX O (by decide) O O (zM O O)<|zX O (by decide) O O (qL O O)<|zX O (by decide) O O (zH O fd80_1 O)<|zX O (by decide) O O (qC O zAm O (A 0 O) O)<|zX O (by decide) O O (qB O zCo O)<|zX O (by decide) O O (zC O one9 O zO O)<|zX O (by decide) O O (qR O ok112 (zAb g.n e.Name hg.hn) ⟨zB,O,zB,O,T⟩)<|zX O (by decide) O O (yA O O)<|zX O (by decide) O O (kB O O O)<|zX O (by decide) O O (zBt O O O)<|zEs O O (by decide) O O (qQ [none,none,none,none,none,none,some 1,none] O zr69 O) ?_
     exact j0
    ·try simp only [sx] at c4
     refine R O<|yE O<|G O<|zA<|zD O (fun c5=>?_) (fun c5=>?_)
     ·try simp only [sx] at c5
      obtain ⟨a,c,d,ha,⟨r1,k1⟩,⟨r2,k2⟩,⟨r3,k3⟩⟩:=h.args3 c5
      refine R O<|G O<|zT O yU<|zE kW zO O<|zY O el55 (by omega) (wF (show e.Args[(1:Int).toNat]? =some c by rw [ha];rfl))<|zQ yN zO O<|zZ O (qY [1,1,1] O ok119 (ih c (by rw [ha];simp) r2 k2) ⟨zB,O,zB,O,T⟩ O)<|Y 0 sz31 O<|zA<|zN<|fin1 (qN yG O (A 0 O) O) ?_
      exact ⟨by rw [knd_11 c5 ha];rfl,[_],O⟩
     ·try simp only [sx] at c5
      obtain ⟨a,r,ha,hra,hca⟩:=h.first d1 c3 c4 d2 c5 h13
      have ham:a∈e.Args:=by rw [ha];simp
      refine zI<|R O<|G O<|zT O yU<|zE kW zO O<|zY O el55 (by omega) (wF (show e.Args[(0:Int).toNat]? =some a by rw [ha];rfl))<|zQ yN zO O<|zZ O (qY [1,1,1] O ok119 (ih a ham hra hca) ⟨zB,O,zB,O,T⟩ O)<|Y 0 sz31 O<|zA<|zN<|fin1 (qN yG O (A 0 O) O) ?_
      exact ⟨by rw [knd_o d1 d2 c3 c4 c5 ha];rfl,[_],O⟩
theorem cg_kind {b:Nat} {sv sl:Value} {code:List In} {full:Bool} {g:Gn} {L:List ByteArray} (hg:g.Ok) (e:Ex) (h:Rdy g L e) (hc:bC e=false):Con cfg 119 [vPt b,vE e] (fH b sv sl code full g L) fun r μ'=>r=vTy (knd g.n.Bufs e)/\μ'=fH b sv sl code full g L:=by
  induction e using Ex.ind with
  |_ e ih=>exact cg_kind_step hg e (fun a ha h1 h2=>ih a ha h1 h2) h hc
theorem cg_operator (f:Int):
    Pur cfg 117 [vI f] (vI (pE f)):=by
 refine zW Tryz.func117 O Tryz.ntmps117 Tryz.results117 O ?_
 exact p8
theorem cg_form {b:Nat} {sv sl:Value} {code:List In} {full:Bool} {g:Gn} {L:List ByteArray} {pre:List In} (hE:Em pre code full) (hL:L.length<=1000000) (f:Lf) (x:Int) (hl:f.L.length<=4294967296):
    Con cfg 154 [vPt b,jU f,vI x] (fH b sv sl code full g L) fun r μ'=>r=.tup []/\∃sv' code' full',Em (pre++rK L f x) code' full'/\μ'=fH b sv' sl code' full' g L:=by
 refine zW Tryz.func154 O Tryz.ntmps154 Tryz.results154 O ?_
 intro z hz
 refine R O<|zS O O (qP O O) ?_
 rintro _ _ ⟨b1,rfl,rfl⟩
 refine qT _ (qM 0 O 4 _ PLe.ptr)<|zA<|zF<|qW 6 mixed (by kernel_rfl) O O<|zL O O (zM O O)<|zL O O (qL O O)<|zL O O (zH O kJ O)<|zL O O (zM O O)<|zL O O (qB O zFp O)<|zL O O (zC O one2 O zO O)<|yM<|zS O O (W O ok61 (kS hE (1) (x) (f.K) (0) _ (fun _=>O)) ⟨zB,O,zB,O,zB,O,zB,O,zB,O,T⟩) ?_
 rintro _ _ ⟨rfl,sv1,cd1,fu1,hE1,rfl⟩
 refine zA<|R O<|zT O zAg<|zE zCj zO O<|qD O el52<|G O<|zA<|zP<|zU ⟨[(18,.c _),(0,.c _),(2,.c _),(16,.c _),(17,.c _)],[_,_,_]⟩ (Weak.mk [true,true,true] ⟨zB,zB,zB,zB,zB,T⟩ O)<|qF 1 3 O O (Nat×Value×List In×Bool) (fun ⟨k,sw,cw,fw⟩=>[(18,vI k)]) (fun ⟨k,sw,cw,fw⟩=>[E.row b 80 [.lit sw,.lit (.bool fw),.sl 8 (g.n.Bufs.map Bf.cells),.sl 20 (g.n.Body.map St.cells),.sl 5 (g.ty.map tyC),.sl 3 (g.sl.map Sl.cells),.lit sl],E.vec sw 46 11 (cw.map In.cells),E.vec sl 9 1 (L.map fun s=>[cS s])]) (fun ⟨k,sw,cw,fw⟩=>k<=f.L.length/\(Em (pre++(iN 1 x f.K 0::(f.L.take k).flatMap (vQ L x))) cw fw)) (fun ⟨k,sw,cw,fw⟩=>f.L.length-k) ⟨⟨0,sv1,cd1,fu1⟩,⟨by omega,(by rw [List.take_zero,List.flatMap_nil];have h9:=hE1;(try simp only [List.append_assoc,List.cons_append,List.nil_append,List.append_nil] at h9);(try simp only [List.append_assoc,List.cons_append,List.nil_append,List.append_nil]);exact h9)⟩,Weak.mk [true,true,true] ⟨zB,zB,zB,zB,zB,T⟩ O⟩ ?_
 rintro ⟨k,sw,cw,fw⟩ ⟨hk,hq⟩
 show AWP _ _ _ _ _ ⟨[(18,vI k)]++_,[E.row b 80 [.lit sw,.lit (.bool fw),.sl 8 (g.n.Bufs.map Bf.cells),.sl 20 (g.n.Body.map St.cells),.sl 5 (g.ty.map tyC),.sl 3 (g.sl.map Sl.cells),.lit sl],E.vec sw 46 11 (cw.map In.cells),E.vec sl 9 1 (L.map fun s=>[cS s])]++_⟩
 refine R O<|yC O<|zA<|zF<|zD O (fun c1=>?_) (fun c1=>?_)
 ·try simp only [sx] at c1
  obtain ⟨m,hm⟩:=qU f.L k (by omega)
  refine zI<|zF<|zP<|R O<|zY O el52 (by omega) (v (by assumption))<|zQ zKw zO O<|zS O O (yZ O zr205) ?_
  rintro _ _ ⟨b2,rfl,rfl⟩
  refine Y 0 sz205 O<|qT _ (qM 0 O 7 _ PLe.ptr)<|zA<|zF<|yL 12 0 [⟨0,.q []⟩,⟨1,.q []⟩,⟨2,.q []⟩,⟨3,.q []⟩,⟨4,.q []⟩,⟨5,.q []⟩,⟨6,.q [0]⟩,⟨7,.q []⟩,⟨8,.q []⟩,⟨9,.q [2]⟩,⟨10,.q []⟩,⟨11,.q []⟩] mixed (by kernel_rfl) (by kernel_rfl) O O O<|J O<|J O<|J O<|J O<|J O<|J O<|J O<|J O<|J O<|J O<|J O<|J O<|wQ<|zX O (by decide) O O (zM O O)<|zX O (by decide) O O (qL O O)<|zX O (by decide) O O (zH O kJ O)<|zX O (by decide) O O (zM O O)<|zX O (by decide) O O (qL O O)<|zX O (by decide) O O (zH O fd80_4 O)<|zX O (by decide) O O (zC O zEu O (A 0 O) O)<|zX O (by decide) O O (qB O zDk O)<|zX O (by decide) O O (zC O one9 O zO O)<|zX O (by decide) O O (zCe 0 O ok182 O (zHx L m.Name (by omega)) O ⟨.inl ⟨O,O⟩,.inr ⟨zB,O⟩,T⟩)<|zX O (by decide) O O (qB O zFz O)<|zX O (by decide) O O (zC O one2 O zO O)<|wP O<|zS O O (W O ok61 (kS hq (4) (103) (rB L m.Name) (m.By) _ (fun _=>O)) ⟨zB,O,zB,O,zB,O,zB,O,zB,O,T⟩) ?_
  rintro _ _ ⟨rfl,sv3,cd3,fu3,hE3,rfl⟩
  refine zA<|zK O<|G O<|qI O<|zJ O kJ<|G O<|G O<|zS O O (W O ok61 (kS hE3 (3) (x) (x) (103) _ (fun _=>O)) ⟨zB,O,zB,O,zB,O,zB,O,zB,O,T⟩) ?_
  rintro _ _ ⟨rfl,sv4,cd4,fu4,hE4,rfl⟩
  refine zA<|zK O<|qA O ⟨by omega,by omega⟩<|G O<|zA ?_
  refine ⟨⟨k+1,sv4,cd4,fu4⟩,⟨by omega,(by rw [flat_next hm];unfold vQ;have h9:=hE4;(try simp only [List.append_assoc,List.cons_append,List.nil_append,List.append_nil] at h9);(try simp only [List.append_assoc,List.cons_append,List.nil_append,List.append_nil]);exact h9)⟩,(by show f.L.length-(k+1)<f.L.length-k;omega),Weak.mk [true,true,true] ⟨zB,zB,zB,zB,zB,T⟩ O⟩
 ·try simp only [sx] at c1
  refine qK ?_
  repeat (first|refine qZ ?_|refine qV ?_)
  refine yP<|U ?_
  rw [qX (l:=f.L) (k:=k) (by omega)] at hq
  exact ⟨O,_,_,_,hq,O⟩
set_option maxHeartbeats 4000000 in
theorem cg_gather {b:Nat} {sv sl:Value} {code:List In} {full:Bool} {g:Gn} {L:List ByteArray} {pre:List In} (hE:Em pre code full) (hL:L.length<=1000000) (x:Ix) (ext:Int) (hg:g.Ok) (hb:bO g.n.Bufs x.From=true) (hd:(g.dm x.From).length=x.At.length) (hw:x.wt<=1000000000):
    Con cfg 155 [vPt b,gK x,vI ext] (fH b sv sl code full g L) fun r μ'=>r=.tup []/\∃sv' code' full',Em (pre++vD g L x ext) code' full'/\μ'=fH b sv' sl code' full' g L:=by
 refine zW Tryz.func155 O Tryz.ntmps155 Tryz.results155 O ?_
 intro z hz
 obtain ⟨p1,p2,p3,p4,p5,p6,p7⟩:=hg.plc hb
 unfold Ix.wt at hw
 refine R O<|zS O O (qP O O) ?_
 rintro _ _ ⟨b1,rfl,rfl⟩
 refine qT _ (qM 0 O 4 _ PLe.ptr)<|zA<|R O<|G O<|zT O wN<|zE one9 zO O<|zZ O (qY [0,0,0] O ok60 (cg_find  x.From hg) ⟨zB,O,zB,O,T⟩ O)<|zS O O (qQ [none,none,none,none,none,none,some 1,none,none,none,some 1] O zr118 O) ?_
 rintro _ _ ⟨b2,rfl,rfl⟩
 refine Y 0 sz118 O<|qT _ (qM 0 O 6 _ PLe.ptr)<|zA<|zF<|qW 5 mixed (by kernel_rfl) O O<|zL O O (zM O O)<|zL O O (qL O O)<|zL O O (zH O kJ O)<|zL O O (qB O zGa O)<|zL O O (zC O one3 O zO O)<|yM<|zS O O (W O ok61 (kS hE (1) (104) (g.bs_ x.From) (0) _ (fun _=>O)) ⟨zB,O,zB,O,zB,O,zB,O,zB,O,T⟩) ?_
 rintro _ _ ⟨rfl,sv1,cd1,fu1,hE1,rfl⟩
 refine zA<|zF<|R O<|zT O wU<|zE zAx zO O<|qD O zAk<|G O<|zA<|zP<|zU ⟨[(22,.c _),(0,.c _),(2,.c _),(6,.c _),(20,.c _),(21,.c _)],[_,_,_]⟩ (Weak.mk [true,true,true] ⟨zB,zB,zB,zB,zB,zB,T⟩ O)<|qF 1 3 O O (Nat×Value×List In×Bool) (fun ⟨k,sw,cw,fw⟩=>[(22,vI k)]) (fun ⟨k,sw,cw,fw⟩=>[E.row b 80 [.lit sw,.lit (.bool fw),.sl 8 (g.n.Bufs.map Bf.cells),.sl 20 (g.n.Body.map St.cells),.sl 5 (g.ty.map tyC),.sl 3 (g.sl.map Sl.cells),.lit sl],E.vec sw 46 11 (cw.map In.cells),E.vec sl 9 1 (L.map fun s=>[cS s])]) (fun ⟨k,sw,cw,fw⟩=>k<=x.At.length/\(Em (pre++(iN 1 104 (g.bs_ x.From) 0::fR (atC L (g.dm x.From) (jD (g.dm x.From))) 0 (x.At.take k))) cw fw)) (fun ⟨k,sw,cw,fw⟩=>x.At.length-k) ⟨⟨0,sv1,cd1,fu1⟩,⟨by omega,(by rw [List.take_zero,fR];have h9:=hE1;(try simp only [List.append_assoc,List.cons_append,List.nil_append,List.append_nil] at h9);(try simp only [List.append_assoc,List.cons_append,List.nil_append,List.append_nil]);exact h9)⟩,Weak.mk [true,true,true] ⟨zB,zB,zB,zB,zB,zB,T⟩ O⟩ ?_
 rintro ⟨k,sw,cw,fw⟩ ⟨hk,hq⟩
 show AWP _ _ _ _ _ ⟨[(22,vI k)]++_,[E.row b 80 [.lit sw,.lit (.bool fw),.sl 8 (g.n.Bufs.map Bf.cells),.sl 20 (g.n.Body.map St.cells),.sl 5 (g.ty.map tyC),.sl 3 (g.sl.map Sl.cells),.lit sl],E.vec sw 46 11 (cw.map In.cells),E.vec sl 9 1 (L.map fun s=>[cS s])]++_⟩
 refine R O<|yC O<|zA<|zF<|zD O (fun c1=>?_) (fun c1=>?_)
 ·try simp only [sx] at c1
  obtain ⟨f,hf⟩:=qU x.At k (by omega)
  have hdk:=zNb (d:=(g.dm x.From)) (j:=k) (by omega)
  have hsk:=strT_at (d:=(g.dm x.From)) (j:=k) p6 (by omega)
  refine zI<|zF<|zP<|R O<|G O<|zY O zAk (by omega) (v (by assumption))<|zQ zAj zO O<|zS O O (qQ [none,some 2] O zr54 O) ?_
  rintro _ _ ⟨b3,rfl,rfl⟩
  refine G O<|Y 0 sz54 O<|qT _ (qM 0 O 8 _ PLe.ptr)<|zA<|R O<|G O<|zQ zAj zO O<|zS O O (W O ok154 (cg_form hq hL f 105 (by have:=zAy (qE hf);omega)) ⟨zB,O,zB,O,zB,O,T⟩) ?_
  rintro _ _ ⟨rfl,sv2,cd2,fu2,hE2,rfl⟩
  refine zA<|zF<|R O<|zT O zOv<|zT O zCn<|zE zCy zO O<|qD O el67<|zZ O (kY O O O)<|zA<|zD O (fun c2=>?_) (fun c2=>?_)
  ·try simp only [sx] at c2
   refine qW 9 mixed (by kernel_rfl) O O<|zL O O (zM O O)<|zL O O (qL O O)<|zL O O (zH O kJ O)<|zL O O (qB O zOv O)<|zL O O (qB O zCn O)<|zL O O (zC O zCy O zO O)<|zL O O (zM O O)<|zL O O (qH O el67 O O (by omega) (v hdk))<|zL O O (zC O one3 O zO O)<|yM<|zS O O (W O ok63 (zEf hE2 (10) (255) (105) (0) ((g.dm x.From).getD k 0)) ⟨zB,O,zB,O,zB,O,zB,O,zB,O,zB,O,T⟩) ?_
   rintro _ _ ⟨rfl,sv3,cd3,fu3,hE3,rfl⟩
   refine zA<|zF<|qW 8 mixed (by kernel_rfl) O O<|zL O O (zM O O)<|zL O O (qL O O)<|zL O O (zH O kJ O)<|zL O O (qB O zTs O)<|zL O O (zC O zCy O zO O)<|zL O O (zM O O)<|zL O O (qH O el67 O O (by omega) (v hsk))<|zL O O (zC O one3 O zO O)<|yM<|zS O O (W O ok61 (kS hE3 (4) (105) (105) ((jD (g.dm x.From)).getD k 0) _ (fun _=>O)) ⟨zB,O,zB,O,zB,O,zB,O,zB,O,T⟩) ?_
   rintro _ _ ⟨rfl,sv4,cd4,fu4,hE4,rfl⟩
   refine zA<|zK O<|G O<|qI O<|zJ O kJ<|zS O O (W O ok61 (kS hE4 (3) (104) (104) (105) _ (fun _=>O)) ⟨zB,O,zB,O,zB,O,zB,O,zB,O,T⟩) ?_
   rintro _ _ ⟨rfl,sv5,cd5,fu5,hE5,rfl⟩
   refine zA<|zK O<|qA O ⟨by omega,by omega⟩<|G O<|zA ?_
   refine ⟨⟨k+1,sv5,cd5,fu5⟩,⟨by omega,(by rw [wS _ hf,atC_1 (by omega)];have h9:=hE5;(try simp only [List.append_assoc,List.cons_append,List.nil_append,List.append_nil] at h9);(try simp only [List.append_assoc,List.cons_append,List.nil_append,List.append_nil]);exact h9)⟩,(by show x.At.length-(k+1)<x.At.length-k;omega),Weak.mk [true,true,true] ⟨zB,zB,zB,zB,zB,zB,T⟩ O⟩
  ·try simp only [sx] at c2
   refine zI<|zF<|qW 8 mixed (by kernel_rfl) O O<|zL O O (zM O O)<|zL O O (qL O O)<|zL O O (zH O kJ O)<|zL O O (qB O zTs O)<|zL O O (zC O zCy O zO O)<|zL O O (zM O O)<|zL O O (qH O el67 O O (by omega) (v hsk))<|zL O O (zC O one3 O zO O)<|yM<|zS O O (W O ok61 (kS hE2 (4) (105) (105) ((jD (g.dm x.From)).getD k 0) _ (fun _=>O)) ⟨zB,O,zB,O,zB,O,zB,O,zB,O,T⟩) ?_
   rintro _ _ ⟨rfl,sv4,cd4,fu4,hE4,rfl⟩
   refine zA<|zK O<|G O<|qI O<|zJ O kJ<|zS O O (W O ok61 (kS hE4 (3) (104) (104) (105) _ (fun _=>O)) ⟨zB,O,zB,O,zB,O,zB,O,zB,O,T⟩) ?_
   rintro _ _ ⟨rfl,sv5,cd5,fu5,hE5,rfl⟩
   refine zA<|zK O<|qA O ⟨by omega,by omega⟩<|G O<|zA ?_
   refine ⟨⟨k+1,sv5,cd5,fu5⟩,⟨by omega,(by rw [wS _ hf,atC_0 (by omega)];have h9:=hE5;(try simp only [List.append_assoc,List.cons_append,List.nil_append,List.append_nil] at h9);(try simp only [List.append_assoc,List.cons_append,List.nil_append,List.append_nil]);exact h9)⟩,(by show x.At.length-(k+1)<x.At.length-k;omega),Weak.mk [true,true,true] ⟨zB,zB,zB,zB,zB,zB,T⟩ O⟩
 ·try simp only [sx] at c1
  rw [qX (l:=x.At) (k:=k) (by omega)] at hq
  refine qK<|zF<|qW 7 mixed (by kernel_rfl) O O<|zL O O (zM O O)<|zL O O (qL O O)<|zL O O (zH O kJ O)<|zL O O (qB O zGa O)<|zL O O (zC O one3 O zO O)<|zL O O (qB O zJi O)<|zL O O (zC O one3 O zO O)<|yM<|zS O O (W O ok63 (zEf hq (10) (254) (104) (g.bs_ x.From) (g.en x.From)) ⟨zB,O,zB,O,zB,O,zB,O,zB,O,zB,O,T⟩) ?_
  rintro _ _ ⟨rfl,sv6,cd6,fu6,hE6,rfl⟩
  refine zA<|zK O<|G O<|qI O<|zJ O kJ<|G O<|zS O O (W O ok61 (kS hE6 (15) (101) (254) (ext) _ (fun _=>O)) ⟨zB,O,zB,O,zB,O,zB,O,zB,O,T⟩) ?_
  rintro _ _ ⟨rfl,sv7,cd7,fu7,hE7,rfl⟩
  refine zA ?_
  repeat (first|refine qZ ?_|refine qV ?_)
  refine yP<|U ?_
  refine ⟨O,_,_,_,?_,O⟩
  unfold vD
  have h9:=hE7
  exact r9
set_option maxHeartbeats 4000000 in
theorem cg_address {b:Nat} {sv sl:Value} {code:List In} {full:Bool} {g:Gn} {L:List ByteArray} {pre:List In} (hE:Em pre code full) (hL:L.length<=1000000) (s:ByteArray) (idx:List Ix) (hg:g.Ok) (hb:bO g.n.Bufs s=true) (hd:(g.dm s).length=idx.length) (hi:∀x,x∈idx->RdI g L x) (hw:fQ idx<=1000000000):
    Con cfg 115 [vPt b,vPl g s,jQ idx] (fH b sv sl code full g L) fun r μ'=>r=.tup []/\∃sv' code' full',Em (pre++xB g L s idx) code' full'/\μ'=fH b sv' sl code' full' g L:=by
 refine zW Tryz.func115 O Tryz.ntmps115 Tryz.results115 O ?_
 intro z hz
 obtain ⟨p1,p2,p3,p4,p5,p6,p7⟩:=hg.plc hb
 refine R O<|zS O O (qP O O) ?_
 rintro _ _ ⟨b1,rfl,rfl⟩
 refine qT _ (qM 0 O 4 _ PLe.ptr)<|zA<|zF<|qW 5 mixed (by kernel_rfl) O O<|zL O O (zM O O)<|zL O O (qL O O)<|zL O O (zH O kJ O)<|zL O O (qB O zGa O)<|zL O O (zC O one3 O zO O)<|yM<|zS O O (W O ok61 (kS hE (1) (100) (g.bs_ s) (0) _ (fun _=>O)) ⟨zB,O,zB,O,zB,O,zB,O,zB,O,T⟩) ?_
 rintro _ _ ⟨rfl,sv1,cd1,fu1,hE1,rfl⟩
 refine zA<|R O<|G O<|qD O el51<|G O<|zA<|zP<|zU ⟨[(16,.c _),(0,.c _),(4,.c _),(14,.c _),(15,.c _)],[_,_,_]⟩ (Weak.mk [true,true,true] ⟨zB,zB,zB,zB,zB,T⟩ O)<|qF 1 3 O O (Nat×Value×List In×Bool) (fun ⟨k,sw,cw,fw⟩=>[(16,vI k)]) (fun ⟨k,sw,cw,fw⟩=>[E.row b 80 [.lit sw,.lit (.bool fw),.sl 8 (g.n.Bufs.map Bf.cells),.sl 20 (g.n.Body.map St.cells),.sl 5 (g.ty.map tyC),.sl 3 (g.sl.map Sl.cells),.lit sl],E.vec sw 46 11 (cw.map In.cells),E.vec sl 9 1 (L.map fun s=>[cS s])]) (fun ⟨k,sw,cw,fw⟩=>k<=idx.length/\(Em (pre++(iN 1 100 (g.bs_ s) 0::fR (axC g L (g.dm s) (jD (g.dm s))) 0 (idx.take k))) cw fw)) (fun ⟨k,sw,cw,fw⟩=>idx.length-k) ⟨⟨0,sv1,cd1,fu1⟩,⟨by omega,(by rw [List.take_zero,fR];have h9:=hE1;(try simp only [List.append_assoc,List.cons_append,List.nil_append,List.append_nil] at h9);(try simp only [List.append_assoc,List.cons_append,List.nil_append,List.append_nil]);exact h9)⟩,Weak.mk [true,true,true] ⟨zB,zB,zB,zB,zB,T⟩ O⟩ ?_
 rintro ⟨k,sw,cw,fw⟩ ⟨hk,hq⟩
 show AWP _ _ _ _ _ ⟨[(16,vI k)]++_,[E.row b 80 [.lit sw,.lit (.bool fw),.sl 8 (g.n.Bufs.map Bf.cells),.sl 20 (g.n.Body.map St.cells),.sl 5 (g.ty.map tyC),.sl 3 (g.sl.map Sl.cells),.lit sl],E.vec sw 46 11 (cw.map In.cells),E.vec sl 9 1 (L.map fun s=>[cS s])]++_⟩
 refine R O<|yC O<|zA<|zF<|zD O (fun c1=>?_) (fun c1=>?_)
 ·try simp only [sx] at c1
  obtain ⟨x,hx⟩:=qU idx k (by omega)
  have hdk:=zNb (d:=(g.dm s)) (j:=k) (by omega)
  have hsk:=strT_at (d:=(g.dm s)) (j:=k) p6 (by omega)
  have hxw:=zBa (qE hx)
  refine zI<|zF<|zP<|R O<|G O<|zY O el51 (by omega) (v (by assumption))<|zQ zCr zO O<|zS O O (qQ [none,some 2,none,some 2] O zKx O) ?_
  rintro _ _ ⟨b2,rfl,rfl⟩
  refine G O<|Y 0 zOd O<|qT _ (qM 0 O 7 _ PLe.ptr)<|zA<|zF<|R O<|zT O wN<|zE one9 zO O<|zZ O (zAv O O O)<|zA<|zD O (fun c2=>?_) (fun c2=>?_)
  ·try simp only [sx] at c2
   refine qW 8 mixed (by kernel_rfl) O O<|zL O O (zM O O)<|zL O O (qC O zCr O zO O)<|zL O O (qB O zOv O)<|zL O O (qB O zCn O)<|zL O O (zC O zCy O zO O)<|zL O O (zM O O)<|zL O O (qH O el67 O O (by omega) (v hdk))<|zL O O (zC O one3 O zO O)<|yM<|zS O O (W O ok155 (cg_gather hq hL x ((g.dm s).getD k 0) hg ((hi x (qE hx)).2 c2).1 ((hi x (qE hx)).2 c2).2.1 (by omega)) ⟨zB,O,zB,O,zB,O,T⟩) ?_
   rintro _ _ ⟨rfl,sv2,cd2,fu2,hE2,rfl⟩
   refine zA<|zF<|qW 8 mixed (by kernel_rfl) O O<|zL O O (zM O O)<|zL O O (qL O O)<|zL O O (zH O kJ O)<|zL O O (qB O zTs O)<|zL O O (zC O zCy O zO O)<|zL O O (zM O O)<|zL O O (qH O el67 O O (by omega) (v hsk))<|zL O O (zC O one3 O zO O)<|yM<|zS O O (W O ok61 (kS hE2 (4) (101) (101) ((jD (g.dm s)).getD k 0) _ (fun _=>O)) ⟨zB,O,zB,O,zB,O,zB,O,zB,O,T⟩) ?_
   rintro _ _ ⟨rfl,sv4,cd4,fu4,hE4,rfl⟩
   refine zA<|zK O<|G O<|qI O<|zJ O kJ<|zS O O (W O ok61 (kS hE4 (3) (100) (100) (101) _ (fun _=>O)) ⟨zB,O,zB,O,zB,O,zB,O,zB,O,T⟩) ?_
   rintro _ _ ⟨rfl,sv5,cd5,fu5,hE5,rfl⟩
   refine zA<|zK O<|qA O ⟨by omega,by omega⟩<|G O<|zA ?_
   refine ⟨⟨k+1,sv5,cd5,fu5⟩,⟨by omega,(by rw [wS _ hx,axC_g c2];have h9:=hE5;(try simp only [List.append_assoc,List.cons_append,List.nil_append,List.append_nil] at h9);(try simp only [List.append_assoc,List.cons_append,List.nil_append,List.append_nil]);exact h9)⟩,(by show idx.length-(k+1)<idx.length-k;omega),Weak.mk [true,true,true] ⟨zB,zB,zB,zB,zB,T⟩ O⟩
  ·try simp only [sx] at c2
   refine R O<|G O<|zT O zBx<|zQ zAj zO O<|zS O O (W O ok154 (cg_form hq hL x.Lin 101 (by unfold Ix.wt at hxw;omega)) ⟨zB,O,zB,O,zB,O,T⟩) ?_
   rintro _ _ ⟨rfl,sv2,cd2,fu2,hE2,rfl⟩
   refine zA<|R O<|zT O zOv<|zT O zCn<|zE zCy zO O<|qD O el67<|zZ O (kY O O O)<|zA<|zD O (fun c3=>?_) (fun c3=>?_)
   ·try simp only [sx] at c3
    refine qW 9 mixed (by kernel_rfl) O O<|zL O O (zM O O)<|zL O O (qL O O)<|zL O O (zH O kJ O)<|zL O O (qB O zOv O)<|zL O O (qB O zCn O)<|zL O O (zC O zCy O zO O)<|zL O O (zM O O)<|zL O O (qH O el67 O O (by omega) (v hdk))<|zL O O (zC O one3 O zO O)<|yM<|zS O O (W O ok63 (zEf hE2 (10) (255) (101) (0) ((g.dm s).getD k 0)) ⟨zB,O,zB,O,zB,O,zB,O,zB,O,zB,O,T⟩) ?_
    rintro _ _ ⟨rfl,sv3,cd3,fu3,hE3,rfl⟩
    refine zA<|zF<|qW 8 mixed (by kernel_rfl) O O<|zL O O (zM O O)<|zL O O (qL O O)<|zL O O (zH O kJ O)<|zL O O (qB O zTs O)<|zL O O (zC O zCy O zO O)<|zL O O (zM O O)<|zL O O (qH O el67 O O (by omega) (v hsk))<|zL O O (zC O one3 O zO O)<|yM<|zS O O (W O ok61 (kS hE3 (4) (101) (101) ((jD (g.dm s)).getD k 0) _ (fun _=>O)) ⟨zB,O,zB,O,zB,O,zB,O,zB,O,T⟩) ?_
    rintro _ _ ⟨rfl,sv4,cd4,fu4,hE4,rfl⟩
    refine zA<|zK O<|G O<|qI O<|zJ O kJ<|zS O O (W O ok61 (kS hE4 (3) (100) (100) (101) _ (fun _=>O)) ⟨zB,O,zB,O,zB,O,zB,O,zB,O,T⟩) ?_
    rintro _ _ ⟨rfl,sv5,cd5,fu5,hE5,rfl⟩
    refine zA<|zK O<|qA O ⟨by omega,by omega⟩<|G O<|zA ?_
    refine ⟨⟨k+1,sv5,cd5,fu5⟩,⟨by omega,(by rw [wS _ hx,axC_1 c2 (by omega)];have h9:=hE5;(try simp only [List.append_assoc,List.cons_append,List.nil_append,List.append_nil] at h9);(try simp only [List.append_assoc,List.cons_append,List.nil_append,List.append_nil]);exact h9)⟩,(by show idx.length-(k+1)<idx.length-k;omega),Weak.mk [true,true,true] ⟨zB,zB,zB,zB,zB,T⟩ O⟩
   ·try simp only [sx] at c3
    refine zI<|zF<|qW 8 mixed (by kernel_rfl) O O<|zL O O (zM O O)<|zL O O (qL O O)<|zL O O (zH O kJ O)<|zL O O (qB O zTs O)<|zL O O (zC O zCy O zO O)<|zL O O (zM O O)<|zL O O (qH O el67 O O (by omega) (v hsk))<|zL O O (zC O one3 O zO O)<|yM<|zS O O (W O ok61 (kS hE2 (4) (101) (101) ((jD (g.dm s)).getD k 0) _ (fun _=>O)) ⟨zB,O,zB,O,zB,O,zB,O,zB,O,T⟩) ?_
    rintro _ _ ⟨rfl,sv4,cd4,fu4,hE4,rfl⟩
    refine zA<|zK O<|G O<|qI O<|zJ O kJ<|zS O O (W O ok61 (kS hE4 (3) (100) (100) (101) _ (fun _=>O)) ⟨zB,O,zB,O,zB,O,zB,O,zB,O,T⟩) ?_
    rintro _ _ ⟨rfl,sv5,cd5,fu5,hE5,rfl⟩
    refine zA<|zK O<|qA O ⟨by omega,by omega⟩<|G O<|zA ?_
    refine ⟨⟨k+1,sv5,cd5,fu5⟩,⟨by omega,(by rw [wS _ hx,axC_0 c2 (by omega)];have h9:=hE5;(try simp only [List.append_assoc,List.cons_append,List.nil_append,List.append_nil] at h9);(try simp only [List.append_assoc,List.cons_append,List.nil_append,List.append_nil]);exact h9)⟩,(by show idx.length-(k+1)<idx.length-k;omega),Weak.mk [true,true,true] ⟨zB,zB,zB,zB,zB,T⟩ O⟩
 ·try simp only [sx] at c1
  refine qK ?_
  repeat (first|refine qZ ?_|refine qV ?_)
  refine yP<|U ?_
  rw [qX (l:=idx) (k:=k) (by omega)] at hq
  exact ⟨O,_,_,_,hq,O⟩
end Go.W
