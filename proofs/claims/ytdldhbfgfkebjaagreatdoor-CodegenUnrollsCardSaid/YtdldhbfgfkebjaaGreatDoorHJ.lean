/-
  What functions compute.
  Conditions: none.
-/
import Derived.Test.YtdldhbfgfkebjaaGreatDoorHI
set_option linter.unusedSimpArgs false
set_option linter.unusedVariables false
set_option maxRecDepth 10000
namespace Go.W
open Go Go.Eng Go.Proofs Go.L41 Go.Br
attribute [local irreducible] AWP RWP TD fP
def VR (b:Nat) (sl:Value) (g:Gn) (L:List ByteArray) (e:Ex):Prop:=∀(sv:Value) (code:List In) (full:Bool) (pre:List In) (k q:Int),Em pre code full->Rdy g L e->bC e=false->0<=k->k+e.wt<=1000000->0<=q->q+e.wt<=1000000->
  Con cfg 81 [vPt b,vE e,vI k,vI q] (fJ b sv sl code full g L) fun r μ'=>r=.tup []/\∃sv' code' full',Em (pre++fB g L e pre.length k q) code' full'/\μ'=fJ b sv' sl code' full' g L
def TR (b:Nat) (sl:Value) (g:Gn) (L:List ByteArray) (e:Ex):Prop:=∀(sv:Value) (code:List In) (full:Bool) (pre:List In) (k q:Int),Em pre code full->Rdy g L e->bC e=true->0<=k->k+e.wt<=1000000->0<=q->q+e.wt<=1000000->
  Con cfg 86 [vPt b,vE e,vI k,vI q] (fJ b sv sl code full g L) fun r μ'=>r=.tup []/\∃sv' code' full',Em (pre++jC g L e pre.length k q) code' full'/\μ'=fJ b sv' sl code' full' g L
theorem ok126:bA Tryz.prog 126=true:=by kernel_rfl
theorem ok127:bA Tryz.prog 127=true:=by kernel_rfl
theorem ok129:bA Tryz.prog 129=true:=by kernel_rfl
theorem ok162:bA Tryz.prog 162=true:=by kernel_rfl
set_option maxHeartbeats 4000000 in
theorem r48_form {b:Nat} {sv sl:Value} {code:List In} {full:Bool} {g:Gn} {L:List ByteArray} {pre:List In} (hE:Em pre code full) (hL:L.length<=1000000) (f:Lf) (x:Int) (hl:f.L.length<=4294967296) (hsc:jL L f=true):
    Con cfg 126 [vPt b,jU f,vI x] (fJ b sv sl code full g L) fun r μ'=>r=.tup []/\∃sv' code' full',Em (pre++rK L f x) code' full'/\μ'=fJ b sv' sl code' full' g L:=by
 refine zW Tryz.func126 O Tryz.ntmps126 Tryz.results126 O ?_
 intro z hz
 refine R O<|zS O O (qP O O) ?_
 rintro _ _ ⟨b1,rfl,rfl⟩
 refine qT _ (qM 0 O 4 _ PLe.ptr)<|zA<|R O<|G O<|G O<|zT O zFp<|zE one2 zO O<|zS O O (W O ok36 (kV hE (1) (x) (f.K) (0) _ (fun _=>O)) ⟨zB,O,zB,O,zB,O,zB,O,zB,O,T⟩) ?_
 rintro _ _ ⟨rfl,sv1,cd1,fu1,hE1,rfl⟩
 refine zA<|R O<|G O<|zA<|zP<|zU ⟨[(6,.c _),(0,.c _),(2,.c _),(4,.c _)],[_,_,_]⟩ (Weak.mk [true,true,true] ⟨zB,zB,zB,zB,T⟩ O)<|qF 1 3 O O (Nat×Value×List In×Bool) (fun ⟨k,sw,cw,fw⟩=>[(6,vI k)]) (fun ⟨k,sw,cw,fw⟩=>[E.row b 90 [.sl 8 (g.n.Bufs.map Bf.cells),.sl 20 (g.n.Body.map St.cells),.sl 5 (g.ty.map tyC),.sl 3 (g.sl.map Sl.cells),.lit sl,.lit sw,.lit (.bool fw)],E.vec sw 46 11 (cw.map In.cells),E.vec sl 9 1 (L.map fun s=>[cS s])]) (fun ⟨k,sw,cw,fw⟩=>k<=f.L.length/\(Em (pre++(iN 1 x f.K 0::(f.L.take k).flatMap (vQ L x))) cw fw)) (fun ⟨k,sw,cw,fw⟩=>f.L.length-k) ⟨⟨0,sv1,cd1,fu1⟩,⟨by omega,(by rw [List.take_zero,List.flatMap_nil];have h9:=hE1;(try simp only [List.append_assoc,List.cons_append,List.nil_append,List.append_nil] at h9);(try simp only [List.append_assoc,List.cons_append,List.nil_append,List.append_nil]);exact h9)⟩,Weak.mk [true,true,true] ⟨zB,zB,zB,zB,T⟩ O⟩ ?_
 rintro ⟨k,sw,cw,fw⟩ ⟨hk,hq⟩
 show AWP _ _ _ _ _ ⟨[(6,vI k)]++_,[E.row b 90 [.sl 8 (g.n.Bufs.map Bf.cells),.sl 20 (g.n.Body.map St.cells),.sl 5 (g.ty.map tyC),.sl 3 (g.sl.map Sl.cells),.lit sl,.lit sw,.lit (.bool fw)],E.vec sw 46 11 (cw.map In.cells),E.vec sl 9 1 (L.map fun s=>[cS s])]++_⟩
 refine zF<|R O<|G O<|zT O zAg<|zE zCj zO O<|qD O el52<|yC O<|zA<|zD O (fun c1=>?_) (fun c1=>?_)
 ·try simp only [sx] at c1
  obtain ⟨m,hm⟩:=qU f.L k (by omega)
  refine zI<|zF<|zP<|zF<|yL 15 0 [⟨0,.q []⟩,⟨1,.q []⟩,⟨2,.q []⟩,⟨3,.q []⟩,⟨4,.q []⟩,⟨5,.q []⟩,⟨6,.q []⟩,⟨7,.q []⟩,⟨8,.q [0,1,2]⟩,⟨9,.q []⟩,⟨10,.q []⟩,⟨11,.q []⟩,⟨12,.q []⟩,⟨13,.q []⟩,⟨14,.q []⟩] mixed (by kernel_rfl) (by kernel_rfl) O O O<|J O<|J O<|J O<|J O<|J O<|J O<|J O<|J O<|J O<|J O<|J O<|J O<|J O<|J O<|J O<|wQ<|zX O (by decide) O O (zM O O)<|zX O (by decide) O O (zM O O)<|zX O (by decide) O O (qB O zAg O)<|zX O (by decide) O O (zC O zCj O zO O)<|zX O (by decide) O O (zM O O)<|zX O (by decide) O O (qH O el52 O O (by omega) (v hm))<|zX O (by decide) O O (qB O zDk O)<|zX O (by decide) O O (zC O one9 O zO O)<|zX O (by decide) O O (qY [0,0,0] O ok162 (r48_depth  hL m.Name ((List.all_eq_true.1 hsc) m (qE hm))) ⟨zB,O,zB,O,T⟩ O)<|zX O (by decide) O O (qB O zAg O)<|zX O (by decide) O O (zC O zCj O zO O)<|zX O (by decide) O O (zM O O)<|zX O (by decide) O O (qH O el52 O O (by omega) (v hm))<|zX O (by decide) O O (qB O zFz O)<|zX O (by decide) O O (zC O one2 O zO O)<|wP O<|zS O O (W O ok36 (kV hq (4) (103) (rB L m.Name) (m.By) _ (fun _=>O)) ⟨zB,O,zB,O,zB,O,zB,O,zB,O,T⟩) ?_
  rintro _ _ ⟨rfl,sv3,cd3,fu3,hE3,rfl⟩
  refine zA<|zK O<|G O<|G O<|G O<|zS O O (W O ok36 (kV hE3 (3) (x) (x) (103) _ (fun _=>O)) ⟨zB,O,zB,O,zB,O,zB,O,zB,O,T⟩) ?_
  rintro _ _ ⟨rfl,sv4,cd4,fu4,hE4,rfl⟩
  refine zA<|zK O<|G O<|qA O ⟨by omega,by omega⟩<|G O<|zA ?_
  refine ⟨⟨k+1,sv4,cd4,fu4⟩,⟨by omega,(by rw [flat_next hm];unfold vQ;have h9:=hE4;(try simp only [List.append_assoc,List.cons_append,List.nil_append,List.append_nil] at h9);(try simp only [List.append_assoc,List.cons_append,List.nil_append,List.append_nil]);exact h9)⟩,(by show f.L.length-(k+1)<f.L.length-k;omega),Weak.mk [true,true,true] ⟨zB,zB,zB,zB,T⟩ O⟩
 ·try simp only [sx] at c1
  refine qK ?_
  repeat (first|refine qZ ?_|refine qV ?_)
  refine yP<|U ?_
  rw [qX (l:=f.L) (k:=k) (by omega)] at hq
  exact ⟨O,sw,cw,fw,hq,O⟩
set_option maxHeartbeats 4000000 in
theorem r48_gather {b:Nat} {sv sl:Value} {code:List In} {full:Bool} {g:Gn} {L:List ByteArray} {pre:List In} (hE:Em pre code full) (hL:L.length<=1000000) (x:Ix) (ext:Int) (hg:g.Ok) (hb:bO g.n.Bufs x.From=true) (hd:(g.dm x.From).length=x.At.length) (hsc:∀l,l∈x.At->jL L l=true) (hw:x.wt<=1000000000):
    Con cfg 129 [vPt b,gK x,vI ext] (fJ b sv sl code full g L) fun r μ'=>r=.tup []/\∃sv' code' full',Em (pre++vD g L x ext) code' full'/\μ'=fJ b sv' sl code' full' g L:=by
 refine zW Tryz.func129 O Tryz.ntmps129 Tryz.results129 O ?_
 intro z hz
 obtain ⟨p1,p2,p3,p4,p5,p6,p7⟩:=hg.plc hb
 have hen:g.bs_ x.From+dE (g.dm x.From)=g.en x.From:=by unfold Gn.en;rw [p1];rfl
 unfold Ix.wt at hw
 refine R O<|zS O O (qP O O) ?_
 rintro _ _ ⟨b1,rfl,rfl⟩
 refine qT _ (qM 0 O 4 _ PLe.ptr)<|zA<|R O<|G O<|zT O wN<|zE one9 zO O<|zZ O (qY [0,0,0] O ok76 (zSt  x.From hg hb) ⟨zB,O,zB,O,T⟩ O)<|zZ O (yA O O)<|kP O<|kP O<|kP O<|kP O<|G O<|G O<|G O<|G O<|zA<|R O<|G O<|G O<|zS O O (W O ok36 (kV hE (1) (104) (g.bs_ x.From) (0) _ (fun _=>O)) ⟨zB,O,zB,O,zB,O,zB,O,zB,O,T⟩) ?_
 rintro _ _ ⟨rfl,sv1,cd1,fu1,hE1,rfl⟩
 refine zA<|zF<|R O<|G O<|zA<|zP<|zU ⟨[(10,.c _),(0,.c _),(2,.c _),(4,.c _),(6,.c _),(7,.c _),(8,.c _),(9,.c _)],[_,_,_]⟩ (Weak.mk [true,true,true] ⟨zB,zB,zB,zB,zB,zB,zB,zB,T⟩ O)<|qF 1 3 O O (Nat×Value×List In×Bool) (fun ⟨k,sw,cw,fw⟩=>[(10,vI k)]) (fun ⟨k,sw,cw,fw⟩=>[E.row b 90 [.sl 8 (g.n.Bufs.map Bf.cells),.sl 20 (g.n.Body.map St.cells),.sl 5 (g.ty.map tyC),.sl 3 (g.sl.map Sl.cells),.lit sl,.lit sw,.lit (.bool fw)],E.vec sw 46 11 (cw.map In.cells),E.vec sl 9 1 (L.map fun s=>[cS s])]) (fun ⟨k,sw,cw,fw⟩=>k<=x.At.length/\(Em (pre++(iN 1 104 (g.bs_ x.From) 0::fR (atC L (g.dm x.From) (jD (g.dm x.From))) 0 (x.At.take k))) cw fw)) (fun ⟨k,sw,cw,fw⟩=>x.At.length-k) ⟨⟨0,sv1,cd1,fu1⟩,⟨by omega,(by rw [List.take_zero,fR];have h9:=hE1;(try simp only [List.append_assoc,List.cons_append,List.nil_append,List.append_nil] at h9);(try simp only [List.append_assoc,List.cons_append,List.nil_append,List.append_nil]);exact h9)⟩,Weak.mk [true,true,true] ⟨zB,zB,zB,zB,zB,zB,zB,zB,T⟩ O⟩ ?_
 rintro ⟨k,sw,cw,fw⟩ ⟨hk,hq⟩
 show AWP _ _ _ _ _ ⟨[(10,vI k)]++_,[E.row b 90 [.sl 8 (g.n.Bufs.map Bf.cells),.sl 20 (g.n.Body.map St.cells),.sl 5 (g.ty.map tyC),.sl 3 (g.sl.map Sl.cells),.lit sl,.lit sw,.lit (.bool fw)],E.vec sw 46 11 (cw.map In.cells),E.vec sl 9 1 (L.map fun s=>[cS s])]++_⟩
 refine zF<|R O<|G O<|zT O wU<|zE zAx zO O<|qD O zAk<|yC O<|zA<|zD O (fun c1=>?_) (fun c1=>?_)
 ·try simp only [sx] at c1
  obtain ⟨f,hf⟩:=qU x.At k (by omega)
  have hdk:=zNb (d:=(g.dm x.From)) (j:=k) (by omega)
  have hsk:=strT_at (d:=(g.dm x.From)) (j:=k) p6 (by omega)
  refine zI<|zF<|zP<|R O<|G O<|zT O wU<|zE zAx zO O<|G O<|zY O zAk (by omega) (v hf)<|zQ zAj zO O<|zS O O (W O ok126 (r48_form hq hL f 105 (by have:=zAy (qE hf);omega) (hsc f (qE hf))) ⟨zB,O,zB,O,zB,O,T⟩) ?_
  rintro _ _ ⟨rfl,sv2,cd2,fu2,hE2,rfl⟩
  refine zA<|zF<|R O<|G O<|qD O el67<|zZ O (yH O O O)<|zA<|zD O (fun c2=>?_) (fun c2=>?_)
  ·try simp only [sx] at c2
   refine zK O<|G O<|G O<|G O<|zY O el67 (by omega) (v hdk)<|zE one3 zO O<|zS O O (W O ok79 (zEa hE2 (10) (255) (105) (0) ((g.dm x.From).getD k 0)) ⟨zB,O,zB,O,zB,O,zB,O,zB,O,zB,O,T⟩) ?_
   rintro _ _ ⟨rfl,sv3,cd3,fu3,hE3,rfl⟩
   refine zA<|R O<|G O<|G O<|G O<|zY O el67 (by omega) (v hsk)<|zE one3 zO O<|zS O O (W O ok36 (kV hE3 (4) (105) (105) ((jD (g.dm x.From)).getD k 0) _ (fun _=>O)) ⟨zB,O,zB,O,zB,O,zB,O,zB,O,T⟩) ?_
   rintro _ _ ⟨rfl,sv4,cd4,fu4,hE4,rfl⟩
   refine zA<|zK O<|G O<|zS O O (W O ok36 (kV hE4 (3) (104) (104) (105) _ (fun _=>O)) ⟨zB,O,zB,O,zB,O,zB,O,zB,O,T⟩) ?_
   rintro _ _ ⟨rfl,sv5,cd5,fu5,hE5,rfl⟩
   refine zA<|zK O<|G O<|qA O ⟨by omega,by omega⟩<|G O<|zA ?_
   refine ⟨⟨k+1,sv5,cd5,fu5⟩,⟨by omega,(by rw [wS _ hf,atC_1 (by omega)];have h9:=hE5;(try simp only [List.append_assoc,List.cons_append,List.nil_append,List.append_nil] at h9);(try simp only [List.append_assoc,List.cons_append,List.nil_append,List.append_nil]);exact h9)⟩,(by show x.At.length-(k+1)<x.At.length-k;omega),Weak.mk [true,true,true] ⟨zB,zB,zB,zB,zB,zB,zB,zB,T⟩ O⟩
  ·try simp only [sx] at c2
   refine zI<|R O<|G O<|G O<|G O<|zY O el67 (by omega) (v hsk)<|zE one3 zO O<|zS O O (W O ok36 (kV hE2 (4) (105) (105) ((jD (g.dm x.From)).getD k 0) _ (fun _=>O)) ⟨zB,O,zB,O,zB,O,zB,O,zB,O,T⟩) ?_
   rintro _ _ ⟨rfl,sv4,cd4,fu4,hE4,rfl⟩
   refine zA<|zK O<|G O<|zS O O (W O ok36 (kV hE4 (3) (104) (104) (105) _ (fun _=>O)) ⟨zB,O,zB,O,zB,O,zB,O,zB,O,T⟩) ?_
   rintro _ _ ⟨rfl,sv5,cd5,fu5,hE5,rfl⟩
   refine zA<|zK O<|G O<|qA O ⟨by omega,by omega⟩<|G O<|zA ?_
   refine ⟨⟨k+1,sv5,cd5,fu5⟩,⟨by omega,(by rw [wS _ hf,atC_0 (by omega)];have h9:=hE5;(try simp only [List.append_assoc,List.cons_append,List.nil_append,List.append_nil] at h9);(try simp only [List.append_assoc,List.cons_append,List.nil_append,List.append_nil]);exact h9)⟩,(by show x.At.length-(k+1)<x.At.length-k;omega),Weak.mk [true,true,true] ⟨zB,zB,zB,zB,zB,zB,zB,zB,T⟩ O⟩
 ·try simp only [sx] at c1
  rw [qX (l:=x.At) (k:=k) (by omega)] at hq
  refine qK<|R O<|G O<|G O<|G O<|G O<|qA O ⟨by omega,by omega⟩ ?_
  refine zS O O (W O ok79 (zEa hq (10) (254) (104) (g.bs_ x.From) (g.en x.From)) ⟨zB,O,zB,O,zB,O,zB,O,zB,O,VLe.of_eq (congrArg vI hen),O,T⟩) ?_
  rintro _ _ ⟨rfl,sv6,cd6,fu6,hE6,rfl⟩
  refine zA<|zK O<|G O<|G O<|zS O O (W O ok36 (kV hE6 (15) (101) (254) (ext) _ (fun _=>O)) ⟨zB,O,zB,O,zB,O,zB,O,zB,O,T⟩) ?_
  rintro _ _ ⟨rfl,sv7,cd7,fu7,hE7,rfl⟩
  refine zA ?_
  repeat (first|refine qZ ?_|refine qV ?_)
  refine yP<|U ?_
  refine ⟨O,sv7,cd7,fu7,?_,O⟩
  unfold vD
  have h9:=hE7
  exact r9
set_option maxHeartbeats 4000000 in
theorem zLi {b:Nat} {sv sl:Value} {code:List In} {full:Bool} {g:Gn} {L:List ByteArray} {pre:List In} (hE:Em pre code full) (hL:L.length<=1000000) (s:ByteArray) (idx:List Ix) (hg:g.Ok) (hb:bO g.n.Bufs s=true) (hd:(g.dm s).length=idx.length) (hi:∀x,x∈idx->RdI g L x) (hw:fQ idx<=1000000000):
    Con cfg 82 [vPt b,vS s,jQ idx] (fJ b sv sl code full g L) fun r μ'=>r=.tup [vI (g.bs_ s),vI (g.en s)]/\∃sv' code' full',Em (pre++xB g L s idx) code' full'/\μ'=fJ b sv' sl code' full' g L:=by
 refine zW Tryz.func82 O Tryz.ntmps82 Tryz.results82 O ?_
 intro z hz
 obtain ⟨p1,p2,p3,p4,p5,p6,p7⟩:=hg.plc hb
 have hen:g.bs_ s+dE (g.dm s)=g.en s:=by unfold Gn.en;rw [p1];rfl
 refine R O<|G O<|G O<|zA<|R O<|G O<|G O<|zZ O (qY [0,0,0] O ok76 (zSt  s hg hb) ⟨zB,O,zB,O,T⟩ O)<|zZ O (yA O O)<|kP O<|kP O<|kP O<|kP O<|G O<|G O<|G O<|G O<|zA<|R O<|G O<|G O<|zS O O (W O ok36 (kV hE (1) (100) (g.bs_ s) (0) _ (fun _=>O)) ⟨zB,O,zB,O,zB,O,zB,O,zB,O,T⟩) ?_
 rintro _ _ ⟨rfl,sv1,cd1,fu1,hE1,rfl⟩
 refine zA<|zF<|R O<|G O<|zA<|zP<|zU ⟨[(12,.c _),(0,.c _),(2,.c _),(8,.c _),(9,.c _),(10,.c _),(11,.c _)],[_,_,_]⟩ (Weak.mk [true,true,true] ⟨zB,zB,zB,zB,zB,zB,zB,T⟩ O)<|qF 1 3 O O (Nat×Value×List In×Bool) (fun ⟨k,sw,cw,fw⟩=>[(12,vI k)]) (fun ⟨k,sw,cw,fw⟩=>[E.row b 90 [.sl 8 (g.n.Bufs.map Bf.cells),.sl 20 (g.n.Body.map St.cells),.sl 5 (g.ty.map tyC),.sl 3 (g.sl.map Sl.cells),.lit sl,.lit sw,.lit (.bool fw)],E.vec sw 46 11 (cw.map In.cells),E.vec sl 9 1 (L.map fun s=>[cS s])]) (fun ⟨k,sw,cw,fw⟩=>k<=idx.length/\(Em (pre++(iN 1 100 (g.bs_ s) 0::fR (axC g L (g.dm s) (jD (g.dm s))) 0 (idx.take k))) cw fw)) (fun ⟨k,sw,cw,fw⟩=>idx.length-k) ⟨⟨0,sv1,cd1,fu1⟩,⟨by omega,(by rw [List.take_zero,fR];have h9:=hE1;(try simp only [List.append_assoc,List.cons_append,List.nil_append,List.append_nil] at h9);(try simp only [List.append_assoc,List.cons_append,List.nil_append,List.append_nil]);exact h9)⟩,Weak.mk [true,true,true] ⟨zB,zB,zB,zB,zB,zB,zB,T⟩ O⟩ ?_
 rintro ⟨k,sw,cw,fw⟩ ⟨hk,hq⟩
 show AWP _ _ _ _ _ ⟨[(12,vI k)]++_,[E.row b 90 [.sl 8 (g.n.Bufs.map Bf.cells),.sl 20 (g.n.Body.map St.cells),.sl 5 (g.ty.map tyC),.sl 3 (g.sl.map Sl.cells),.lit sl,.lit sw,.lit (.bool fw)],E.vec sw 46 11 (cw.map In.cells),E.vec sl 9 1 (L.map fun s=>[cS s])]++_⟩
 refine zF<|R O<|G O<|G O<|qD O el51<|yC O<|zA<|zD O (fun c1=>?_) (fun c1=>?_)
 ·try simp only [sx] at c1
  obtain ⟨x,hx⟩:=qU idx k (by omega)
  have hdk:=zNb (d:=(g.dm s)) (j:=k) (by omega)
  have hsk:=strT_at (d:=(g.dm s)) (j:=k) p6 (by omega)
  have hxw:=zBa (qE hx)
  refine zI<|zF<|zP<|zF<|R O<|G O<|G O<|zY O el51 (by omega) (v hx)<|zT O wN<|zE one9 zO O<|zZ O (kE O O O)<|zA<|zD O (fun c2=>?_) (fun c2=>?_)
  ·try simp only [sx] at c2
   refine R O<|G O<|G O<|G O<|zY O el51 (by omega) (v hx)<|zT O zBx<|zQ zAj zO O<|zS O O (W O ok126 (r48_form hq hL x.Lin 101 (by unfold Ix.wt at hxw;omega) ((hi x (qE hx)).1 c2)) ⟨zB,O,zB,O,zB,O,T⟩) ?_
   rintro _ _ ⟨rfl,sv2,cd2,fu2,hE2,rfl⟩
   refine zA<|R O<|G O<|qD O el67<|zZ O (yH O O O)<|zA<|zD O (fun c3=>?_) (fun c3=>?_)
   ·try simp only [sx] at c3
    refine zK O<|G O<|G O<|G O<|zY O el67 (by omega) (v hdk)<|zE one3 zO O<|zS O O (W O ok79 (zEa hE2 (10) (255) (101) (0) ((g.dm s).getD k 0)) ⟨zB,O,zB,O,zB,O,zB,O,zB,O,zB,O,T⟩) ?_
    rintro _ _ ⟨rfl,sv3,cd3,fu3,hE3,rfl⟩
    refine zA<|R O<|G O<|G O<|G O<|zY O el67 (by omega) (v hsk)<|zE one3 zO O<|zS O O (W O ok36 (kV hE3 (4) (101) (101) ((jD (g.dm s)).getD k 0) _ (fun _=>O)) ⟨zB,O,zB,O,zB,O,zB,O,zB,O,T⟩) ?_
    rintro _ _ ⟨rfl,sv4,cd4,fu4,hE4,rfl⟩
    refine zA<|zK O<|G O<|zS O O (W O ok36 (kV hE4 (3) (100) (100) (101) _ (fun _=>O)) ⟨zB,O,zB,O,zB,O,zB,O,zB,O,T⟩) ?_
    rintro _ _ ⟨rfl,sv5,cd5,fu5,hE5,rfl⟩
    refine zA<|zK O<|G O<|qA O ⟨by omega,by omega⟩<|G O<|zA ?_
    refine ⟨⟨k+1,sv5,cd5,fu5⟩,⟨by omega,(by rw [wS _ hx,axC_1 c2 (by omega)];have h9:=hE5;(try simp only [List.append_assoc,List.cons_append,List.nil_append,List.append_nil] at h9);(try simp only [List.append_assoc,List.cons_append,List.nil_append,List.append_nil]);exact h9)⟩,(by show idx.length-(k+1)<idx.length-k;omega),Weak.mk [true,true,true] ⟨zB,zB,zB,zB,zB,zB,zB,T⟩ O⟩
   ·try simp only [sx] at c3
    refine zI<|R O<|G O<|G O<|G O<|zY O el67 (by omega) (v hsk)<|zE one3 zO O<|zS O O (W O ok36 (kV hE2 (4) (101) (101) ((jD (g.dm s)).getD k 0) _ (fun _=>O)) ⟨zB,O,zB,O,zB,O,zB,O,zB,O,T⟩) ?_
    rintro _ _ ⟨rfl,sv4,cd4,fu4,hE4,rfl⟩
    refine zA<|zK O<|G O<|zS O O (W O ok36 (kV hE4 (3) (100) (100) (101) _ (fun _=>O)) ⟨zB,O,zB,O,zB,O,zB,O,zB,O,T⟩) ?_
    rintro _ _ ⟨rfl,sv5,cd5,fu5,hE5,rfl⟩
    refine zA<|zK O<|G O<|qA O ⟨by omega,by omega⟩<|G O<|zA ?_
    refine ⟨⟨k+1,sv5,cd5,fu5⟩,⟨by omega,(by rw [wS _ hx,axC_0 c2 (by omega)];have h9:=hE5;(try simp only [List.append_assoc,List.cons_append,List.nil_append,List.append_nil] at h9);(try simp only [List.append_assoc,List.cons_append,List.nil_append,List.append_nil]);exact h9)⟩,(by show idx.length-(k+1)<idx.length-k;omega),Weak.mk [true,true,true] ⟨zB,zB,zB,zB,zB,zB,zB,T⟩ O⟩
  ·try simp only [sx] at c2
   refine qW 9 mixed (by kernel_rfl) O O<|zL O O (zM O O)<|zL O O (zM O O)<|zL O O (zM O O)<|zL O O (qH O el51 O O (by omega) (v hx))<|zL O O (qC O zCr O zO O)<|zL O O (zM O O)<|zL O O (zM O O)<|zL O O (qH O el67 O O (by omega) (v hdk))<|zL O O (zC O one3 O zO O)<|yM<|zS O O (W O ok129 (r48_gather hq hL x ((g.dm s).getD k 0) hg ((hi x (qE hx)).2 c2).1 ((hi x (qE hx)).2 c2).2.1 ((hi x (qE hx)).2 c2).2.2 (by omega)) ⟨zB,O,zB,O,zB,O,T⟩) ?_
   rintro _ _ ⟨rfl,sv2,cd2,fu2,hE2,rfl⟩
   refine zA<|R O<|G O<|G O<|G O<|zY O el67 (by omega) (v hsk)<|zE one3 zO O<|zS O O (W O ok36 (kV hE2 (4) (101) (101) ((jD (g.dm s)).getD k 0) _ (fun _=>O)) ⟨zB,O,zB,O,zB,O,zB,O,zB,O,T⟩) ?_
   rintro _ _ ⟨rfl,sv4,cd4,fu4,hE4,rfl⟩
   refine zA<|zK O<|G O<|zS O O (W O ok36 (kV hE4 (3) (100) (100) (101) _ (fun _=>O)) ⟨zB,O,zB,O,zB,O,zB,O,zB,O,T⟩) ?_
   rintro _ _ ⟨rfl,sv5,cd5,fu5,hE5,rfl⟩
   refine zA<|zK O<|G O<|qA O ⟨by omega,by omega⟩<|G O<|zA ?_
   refine ⟨⟨k+1,sv5,cd5,fu5⟩,⟨by omega,(by rw [wS _ hx,axC_g c2];have h9:=hE5;(try simp only [List.append_assoc,List.cons_append,List.nil_append,List.append_nil] at h9);(try simp only [List.append_assoc,List.cons_append,List.nil_append,List.append_nil]);exact h9)⟩,(by show idx.length-(k+1)<idx.length-k;omega),Weak.mk [true,true,true] ⟨zB,zB,zB,zB,zB,zB,zB,T⟩ O⟩
 ·try simp only [sx] at c1
  refine qK<|R O<|G O<|G O<|G O<|qA O ⟨by omega,by omega⟩<|G O<|G O<|zA<|zN<|fin2 (D O) (D O) ?_
  rw [qX (l:=idx) (k:=k) (by omega)] at hq
  exact ⟨by rw [hen],sw,cw,fw,hq,O⟩
theorem zSs {b:Nat} {sv sl:Value} {code:List In} {full:Bool} {g:Gn} {L:List ByteArray} (hg:g.Ok) (e:Ex) (ih:∀a,a∈e.Args->Rdy g L a->bC a=false->Con cfg 127 [vPt b,vE a] (fJ b sv sl code full g L) fun r μ'=>r=vTy (knd g.n.Bufs a)/\μ'=fJ b sv sl code full g L) (h:Rdy g L e) (hc:bC e=false):
    Con cfg 127 [vPt b,vE e] (fJ b sv sl code full g L) fun r μ'=>r=vTy (knd g.n.Bufs e)/\μ'=fJ b sv sl code full g L:=by
 refine Con.drop<|zW Tryz.func127 O Tryz.ntmps127 Tryz.results127 O ?_
 intro z hz
 have hop:=zLk (zAf h.part)
 have h13:¬13<=e.Op:=fun k9=>by rw [isC_op.2 ⟨k9,hop.2⟩] at hc;cases hc
 refine R O<|zS O O (qP O O) ?_
 rintro _ _ ⟨b1,rfl,rfl⟩
 refine qT _ (qM 0 O 3 _ PLe.ptr)<|zS O O (yZ O zr31) ?_
 rintro _ _ ⟨b2,rfl,rfl⟩
 refine zA<|zF<|R O<|zT O kR<|zE one3 zO O<|zA<|zP<|zF<|R O<|yE O<|G O<|zA<|zD O (fun c1=>?_) (fun c1=>?_)
 ·have d1:e.Op=1:=of_decide_eq_true c1
  refine zI<|zD O (fun c2=>?_) (fun c2=>?_)
  ·exact n5
  ·exact absurd (c1.symm.trans c2) (by simp)
 ·have d1:¬e.Op=1:=of_decide_eq_false c1
  refine zK O<|yE O<|G O<|zA<|zD O (fun c2=>?_) (fun c2=>?_)
  ·exact n5
  ·have d2:¬e.Op=12:=of_decide_eq_false c2
   refine R O<|yE O<|G O<|zA<|zD O (fun c3=>?_) (fun c3=>?_)
   ·try simp only [sx] at c3
    refine R O<|yS O zr31 pl31<|Y 0 sz31 O<|zA<|zN<|fin1 (qN yG O (A 0 O) O) ?_
    exact ⟨by rw [knd_2 d1 d2 c3];rfl,[_],O⟩
   ·try simp only [sx] at c3
    refine R O<|yE O<|G O<|zA<|zD O (fun c4=>?_) (fun c4=>?_)
    ·try simp only [sx] at c4
     refine zF<|yL 12 1 [⟨0,.q []⟩,⟨1,.q []⟩,⟨2,.q []⟩,⟨3,.q [2]⟩,⟨4,.q []⟩,⟨5,.q []⟩,⟨6,.q []⟩,⟨7,.q []⟩,⟨8,.q []⟩,⟨9,.q []⟩,⟨10,.e 0 []⟩,⟨11,.e 0 []⟩] mixed (by kernel_rfl) (by kernel_rfl) O O O<|J O<|J O<|J O<|J O<|J O<|J O<|J O<|J O<|J O<|J O<|J O<|J O<|wQ<|zX O (by decide) O O (zM O O)<|zX O (by decide) O O (qL O O)<|zX O (by decide) O O (zH O fd90_0 O)<|zX O (by decide) O O (qC O zAm O (A 0 O) O)<|zX O (by decide) O O (qB O zCo O)<|zX O (by decide) O O (zC O one9 O zO O)<|zX O (by decide) O O (qR O ok83 (zBc g.n e.Name hg.hn) ⟨zB,O,zB,O,T⟩)<|zX O (by decide) O O (yA O O)<|zX O (by decide) O O (kB O O O)<|zX O (by decide) O O (zBt O O O)<|zEs O O (by decide) O O (qQ [none,none,none,none,none,none,some 1,none] O zr69 O) ?_
     exact j0
    ·try simp only [sx] at c4
     refine R O<|yE O<|G O<|zA<|zD O (fun c5=>?_) (fun c5=>?_)
     ·try simp only [sx] at c5
      obtain ⟨a,c,d,ha,⟨r1,k1⟩,⟨r2,k2⟩,⟨r3,k3⟩⟩:=h.args3 c5
      refine R O<|G O<|zT O yU<|zE kW zO O<|zY O el55 (by omega) (wF (show e.Args[(1:Int).toNat]? =some c by rw [ha];rfl))<|zQ yN zO O<|zZ O (qY [1,1,1] O ok127 (ih c (by rw [ha];simp) r2 k2) ⟨zB,O,zB,O,T⟩ O)<|Y 0 sz31 O<|zA<|zN<|fin1 (qN yG O (A 0 O) O) ?_
      exact ⟨by rw [knd_11 c5 ha];rfl,[_],O⟩
     ·try simp only [sx] at c5
      obtain ⟨a,r,ha,hra,hca⟩:=h.first d1 c3 c4 d2 c5 h13
      have ham:a∈e.Args:=by rw [ha];simp
      refine zI<|R O<|G O<|zT O yU<|zE kW zO O<|zY O el55 (by omega) (wF (show e.Args[(0:Int).toNat]? =some a by rw [ha];rfl))<|zQ yN zO O<|zZ O (qY [1,1,1] O ok127 (ih a ham hra hca) ⟨zB,O,zB,O,T⟩ O)<|Y 0 sz31 O<|zA<|zN<|fin1 (qN yG O (A 0 O) O) ?_
      exact ⟨by rw [knd_o d1 d2 c3 c4 c5 ha];rfl,[_],O⟩
theorem r48_typeOf {b:Nat} {sv sl:Value} {code:List In} {full:Bool} {g:Gn} {L:List ByteArray} (hg:g.Ok) (e:Ex) (h:Rdy g L e) (hc:bC e=false):Con cfg 127 [vPt b,vE e] (fJ b sv sl code full g L) fun r μ'=>r=vTy (knd g.n.Bufs e)/\μ'=fJ b sv sl code full g L:=by
  induction e using Ex.ind with
  |_ e ih=>exact zSs hg e (fun a ha h1 h2=>ih a ha h1 h2) h hc
end Go.W
