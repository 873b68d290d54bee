/-
  What functions compute.
  Conditions: none.
-/
import Derived.Test.YtdldhbfgfkebjaaGreatDoorHI
set_option linter.unusedSimpArgs false
set_option linter.unusedVariables false
set_option maxRecDepth 10000
namespace Go.W
open Go Go.Eng Go.Proofs Go.L41 Go.Br
attribute [local irreducible] AWP RWP TD fT
def VR (b:Nat) (sl:Value) (g:Gn) (L:List ByteArray) (e:Ex):Prop:=∀(sv:Value) (code:List In) (full:Bool) (pre:List In) (k q:Int),Em pre code full->Rdy g L e->bC e=false->0<=k->k+e.wt<=1000000->0<=q->q+e.wt<=1000000->
  Con cfg 81 [vPt b,vE e,vI k,vI q] (fJ b sv sl code full g L) fun r μ'=>r=.tup []/\∃sv' code' full',Em (pre++fA g L e pre.length k q) code' full'/\μ'=fJ b sv' sl code' full' g L
def TR (b:Nat) (sl:Value) (g:Gn) (L:List ByteArray) (e:Ex):Prop:=∀(sv:Value) (code:List In) (full:Bool) (pre:List In) (k q:Int),Em pre code full->Rdy g L e->bC e=true->0<=k->k+e.wt<=1000000->0<=q->q+e.wt<=1000000->
  Con cfg 86 [vPt b,vE e,vI k,vI q] (fJ b sv sl code full g L) fun r μ'=>r=.tup []/\∃sv' code' full',Em (pre++jC g L e pre.length k q) code' full'/\μ'=fJ b sv' sl code' full' g L
theorem ok126:bA Tryz.prog 126=true:=by kernel_rfl
theorem ok127:bA Tryz.prog 127=true:=by kernel_rfl
theorem ok129:bA Tryz.prog 129=true:=by kernel_rfl
theorem ok162:bA Tryz.prog 162=true:=by kernel_rfl
set_option maxHeartbeats 4000000 in
theorem r48_form {b:Nat} {sv sl:Value} {code:List In} {full:Bool} {g:Gn} {L:List ByteArray} {pre:List In} (hE:Em pre code full) (hL:L.length<=1000000) (f:Lf) (x:Int) (hl:f.L.length<=4294967296) (hsc:jK L f=true):
    Con cfg 126 [vPt b,jZ f,vI x] (fJ b sv sl code full g L) fun r μ'=>r=.tup []/\∃sv' code' full',Em (pre++rI L f x) code' full'/\μ'=fJ b sv' sl code' full' g L:=by
 refine zW Tryz.func126 O Tryz.ntmps126 Tryz.results126 O ?_
 intro z hz
 refine R O<|zT O O (qP O O) ?_
 rintro _ _ ⟨b1,rfl,rfl⟩
 refine qW _ (qM 0 O 4 _ PLe.ptr)<|zA<|R O<|G O<|G O<|zS O zGl<|zF one2 Y O<|zT O O (W O ok36 (kT hE (1) (x) (f.K) (0) _ (fun _=>O)) ⟨zB,O,zB,O,zB,O,zB,O,zB,O,T⟩) ?_
 rintro _ _ ⟨rfl,sv1,cd1,fu1,hE1,rfl⟩
 refine zA<|R O<|G O<|zA<|zP<|zU ⟨[(6,.c _),(0,.c _),(2,.c _),(4,.c _)],[_,_,_]⟩ (Weak.mk [true,true,true] ⟨zB,zB,zB,zB,T⟩ O)<|qF 1 3 O O (Nat×Value×List In×Bool) (fun ⟨k,sw,cw,fw⟩=>[(6,vI k)]) (fun ⟨k,sw,cw,fw⟩=>[E.row b 90 [.sl 8 (g.n.Bufs.map Bf.cells),.sl 20 (g.n.Body.map St.cells),.sl 5 (g.ty.map tyC),.sl 3 (g.sl.map Sl.cells),.lit sl,.lit sw,.lit (.bool fw)],E.vec sw 46 11 (cw.map In.cells),E.vec sl 9 1 (L.map fun s=>[cS s])]) (fun ⟨k,sw,cw,fw⟩=>k<=f.L.length/\(Em (pre++(iN 1 x f.K 0::(f.L.take k).flatMap (vM L x))) cw fw)) (fun ⟨k,sw,cw,fw⟩=>f.L.length-k) ⟨⟨0,sv1,cd1,fu1⟩,⟨by omega,(by rw [List.take_zero,List.flatMap_nil];have h9:=hE1;(try simp only [List.append_assoc,List.cons_append,List.nil_append,List.append_nil] at h9);(try simp only [List.append_assoc,List.cons_append,List.nil_append,List.append_nil]);exact h9)⟩,Weak.mk [true,true,true] ⟨zB,zB,zB,zB,T⟩ O⟩ ?_
 rintro ⟨k,sw,cw,fw⟩ ⟨hk,hq⟩
 show AWP _ _ _ _ _ ⟨[(6,vI k)]++_,[E.row b 90 [.sl 8 (g.n.Bufs.map Bf.cells),.sl 20 (g.n.Body.map St.cells),.sl 5 (g.ty.map tyC),.sl 3 (g.sl.map Sl.cells),.lit sl,.lit sw,.lit (.bool fw)],E.vec sw 46 11 (cw.map In.cells),E.vec sl 9 1 (L.map fun s=>[cS s])]++_⟩
 refine zE<|R O<|G O<|zS O zAh<|zF zCs Y O<|qC O el52<|yC O<|zA<|zC O (fun c1=>?_) (fun c1=>?_)
 ·try simp only [sx] at c1
  obtain ⟨m,hm⟩:=qU f.L k (by omega)
  refine zI<|zE<|zP<|zE<|yK 15 0 [⟨0,.q []⟩,⟨1,.q []⟩,⟨2,.q []⟩,⟨3,.q []⟩,⟨4,.q []⟩,⟨5,.q []⟩,⟨6,.q []⟩,⟨7,.q []⟩,⟨8,.q [0,1,2]⟩,⟨9,.q []⟩,⟨10,.q []⟩,⟨11,.q []⟩,⟨12,.q []⟩,⟨13,.q []⟩,⟨14,.q []⟩] mixed (by kernel_rfl) (by kernel_rfl) O O O<|J O<|J O<|J O<|J O<|J O<|J O<|J O<|J O<|J O<|J O<|J O<|J O<|J O<|J O<|J O<|wQ<|v O (by decide) O O (zK O O)<|v O (by decide) O O (zK O O)<|v O (by decide) O O (qA O zAh O)<|v O (by decide) O O (zD O zCs O Y O)<|v O (by decide) O O (zK O O)<|v O (by decide) O O (qI O el52 O O (by omega) (N hm))<|v O (by decide) O O (qA O zDi O)<|v O (by decide) O O (zD O one9 O Y O)<|v O (by decide) O O (qX [0,0,0] O ok162 (r48_depth  hL m.Name ((List.all_eq_true.1 hsc) m (qE hm))) ⟨zB,O,zB,O,T⟩ O)<|v O (by decide) O O (qA O zAh O)<|v O (by decide) O O (zD O zCs O Y O)<|v O (by decide) O O (zK O O)<|v O (by decide) O O (qI O el52 O O (by omega) (N hm))<|v O (by decide) O O (qA O zFv O)<|v O (by decide) O O (zD O one2 O Y O)<|wP O<|zT O O (W O ok36 (kT hq (4) (103) (rA L m.Name) (m.By) _ (fun _=>O)) ⟨zB,O,zB,O,zB,O,zB,O,zB,O,T⟩) ?_
  rintro _ _ ⟨rfl,sv3,cd3,fu3,hE3,rfl⟩
  refine zA<|zJ O<|G O<|G O<|G O<|zT O O (W O ok36 (kT hE3 (3) (x) (x) (103) _ (fun _=>O)) ⟨zB,O,zB,O,zB,O,zB,O,zB,O,T⟩) ?_
  rintro _ _ ⟨rfl,sv4,cd4,fu4,hE4,rfl⟩
  refine zA<|zJ O<|G O<|qB O ⟨by omega,by omega⟩<|G O<|zA ?_
  refine ⟨⟨k+1,sv4,cd4,fu4⟩,⟨by omega,(by rw [flat_next hm];unfold vM;have h9:=hE4;(try simp only [List.append_assoc,List.cons_append,List.nil_append,List.append_nil] at h9);(try simp only [List.append_assoc,List.cons_append,List.nil_append,List.append_nil]);exact h9)⟩,(by show f.L.length-(k+1)<f.L.length-k;omega),Weak.mk [true,true,true] ⟨zB,zB,zB,zB,T⟩ O⟩
 ·try simp only [sx] at c1
  refine qK ?_
  repeat (first|refine qY ?_|refine qT ?_)
  refine yL<|U ?_
  rw [qZ (l:=f.L) (k:=k) (by omega)] at hq
  exact ⟨O,sw,cw,fw,hq,O⟩
set_option maxHeartbeats 4000000 in
theorem r48_gather {b:Nat} {sv sl:Value} {code:List In} {full:Bool} {g:Gn} {L:List ByteArray} {pre:List In} (hE:Em pre code full) (hL:L.length<=1000000) (x:Ix) (ext:Int) (hg:g.Ok) (hb:bO g.n.Bufs x.From=true) (hd:(g.dm x.From).length=x.At.length) (hsc:∀l,l∈x.At->jK L l=true) (hw:x.wt<=1000000000):
    Con cfg 129 [vPt b,gK x,vI ext] (fJ b sv sl code full g L) fun r μ'=>r=.tup []/\∃sv' code' full',Em (pre++tZ g L x ext) code' full'/\μ'=fJ b sv' sl code' full' g L:=by
 refine zW Tryz.func129 O Tryz.ntmps129 Tryz.results129 O ?_
 intro z hz
 obtain ⟨p1,p2,p3,p4,p5,p6,p7⟩:=hg.plc hb
 have hen:g.bs_ x.From+dE (g.dm x.From)=g.en x.From:=by unfold Gn.en;rw [p1];rfl
 unfold Ix.wt at hw
 refine R O<|zT O O (qP O O) ?_
 rintro _ _ ⟨b1,rfl,rfl⟩
 refine qW _ (qM 0 O 4 _ PLe.ptr)<|zA<|R O<|G O<|zS O wN<|zF one9 Y O<|zZ O (qX [0,0,0] O ok76 (zSp  x.From hg hb) ⟨zB,O,zB,O,T⟩ O)<|zZ O (yA O O)<|kP O<|kP O<|kP O<|kP O<|G O<|G O<|G O<|G O<|zA<|R O<|G O<|G O<|zT O O (W O ok36 (kT hE (1) (104) (g.bs_ x.From) (0) _ (fun _=>O)) ⟨zB,O,zB,O,zB,O,zB,O,zB,O,T⟩) ?_
 rintro _ _ ⟨rfl,sv1,cd1,fu1,hE1,rfl⟩
 refine zA<|zE<|R O<|G O<|zA<|zP<|zU ⟨[(10,.c _),(0,.c _),(2,.c _),(4,.c _),(6,.c _),(7,.c _),(8,.c _),(9,.c _)],[_,_,_]⟩ (Weak.mk [true,true,true] ⟨zB,zB,zB,zB,zB,zB,zB,zB,T⟩ O)<|qF 1 3 O O (Nat×Value×List In×Bool) (fun ⟨k,sw,cw,fw⟩=>[(10,vI k)]) (fun ⟨k,sw,cw,fw⟩=>[E.row b 90 [.sl 8 (g.n.Bufs.map Bf.cells),.sl 20 (g.n.Body.map St.cells),.sl 5 (g.ty.map tyC),.sl 3 (g.sl.map Sl.cells),.lit sl,.lit sw,.lit (.bool fw)],E.vec sw 46 11 (cw.map In.cells),E.vec sl 9 1 (L.map fun s=>[cS s])]) (fun ⟨k,sw,cw,fw⟩=>k<=x.At.length/\(Em (pre++(iN 1 104 (g.bs_ x.From) 0::fP (atC L (g.dm x.From) (jD (g.dm x.From))) 0 (x.At.take k))) cw fw)) (fun ⟨k,sw,cw,fw⟩=>x.At.length-k) ⟨⟨0,sv1,cd1,fu1⟩,⟨by omega,(by rw [List.take_zero,fP];have h9:=hE1;(try simp only [List.append_assoc,List.cons_append,List.nil_append,List.append_nil] at h9);(try simp only [List.append_assoc,List.cons_append,List.nil_append,List.append_nil]);exact h9)⟩,Weak.mk [true,true,true] ⟨zB,zB,zB,zB,zB,zB,zB,zB,T⟩ O⟩ ?_
 rintro ⟨k,sw,cw,fw⟩ ⟨hk,hq⟩
 show AWP _ _ _ _ _ ⟨[(10,vI k)]++_,[E.row b 90 [.sl 8 (g.n.Bufs.map Bf.cells),.sl 20 (g.n.Body.map St.cells),.sl 5 (g.ty.map tyC),.sl 3 (g.sl.map Sl.cells),.lit sl,.lit sw,.lit (.bool fw)],E.vec sw 46 11 (cw.map In.cells),E.vec sl 9 1 (L.map fun s=>[cS s])]++_⟩
 refine zE<|R O<|G O<|zS O zAf<|zF zBn Y O<|qC O zAq<|yC O<|zA<|zC O (fun c1=>?_) (fun c1=>?_)
 ·try simp only [sx] at c1
  obtain ⟨f,hf⟩:=qU x.At k (by omega)
  have hdk:=zMv (d:=(g.dm x.From)) (j:=k) (by omega)
  have hsk:=strT_at (d:=(g.dm x.From)) (j:=k) p6 (by omega)
  refine zI<|zE<|zP<|R O<|G O<|zS O zAf<|zF zBn Y O<|G O<|zX O zAq (by omega) (N hf)<|zQ zAn Y O<|zT O O (W O ok126 (r48_form hq hL f 105 (by have:=zBg (qE hf);omega) (hsc f (qE hf))) ⟨zB,O,zB,O,zB,O,T⟩) ?_
  rintro _ _ ⟨rfl,sv2,cd2,fu2,hE2,rfl⟩
  refine zA<|zE<|R O<|G O<|qC O el67<|zZ O (yH O O O)<|zA<|zC O (fun c2=>?_) (fun c2=>?_)
  ·try simp only [sx] at c2
   refine zJ O<|G O<|G O<|G O<|zX O el67 (by omega) (N hdk)<|zF one3 Y O<|zT O O (W O ok79 (zDw hE2 (10) (255) (105) (0) ((g.dm x.From).getD k 0)) ⟨zB,O,zB,O,zB,O,zB,O,zB,O,zB,O,T⟩) ?_
   rintro _ _ ⟨rfl,sv3,cd3,fu3,hE3,rfl⟩
   refine zA<|R O<|G O<|G O<|G O<|zX O el67 (by omega) (N hsk)<|zF one3 Y O<|zT O O (W O ok36 (kT hE3 (4) (105) (105) ((jD (g.dm x.From)).getD k 0) _ (fun _=>O)) ⟨zB,O,zB,O,zB,O,zB,O,zB,O,T⟩) ?_
   rintro _ _ ⟨rfl,sv4,cd4,fu4,hE4,rfl⟩
   refine zA<|zJ O<|G O<|zT O O (W O ok36 (kT hE4 (3) (104) (104) (105) _ (fun _=>O)) ⟨zB,O,zB,O,zB,O,zB,O,zB,O,T⟩) ?_
   rintro _ _ ⟨rfl,sv5,cd5,fu5,hE5,rfl⟩
   refine zA<|zJ O<|G O<|qB O ⟨by omega,by omega⟩<|G O<|zA ?_
   refine ⟨⟨k+1,sv5,cd5,fu5⟩,⟨by omega,(by rw [wS _ hf,atC_1 (by omega)];have h9:=hE5;(try simp only [List.append_assoc,List.cons_append,List.nil_append,List.append_nil] at h9);(try simp only [List.append_assoc,List.cons_append,List.nil_append,List.append_nil]);exact h9)⟩,(by show x.At.length-(k+1)<x.At.length-k;omega),Weak.mk [true,true,true] ⟨zB,zB,zB,zB,zB,zB,zB,zB,T⟩ O⟩
  ·try simp only [sx] at c2
   refine zI<|R O<|G O<|G O<|G O<|zX O el67 (by omega) (N hsk)<|zF one3 Y O<|zT O O (W O ok36 (kT hE2 (4) (105) (105) ((jD (g.dm x.From)).getD k 0) _ (fun _=>O)) ⟨zB,O,zB,O,zB,O,zB,O,zB,O,T⟩) ?_
   rintro _ _ ⟨rfl,sv4,cd4,fu4,hE4,rfl⟩
   refine zA<|zJ O<|G O<|zT O O (W O ok36 (kT hE4 (3) (104) (104) (105) _ (fun _=>O)) ⟨zB,O,zB,O,zB,O,zB,O,zB,O,T⟩) ?_
   rintro _ _ ⟨rfl,sv5,cd5,fu5,hE5,rfl⟩
   refine zA<|zJ O<|G O<|qB O ⟨by omega,by omega⟩<|G O<|zA ?_
   refine ⟨⟨k+1,sv5,cd5,fu5⟩,⟨by omega,(by rw [wS _ hf,atC_0 (by omega)];have h9:=hE5;(try simp only [List.append_assoc,List.cons_append,List.nil_append,List.append_nil] at h9);(try simp only [List.append_assoc,List.cons_append,List.nil_append,List.append_nil]);exact h9)⟩,(by show x.At.length-(k+1)<x.At.length-k;omega),Weak.mk [true,true,true] ⟨zB,zB,zB,zB,zB,zB,zB,zB,T⟩ O⟩
 ·try simp only [sx] at c1
  rw [qZ (l:=x.At) (k:=k) (by omega)] at hq
  refine qK<|R O<|G O<|G O<|G O<|G O<|qB O ⟨by omega,by omega⟩ ?_
  refine zT O O (W O ok79 (zDw hq (10) (254) (104) (g.bs_ x.From) (g.en x.From)) ⟨zB,O,zB,O,zB,O,zB,O,zB,O,VLe.of_eq (congrArg vI hen),O,T⟩) ?_
  rintro _ _ ⟨rfl,sv6,cd6,fu6,hE6,rfl⟩
  refine zA<|zJ O<|G O<|G O<|zT O O (W O ok36 (kT hE6 (15) (101) (254) (ext) _ (fun _=>O)) ⟨zB,O,zB,O,zB,O,zB,O,zB,O,T⟩) ?_
  rintro _ _ ⟨rfl,sv7,cd7,fu7,hE7,rfl⟩
  refine zA ?_
  repeat (first|refine qY ?_|refine qT ?_)
  refine yL<|U ?_
  refine ⟨O,sv7,cd7,fu7,?_,O⟩
  unfold tZ
  have h9:=hE7
  exact r9
set_option maxHeartbeats 4000000 in
theorem zKz {b:Nat} {sv sl:Value} {code:List In} {full:Bool} {g:Gn} {L:List ByteArray} {pre:List In} (hE:Em pre code full) (hL:L.length<=1000000) (s:ByteArray) (idx:List Ix) (hg:g.Ok) (hb:bO g.n.Bufs s=true) (hd:(g.dm s).length=idx.length) (hi:∀x,x∈idx->RdI g L x) (hw:fR idx<=1000000000):
    Con cfg 82 [vPt b,vS s,jP idx] (fJ b sv sl code full g L) fun r μ'=>r=.tup [vI (g.bs_ s),vI (g.en s)]/\∃sv' code' full',Em (pre++vY g L s idx) code' full'/\μ'=fJ b sv' sl code' full' g L:=by
 refine zW Tryz.func82 O Tryz.ntmps82 Tryz.results82 O ?_
 intro z hz
 obtain ⟨p1,p2,p3,p4,p5,p6,p7⟩:=hg.plc hb
 have hen:g.bs_ s+dE (g.dm s)=g.en s:=by unfold Gn.en;rw [p1];rfl
 refine R O<|G O<|G O<|zA<|R O<|G O<|G O<|zZ O (qX [0,0,0] O ok76 (zSp  s hg hb) ⟨zB,O,zB,O,T⟩ O)<|zZ O (yA O O)<|kP O<|kP O<|kP O<|kP O<|G O<|G O<|G O<|G O<|zA<|R O<|G O<|G O<|zT O O (W O ok36 (kT hE (1) (100) (g.bs_ s) (0) _ (fun _=>O)) ⟨zB,O,zB,O,zB,O,zB,O,zB,O,T⟩) ?_
 rintro _ _ ⟨rfl,sv1,cd1,fu1,hE1,rfl⟩
 refine zA<|zE<|R O<|G O<|zA<|zP<|zU ⟨[(12,.c _),(0,.c _),(2,.c _),(8,.c _),(9,.c _),(10,.c _),(11,.c _)],[_,_,_]⟩ (Weak.mk [true,true,true] ⟨zB,zB,zB,zB,zB,zB,zB,T⟩ O)<|qF 1 3 O O (Nat×Value×List In×Bool) (fun ⟨k,sw,cw,fw⟩=>[(12,vI k)]) (fun ⟨k,sw,cw,fw⟩=>[E.row b 90 [.sl 8 (g.n.Bufs.map Bf.cells),.sl 20 (g.n.Body.map St.cells),.sl 5 (g.ty.map tyC),.sl 3 (g.sl.map Sl.cells),.lit sl,.lit sw,.lit (.bool fw)],E.vec sw 46 11 (cw.map In.cells),E.vec sl 9 1 (L.map fun s=>[cS s])]) (fun ⟨k,sw,cw,fw⟩=>k<=idx.length/\(Em (pre++(iN 1 100 (g.bs_ s) 0::fP (axC g L (g.dm s) (jD (g.dm s))) 0 (idx.take k))) cw fw)) (fun ⟨k,sw,cw,fw⟩=>idx.length-k) ⟨⟨0,sv1,cd1,fu1⟩,⟨by omega,(by rw [List.take_zero,fP];have h9:=hE1;(try simp only [List.append_assoc,List.cons_append,List.nil_append,List.append_nil] at h9);(try simp only [List.append_assoc,List.cons_append,List.nil_append,List.append_nil]);exact h9)⟩,Weak.mk [true,true,true] ⟨zB,zB,zB,zB,zB,zB,zB,T⟩ O⟩ ?_
 rintro ⟨k,sw,cw,fw⟩ ⟨hk,hq⟩
 show AWP _ _ _ _ _ ⟨[(12,vI k)]++_,[E.row b 90 [.sl 8 (g.n.Bufs.map Bf.cells),.sl 20 (g.n.Body.map St.cells),.sl 5 (g.ty.map tyC),.sl 3 (g.sl.map Sl.cells),.lit sl,.lit sw,.lit (.bool fw)],E.vec sw 46 11 (cw.map In.cells),E.vec sl 9 1 (L.map fun s=>[cS s])]++_⟩
 refine zE<|R O<|G O<|G O<|qC O el51<|yC O<|zA<|zC O (fun c1=>?_) (fun c1=>?_)
 ·try simp only [sx] at c1
  obtain ⟨x,hx⟩:=qU idx k (by omega)
  have hdk:=zMv (d:=(g.dm s)) (j:=k) (by omega)
  have hsk:=strT_at (d:=(g.dm s)) (j:=k) p6 (by omega)
  have hxw:=zAx (qE hx)
  refine zI<|zE<|zP<|zE<|R O<|G O<|G O<|zX O el51 (by omega) (N hx)<|zS O wN<|zF one9 Y O<|zZ O (kB O O O)<|zA<|zC O (fun c2=>?_) (fun c2=>?_)
  ·try simp only [sx] at c2
   refine R O<|G O<|G O<|G O<|zX O el51 (by omega) (N hx)<|zS O zCg<|zQ zAn Y O<|zT O O (W O ok126 (r48_form hq hL x.Lin 101 (by unfold Ix.wt at hxw;omega) ((hi x (qE hx)).1 c2)) ⟨zB,O,zB,O,zB,O,T⟩) ?_
   rintro _ _ ⟨rfl,sv2,cd2,fu2,hE2,rfl⟩
   refine zA<|R O<|G O<|qC O el67<|zZ O (yH O O O)<|zA<|zC O (fun c3=>?_) (fun c3=>?_)
   ·try simp only [sx] at c3
    refine zJ O<|G O<|G O<|G O<|zX O el67 (by omega) (N hdk)<|zF one3 Y O<|zT O O (W O ok79 (zDw hE2 (10) (255) (101) (0) ((g.dm s).getD k 0)) ⟨zB,O,zB,O,zB,O,zB,O,zB,O,zB,O,T⟩) ?_
    rintro _ _ ⟨rfl,sv3,cd3,fu3,hE3,rfl⟩
    refine zA<|R O<|G O<|G O<|G O<|zX O el67 (by omega) (N hsk)<|zF one3 Y O<|zT O O (W O ok36 (kT hE3 (4) (101) (101) ((jD (g.dm s)).getD k 0) _ (fun _=>O)) ⟨zB,O,zB,O,zB,O,zB,O,zB,O,T⟩) ?_
    rintro _ _ ⟨rfl,sv4,cd4,fu4,hE4,rfl⟩
    refine zA<|zJ O<|G O<|zT O O (W O ok36 (kT hE4 (3) (100) (100) (101) _ (fun _=>O)) ⟨zB,O,zB,O,zB,O,zB,O,zB,O,T⟩) ?_
    rintro _ _ ⟨rfl,sv5,cd5,fu5,hE5,rfl⟩
    refine zA<|zJ O<|G O<|qB O ⟨by omega,by omega⟩<|G O<|zA ?_
    refine ⟨⟨k+1,sv5,cd5,fu5⟩,⟨by omega,(by rw [wS _ hx,axC_1 c2 (by omega)];have h9:=hE5;(try simp only [List.append_assoc,List.cons_append,List.nil_append,List.append_nil] at h9);(try simp only [List.append_assoc,List.cons_append,List.nil_append,List.append_nil]);exact h9)⟩,(by show idx.length-(k+1)<idx.length-k;omega),Weak.mk [true,true,true] ⟨zB,zB,zB,zB,zB,zB,zB,T⟩ O⟩
   ·try simp only [sx] at c3
    refine zI<|R O<|G O<|G O<|G O<|zX O el67 (by omega) (N hsk)<|zF one3 Y O<|zT O O (W O ok36 (kT hE2 (4) (101) (101) ((jD (g.dm s)).getD k 0) _ (fun _=>O)) ⟨zB,O,zB,O,zB,O,zB,O,zB,O,T⟩) ?_
    rintro _ _ ⟨rfl,sv4,cd4,fu4,hE4,rfl⟩
    refine zA<|zJ O<|G O<|zT O O (W O ok36 (kT hE4 (3) (100) (100) (101) _ (fun _=>O)) ⟨zB,O,zB,O,zB,O,zB,O,zB,O,T⟩) ?_
    rintro _ _ ⟨rfl,sv5,cd5,fu5,hE5,rfl⟩
    refine zA<|zJ O<|G O<|qB O ⟨by omega,by omega⟩<|G O<|zA ?_
    refine ⟨⟨k+1,sv5,cd5,fu5⟩,⟨by omega,(by rw [wS _ hx,axC_0 c2 (by omega)];have h9:=hE5;(try simp only [List.append_assoc,List.cons_append,List.nil_append,List.append_nil] at h9);(try simp only [List.append_assoc,List.cons_append,List.nil_append,List.append_nil]);exact h9)⟩,(by show idx.length-(k+1)<idx.length-k;omega),Weak.mk [true,true,true] ⟨zB,zB,zB,zB,zB,zB,zB,T⟩ O⟩
  ·try simp only [sx] at c2
   refine qV 9 mixed (by kernel_rfl) O O<|zL O O (zK O O)<|zL O O (zK O O)<|zL O O (zK O O)<|zL O O (qI O el51 O O (by omega) (N hx))<|zL O O (qD O zCw O Y O)<|zL O O (zK O O)<|zL O O (zK O O)<|zL O O (qI O el67 O O (by omega) (N hdk))<|zL O O (zD O one3 O Y O)<|yJ<|zT O O (W O ok129 (r48_gather hq hL x ((g.dm s).getD k 0) hg ((hi x (qE hx)).2 c2).1 ((hi x (qE hx)).2 c2).2.1 ((hi x (qE hx)).2 c2).2.2 (by omega)) ⟨zB,O,zB,O,zB,O,T⟩) ?_
   rintro _ _ ⟨rfl,sv2,cd2,fu2,hE2,rfl⟩
   refine zA<|R O<|G O<|G O<|G O<|zX O el67 (by omega) (N hsk)<|zF one3 Y O<|zT O O (W O ok36 (kT hE2 (4) (101) (101) ((jD (g.dm s)).getD k 0) _ (fun _=>O)) ⟨zB,O,zB,O,zB,O,zB,O,zB,O,T⟩) ?_
   rintro _ _ ⟨rfl,sv4,cd4,fu4,hE4,rfl⟩
   refine zA<|zJ O<|G O<|zT O O (W O ok36 (kT hE4 (3) (100) (100) (101) _ (fun _=>O)) ⟨zB,O,zB,O,zB,O,zB,O,zB,O,T⟩) ?_
   rintro _ _ ⟨rfl,sv5,cd5,fu5,hE5,rfl⟩
   refine zA<|zJ O<|G O<|qB O ⟨by omega,by omega⟩<|G O<|zA ?_
   refine ⟨⟨k+1,sv5,cd5,fu5⟩,⟨by omega,(by rw [wS _ hx,axC_g c2];have h9:=hE5;(try simp only [List.append_assoc,List.cons_append,List.nil_append,List.append_nil] at h9);(try simp only [List.append_assoc,List.cons_append,List.nil_append,List.append_nil]);exact h9)⟩,(by show idx.length-(k+1)<idx.length-k;omega),Weak.mk [true,true,true] ⟨zB,zB,zB,zB,zB,zB,zB,T⟩ O⟩
 ·try simp only [sx] at c1
  refine qK<|R O<|G O<|G O<|G O<|qB O ⟨by omega,by omega⟩<|G O<|G O<|zA<|zN<|fin2 (rs_c O) (rs_c O) ?_
  rw [qZ (l:=idx) (k:=k) (by omega)] at hq
  exact ⟨by rw [hen],sw,cw,fw,hq,O⟩
theorem zSo {b:Nat} {sv sl:Value} {code:List In} {full:Bool} {g:Gn} {L:List ByteArray} (hg:g.Ok) (e:Ex) (ih:∀a,a∈e.Args->Rdy g L a->bC a=false->Con cfg 127 [vPt b,vE a] (fJ b sv sl code full g L) fun r μ'=>r=vTy (knd g.n.Bufs a)/\μ'=fJ b sv sl code full g L) (h:Rdy g L e) (hc:bC e=false):
    Con cfg 127 [vPt b,vE e] (fJ b sv sl code full g L) fun r μ'=>r=vTy (knd g.n.Bufs e)/\μ'=fJ b sv sl code full g L:=by
 refine Con.drop<|zW Tryz.func127 O Tryz.ntmps127 Tryz.results127 O ?_
 intro z hz
 have hop:=zLc (zAe h.part)
 have h13:¬13<=e.Op:=fun k9=>by rw [isC_op.2 ⟨k9,hop.2⟩] at hc;cases hc
 refine R O<|zT O O (qP O O) ?_
 rintro _ _ ⟨b1,rfl,rfl⟩
 refine qW _ (qM 0 O 3 _ PLe.ptr)<|zT O O (yZ O zr31) ?_
 rintro _ _ ⟨b2,rfl,rfl⟩
 refine zA<|zE<|R O<|zS O kQ<|zF one3 Y O<|zA<|zP<|zE<|R O<|yD O<|G O<|zA<|zC O (fun c1=>?_) (fun c1=>?_)
 ·have d1:e.Op=1:=of_decide_eq_true c1
  refine zI<|zC O (fun c2=>?_) (fun c2=>?_)
  ·exact n5
  ·exact absurd (c1.symm.trans c2) (by simp)
 ·have d1:¬e.Op=1:=of_decide_eq_false c1
  refine zJ O<|yD O<|G O<|zA<|zC O (fun c2=>?_) (fun c2=>?_)
  ·exact n5
  ·have d2:¬e.Op=12:=of_decide_eq_false c2
   refine R O<|yD O<|G O<|zA<|zC O (fun c3=>?_) (fun c3=>?_)
   ·try simp only [sx] at c3
    refine R O<|yT O zr31 pl31<|D 0 sz31 O<|zA<|zN<|fin1 (qN yG O (A 0 O) O) ?_
    exact ⟨by rw [knd_2 d1 d2 c3];rfl,[_],O⟩
   ·try simp only [sx] at c3
    refine R O<|yD O<|G O<|zA<|zC O (fun c4=>?_) (fun c4=>?_)
    ·try simp only [sx] at c4
     refine zE<|yK 12 1 [⟨0,.q []⟩,⟨1,.q []⟩,⟨2,.q []⟩,⟨3,.q [2]⟩,⟨4,.q []⟩,⟨5,.q []⟩,⟨6,.q []⟩,⟨7,.q []⟩,⟨8,.q []⟩,⟨9,.q []⟩,⟨10,.e 0 []⟩,⟨11,.e 0 []⟩] mixed (by kernel_rfl) (by kernel_rfl) O O O<|J O<|J O<|J O<|J O<|J O<|J O<|J O<|J O<|J O<|J O<|J O<|J O<|wQ<|v O (by decide) O O (zK O O)<|v O (by decide) O O (qL O O)<|v O (by decide) O O (zG O fd90_0 O)<|v O (by decide) O O (qD O zAr O (A 0 O) O)<|v O (by decide) O O (qA O zCu O)<|v O (by decide) O O (zD O one9 O Y O)<|v O (by decide) O O (qR O ok83 (zAy g.n e.Name hg.hn) ⟨zB,O,zB,O,T⟩)<|v O (by decide) O O (yA O O)<|v O (by decide) O O (kA O O O)<|v O (by decide) O O (zBq O O O)<|zEp O O (by decide) O O (qQ [none,none,none,none,none,none,some 1,none] O zr69 O) ?_
     exact j0
    ·try simp only [sx] at c4
     refine R O<|yD O<|G O<|zA<|zC O (fun c5=>?_) (fun c5=>?_)
     ·try simp only [sx] at c5
      obtain ⟨a,c,d,ha,⟨r1,k1⟩,⟨r2,k2⟩,⟨r3,k3⟩⟩:=h.args3 c5
      refine R O<|G O<|zS O yW<|zF kW Y O<|zX O el55 (by omega) (wF (show e.Args[(1:Int).toNat]? =some c by rw [ha];rfl))<|zQ yM Y O<|zZ O (qX [1,1,1] O ok127 (ih c (by rw [ha];simp) r2 k2) ⟨zB,O,zB,O,T⟩ O)<|D 0 sz31 O<|zA<|zN<|fin1 (qN yG O (A 0 O) O) ?_
      exact ⟨by rw [knd_11 c5 ha];rfl,[_],O⟩
     ·try simp only [sx] at c5
      obtain ⟨a,r,ha,hra,hca⟩:=h.first d1 c3 c4 d2 c5 h13
      have ham:a∈e.Args:=by rw [ha];simp
      refine zI<|R O<|G O<|zS O yW<|zF kW Y O<|zX O el55 (by omega) (wF (show e.Args[(0:Int).toNat]? =some a by rw [ha];rfl))<|zQ yM Y O<|zZ O (qX [1,1,1] O ok127 (ih a ham hra hca) ⟨zB,O,zB,O,T⟩ O)<|D 0 sz31 O<|zA<|zN<|fin1 (qN yG O (A 0 O) O) ?_
      exact ⟨by rw [knd_o d1 d2 c3 c4 c5 ha];rfl,[_],O⟩
theorem r48_typeOf {b:Nat} {sv sl:Value} {code:List In} {full:Bool} {g:Gn} {L:List ByteArray} (hg:g.Ok) (e:Ex) (h:Rdy g L e) (hc:bC e=false):Con cfg 127 [vPt b,vE e] (fJ b sv sl code full g L) fun r μ'=>r=vTy (knd g.n.Bufs e)/\μ'=fJ b sv sl code full g L:=by
  induction e using Ex.ind with
  |_ e ih=>exact zSo hg e (fun a ha h1 h2=>ih a ha h1 h2) h hc
end Go.W
