/-
  The program's configuration,third form: the table of opcodes holds what its initialiser lays,too.
  When instructions are well formed and a list of them is valid (47),in plain Lean.
  The code of a valid nest is valid (48.3),in plain Lean: registers,numbers,jumps,types,places.
  The code of a valid nest is valid (48.3),in plain Lean: every piece of the code.
  The code of a valid nest is valid (48.3),in plain Lean: statements,types,the whole; the plan of the arena has no overlaps.
  The plan of the arena has no overlaps; what is known of a compiled nest (48.3),in plain Lean.
  Conditions: none.
-/
import Derived.Test.YtdldhbfgfkebjaaGreatDoorCfg
import Derived.Test.YtdldhbfgfkebjaaGreatDoorEngZ
import Derived.Lib.LaidTab
import Derived.KernelRfl
import Derived.Test.YtdldhbfgfkebjaaGreatDoorPlainG
set_option linter.unusedSimpArgs false
set_option linter.unusedVariables false
section
namespace Go.Br
open Go Go.Eng Go.RowKit Go.Proofs Go.L41
theorem gOps : Tryz.prog.globalNamed "brocade/isa.opcodes" = some 0 := by kernel_rfl
def jH (s:List UInt8) (l:List Int):List Value:=.string (bs s)::l.map fun n=>.int .i64 n
def opCells:List Value:=[jH [104,97,108,116] [0,0,0,0,0],jH [105,110,116] [1,8,0,0,0],jH [109,111,118,101] [1,2,0,0,0],jH [97,100,100] [1,2,3,0,0],jH [109,117,108] [1,2,9,0,0],jH [109,105,110] [1,2,3,0,0],jH [109,97,120] [1,2,3,0,0],jH [106,117,109,112] [7,0,0,0,0],jH [106,108,116] [7,2,3,0,0],jH [99,111,110,115,116] [4,14,0,0,0],jH [108,111,97,100] [4,2,10,11,0],jH [115,116,111,114,101] [4,2,10,11,0],jH [111,112] [15,4,5,6,17],jH [99,97,115,116] [4,5,12,17,0],jH [116,101,115,116] [16,7,5,6,17],jH [116,111,105,110,116] [1,5,13,0,0],jH [102,114,111,109,105,110,116] [4,2,0,0,0]].flatten
def rU (w : World) : Prop := w.var? Tryz.prog "brocade/isa.opcodes" = some opCells.toArray
theorem ops_kept (w w':World) (h:∀b,b<0+1->w'.heap[b]? =w.heap[b]?) (k:rU w):rU w':=by
 unfold rU World.var? at *
 rw [gOps] at *
 simp only [Option.bind_some] at *
 rw [h _ (by omega)]
 exact k
noncomputable def cfgO : Cfg := ⟨Tryz.prog, max (1 + 1) (0 + 1), fun w => Lib.TabIs Tryz.prog w "strings.asciiSpace" .u8 Lib.asciiSpaceTab ∧ rU w,
 fun w w' h k=>⟨tab_kept w w' (fun b hb=>h b (by omega)) k.1,ops_kept w w' (fun b hb=>h b (by omega)) k.2⟩⟩
theorem upO {f:FuncId} {args:List V} {μ:List E} {Q:V->List E->Prop} (h:Con cfg f args μ Q):Con cfgO f args μ Q:=Con.upG (X:=cfg) (X':=cfgO) rfl (Nat.le_max_left _ _) (fun _ h=>h.1) h
theorem ops_cell {w:World} (h:rU w) {i:Nat} {u:Value} (hu:opCells[i]? =some u):w.cell? ⟨0,i,none⟩=some u:=by
 have:=World.var?_cell gOps h i
 rw [this]
 simpa using hu
def kTab:List (List Int):=[[0,0,0,0,0],[1,8,0,0,0],[1,2,0,0,0],[1,2,3,0,0],[1,2,9,0,0],[1,2,3,0,0],[1,2,3,0,0],[7,0,0,0,0],[7,2,3,0,0],[4,14,0,0,0],[4,2,10,11,0],[4,2,10,11,0],[15,4,5,6,17],[4,5,12,17,0],[16,7,5,6,17],[1,5,13,0,0],[4,2,0,0,0]]
theorem tab_at (i:Nat) (hi:i<17) (j:Nat) (hj:j<5):opCells[0+i*6+1+j]? =(((kTab.getD i []).map fun n=>Value.int .i64 n)[j]?):=by
 have h1:i=0∨i=1∨i=2∨i=3∨i=4∨i=5∨i=6∨i=7∨i=8∨i=9∨i=10∨i=11∨i=12∨i=13∨i=14∨i=15∨i=16:=by omega
 have h2:j=0∨j=1∨j=2∨j=3∨j=4:=by omega
 rcases h1 with rfl|rfl|rfl|rfl|rfl|rfl|rfl|rfl|rfl|rfl|rfl|rfl|rfl|rfl|rfl|rfl|rfl<;>rcases h2 with rfl|rfl|rfl|rfl|rfl<;>rfl
theorem opt_len:∀i,i<17->(kTab.getD i []).length=5:=by decide+kernel
theorem ops_row {op:Int} (h0:0<=op) (h:op<17) (w:World) (hw:cfgO.G w) (j:Nat) (u:Value) (hu:((kTab.getD op.toNat []).map fun n=>Value.int .i64 n)[j]? =some u):w.cell? ⟨0,0+op.toNat*6+1+j,none⟩=some u:=by
 have hj:j<5:=by
  have:=(List.getElem?_eq_some_iff.1 hu).1
  rw [List.length_map,opt_len op.toNat (by omega)] at this
  exact this
 exact ops_cell hw.2 (by rw [tab_at op.toNat (by omega) j hj];exact hu)
theorem ops_len {op:Int} (h0:0<=op) (h:op<17):((kTab.getD op.toNat []).map fun n=>Value.int .i64 n).length=5:=by
 rw [List.length_map];exact opt_len _ (by omega)
theorem ops_one {l:List Int}:(l.map fun n=>Value.int .i64 n).all Value.oneCell'=true:=by
 rw [List.all_map,List.all_eq_true];intro x _;rfl
end Go.Br
end
section
namespace Go.Br
open Go Go.Eng Go.L41
def jV (v:Vl):Bool:=decide (1<=v.D)&&decide (v.D<=2147483647)&&fG v.N&&decide (Int.gcd v.N v.D=1)
/-! ## Well formed instructions -/
def opTab:List ByteArray:=[bs [45,45,45],bs [120,110,45],bs [120,120,45],bs [120,120,120],bs [120,120,110],bs [120,120,120],bs [120,120,120],bs [116,45,45],bs [116,120,120],bs [114,45,45],bs [114,120,99],bs [114,120,99],bs [114,114,114],bs [114,114,45],bs [116,114,114],bs [120,114,109],bs [114,120,45]]
def lU (k n:Int):Bool:=
 bif decide (k=45) then decide (n=0) else bif decide (k=120)||decide (k=114) then decide (0<=n)&&decide (n<=255) else
 bif decide (k=116) then decide (0<=n)&&decide (n<65536) else bif decide (k=110) then fG n else
 bif decide (k=99) then decide (0<=n)&&decide (n<=1048576) else decide (1<=n)&&decide (n<=4096)
def pU (v:Vl) (a b:Int):Bool:=decide (v.D=1)&&decide (a<=v.N)&&decide (v.N<=b)
def vaB (x:In):Bool:=
 bif decide (x.Op=9) then jV x.Val else bif decide (x.Op=10)||decide (x.Op=11) then pU x.Val 0 x.C else
 bif decide (x.Op=12) then pU x.Val 4 10&&(!decide (x.Val.N=8)||decide (x.C=0)) else bif decide (x.Op=13) then pU x.Val 0 255 else
 bif decide (x.Op=14) then pU x.Val 13 15 else rW x.Val
def gB (op:Int):Bool:=decide (op=12)||decide (op=13)||decide (op=14)
def lT (op:Int) (k:Nat):Int:=fM (opTab.getD op.toNat (bs [])) k
def dL (op:Int):Bool:=decide (0<=op)&&decide (op<17)
def fmd (x:In):Bool:=
 dL x.Op&&(lU (lT x.Op 0) x.A&&lU (lT x.Op 1) x.B&&lU (lT x.Op 2) x.C&&vaB x)&&(bif gB x.Op then dO x.Ty else ty0 x.Ty)
def jR (op:Int):Bool:=decide (op=7)||decide (op=8)||decide (op=14)
def dF (many types dM:Int) (x:In):Bool:=
 fmd x&& !(jR x.Op&&decide (many<=x.A))&& !((decide (x.Op=10)||decide (x.Op=11))&&decide (dM<x.C))&& !(decide (x.Op=13)&&decide (types<=x.Val.N))
/-! The program's tables. -/
def nG (x:In) (k:Int):Bool:=decide (k=0)||(decide (k=6)&&decide (x.Op=12)&&decide (x.Val.N=8))
def kinds (x:In):List Int:=(kTab.getD x.Op.toNat []).filter fun k=> !nG x k
def bJ (n a b:Int):Bool:=decide (a<=n)&&decide (n<=b)
def fZ (x:In) (k:Int):Bool:=
 bif decide (k=1)||decide (k=4) then bJ x.A 0 255 else bif decide (k=2)||decide (k=5) then bJ x.B 0 255 else bif decide (k=3)||decide (k=6) then bJ x.C 0 255 else
 bif decide (k=7) then bJ x.A 0 65535 else bif decide (k=8) then bJ x.B (-2147483647) 2147483647 else bif decide (k=9) then bJ x.C (-2147483647) 2147483647 else
 bif decide (k=10) then bJ x.Val.N 0 x.C else bif decide (k=11) then bJ x.C 0 1048576 else bif decide (k=12) then bJ x.Val.N 0 255 else bif decide (k=13) then bJ x.C 1 4096 else
 bif decide (k=14) then jV x.Val else bif decide (k=15) then bJ x.Val.N 4 10 else bif decide (k=16) then bJ x.Val.N 13 15 else dO x.Ty
def dG (u x:In) (k:Int):In:=
 bif decide (k=1)||(decide (k=4)||decide (k=7)) then { u with A:=x.A } else bif decide (k=2)||(decide (k=5)||decide (k=8)) then { u with B:=x.B } else
 bif decide (k=3)||(decide (k=6)||(decide (k=9)||(decide (k=11)||decide (k=13)))) then { u with C:=x.C } else
 bif decide (k=10)||(decide (k=12)||(decide (k=15)||decide (k=16))) then { u with Val:=⟨x.Val.N,1⟩ } else bif decide (k=14) then { u with Val:=x.Val } else
 bif decide (k=17) then { u with Ty:=x.Ty } else u
def in0 (op:Int):In:=⟨op,0,0,0,⟨0,0⟩,⟨0,0,0,0,0⟩⟩
def wfP (x:In):Bool:=dL x.Op&&((kinds x).all (fZ x)&&decide ((kinds x).foldl (fun u k=>dG u x k) (in0 x.Op)=x))
theorem in_eq (a b:In):(a=b)↔(a.Op=b.Op/\a.A=b.A/\a.B=b.B/\a.C=b.C/\(a.Val.N=b.Val.N/\a.Val.D=b.Val.D)/\(a.Ty.Kind=b.Ty.Kind/\a.Ty.Bits=b.Ty.Bits/\a.Ty.Frac=b.Ty.Frac/\a.Ty.Round=b.Ty.Round/\a.Ty.Over=b.Ty.Over)):=by
 obtain ⟨o,a1,b1,c1,⟨n1,d1⟩,⟨k1,k2,k3,k4,k5⟩⟩:=a
 obtain ⟨o',a1',b1',c1',⟨n1',d1'⟩,⟨k1',k2',k3',k4',k5'⟩⟩:=b
 simp only [In.mk.injEq,Vl.mk.injEq,Ty.mk.injEq]
theorem zAc (v:Vl):rW v=true↔v.N=0/\v.D=0:=by simp [rW,bH,cEq]
theorem zAs (t:Ty):ty0 t=true↔t.Kind=0/\t.Bits=0/\t.Frac=0/\t.Round=0/\t.Over=0:=by simp [ty0,bH,cEq]
theorem wf_fmd (x:In):wfP x=fmd x:=by
 unfold wfP fmd
 cases hk:dL x.Op with
 |false=>rfl
 |true=>
  simp only [dL,Bool.and_eq_true,decide_eq_true_eq] at hk
  obtain ⟨o,a,b,c,⟨n,d⟩,t⟩:=x
  have hc:o=0∨o=1∨o=2∨o=3∨o=4∨o=5∨o=6∨o=7∨o=8∨o=9∨o=10∨o=11∨o=12∨o=13∨o=14∨o=15∨o=16:=by
   have:=hk.1;have:=hk.2;dsimp only at *;omega
  have hty:∀t':Ty,(t=t')↔(t.Kind=t'.Kind/\t.Bits=t'.Bits/\t.Frac=t'.Frac/\t.Round=t'.Round/\t.Over=t'.Over):=by
   intro t';cases t;cases t';simp only [Ty.mk.injEq]
  rw [Bool.eq_iff_iff]
  have e8:n=8∨¬n=8:=Classical.em _
  rcases hc with rfl|rfl|rfl|rfl|rfl|rfl|rfl|rfl|rfl|rfl|rfl|rfl|rfl|rfl|rfl|rfl|rfl
  case inr.inr.inr.inr.inr.inr.inr.inr.inr.inr.inr.inr.inl=>
   rcases e8 with rfl|h8
   ·simp [kinds,kTab,nG,fZ,dG,in0,in_eq,lT,opTab,fM,lU,vaB,gB,bJ,pU,fG,zAc,zAs,-Bool.not_eq_true]
    try first|omega|(generalize dO t=p;cases p<;>first|(simp;done)|(simp;omega)|omega)
   ·simp [kinds,kTab,nG,fZ,dG,in0,in_eq,lT,opTab,fM,lU,vaB,gB,bJ,pU,fG,zAc,zAs,h8,-Bool.not_eq_true]
    try first|omega|(generalize dO t=p;cases p<;>first|(simp;done)|(simp;omega)|omega)
  all_goals
   simp [kinds,kTab,nG,fZ,dG,in0,in_eq,lT,opTab,fM,lU,vaB,gB,bJ,pU,fG,zAc,zAs,-Bool.not_eq_true]
   try first|omega|(generalize dO t=p;cases p<;>first|(simp;done)|(simp;omega)|omega)|(generalize jV ⟨n,d⟩=q;cases q<;>first|(simp;done)|(simp;omega)|omega)
/-! ## Programs -/
def mM {α:Type} (p:α->Bool) (l:List α):Int×Int:=bif decide (fX p l= -1) then (0,0) else (fX p l,25)
def vld (code:List In) (tys:List Ty) (dM:Int):Int×Int:=
 bif decide ((65536:Int)<code.length) then (0,2) else bif !bJ dM 0 1048576 then (0,1) else bif tys.any (fun t=> !dO t) then (0,10) else
 mM (fun x=> !dF code.length tys.length dM x) code
abbrev mH (op:Int):List Int:=kTab.getD op.toNat []
theorem known_in {op:Int} (h:dL op=true):0<=op/\op<17:=by simpa [dL] using h
theorem kRow_len {op:Int} (h0:0<=op) (h:op<17):(mH op).length=5:=opt_len _ (by omega)
theorem kRow_at {op:Int} {k:Nat} {x:Int} (h:(mH op)[k]? =some x):(List.map C.lit ((mH op).map fun n=>Value.int .i64 n))[((k:Int)).toNat]? =some (cI x):=by
 show (List.map C.lit ((mH op).map fun n=>Value.int .i64 n))[k]? =_
 rw [List.getElem?_map,List.getElem?_map,h];rfl
theorem filt_no {α:Type} {p:α->Bool} {l:List α} {k:Nat} {x:α} (h:l[k]? =some x) (hp:p x=false):(l.take (k+1)).filter p=(l.take k).filter p:=by
 rw [yC h,List.filter_append];simp [hp]
theorem filt_yes {α:Type} {p:α->Bool} {l:List α} {k:Nat} {x:α} (h:l[k]? =some x) (hp:p x=true):(l.take (k+1)).filter p=(l.take k).filter p++[x]:=by
 rw [yC h,List.filter_append];simp [hp]
theorem kinds_all {x:In} {k:Nat} (h:¬k<(mH x.Op).length):((mH x.Op).take k).filter (fun k=> !nG x k)=kinds x:=by
 rw [yA h];rfl
theorem zDs (t:Ty):decide (dE t=0)=dO t:=by
 unfold dE
 cases dO t<;>rfl
theorem skip_eq {x:In} {q:Int}:(decide (q=0)||((decide (q=6)&&decide (x.Op=12))&&decide (x.Val.N=8)))=nG x q:=rfl
theorem jmp_tab {op:Int} (h0:0<=op) (h:op<17):(mH op).any (fun k=>decide (k=7))=jR op:=by
 rcases (show op=0∨op=1∨op=2∨op=3∨op=4∨op=5∨op=6∨op=7∨op=8∨op=9∨op=10∨op=11∨op=12∨op=13∨op=14∨op=15∨op=16 by omega) with rfl|rfl|rfl|rfl|rfl|rfl|rfl|rfl|rfl|rfl|rfl|rfl|rfl|rfl|rfl|rfl|rfl<;>rfl
theorem jmp_out {op:Int} (h:dL op=false):jR op=false:=by
 simp only [dL,Bool.and_eq_false_iff,decide_eq_false_iff_not] at h
 simp [jR];omega
theorem in_lits (a b:In):bH a.cells b.cells=decide (a=b):=by
 rw [Bool.eq_iff_iff,decide_eq_true_eq,in_eq]
 simp [bH,cEq,In.cells,and_assoc]
theorem wf_yes {x:In} (hk:dL x.Op=true) (h1:(kinds x).all (fZ x)=true):decide ((kinds x).foldl (fun u k=>dG u x k) (in0 x.Op)=x)=wfP x:=by rw [wfP,hk,h1];rfl
theorem wf_no {x:In} {k:Nat} {q:Int} (hx:(kinds x)[k]? =some q) (h:fZ x q=false):wfP x=false:=by
 rw [wfP,show (kinds x).all (fZ x)=false from List.all_eq_false.2 ⟨q,qA hx,by simp [h]⟩];simp
theorem all_next {α:Type} {p:α->Bool} {l:List α} {k:Nat} {x:α} (h:l[k]? =some x) (hn:(l.take k).all p=true) (hp:p x=true):(l.take (k+1)).all p=true:=by
 rw [yC h,List.all_append,hn];simp [hp]
/-! ## Validity -/
theorem val1 {x:In} {m t w:Int} (h:wfP x=false):dF m t w x=false:=by rw [dF,←wf_fmd,h];rfl
theorem val2 {x:In} {m t w:Int} (h:wfP x=true) (hj:jR x.Op=true):decide (x.A<m)=dF m t w x:=by
 rw [dF,←wf_fmd,h,hj]
 simp only [jR,Bool.or_eq_true,decide_eq_true_eq] at hj
 rw [Bool.eq_iff_iff]
 simp;omega
theorem val3 {x:In} {m t w:Int} (h:wfP x=true) (hj:jR x.Op=false) (h3:x.Op=10∨x.Op=11):decide (x.C<=w)=dF m t w x:=by
 rw [dF,←wf_fmd,h,hj]
 rw [Bool.eq_iff_iff]
 simp;omega
theorem val4 {x:In} {m t w:Int} (h:wfP x=true) (hj:jR x.Op=false) (h4:x.Op=13):decide (x.Val.N<t)=dF m t w x:=by
 rw [dF,←wf_fmd,h,hj]
 rw [Bool.eq_iff_iff]
 simp;omega
theorem val5 {x:In} {m t w:Int} (h:wfP x=true) (hj:jR x.Op=false) (h3:¬(x.Op=10∨x.Op=11)) (h4:¬x.Op=13):dF m t w x=true:=by
 rw [dF,←wf_fmd,h,hj]
 simp;omega
theorem vld1 {code:List In} {tys:List Ty} {w:Int} (h:(65536:Int)<code.length):vld code tys w=(0,2):=by rw [vld,decide_eq_true h];rfl
theorem vld2 {code:List In} {tys:List Ty} {w:Int} (h:¬(65536:Int)<code.length) (h2:bJ w 0 1048576=false):vld code tys w=(0,1):=by rw [vld,yV h,h2];rfl
theorem vld3 {code:List In} {tys:List Ty} {w:Int} (h:¬(65536:Int)<code.length) (h2:bJ w 0 1048576=true) {t:Ty} {k:Nat} (ht:tys[k]? =some t) (h3:dO t=false):vld code tys w=(0,10):=by
 rw [vld,yV h,h2,show tys.any (fun t=> !dO t)=true from List.any_eq_true.2 ⟨t,qA ht,by simp [h3]⟩];rfl
theorem vldF {code:List In} {tys:List Ty} {w:Int} (h:¬(65536:Int)<code.length) (h2:bJ w 0 1048576=true) (h3:tys.any (fun t=> !dO t)=false):vld code tys w=mM (fun x=> !dF code.length tys.length w x) code:=by rw [vld,yV h,h2,h3];rfl
theorem firstBad_at {α:Type} {p:α->Bool} {l:List α} {k:Nat} {x:α} (h:l[k]? =some x) (hp:p x=true) (hn:(l.take k).any p=false):mM p l=((k:Int),25):=by
 rw [mM,zDq h hp hn,yV (by omega)];rfl
theorem zSr {α:Type} {p:α->Bool} {l:List α} {k:Nat} (hk:¬k<l.length) (hn:(l.take k).any p=false):mM p l=(0,0):=by
 rw [yA hk] at hn
 rw [mM,zBb hn];rfl
end Go.Br
end
section
namespace Go.Br
open Go Go.Eng Go.L41
/-! ## Instructions that are valid -/
abbrev rg (n:Int):Prop:=0<=n/\n<=255
abbrev nm (n:Int):Prop:= -2147483647<=n/\n<=2147483647
theorem ok_1 {m t w a b:Int} (h1:rg a) (h2:nm b):dF m t w (iN 1 a b 0)=true:=by
 show dF m t w ⟨1,a,b,0,⟨0,0⟩,⟨0,0,0,0,0⟩⟩=true
 exact k8
theorem ok_3 {m t w a b c:Int} (h1:rg a) (h2:rg b) (h3:rg c):dF m t w (iN 3 a b c)=true:=by
 show dF m t w ⟨3,a,b,c,⟨0,0⟩,⟨0,0,0,0,0⟩⟩=true
 exact k8
theorem ok_4 {m t w a b c:Int} (h1:rg a) (h2:rg b) (h3:nm c):dF m t w (iN 4 a b c)=true:=by
 show dF m t w ⟨4,a,b,c,⟨0,0⟩,⟨0,0,0,0,0⟩⟩=true
 exact k8
theorem ok_5 {m t w a b c:Int} (h1:rg a) (h2:rg b) (h3:rg c):dF m t w (iN 5 a b c)=true:=by
 show dF m t w ⟨5,a,b,c,⟨0,0⟩,⟨0,0,0,0,0⟩⟩=true
 exact k8
theorem ok_6 {m t w a b c:Int} (h1:rg a) (h2:rg b) (h3:rg c):dF m t w (iN 6 a b c)=true:=by
 show dF m t w ⟨6,a,b,c,⟨0,0⟩,⟨0,0,0,0,0⟩⟩=true
 exact k8
theorem ok_0 {m t w:Int}:dF m t w (iN 0 0 0 0)=true:=by
 show dF m t w ⟨0,0,0,0,⟨0,0⟩,⟨0,0,0,0,0⟩⟩=true
 simp [dF,fmd,dL,lU,lT,opTab,fM,vaB,gB,jR,zAc,zAs,zTy,fG]
theorem ok_7 {m t w a:Int} (h1:0<=a) (h2:a<m) (hm:m<=65536):dF m t w (iN 7 a 0 0)=true:=by
 show dF m t w ⟨7,a,0,0,⟨0,0⟩,⟨0,0,0,0,0⟩⟩=true
 exact k8
theorem ok_8 {m t w a b c:Int} (h1:0<=a) (h2:a<m) (hm:m<=65536) (h3:rg b) (h4:rg c):dF m t w (iN 8 a b c)=true:=by
 show dF m t w ⟨8,a,b,c,⟨0,0⟩,⟨0,0,0,0,0⟩⟩=true
 exact k8
theorem ok_9 {m t w a:Int} {v:Vl} (h1:rg a) (h2:jV v=true):dF m t w ⟨9,a,0,0,v,zTy⟩=true:=by
 show dF m t w ⟨9,a,0,0,v,⟨0,0,0,0,0⟩⟩=true
 simp [dF,fmd,dL,lU,lT,opTab,fM,vaB,gB,jR,zAc,zAs,zTy,fG,h2];omega
theorem ok_10 {m t w a b f c:Int} (h1:rg a) (h2:rg b) (h3:0<=f) (h4:f<=c) (h5:c<=w) (h6:w<=1048576):dF m t w (iA 10 a b f c)=true:=by
 show dF m t w ⟨10,a,b,c,⟨f,1⟩,⟨0,0,0,0,0⟩⟩=true
 simp [dF,fmd,dL,lU,lT,opTab,fM,vaB,gB,jR,pU,zAc,zAs,zTy,fG];omega
theorem ok_11 {m t w a b f c:Int} (h1:rg a) (h2:rg b) (h3:0<=f) (h4:f<=c) (h5:c<=w) (h6:w<=1048576):dF m t w (iA 11 a b f c)=true:=by
 show dF m t w ⟨11,a,b,c,⟨f,1⟩,⟨0,0,0,0,0⟩⟩=true
 simp [dF,fmd,dL,lU,lT,opTab,fM,vaB,gB,jR,pU,zAc,zAs,zTy,fG];omega
theorem ok_12 {m t w k a b c:Int} {y:Ty} (hk:4<=k/\k<=10) (h1:rg a) (h2:rg b) (h3:rg c) (h4:k=8->c=0) (hy:dO y=true):dF m t w (iO 12 k a b c y)=true:=by
 show dF m t w ⟨12,a,b,c,⟨k,1⟩,y⟩=true
 simp [dF,fmd,dL,lU,lT,opTab,fM,vaB,gB,jR,pU,zAc,zAs,zTy,fG,hy];omega
theorem ok_13 {m t w k a b:Int} {y:Ty} (hk:0<=k/\k<=255) (hkt:k<t) (h1:rg a) (h2:rg b) (hy:dO y=true):dF m t w (iO 13 k a b 0 y)=true:=by
 show dF m t w ⟨13,a,b,0,⟨k,1⟩,y⟩=true
 simp [dF,fmd,dL,lU,lT,opTab,fM,vaB,gB,jR,pU,zAc,zAs,zTy,fG,hy];omega
theorem ok_14 {m t w k a b c:Int} {y:Ty} (hk:13<=k/\k<=15) (h1:0<=a) (h2:a<m) (hm:m<=65536) (h3:rg b) (h4:rg c) (hy:dO y=true):dF m t w (iO 14 k a b c y)=true:=by
 show dF m t w ⟨14,a,b,c,⟨k,1⟩,y⟩=true
 simp [dF,fmd,dL,lU,lT,opTab,fM,vaB,gB,jR,pU,zAc,zAs,zTy,fG,hy];omega
theorem ok_15 {m t w a b c:Int} (h1:rg a) (h2:rg b) (h3:1<=c/\c<=4096):dF m t w (iN 15 a b c)=true:=by
 show dF m t w ⟨15,a,b,c,⟨0,0⟩,⟨0,0,0,0,0⟩⟩=true
 exact k8
theorem ok_16 {m t w a b:Int} (h1:rg a) (h2:rg b):dF m t w (iN 16 a b 0)=true:=by
 show dF m t w ⟨16,a,b,0,⟨0,0⟩,⟨0,0,0,0,0⟩⟩=true
 exact k8
end Go.Br
end
section
namespace Go.Br
open Go Go.Eng Go.L41
structure VlG (g:Gn) (m w:Int):Prop where
 ok:g.Ok
 mm:m<=65536
 ww:w<=1048576
 tys:∀t,t∈g.ty->dO t=true
 tl:g.ty.length<=256
 slw:∀s,bP g.n.Bufs s=true->g.en s<=w
def vlP (g:Gn) (m w p:Int) (c:List In):Prop:=0<=p->p+c.length<m->∀x,x∈c->dF m g.ty.length w x=true
def vlA (g:Gn) (m w:Int) (c:List In):Prop:=∀x,x∈c->dF m g.ty.length w x=true
section
variable {g:Gn} {m w:Int}
theorem vlA.P {c:List In} (h:vlA g m w c) {p:Int}:vlP g m w p c:=fun _ _=>h
theorem zNh:vlA g m w []:=fun x hx=>by cases hx
theorem wK {x:In} {l:List In} (h:dF m g.ty.length w x=true) (h2:vlA g m w l):vlA g m w (x::l):=fun y hy=>by
 rcases List.mem_cons.1 hy with rfl|hy
 ·exact h
 ·exact h2 y hy
theorem zFh {x:In} (h:dF m g.ty.length w x=true):vlA g m w [x]:=wK h zNh
theorem zEg {a b:List In} (h:vlA g m w a) (h2:vlA g m w b):vlA g m w (a++b):=fun x hx=>by
 rcases List.mem_append.1 hx with hx|hx
 ·exact h x hx
 ·exact h2 x hx
theorem zHb {a b:List In} {p q:Int} (h:vlP g m w p a) (h2:vlP g m w q b) (e:q=p+a.length):vlP g m w p (a++b):=fun h0 hl x hx=>by
 rw [lenI] at hl
 rcases List.mem_append.1 hx with hx|hx
 ·exact h h0 (by omega) x hx
 ·exact h2 (by omega) (by omega) x hx
theorem vl_le {c:List In} {p:Int} (h:0<=p->p+c.length<m->vlA g m w c):vlP g m w p c:=fun h0 hl=>h h0 hl
/-! ## Numbers -/
theorem idxB_le (l:List ByteArray) (s:ByteArray):pV l s<=l.length:=by
 unfold pV
 split
 ·rename_i i h
  have:=(List.findIdx?_eq_some_iff_getElem.1 h).1
  omega
 ·omega
theorem fitN_nm {n:Int} (h:rP n=true):nm n:=by simp [rP] at h;omega
theorem vl_frm {L:List ByteArray} (hL:L.length<=100) {f:Lf} (hf:mL f=true) (hs:jS L f=true) {r:Int} (hr:rg r):vlA g m w (rN L f r):=by
 simp only [mL,Bool.and_eq_true,List.all_eq_true] at hf
 simp only [jS,List.all_eq_true] at hs
 unfold rN
 refine wK (ok_1 hr (fitN_nm hf.1)) fun x hx=>?_
 obtain ⟨y,hy,hm⟩:=List.mem_flatMap.1 hx
 have h1:=idxB_le L y.Name
 have h2:0<=pV L y.Name:=of_decide_eq_true ((idxB_has L y.Name).trans (hs y hy))
 exact (wK (ok_4 (show rg 103 from ⟨by omega,by omega⟩) (show rg _ from ⟨h2,by omega⟩) (fitN_nm (hf.2 y hy))) (zFh (ok_3 hr hr (show rg 103 from ⟨by omega,by omega⟩)))) x hm
theorem dim_le {d:List Int} (h:bX d=0) {j:Nat} (hj:j<d.length):1<=d.getD j 0/\d.getD j 0<=dJ d/\1<=(mF d).getD j 0/\(mF d).getD j 0<=4096:=by
 have hx:=zMf hj
 have h0:=zEo h 0
 have h1:=zEo h j
 have h2:=zEo h (j+1)
 rw [List.drop_zero] at h0
 have hp:=zLq hx
 have h3:(mF d).getD j 0=dN (d.drop (j+1)):=by
  unfold mF;rw [if_pos h,List.getD_eq_getElem?_getD,strF_get hx];rfl
 have hpos:1<=d.getD j 0:=by
  have:=(zDw h).2.1
  rw [List.all_eq_true] at this
  have:=this _ (qA hx)
  simpa [lF] using this
 have h4:d.getD j 0<=dN (d.drop j):=by rw [hp];have q:=Int.mul_le_mul_of_nonneg_left h2.2.2.1 (show 0<=d.getD j 0 by omega);omega
 have h5:∀k:Nat,k<=d.length->dN (d.drop k)<=dN d:=by
  intro k
  induction k with
  |zero=>intro _;exact Int.le_refl _
  |succ k ih=>
   intro hk
   have hy:=zMf (d:=d) (j:=k) (by omega)
   have q:=zLq hy
   have hpy:1<=d.getD k 0:=by
    have:=(zDw h).2.1
    rw [List.all_eq_true] at this
    simpa [lF] using this _ (qA hy)
   have q2:=zEo h (k+1)
   have q3:dN (d.drop (k+1))<=d.getD k 0*dN (d.drop (k+1)):=by have q:=Int.mul_le_mul_of_nonneg_right hpy (show 0<=dN (d.drop (k+1)) by omega);omega
   have:=ih (by omega)
   omega
 have h6:=h5 j (by omega)
 rw [h0.2.1]
 exact ⟨hpos,by omega,by rw [h3];exact h2.2.2.1,by rw [h3];exact h2.2.2.2⟩
end
section
variable {g:Gn} {m w:Int}
theorem vl_lod (hG:VlG g m w) {s:ByteArray} (hs:bP g.n.Bufs s=true) {r:Int} (hr:rg r) {j:Nat} (hj:j<(g.dm s).length):vlA g m w (tI (g.dm s) r j):=by
 obtain ⟨h1,h2,h3,h4,h5,h6,h7⟩:=hG.ok.plc hs
 have hd:=dim_le h6 hj
 have he:=hG.slw s hs
 have e:g.en s=g.bs_ s+(slD g.sl s).Len:=rfl
 unfold tI
 split
 ·exact zFh (ok_10 ⟨by omega,by omega⟩ hr (Int.le_refl 0) (by omega) (by omega) hG.ww)
 ·exact zNh
theorem vl_ld (hG:VlG g m w) {s:ByteArray} (hs:bP g.n.Bufs s=true) {r x:Int} (hr:rg r) (hx:rg x):dF m g.ty.length w (iA 10 r x (g.bs_ s) (g.en s))=true:=by
 obtain ⟨h1,h2,h3,h4,h5,h6,h7⟩:=hG.ok.plc hs
 have he:=hG.slw s hs
 have e:g.en s=g.bs_ s+(slD g.sl s).Len:=rfl
 exact ok_10 hr hx h2 (by omega) he hG.ww
theorem vl_sr (hG:VlG g m w) {s:ByteArray} (hs:bP g.n.Bufs s=true) {r x:Int} (hr:rg r) (hx:rg x):dF m g.ty.length w (iA 11 r x (g.bs_ s) (g.en s))=true:=by
 obtain ⟨h1,h2,h3,h4,h5,h6,h7⟩:=hG.ok.plc hs
 have he:=hG.slw s hs
 have e:g.en s=g.bs_ s+(slD g.sl s).Len:=rfl
 exact ok_11 hr hx h2 (by omega) he hG.ww
theorem vl_base (hG:VlG g m w) {s:ByteArray} (hs:bP g.n.Bufs s=true) {x:Int} (hx:rg x):dF m g.ty.length w (iN 1 x (g.bs_ s) 0)=true:=by
 obtain ⟨h1,h2,h3,_⟩:=hG.ok.plc hs
 exact ok_1 hx ⟨by omega,by omega⟩
theorem vl_two {a b c d e f:Int} (h1:rg a) (h2:rg b) (h3:nm c) (h4:rg d) (h5:rg e) (h6:rg f):vlA g m w [iN 4 a b c,iN 3 d e f]:=wK (ok_4 h1 h2 h3) (zFh (ok_3 h4 h5 h6))
theorem vl_mapI {α:Type} {f:Nat->α->List In} {l:List α} (h:∀(k:Nat) x,l[k]? =some x->vlA g m w (f k x)):vlA g m w (gK f 0 l):=fun y hy=>by
 obtain ⟨k,x,hk,hx⟩:=zLx.1 hy
 rw [Nat.zero_add] at hx
 exact h k x hk y hx
theorem r100:rg 100:=⟨by omega,by omega⟩
theorem r101:rg 101:=⟨by omega,by omega⟩
theorem r104:rg 104:=⟨by omega,by omega⟩
theorem r105:rg 105:=⟨by omega,by omega⟩
theorem r254:rg 254:=⟨by omega,by omega⟩
theorem vl_gat (hG:VlG g m w) {L:List ByteArray} (hL:L.length<=100) {x:Ix} (h:RdI g L x) (hf:¬x.From=bs []) (hx:nY x=true) {ext:Int} (he:1<=ext/\ext<=4096):vlA g m w (vU g L x ext):=by
 obtain ⟨h1,h2,h3⟩:=h.2 hf
 have h6:=(hG.ok.plc h1).2.2.2.2.2.1
 simp only [nY,Bool.and_eq_true,List.all_eq_true] at hx
 unfold vU
 refine zEg (wK (vl_base hG h1 r104) (vl_mapI fun k y hk=>?_)) (wK (vl_ld hG h1 r254 r104) (zFh (ok_15 r101 r254 he)))
 have hj:k<(g.dm x.From).length:=by rw [h2];exact zAf hk
 have hd:=dim_le h6 hj
 unfold atC
 exact zEg (zEg (vl_frm hL (hx.2 y (qA hk)) (h3 y (qA hk)) r105) (vl_lod hG h1 r105 hj)) (vl_two r105 r105 ⟨by omega,by omega⟩ r104 r104 r105)
theorem vl_adr (hG:VlG g m w) {L:List ByteArray} (hL:L.length<=100) {s:ByteArray} {idx:List Ix} (hs:bP g.n.Bufs s=true) (hl:(g.dm s).length=idx.length) (h:∀x,x∈idx->RdI g L x) (hx:∀x,x∈idx->nY x=true):vlA g m w (xA g L s idx):=by
 have h6:=(hG.ok.plc hs).2.2.2.2.2.1
 unfold xA
 refine wK (vl_base hG hs r100) (vl_mapI fun k x hk=>?_)
 have hj:k<(g.dm s).length:=by rw [hl];exact zAf hk
 have hd:=dim_le h6 hj
 have hxm:=qA hk
 unfold axC
 refine zEg ?_ (vl_two r101 r101 ⟨by omega,by omega⟩ r100 r100 r101)
 split
 ·rename_i hf
  have hfx:=hx x hxm
  simp only [nY,Bool.and_eq_true] at hfx
  exact zEg (vl_frm hL hfx.1 ((h x hxm).1 hf) r101) (vl_lod hG hs r101 hj)
 ·rename_i hf
  exact vl_gat hG hL (h x hxm) hf (hx x hxm) ⟨hd.1,by have:=zTg (g.dm s);omega⟩
/-! ## Expressions -/
theorem depE_ge {f:Ex->Int}:∀(l:List Ex) (d:Int),d<=pP f d l/\∀a,a∈l->1+f a<=pP f d l
 |[],d=>⟨Int.le_refl d,fun a ha=>by cases ha⟩
 |x::r,d=>by
  obtain ⟨h1,h2⟩:=depE_ge (f:=f) r (max d (1+f x))
  rw [pP]
  refine ⟨by omega,fun a ha=>?_⟩
  rcases List.mem_cons.1 ha with rfl|ha
  ·omega
  ·exact h2 a ha
theorem dep_arg {n:Nat} {e:Ex} (h:gG n e<=n):∃n',n=n'+1/\∀a,a∈e.Args->gG n' a<=n':=by
 cases n with
 |zero=>rw [gG] at h;omega
 |succ n=>
  refine ⟨n,rfl,fun a ha=>?_⟩
  rw [gG] at h
  have:=(depE_ge (f:=gG n) e.Args 1).2 a ha
  omega
theorem val_fr {t:Ty} {v:Vl} (ht:dO t=true) (h:jG t v=true):jV v=true:=by
 have h1:(1:Int)<=v.D->jV v=true∨True:=fun _=>.inr trivial
 unfold jG at h
 by_cases c2:t.Kind=2
 ·rw [decide_eq_true c2,cond_true] at h
  simp only [Bool.and_eq_true,decide_eq_true_eq] at h
  have hb:2<=t.Bits/\t.Bits<=31:=by
   simp only [dO,Bool.or_eq_true,Bool.and_eq_true,decide_eq_true_eq] at ht;omega
  have h2:=half_le hb.1 hb.2
  simp only [jV,fG,Bool.and_eq_true,decide_eq_true_eq]
  refine ⟨⟨⟨by omega,by omega⟩,by omega,by omega⟩,by rw [h.1.1];simp⟩
 ·rw [decide_eq_false c2,cond_false] at h
  by_cases c3:t.Kind=3
  ·rw [decide_eq_true c3,cond_true] at h
   simp only [fG,Bool.and_eq_true,decide_eq_true_eq] at h
   simp only [jV,fG,Bool.and_eq_true,decide_eq_true_eq]
   refine ⟨⟨⟨by omega,by omega⟩,by omega,by omega⟩,by rw [h.1];simp⟩
  ·rw [decide_eq_false c3,cond_false] at h
   exact h
theorem idxOf_lt {α:Type} (q:α->Bool):∀l:List α,fX q l<l.length
 |[]=>by simp [fX]
 |x::r=>by
  have h:=idxOf_lt q r
  rw [fX,List.length_cons]
  cases q x with
  |true=>rw [cond_true];omega
  |false=>
   rw [cond_false]
   cases decide (fX q r= -1) with
   |true=>rw [cond_true];omega
   |false=>rw [cond_false];omega
theorem idxT_lt {l:List Ty} {t:Ty} (h:t∈l):vT l t<l.length:=idxOf_lt _ l
theorem ex_node {g:Gn} {L:List ByteArray} {e:Ex} (h:Rdy g L e):(e.Op=1∨e.Op=12->dO e.Ty=true)/\(e.Op=1->jV e.Val=true):=by
 obtain ⟨_,_,_,h4,h5⟩:=zJe (wY h.part)
 have ht:e.Op=1∨e.Op=12->dO e.Ty=true:=fun c=>by
  exact v41
 refine ⟨ht,fun c=>?_⟩
 simp only [jJ,Bool.and_eq_true,Bool.not_eq_true',Bool.and_eq_false_iff,decide_eq_false_iff_not,Bool.not_eq_false'] at h5
 rcases h5.1 with q|q
 ·exact absurd c q
 ·exact val_fr (ht (.inl c)) q
theorem vl_if {g0 g1 g2:G2} {p k b:Int} (hm:m<=65536) (hb:rg b) (hb2:rg (b+1)) (h0:∀p,vlP g m w p (g0.t p k b)) (h1:∀p,vlP g m w p (g1.v p k b)) (h2:∀p,vlP g m w p (g2.v p k b)):vlP g m w p (ifC g0 g1 g2 p k b):=fun hp hl x hx=>by
 unfold ifC at hl hx
 have a0:=h0 p
 generalize g0.t p k b=A at a0 hl hx
 have a1:=h1 (p+A.length+2)
 generalize g1.v (p+A.length+2) k b=B at a1 hl hx
 have a2:=h2 (p+A.length+2+B.length+1)
 generalize g2.v (p+A.length+2+B.length+1) k b=D at a2 hl hx
 simp only [List.length_append,List.length_cons,List.length_nil] at hl
 rcases List.mem_append.1 hx with hx|hx
 ·rcases List.mem_append.1 hx with hx|hx
  ·rcases List.mem_append.1 hx with hx|hx
   ·rcases List.mem_append.1 hx with hx|hx
    ·exact a0 hp (by omega) x hx
    ·exact (wK (ok_1 hb2 ⟨by omega,by omega⟩) (zFh (ok_8 (by omega) (by omega) hm hb hb2))) x hx
   ·exact a1 (by omega) (by omega) x hx
  ·exact (zFh (ok_7 (by omega) (by omega) hm)) x hx
 ·exact a2 (by omega) (by omega) x hx
theorem vl_bin {g0 g1:G2} {p k b:Int} (h0:∀p,vlP g m w p (g0.v p k b)) (h1:∀p,vlP g m w p (g1.v p (k+1) b)):vlP g m w p (sW g0 g1 p k b):=by
 unfold sW;exact zHb (h0 p) (h1 _) rfl
theorem vl_and {g0 g1:G2} {p k b:Int} (h0:∀p,vlP g m w p (g0.t p k b)) (h1:∀p,vlP g m w p (g1.t p k (b+1))):vlP g m w p (cG g0 g1 p k b):=by
 unfold cG;exact zHb (h0 p) (h1 _) rfl
theorem vl_tst {c:List In} {p k b o:Int} {t:Ty} (hm:m<=65536) (hk:rg k) (hk2:rg (k+1)) (hb:rg b) (ho:13<=o/\o<=15) (ht:dO t=true) (h:vlP g m w p c):vlP g m w p (c++[iN 1 b 0 0,iO 14 o (p+c.length+3) k (k+1) t,iN 1 b 1 0]):=fun hp hl x hx=>by
 simp only [List.length_append,List.length_cons,List.length_nil] at hl
 rcases List.mem_append.1 hx with hx|hx
 ·exact h hp (by omega) x hx
 ·exact (wK (ok_1 hb ⟨by omega,by omega⟩) (wK (ok_14 ho (by omega) (by omega) hm hk hk2 ht) (zFh (ok_1 hb ⟨by omega,by omega⟩)))) x hx
theorem vl_ex (hG:VlG g m w) {L:List ByteArray} (hL:L.length<=100) (e:Ex):Rdy g L e->nD e=true->∀n:Nat,gG n e<=n->
  (bC e=false->∀p k b:Int,0<=k->k+n<=200->0<=b->b+n<=200->vlP g m w p (fO g L e p k b))/\(bC e=true->∀p k b:Int,0<=k->k+n<=200->0<=b->b+n<=200->vlP g m w p (lS g L e p k b)):=by
 induction e using Ex.ind with
 |_ e ih=>
  intro h hf n hn
  obtain ⟨n',rfl,hd⟩:=dep_arg hn
  have hop:=zNr (wY h.part)
  obtain ⟨hty,hvl⟩:=ex_node h
  have hf0:=hf
  rw [zSq] at hf0
  simp only [Bool.and_eq_true,List.all_eq_true] at hf0
  obtain ⟨⟨f1,f2⟩,f3⟩:=hf0
  have hsc:=nodeN_sc h.node
  simp only [gP,Bool.and_eq_true] at hsc
  have hkm:=fun (a:Ex) (hr:Rdy g L a) (hc:bC a=false)=>hG.tys _ (knd_mem hG.ok.ty a hr hc)
  refine ⟨fun hc p k b hk hkn hb hbn=>?_,fun hc p k b hk hkn hb hbn=>?_⟩
  ·have h13:¬13<=e.Op:=fun c=>by rw [isC_op.2 ⟨c,hop.2⟩] at hc;cases hc
   have rk:rg k:=⟨hk,by omega⟩
   have rk1:rg (k+1):=⟨by omega,by omega⟩
   by_cases c1:e.Op=1
   ·rw [val_1 c1];exact vlA.P (zFh (ok_9 rk (hvl c1)))
   by_cases c2:e.Op=2
   ·rw [val_2 c2];exact vlA.P (zEg (vl_frm hL f1 hsc.1 r101) (zFh (ok_16 rk r101)))
   by_cases c3:e.Op=3
   ·obtain ⟨q1,q2,q3⟩:=h.read c3
    rw [val_3 c3];exact vlA.P (zEg (vl_adr hG hL q1 q2 q3 f2) (zFh (vl_ld hG q1 rk r100)))
   by_cases c8:e.Op=8
   ·obtain ⟨a,ha,hr,hca⟩:=h.args1 (.inl c8)
    have hca':bC a=false:=by rw [hca,c8];rfl
    have ham:a∈e.Args:=by rw [ha];simp
    rw [val_8 c8 ha]
    exact zHb ((ih a ham hr (f3 a ham) n' (hd a ham)).1 hca' _ _ _ hk (by omega) hb (by omega)) (vlA.P (zFh (ok_12 ⟨by omega,by omega⟩ rk rk ⟨by omega,by omega⟩ (fun _=>rfl) (hkm a hr hca')))) rfl
   by_cases c12:e.Op=12
   ·obtain ⟨a,ha,hr,hca⟩:=h.args1 (.inr (.inl c12))
    have hca':bC a=false:=by rw [hca,c12];rfl
    have ham:a∈e.Args:=by rw [ha];simp
    have hmem:=knd_mem hG.ok.ty a hr hca'
    have q1:=hasT_Index hmem
    have q2:=idxT_lt hmem
    have q3:=hG.tl
    rw [val_12 c12 ha]
    exact zHb ((ih a ham hr (f3 a ham) n' (hd a ham)).1 hca' _ _ _ hk (by omega) hb (by omega)) (vlA.P (zFh (ok_13 ⟨q1,by omega⟩ q2 rk rk (hty (.inr c12))))) rfl
   by_cases c11:e.Op=11
   ·obtain ⟨a,c,d,ha,⟨r1,k1⟩,⟨r2,k2⟩,⟨r3,k3⟩⟩:=h.args3 c11
    have m1:a∈e.Args:=by rw [ha];simp
    have m2:c∈e.Args:=by rw [ha];simp
    have m3:d∈e.Args:=by rw [ha];simp
    rw [val_11 c11 ha]
    exact vl_if hG.mm ⟨hb,by omega⟩ ⟨by omega,by omega⟩ (fun p=>(ih a m1 r1 (f3 a m1) n' (hd a m1)).2 k1 p _ _ hk (by omega) hb (by omega)) (fun p=>(ih c m2 r2 (f3 c m2) n' (hd c m2)).1 k2 p _ _ hk (by omega) hb (by omega)) (fun p=>(ih d m3 r3 (f3 d m3) n' (hd d m3)).1 k3 p _ _ hk (by omega) hb (by omega))
   obtain ⟨a,c,ha,⟨r1,k1⟩,⟨r2,k2⟩⟩:=h.args2 (by omega) (by omega) c11
   have k0:decide (e.Op=16∨e.Op=17)=false:=decide_eq_false (by omega)
   have m1:a∈e.Args:=by rw [ha];simp
   have m2:c∈e.Args:=by rw [ha];simp
   rw [val_o c1 c2 c3 c8 c12 c11 ha]
   exact zHb (vl_bin (fun p=>(ih a m1 r1 (f3 a m1) n' (hd a m1)).1 (by rw [k1,k0]) p _ _ hk (by omega) hb (by omega)) (fun p=>(ih c m2 r2 (f3 c m2) n' (hd c m2)).1 (by rw [k2,k0]) p _ _ (by omega) (by omega) hb (by omega)))
    (vlA.P (zFh (ok_12 ⟨by omega,by omega⟩ rk rk rk1 (fun c=>absurd c c8) (hkm a r1 (by rw [k1,k0]))))) rfl
  ·have h13:=isC_op.1 hc
   have rb:rg b:=⟨hb,by omega⟩
   have rb1:rg (b+1):=⟨by omega,by omega⟩
   by_cases c18:e.Op=18
   ·obtain ⟨a,ha,hr,hca⟩:=h.args1 (.inr (.inr c18))
    have ham:a∈e.Args:=by rw [ha];simp
    rw [tst_18 c18 ha]
    exact zHb ((ih a ham hr (f3 a ham) n' (hd a ham)).2 (by rw [hca,c18];rfl) _ _ _ hk (by omega) hb (by omega)) (vlA.P (wK (ok_4 rb rb ⟨by omega,by omega⟩) (wK (ok_1 rb1 ⟨by omega,by omega⟩) (zFh (ok_3 rb rb rb1))))) rfl
   obtain ⟨a,c,ha,⟨r1,k1⟩,⟨r2,k2⟩⟩:=h.args2 (by omega) (by omega) (by omega)
   have m1:a∈e.Args:=by rw [ha];simp
   have m2:c∈e.Args:=by rw [ha];simp
   by_cases c16:e.Op=16∨e.Op=17
   ·have k0:decide (e.Op=16∨e.Op=17)=true:=decide_eq_true c16
    rw [tst_a c16 ha]
    refine zHb (vl_and (fun p=>(ih a m1 r1 (f3 a m1) n' (hd a m1)).2 (by rw [k1,k0]) p _ _ hk (by omega) hb (by omega)) (fun p=>(ih c m2 r2 (f3 c m2) n' (hd c m2)).2 (by rw [k2,k0]) p _ _ hk (by omega) (by omega) (by omega))) (vlA.P (zFh ?_)) rfl
    split
    ·exact ok_6 rb rb rb1
    ·exact ok_5 rb rb rb1
   ·have k0:decide (e.Op=16∨e.Op=17)=false:=decide_eq_false c16
    rw [tst_o c18 c16 ha]
    exact vl_tst hG.mm ⟨hk,by omega⟩ ⟨by omega,by omega⟩ rb ⟨by omega,by omega⟩ (hkm a r1 (by rw [k1,k0])) (vl_bin (fun p=>(ih a m1 r1 (f3 a m1) n' (hd a m1)).1 (by rw [k1,k0]) p _ _ hk (by omega) hb (by omega)) (fun p=>(ih c m2 r2 (f3 c m2) n' (hd c m2)).1 (by rw [k2,k0]) p _ _ (by omega) (by omega) hb (by omega)))
end
end Go.Br
end
section
namespace Go.Br
open Go Go.Eng Go.L41
/-! ## What a valid nest's expressions are like -/
def tyX (e:Ex):Prop:=∀x,x∈bF e->(x.Op=1∨x.Op=12)->dO x.Ty=true
mutual
def gdS:St->Prop
 |.mk o _ _ _ _ _ e b=>((2<=o->gG 40 e<=40)/\tyX e)/\rM b
def rM:List St->Prop
 |[]=>True
 |s::r=>gdS s/\rM r
end
theorem gdS_eq (s:St):gdS s=(((2<=s.Op->gG 40 s.E<=40)/\tyX s.E)/\rM s.Body):=by cases s;rw [gdS];rfl
theorem gdSs_mem:∀{l:List St} {s:St},rM l->s∈l->gdS s
 |a::r,s,h,hs=>by
  rw [rM] at h
  rcases List.mem_cons.1 hs with rfl|hs
  ·exact h.1
  ·exact gdSs_mem h.2 hs
theorem validE_dep {e:Ex} (h:fQ e=0):gG 40 e<=40:=by
 unfold fQ at h
 by_cases h1:40<gG 40 e
 ·rw [zAh h1] at h;simp at h
 ·omega
theorem part_tyX {e:Ex} (h:fN e=0):tyX e:=fun x hx c=>by
 have h4:=(zJe (errsL_mem h x hx)).2.2.2.1
 exact v41
theorem stE_gd {B:List Bf} {U sc:List ByteArray} {s:St} (h:stE B U sc s=0):(2<=s.Op->gG 40 s.E<=40)/\tyX s.E:=by
 have hs:fE s=true:=by
  cases c:fE s with
  |true=>rfl
  |false=>rw [stE_5 c] at h;cases h
 have hs0:=hs
 unfold fE fU at hs0
 simp only [Bool.and_eq_true,Bool.or_eq_true,Bool.not_eq_true',Bool.and_eq_false_iff,Bool.or_eq_false_iff,Bool.not_eq_false',decide_eq_true_eq,decide_eq_false_iff_not] at hs0
 obtain ⟨⟨⟨⟨⟨⟨a1,a2⟩,a3⟩,a4⟩,a5⟩,a6⟩,a7⟩:=hs0
 by_cases h1:s.Op=1
 ·refine ⟨fun c=>by omega,?_⟩
  have he:s.E=zEx:=by
   rcases a6 with q|q
   ·exact absurd h1 q
   ·exact of_decide_eq_true q
  rw [he]
  intro x hx c
  have e1:bF zEx=[zEx]:=by rw [wO];rfl
  rw [e1,List.mem_singleton] at hx
  subst hx
  have e2:zEx.Op=0:=rfl
  omega
 ·have key:(bW B sc s.E).2=0:=by
   by_cases h4:s.Op=4
   ·rw [stE_i hs h4] at h
    unfold ifE at h
    by_cases c:(bW B sc s.E).2=0
    ·exact c
    ·rw [if_neg c] at h;exact absurd h c
   ·rw [stE_s hs h1 h4] at h
    unfold gO at h
    by_cases c:(bW B sc (rdE s)).2=0
    ·rw [if_pos c] at h
     split at h
     ·cases h
     ·by_cases c2:(bW B sc s.E).2=0
      ·exact c2
      ·rw [if_neg c2] at h;exact absurd h c2
    ·rw [if_neg c] at h;exact absurd h c
  have hv:=(zKx key).1
  exact ⟨fun _=>validE_dep hv,part_tyX (zFq hv)⟩
mutual
theorem chkS_gd {B:List Bf}:∀(s:St) (U sc:List ByteArray) (here:List Int),(lB B U sc here s).E=0->gdS s
 |.mk o nm mn mk fo i e b,U,sc,here,h=>by
  have h0:stE B U sc (.mk o nm mn mk fo i e b)=0:=by
   by_cases c:stE B U sc (.mk o nm mn mk fo i e b)=0
   ·exact c
   ·rw [chkS_no c] at h;exact absurd h c
  rw [chkS_in h0] at h
  rw [gdS]
  exact ⟨stE_gd h0,chkL_gd b _ _ _ _ h⟩
theorem chkL_gd {B:List Bf}:∀(l:List St) (U sc:List ByteArray) (way:List Int) (i:Int),(dR B U sc way i l).E=0->rM l
 |[],_,_,_,_,_=>by rw [rM];trivial
 |s::r,U,sc,way,i,h=>by
  have h0:(lB B U sc (way++[i]) s).E=0:=by
   by_cases c:(lB B U sc (way++[i]) s).E=0
   ·exact c
   ·rw [dR,if_neg c] at h;exact absurd h c
  rw [dR,if_pos h0] at h
  rw [rM]
  exact ⟨chkS_gd s _ _ _ h0,chkL_gd r _ _ _ _ h⟩
end
/-! ## Types -/
def tyA (l:List Ty):Prop:=∀t,t∈l->dO t=true
theorem adT_ok {l:List Ty} {t:Ty} (h:tyA l) (ht:dO t=true):tyA (adT l t):=fun x hx=>by
 unfold adT at hx
 split at hx
 ·exact h x hx
 ·rcases List.mem_append.1 hx with hx|hx
  ·exact h x hx
  ·rw [List.mem_singleton.1 hx];exact ht
mutual
theorem exTy_ok:∀(e:Ex) (l:List Ty),tyA l->tyX e->tyA (mN e l)
 |.mk o n v t lf i av,l,h,he=>by
  rw [mN]
  refine exTyL_ok av _ ?_ fun a ha=>fun x hx=>he x (by rw [wO];exact List.mem_cons_of_mem _ (zSa ha hx))
  have h0:=he (.mk o n v t lf i av) (by rw [wO];simp)
  unfold gR
  split
  ·rename_i c;exact adT_ok h (h0 c)
  ·split
   ·exact adT_ok h rfl
   ·exact h
theorem exTyL_ok:∀(av:List Ex) (l:List Ty),tyA l->(∀a,a∈av->tyX a)->tyA (fK av l)
 |[],l,h,_=>h
 |a::r,l,h,he=>by
  rw [fK]
  exact exTyL_ok r _ (exTy_ok a l h (he a (by simp))) fun b hb=>he b (by simp [hb])
end
mutual
theorem stTy_ok:∀(s:St) (l:List Ty),tyA l->gdS s->tyA (pL s l)
 |.mk o nm mn mk fo i e b,l,h,hs=>by
  rw [gdS] at hs
  rw [pL];exact stTyL_ok b _ (exTy_ok e l h hs.1.2) hs.2
theorem stTyL_ok:∀(ss:List St) (l:List Ty),tyA l->rM ss->tyA (fR ss l)
 |[],l,h,_=>h
 |s::r,l,h,hs=>by
  rw [rM] at hs
  rw [fR];exact stTyL_ok r _ (stTy_ok s l h hs.1) hs.2
end
theorem bfTy_ok:∀(B:List Bf) (l:List Ty),tyA l->(∀b,b∈B->dO b.T=true)->tyA (B.foldl (fun l b=>adT l b.T) l)
 |[],l,h,_=>h
 |b::r,l,h,hb=>by rw [List.foldl_cons];exact bfTy_ok r _ (adT_ok h (hb b (by simp))) fun c hc=>hb c (by simp [hc])
theorem bfErr_ty {seen:List Bf} {b:Bf} (h:gQ seen b=0):dO b.T=true:=by
 unfold gQ at h
 split at h
 ·split at h
  ·cases h
  ·split at h
   ·assumption
   ·cases h
 ·cases h
theorem typN_ok {n:Ns} (h:(bZ n).2=0):tyA (jA n):=by
 have hb:=(zNj h).1
 refine stTyL_ok n.Body _ (bfTy_ok n.Bufs [] (fun t ht=>by cases ht) fun b hbm=>?_) (chkL_gd _ _ _ _ _ (zKh h).2.2.2)
 obtain ⟨i,hi,rfl⟩:=List.getElem_of_mem hbm
 exact bfErr_ty (bufs_in hb i _ (List.getElem?_eq_getElem hi))
/-! ## Statements -/
section
variable {g:Gn} {m w:Int}
theorem vl_seq {pos:Int}:∀{l:List (Int->List In)} {a:List In},vlP g m w pos a->(∀f,f∈l->∀p,vlP g m w p (f p))->vlP g m w pos (l.foldl (fun a f=>a++f (pos+a.length)) a)
 |[],a,h,_=>h
 |f::r,a,h,h2=>vl_seq (l:=r) (zHb h (h2 f (by simp) _) rfl) fun q hq=>h2 q (by simp [hq])
theorem vl_rpt {a x n:Int} (hm:m<=65536) (ha:0<=a) (ham:a<m) (hx:rg x) (hn:nm n):vlA g m w (tF a x n):=by
 unfold tF
 exact wK (ok_1 r101 ⟨by omega,by omega⟩) (wK (ok_3 hx hx r101) (wK (ok_1 ⟨by omega,by omega⟩ hn) (zFh (ok_8 ha ham hm hx ⟨by omega,by omega⟩))))
theorem vl_unr {c:Int->List In} {d p:Int} (h:∀p,vlP g m w p (c p)) (hd:rg d):∀k:Nat,k<=65536->vlP g m w p (mE c d p k)
 |0,_=>vlA.P zNh
 |k+1,hk=>by
  rw [mE]
  refine zHb (vl_unr h hd k (by omega)) (q:=p+(mE c d p k).length) ?_ rfl
  exact zHb (a:=[iN 1 d k 0]) (vlA.P (zFh (ok_1 hd ⟨by omega,by omega⟩))) (h _) rfl
theorem opr_rg (f:Int):4<=rK f/\rK f<=10/\rK f≠8:=by unfold rK;split<;>(try split)<;>(try split)<;>omega
theorem vl_sto (hG:VlG g m w) {L:List ByteArray} (hL:L.length<=100) {s:St} (h1:Rdy g L s.E) (h2:bC s.E=false) (h3:Rdy g L (rdE s)) (hf:nD s.E=true) (hi:∀x,x∈s.Idx->nY x=true) (hd:gG 40 s.E<=40) (p:Int):vlP g m w p (tE g L s p):=by
 obtain ⟨q1,q2,q3⟩:=h3.read rfl
 have e1:(rdE s).Name=s.Name:=rfl
 have e2:(rdE s).Idx=s.Idx:=rfl
 rw [e1] at q1 q2
 rw [e2] at q2 q3
 have ho:=opr_rg s.Fold
 have r0:rg 0:=⟨by omega,by omega⟩
 have r1:rg 1:=⟨by omega,by omega⟩
 unfold tE
 refine zHb (zHb ((vl_ex hG hL s.E h1 hf 40 hd).1 h2 _ _ _ (by omega) (by omega) (by omega) (by omega)) (vlA.P (vl_adr hG hL q1 q2 q3 hi)) rfl) (vlA.P ?_) rfl
 have htb:dO (dI g.n.Bufs s.Name).T=true:=hG.tys _ (hG.ok.ty _ (zQm q1).1)
 split
 ·exact wK (vl_ld hG q1 r1 r100) (wK (ok_12 ⟨ho.1,ho.2.1⟩ r1 r1 r0 (fun c=>absurd c ho.2.2) htb) (zFh (vl_sr hG q1 r1 r100)))
 ·exact zFh (vl_sr hG q1 r0 r100)
theorem vl_st (hG:VlG g m w) (s:St):∀(n:Nat) (L:List ByteArray),RdS g s L->gdS s->tS s=true->bV n s.Body=true->L.length+n<=90->∀p,vlP g m w p (stC g s L p):=by
 induction s using St.ind with
 |_ s ih=>
  intro n L h hg hf hw hL p
  rw [RdS_eq] at h
  rw [gdS_eq] at hg
  rw [fitT_eq] at hf
  simp only [Bool.and_eq_true,List.all_eq_true,fitTs_eq] at hf
  obtain ⟨h1,h4,h2,h0⟩:=h
  obtain ⟨⟨g1,_⟩,g2⟩:=hg
  obtain ⟨⟨f1,f2⟩,f3⟩:=hf
  have hb:∀L':List ByteArray,mX g s.Body L'->L'.length<=L.length+1->∀q,vlP g m w q (jB g s.Body L' q):=fun L' hL' hl q=>by
   cases n with
   |zero=>
    have hn:s.Body=[]:=List.isEmpty_iff.1 hw
    unfold jB
    rw [hn];exact vlA.P zNh
   |succ n=>
    rw [bV,List.all_eq_true] at hw
    unfold jB lE
    refine vl_seq (vlA.P zNh) fun f hfm r=>?_
    obtain ⟨a,ha,rfl⟩:=List.mem_map.1 hfm
    exact ih a ha n L' (zNe hL' ha) (gdSs_mem g2 ha) (f3 a ha) (hw a ha) (by omega) r
  have rd:rg (L.length:Int):=⟨by omega,by omega⟩
  rw [stC_eq]
  split
  ·rename_i c
   obtain ⟨⟨m1,m2⟩,hr⟩:=h1 c
   have hbb:=hb _ hr (by simp)
   split
   ·exact vl_unr hbb rd _ (by omega)
   ·unfold xL
    refine vl_le fun hp hl=>?_
    simp only [tF,List.length_append,List.length_cons,List.length_nil] at hl
    refine zEg (wK (ok_1 rd ⟨by omega,by omega⟩) (hbb _ (by omega) (by omega))) (vl_rpt hG.mm (by omega) (by omega) rd ⟨by omega,by omega⟩)
  ·rename_i c
   split
   ·rename_i c4
    obtain ⟨r1,r2,r3⟩:=h4 c4
    have hbb:=hb _ r3 (by omega)
    have hc:=(vl_ex hG (L:=L) (by omega) s.E r1 f2 40 (g1 (by omega))).2 r2 p 0 120 (by omega) (by omega) (by omega) (by omega)
    unfold vQ
    refine vl_le fun hp hl=>?_
    simp only [List.length_append,List.length_cons,List.length_nil] at hl
    refine zEg (zEg (hc hp (by omega)) (wK (ok_1 ⟨by omega,by omega⟩ ⟨by omega,by omega⟩) (zFh (ok_8 (by omega) (by omega) hG.mm ⟨by omega,by omega⟩ ⟨by omega,by omega⟩)))) (hbb _ (by omega) (by omega))
   ·rename_i c4
    obtain ⟨r1,r2,r3⟩:=h2 (by omega)
    exact vl_sto hG (by omega) r1 r2 r3 f2 f1 (g1 (by omega)) p
theorem vl_clr (hG:VlG g m w) {s:ByteArray} (hs:bP g.n.Bufs s=true) (p:Int):vlP g m w p (xN g s p):=by
 obtain ⟨h1,h2,h3,h4,h5,h6,h7⟩:=hG.ok.plc hs
 have e:g.en s=g.bs_ s+(slD g.sl s).Len:=rfl
 have r0:rg 0:=⟨by omega,by omega⟩
 unfold xN
 refine vl_le fun hp hl=>?_
 simp only [tF,List.length_append,List.length_cons,List.length_nil] at hl
 exact wK (ok_9 r0 (by decide)) (wK (vl_base hG hs r100) (wK (vl_sr hG hs r0 r100) (vl_rpt hG.mm (by omega) (by omega) r100 ⟨by omega,by omega⟩)))
theorem vl_top (hG:VlG g m w) (hr:mX g g.n.Body []) (hg:rM g.n.Body) (hf:jF g.n.Body=true) (hw:bV 40 g.n.Body=true) (lv:List Lifetime) (hm:m=(nB g lv).length):vlA g m w (nB g lv):=by
 rw [fitTs_eq,List.all_eq_true] at hf
 rw [bV,List.all_eq_true] at hw
 have key:vlP g m w 0 (lE 0 (gK (tA g lv) 0 g.n.Body)):=by
  unfold lE
  refine vl_seq (vlA.P zNh) fun f hfm p=>?_
  obtain ⟨i,s,hs,hfm⟩:=zLx.1 hfm
  unfold tA at hfm
  rcases List.mem_append.1 hfm with hfm|hfm
  ·obtain ⟨k,b,hb,hfm⟩:=zLx.1 hfm
   unfold vW at hfm
   split at hfm
   ·rw [List.mem_singleton.1 hfm];exact vl_clr hG (zQb hb rfl) p
   ·cases hfm
  ·rw [List.mem_singleton.1 hfm]
   have hsm:=qA hs
   exact vl_st hG s 39 [] (zNe hr hsm) (gdSs_mem hg hsm) (hf s hsm) (hw s hsm) (by simp) p
 have hl:(nB g lv).length=(lE 0 (gK (tA g lv) 0 g.n.Body)).length+1:=by unfold nB;rw [List.length_append];rfl
 unfold nB
 exact zEg (key (Int.le_refl 0) (by omega)) (zFh ok_0)
end
end Go.Br
end
section
namespace Go.Br
open Go Go.Eng Go.L41
def sepA (l:List Lifetime) (a:List Int):Prop:=∀(i j:Nat) (x y:Int),a[i]? =some x->a[j]? =some y->0<=x->0<=y->i≠j->jT (lfA l i) (lfA l j)=true->x+(lfA l i).Size<=y∨y+(lfA l j).Size<=x
theorem sep_new {l:List Lifetime} (hs:pS l) {a:List Int} (hl:a.length=l.length) {k j:Nat} {y:Int} (hj:a[j]? =some y) (hy:0<=y) (hne:j≠k) (ho:jT (lfA l j) (lfA l k)=true):
  pO l (jP l a) k+(lfA l k).Size<=y∨y+(lfA l j).Size<=pO l (jP l a) k:=by
 have hg:=zEt hl hj
 have hjl:j<l.length:=by rw [←hl];exact zAf hj
 have h1:=hs j hjl
 have e:slo (lfA l j) y=⟨(lfA l j).Name,y,(lfA l j).Size⟩:=by unfold slo;rw [if_neg (by omega)]
 rw [e] at hg
 have h2:=ffit_free l (jP l a) k _ (mem_bsy.2 ⟨j,hg,by show 0<(lfA l j).Size;omega,hne,ho⟩)
 simp only [hit] at h2
 omega
theorem sep_all {l:List Lifetime} (hs:pS l):∀t:Nat,t<=l.length->sepA l (plF l ((dV l).take t)).1
 |0,_=>by
  have e:plF l ((dV l).take 0)=(List.replicate l.length (-1),0):=rfl
  intro i j x y hi hj hx hy hne ho
  rw [e,List.getElem?_replicate] at hi
  split at hi
  ·rw [Option.some.injEq] at hi;omega
  ·cases hi
 |t+1,ht=>by
  have J:=plJ hs t (by omega)
  have S:=sep_all hs t (by omega)
  obtain ⟨k,hk⟩:∃k,(dV l)[t]? =some k:=⟨(dV l)[t]'(by rw [zDk];omega),List.getElem?_eq_getElem (by rw [zDk];omega)⟩
  have hl:=J.pl.len
  rw [zGo hk]
  unfold plS
  dsimp only
  intro i j x y hi hj hx hy hne ho
  rw [List.getElem?_set] at hi hj
  split at hi
  ·rename_i c
   subst c
   rw [if_neg hne] at hj
   split at hi
   ·rw [Option.some.injEq] at hi
    rw [←hi]
    have:=sep_new hs hl hj hy (Ne.symm hne) (by rw [Overlap_comm];exact ho)
    omega
   ·cases hi
  ·split at hj
   ·rename_i c c2
    subst c2
    split at hj
    ·rw [Option.some.injEq] at hj
     rw [←hj]
     have:=sep_new hs hl hi hx hne ho
     omega
    ·cases hj
   ·exact S i j x y hi hj hx hy hne ho
theorem plan_at {l:List Lifetime} (hs:pS l) {i:Nat} (hi:i<l.length):∃y,(plF l (dV l)).1[i]? =some y/\(fF l).1[i]? =some ⟨(lfA l i).Name,y,(lfA l i).Size⟩/\0<=y/\y+(lfA l i).Size<=(fF l).2:=by
 have J:=plJ hs l.length (Nat.le_refl _)
 have htk:(dV l).take l.length=dV l:=List.take_of_length_le (by rw [zDk];omega)
 have Jl:=J.pl;have Jy:=J.ys
 rw [htk] at Jl Jy
 obtain ⟨y,h1,h2,h3⟩:=Jy i ((zPy l).mem_iff.2 (List.mem_range.2 hi))
 refine ⟨y,h1,?_,h2,h3⟩
 show (jP l (plF l (dV l)).1)[i]? =_
 rw [zEt Jl.len h1]
 unfold slo
 rw [if_neg (by omega)]
theorem plan_words {l:List Lifetime} (hs:pS l):0<=(fF l).2/\(fF l).2<=4096*l.length:=by
 have J:=(plJ hs l.length (Nat.le_refl _)).sz
 have htk:(dV l).take l.length=dV l:=List.take_of_length_le (by rw [zDk];omega)
 rw [htk] at J
 exact J
theorem plan_len {l:List Lifetime} (hs:pS l):(fF l).1.length=l.length:=by
 have Jl:=(plJ hs l.length (Nat.le_refl _)).pl.len
 have htk:(dV l).take l.length=dV l:=List.take_of_length_le (by rw [zDk];omega)
 rw [htk] at Jl
 exact zDn Jl
def xG (a b:Sl):Bool:=((decide (0<a.Len)&&decide (0<b.Len))&&decide (a.At<b.At+b.Len))&&decide (b.At<a.At+a.Len)
structure ChA (l:List Lifetime) (S:List Sl) (W:Int):Prop where
 v:dW l=0
 len:l.length=S.length
 at_:∀(i:Nat) x s,l[i]? =some x->S[i]? =some s->s.Name=x.Name/\s.Len=x.Size/\0<=s.At/\s.At+s.Len<=W
 sz:∀x,x∈l->0<=x.Size/\x.Size<=4096
 ws:0<=W/\W<=1000000
 sep:∀(i k:Nat) x y s r,k<i->l[i]? =some x->l[k]? =some y->S[i]? =some s->S[k]? =some r->(jT y x&&xG r s)=false
theorem chA_plan {l:List Lifetime} (hv:dW l=0) (hl:l.length<=40):ChA l (fF l).1 (fF l).2:=by
 have hs:=zRd hv
 have hw:=plan_words hs
 refine ⟨hv,(plan_len hs).symm,fun i x s hx hsx=>?_,fun x hx=>?_,by omega,fun i k x y s r hki hx hy hsx hsy=>?_⟩
 ·obtain ⟨z,_,h1,h2,h3⟩:=plan_at hs (zAf hx)
  rw [h1,Option.some.injEq] at hsx
  rw [←hsx,←zGv hx]
  exact ⟨rfl,rfl,h2,h3⟩
 ·obtain ⟨i,hi,rfl⟩:=List.getElem_of_mem hx
  have:=hs i hi
  rw [zGv (List.getElem?_eq_getElem hi)] at this
  omega
 ·obtain ⟨z,q1,h1,h2,h3⟩:=plan_at hs (zAf hx)
  obtain ⟨z',q1',h1',h2',h3'⟩:=plan_at hs (zAf hy)
  rw [h1,Option.some.injEq] at hsx
  rw [h1',Option.some.injEq] at hsy
  cases ho:jT y x with
  |false=>rfl
  |true=>
   rw [Bool.true_and]
   have htk:(dV l).take l.length=dV l:=List.take_of_length_le (by rw [zDk];omega)
   have S:=sep_all hs l.length (Nat.le_refl _)
   rw [htk] at S
   have:=S k i z' z q1' q1 h2' h2 (by omega) (by rw [zGv hx,zGv hy];exact ho)
   rw [←hsx,←hsy]
   unfold xG
   simp only [Bool.and_eq_false_iff,decide_eq_false_iff_not]
   omega
theorem cmp_valid {n:Ns} (hn:n.Ok) (h:(lA n).2=0) (hl:n.Bufs.length<=40) (hw:bL n.Body<=900000):dW (bE n)=0/\(bZ n).2=0/\(lA n).1=⟨nB (gnN n) (bE n),jA n,(fF (bE n)).1,(fF (bE n)).2⟩/\
  (nB (gnN n) (bE n)).length<=65536/\tyA (jA n)/\(0<=(fF (bE n)).2/\(fF (bE n)).2<=1000000)/\∀x,x∈nB (gnN n) (bE n)->dF (nB (gnN n) (bE n)).length (jA n).length (fF (bE n)).2 x=true:=by
 have hv:(bZ n).2=0:=by
  unfold lA at h
  split at h
  ·rename_i c;exact absurd h c
  ·rename_i c;exact Decidable.of_not_not c
 have hrest:¬256<(jA n).length/\¬jF n.Body=false/\¬65536<(nB (gnN n) (bE n)).length/\(lA n).1=⟨nB (gnN n) (bE n),jA n,(fF (bE n)).1,(fF (bE n)).2⟩:=by
  unfold lA at h⊢
  rw [if_neg (by simp [hv])] at h⊢
  split at h
  ·cases h
  ·rename_i c2
   rw [if_neg c2]
   split at h
   ·cases h
   ·rename_i c3
    rw [if_neg c3]
    split at h
    ·cases h
    ·rename_i c4
     rw [if_neg c4]
     exact ⟨c2,c3,c4,rfl⟩
 obtain ⟨c2,c3,c4,hc⟩:=hrest
 have hlv:=zGt hv
 have hs:=zRd hlv
 have hpw:=plan_words hs
 have hll:=zCm n
 have hG:=gnN_ok hn hv hl hw
 have hty:=typN_ok hv
 have V:VlG (gnN n) ((nB (gnN n) (bE n)).length:Int) (fF (bE n)).2:=by
  refine ⟨hG,by omega,by omega,hty,by show (jA n).length<=256;omega,fun s hsb=>?_⟩
  obtain ⟨i,h1,h2,h3⟩:=zOi hsb
  have h4:=hG.slot h1 (by rw [h3];exact h2)
  rw [h3] at h4
  have hi:i<(bE n).length:=by rw [hll];exact zAf h1
  obtain ⟨y,_,q1,q2,q3⟩:=plan_at hs hi
  have h5:(fF (bE n)).1[i]? =some (slD (gnN n).sl s):=h4.1
  rw [q1,Option.some.injEq] at h5
  show (slD (gnN n).sl s).At+(slD (gnN n).sl s).Len<=_
  rw [←h5];exact q3
 have hp:=zKh hv
 exact ⟨hlv,hv,hc,by omega,hty,by omega,vl_top V (valid_rdy (g:=gnN n) hv rfl) (chkL_gd _ _ _ _ _ hp.2.2.2) (by cases q:jF n.Body with|true=>exact q|false=>exact absurd q c3) hp.1 (bE n) rfl⟩
theorem vld_is {code:List In} {tys:List Ty} {w:Int} (h:code.length<=65536) (hw:0<=w/\w<=1000000) (ht:tyA tys) (hc:∀x,x∈code->dF code.length tys.length w x=true):vld code tys w=(0,0):=by
 have h2:bJ w 0 1048576=true:=by simp [bJ];omega
 rw [vldF (by omega) h2 (by rw [List.any_eq_false];intro t hm;rw [ht t hm];simp)]
 exact zSr (k:=code.length) (by omega) (by rw [List.any_eq_false];intro x hx;rw [hc x (List.mem_of_mem_take hx)];simp)
end Go.Br
end
