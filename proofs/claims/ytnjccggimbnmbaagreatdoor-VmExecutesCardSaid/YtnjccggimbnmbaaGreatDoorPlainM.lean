/-
  The program's configuration,third form: the table of opcodes holds what its initialiser lays,too.
  Arithmetic on elements,in plain Lean: fractions in lowest terms,rounded quotients,numbers brought into a width.
  Arithmetic on elements,in plain Lean,as the walks meet it.
  The machine in plain Lean: instructions,when they are well formed,what a step does.
  The machine in plain Lean,as the walks meet it: tables,validity.
  The machine's memory: one row of cells,and a slice.
  The machine in plain Lean,as the reference meets it.
  What the law gets: units of code,and actions. What it answers,in plain Lean.
  Three machines that the law runs always.
  Tensors and the memory of a nest (12,31.1),in plain Lean,and the cells that dC them.
  Execute (49.6) in plain Lean: memory,slots,the run,the outputs.
  Small nests and memories,what memory holds before a run,machines with inputs,in plain Lean.
  Conditions: none.
-/
import Derived.Test.YtnjccggimbnmbaaGreatDoorCfg
import Derived.Test.YtnjccggimbnmbaaGreatDoorEngZ
import Derived.Lib.LaidTab
import Derived.KernelRfl
import Derived.Test.YtnjccggimbnmbaaGreatDoorPlain
import Derived.Test.YtnjccggimbnmbaaGreatDoorPlain3
set_option linter.unusedSimpArgs false
set_option linter.unusedVariables false
section
namespace Go.Br
open Go Go.Eng Go.RowKit Go.Proofs Go.L41
theorem gOps : Tryz.prog.globalNamed "brocade/isa.opcodes" = some 0 := by kernel_rfl
def jG (s:List UInt8) (l:List Int):List Value:=.string (bs s)::l.map fun n=>.int .i64 n
def opCells:List Value:=[jG [104,97,108,116] [0,0,0,0,0],jG [105,110,116] [1,8,0,0,0],jG [109,111,118,101] [1,2,0,0,0],jG [97,100,100] [1,2,3,0,0],jG [109,117,108] [1,2,9,0,0],jG [109,105,110] [1,2,3,0,0],jG [109,97,120] [1,2,3,0,0],jG [106,117,109,112] [7,0,0,0,0],jG [106,108,116] [7,2,3,0,0],jG [99,111,110,115,116] [4,14,0,0,0],jG [108,111,97,100] [4,2,10,11,0],jG [115,116,111,114,101] [4,2,10,11,0],jG [111,112] [15,4,5,6,17],jG [99,97,115,116] [4,5,12,17,0],jG [116,101,115,116] [16,7,5,6,17],jG [116,111,105,110,116] [1,5,13,0,0],jG [102,114,111,109,105,110,116] [4,2,0,0,0]].flatten
def rP (w : World) : Prop := w.var? Tryz.prog "brocade/isa.opcodes" = some opCells.toArray
theorem ops_kept (w w':World) (h:∀b,b<0+1->w'.heap[b]? =w.heap[b]?) (k:rP w):rP w':=by
 unfold rP World.var? at *
 rw [gOps] at *
 simp only [Option.bind_some] at *
 rw [h _ (by omega)]
 exact k
noncomputable def cfgO : Cfg := ⟨Tryz.prog, max (1 + 1) (0 + 1), fun w => Lib.TabIs Tryz.prog w "strings.asciiSpace" .u8 Lib.asciiSpaceTab ∧ rP w,
 fun w w' h k=>⟨tab_kept w w' (fun b hb=>h b (by omega)) k.1,ops_kept w w' (fun b hb=>h b (by omega)) k.2⟩⟩
theorem upO {f:FuncId} {args:List V} {μ:List E} {Q:V->List E->Prop} (h:Con cfg f args μ Q):Con cfgO f args μ Q:=Con.upG (X:=cfg) (X':=cfgO) rfl (Nat.le_max_left _ _) (fun _ h=>h.1) h
theorem ops_cell {w:World} (h:rP w) {i:Nat} {u:Value} (hu:opCells[i]? =some u):w.cell? ⟨0,i,none⟩=some u:=by
 have:=World.var?_cell gOps h i
 rw [this]
 simpa using hu
def kTab:List (List Int):=[[0,0,0,0,0],[1,8,0,0,0],[1,2,0,0,0],[1,2,3,0,0],[1,2,9,0,0],[1,2,3,0,0],[1,2,3,0,0],[7,0,0,0,0],[7,2,3,0,0],[4,14,0,0,0],[4,2,10,11,0],[4,2,10,11,0],[15,4,5,6,17],[4,5,12,17,0],[16,7,5,6,17],[1,5,13,0,0],[4,2,0,0,0]]
theorem tab_at (i:Nat) (hi:i<17) (j:Nat) (hj:j<5):opCells[0+i*6+1+j]? =(((kTab.getD i []).map fun n=>Value.int .i64 n)[j]?):=by
 have h1:i=0∨i=1∨i=2∨i=3∨i=4∨i=5∨i=6∨i=7∨i=8∨i=9∨i=10∨i=11∨i=12∨i=13∨i=14∨i=15∨i=16:=by omega
 have h2:j=0∨j=1∨j=2∨j=3∨j=4:=by omega
 rcases h1 with rfl|rfl|rfl|rfl|rfl|rfl|rfl|rfl|rfl|rfl|rfl|rfl|rfl|rfl|rfl|rfl|rfl<;>rcases h2 with rfl|rfl|rfl|rfl|rfl<;>rfl
theorem opt_len:∀i,i<17->(kTab.getD i []).length=5:=by decide+kernel
theorem ops_row {op:Int} (h0:0<=op) (h:op<17) (w:World) (hw:cfgO.G w) (j:Nat) (u:Value) (hu:((kTab.getD op.toNat []).map fun n=>Value.int .i64 n)[j]? =some u):w.cell? ⟨0,0+op.toNat*6+1+j,none⟩=some u:=by
 have hj:j<5:=by
  have:=(List.getElem?_eq_some_iff.1 hu).1
  rw [List.length_map,opt_len op.toNat (by omega)] at this
  exact this
 exact ops_cell hw.2 (by rw [tab_at op.toNat (by omega) j hj];exact hu)
theorem ops_len {op:Int} (h0:0<=op) (h:op<17):((kTab.getD op.toNat []).map fun n=>Value.int .i64 n).length=5:=by
 rw [List.length_map];exact opt_len _ (by omega)
theorem ops_one {l:List Int}:(l.map fun n=>Value.int .i64 n).all Value.oneCell'=true:=by
 rw [List.all_map,List.all_eq_true];intro x _;rfl
end Go.Br
end
section
namespace Go.Br
open Go Go.Eng Go.L41
/-! ## Fractions -/
abbrev jM (l:List Vl):V:=.c (.sl 2 (l.map Vl.cells))
def bN (v:Vl):Bool:=decide (1<=v.D)&&decide (v.D<=2147483647)&&bI v.N&&decide (Int.gcd v.N v.D=1)
def jF (n d:Int):Bool:=decide (n<0) !=decide (d<0)
def pS (s:Bool) (a b:Nat):Vl×Int:=
 bif decide ((2147483647:Int)<((a/Nat.gcd a b:Nat):Int))||decide ((2147483647:Int)<((b/Nat.gcd a b:Nat):Int)) then (⟨0,0⟩,3) else
 (⟨bif s then-((a/Nat.gcd a b:Nat):Int) else ((a/Nat.gcd a b:Nat):Int),((b/Nat.gcd a b:Nat):Int)⟩,0)
def lO (n d:Int):Vl×Int:=bif decide (d=0) then (⟨0,0⟩,4) else pS (jF n d) n.natAbs d.natAbs
theorem zEn {v:Vl} (h:bN v=true):1<=v.D/\v.D<=2147483647/\ -2147483647<=v.N/\v.N<=2147483647/\Int.gcd v.N v.D=1:=by
 simp only [bN,Bool.and_eq_true,decide_eq_true_eq,bI] at h
 omega
theorem madF_ok {s:Bool} {a b:Nat} (hb:0<b) (h:(pS s a b).2=0):bN (pS s a b).1=true:=by
 have hg:0<Nat.gcd a b:=Nat.gcd_pos_of_pos_right _ hb
 have hpos:0<b/Nat.gcd a b:=Nat.div_pos (Nat.le_of_dvd hb (Nat.gcd_dvd_right a b)) hg
 unfold pS at h⊢
 cases hc:(decide ((2147483647:Int)<((a/Nat.gcd a b:Nat):Int))||decide ((2147483647:Int)<((b/Nat.gcd a b:Nat):Int))) with
 |true=>rw [hc] at h;simp at h
 |false=>
  simp only [Bool.or_eq_false_iff,decide_eq_false_iff_not] at hc
  simp only [cond_false]
  have hgc:Nat.gcd (a/Nat.gcd a b) (b/Nat.gcd a b)=1:=by rw [Nat.gcd_div (Nat.gcd_dvd_left a b) (Nat.gcd_dvd_right a b),Nat.div_self hg]
  generalize a/Nat.gcd a b=x at *
  generalize b/Nat.gcd a b=y at *
  unfold bN bI
  simp only [Bool.and_eq_true,decide_eq_true_eq]
  refine ⟨⟨⟨by omega,by omega⟩,?_⟩,?_⟩
  ·cases s<;>simp only [cond_true,cond_false]<;>omega
  ·unfold Int.gcd
   cases s<;>simp only [cond_true,cond_false,Int.natAbs_neg,Int.natAbs_natCast]<;>exact hgc
theorem newF_ok {n d:Int} (hd:d≠0) (h:(lO n d).2=0):bN (lO n d).1=true:=by
 unfold lO at h⊢
 rw [qK hd] at h⊢
 exact madF_ok (by omega) h
theorem frOk_eq {a b:Vl} (ha:bN a=true) (hb:bN b=true) (h:a.N*b.D=b.N*a.D):a=b:=by
 obtain ⟨a1,a2,a3,a4,a5⟩:=zEn ha
 obtain ⟨b1,b2,b3,b4,b5⟩:=zEn hb
 have e:a.N.natAbs*b.D.natAbs=b.N.natAbs*a.D.natAbs:=by rw [←Int.natAbs_mul,←Int.natAbs_mul,h]
 have c1:Nat.Coprime a.D.natAbs a.N.natAbs:=by unfold Int.gcd at a5;rw [Nat.coprime_comm];exact a5
 have c2:Nat.Coprime b.D.natAbs b.N.natAbs:=by unfold Int.gcd at b5;rw [Nat.coprime_comm];exact b5
 have d1:a.D.natAbs ∣ b.D.natAbs:=c1.dvd_of_dvd_mul_left (m:=a.N.natAbs) (by rw [e];exact Nat.dvd_mul_left _ _)
 have d2:b.D.natAbs ∣ a.D.natAbs:=c2.dvd_of_dvd_mul_left (m:=b.N.natAbs) (by rw [←e];exact Nat.dvd_mul_left _ _)
 have e2:=Nat.dvd_antisymm d1 d2
 have e3:a.D=b.D:=by omega
 have e4:a.N=b.N:=by
  rw [e3] at h
  exact Int.eq_of_mul_eq_mul_right (by omega) h
 cases a;cases b;simp_all
def nJ (a b:Int):Int:=bif decide (a<b) then-1 else bif decide (b<a) then 1 else 0
theorem ordI_zero {a b:Int}:nJ a b=0↔a=b:=by
 unfold nJ
 by_cases h:a<b
 ·rw [decide_eq_true h];simp;omega
 ·rw [qK h]
  by_cases k:b<a
  ·rw [decide_eq_true k];simp;omega
  ·rw [qK k];simp;omega
/-! ## Quotients -/
def flo (n d:Int):Int:=bif decide (n<n.tdiv d*d) then n.tdiv d-1 else n.tdiv d
theorem flo_eq {n d:Int} (h:0<d):flo n d=n/d:=by
 unfold flo
 have e1:=Int.mul_ediv_add_emod n d
 have e2:=Int.emod_nonneg n (show d≠0 by omega)
 have e3:=Int.emod_lt_of_pos n h
 have e4:=Int.mul_tdiv_add_tmod n d
 rw [Int.tdiv_eq_ediv]
 by_cases c:0<=n∨d ∣ n
 ·rw [if_pos c,Int.add_zero]
  have:¬n<n/d*d:=by rw [Int.mul_comm];omega
  rw [qK this];rfl
 ·rw [if_neg c,Int.sign_eq_one_of_pos h]
  have hr:n%d≠0:=fun h0=>c (.inr (Int.dvd_of_emod_eq_zero h0))
  have:n<(n/d+1)*d:=by rw [Int.add_mul,Int.one_mul,Int.mul_comm];omega
  rw [decide_eq_true this]
  simp only [cond_true]
  omega
def rnd (n d how:Int):Int:=
 bif decide (n-n/d*d=0)||decide (how=1) then n/d else bif decide (how=2) then n/d+1 else
 bif decide (how=3) then (bif decide (n<0) then n/d+1 else n/d) else
 bif decide (d-(n-n/d*d)<n-n/d*d)||(decide (n-n/d*d=d-(n-n/d*d))&& !decide ((n/d).tmod 2=0)) then n/d+1 else n/d
def pD (q r b:Nat) (neg:Bool) (how:Int):Bool:=(decide (r=0)||decide (how=3))||((decide (how=1)&& !neg)||(decide (how=2)&&neg))||(decide (how=4)&&(decide (2*r<b)||(decide (2*r=b)&&decide (q%2=0))))
def stays (q r b:Nat) (neg:Bool) (how:Int):Bool:=(decide ((r:Int)=0)||decide (how=3))||((decide (how=1)&& !neg)||(decide (how=2)&&neg))||(decide (how=4)&&(decide (((2*r:Nat):Int)<(b:Int))||(decide (((2*r:Nat):Int)=(b:Int))&&decide (((q%2:Nat):Int)=0))))
theorem zQm (q r b:Nat) (neg:Bool) (how:Int):stays q r b neg how=pD q r b neg how:=by
 unfold stays pD
 rw [show decide ((r:Int)=0)=decide (r=0) from decide_eq_decide.2 (by omega),show decide (((2*r:Nat):Int)<(b:Int))=decide (2*r<b) from decide_eq_decide.2 (by omega),show decide (((2*r:Nat):Int)=(b:Int))=decide (2*r=b) from decide_eq_decide.2 (by omega),show decide (((q%2:Nat):Int)=0)=decide (q%2=0) from decide_eq_decide.2 (by omega)]
def rdd (a b:Nat) (neg:Bool) (how:Int):Nat:=bif stays (a/b) (a%b) b neg how then a/b else a/b+1
def sgd (neg:Bool) (m:Nat):Int:=bif neg then-(m:Int) else m
theorem rdd_rnd {a b:Nat} (hb:0<b) {how:Int} (h1:1<=how) (h4:how<=4):(rdd a b false how:Int)=rnd a b how:=by
 have e1:((a:Int)/(b:Int))=((a/b:Nat):Int):=rfl
 have e2:(a:Int)-((a/b:Nat):Int)*(b:Int)=((a%b:Nat):Int):=by
  have:=Nat.div_add_mod a b
  rw [Nat.mul_comm] at this
  have h:=congrArg (fun x:Nat=>(x:Int)) this
  simp only [Int.natCast_add,Int.natCast_mul] at h
  omega
 have e3:Int.tmod (((a/b:Nat):Int)) 2=((a/b%2:Nat):Int):=rfl
 have hr:=Nat.mod_lt a hb
 unfold rnd rdd
 rw [zQm]
 unfold pD
 rw [e1,e2,e3]
 generalize a/b=q at *
 generalize a%b=r at *
 have hh:how=1∨how=2∨how=3∨how=4:=by omega
 have na:¬((a:Int)<0):=by omega
 have q2:=Nat.mod_two_eq_zero_or_one q
 rcases hh with rfl|rfl|rfl|rfl
 ·simp
 ·by_cases h0:r=0
  ·simp [h0]
  ·simp [h0]
 ·simp [na]
 ·by_cases h0:r=0
  ·simp [h0]
  ·by_cases h5:2*r<b
   ·have h6:¬((b:Int)-r<r):=by omega
    have h7:¬((r:Int)=b-r):=by omega
    simp [h0,h5,h6,h7]
   ·by_cases h7:2*r=b
    ·have h8:((r:Int)=b-r):=by omega
     have h6:¬((b:Int)-r<r):=by omega
     have h9:((b:Int)-r=r):=by omega
     rcases q2 with h10|h10
     ·have:((q:Int)%2=0):=by omega
      simp [h0,h5,h7,h10,h9,this]
     ·have:¬((q:Int)%2=0):=by omega
      simp [h0,h5,h7,h10,h9,this]
    ·have h6:((b:Int)-r<r):=by omega
     simp [h0,h5,h7,h6]
theorem rdd_neg {a b:Nat} (hb:0<b) {how:Int} (h1:1<=how) (h4:how<=4) (ha:0<a): -(rdd a b true how:Int)=rnd (-a) b how:=by
 have hr:=Nat.mod_lt a hb
 have e:=Nat.div_add_mod a b
 rw [Nat.mul_comm] at e
 have e':=congrArg (fun x:Nat=>(x:Int)) e
 simp only [Int.natCast_add,Int.natCast_mul] at e'
 have na:(-(a:Int)<0):=by omega
 have hbi:(0:Int)<b:=by omega
 have hh:how=1∨how=2∨how=3∨how=4:=by omega
 have q2:=Nat.mod_two_eq_zero_or_one (a/b)
 by_cases h0:a%b=0
 ·have e1:(-(a:Int))/(b:Int)= -((a/b:Nat):Int):=by
   have: -(a:Int)=(b:Int)* -((a/b:Nat):Int):=by rw [Int.mul_neg,Int.mul_comm];omega
   rw [this,Int.mul_ediv_cancel_left _ (by omega)]
  have e2:(-(a:Int))- -((a/b:Nat):Int)*(b:Int)=0:=by rw [Int.neg_mul];omega
  unfold rnd rdd
  rw [zQm]
  unfold pD
  rw [e1,e2,h0]
  simp
 ·have e1:(-(a:Int))/(b:Int)= -((a/b:Nat):Int)-1:=by
   refine ((Int.ediv_emod_unique (r:=(b:Int)-((a%b:Nat):Int)) hbi).2 ⟨?_,by omega,by omega⟩).1
   simp only [Int.mul_sub,Int.mul_neg,Int.mul_one]
   rw [Int.mul_comm];omega
  have e2:(-(a:Int))-(-((a/b:Nat):Int)-1)*(b:Int)=(b:Int)-((a%b:Nat):Int):=by
   simp only [Int.sub_mul,Int.neg_mul,Int.one_mul];omega
  unfold rnd rdd
  rw [zQm]
  unfold pD
  rw [e1,e2]
  generalize a/b=q at *
  generalize a%b=r at *
  have z0:¬((b:Int)-r=0):=by omega
  have t2:((-(q:Int)-1).tmod 2=0)↔¬(q%2=0):=by
   rw [show (-(q:Int)-1)= -((q+1:Nat):Int) by omega,Int.neg_tmod,show Int.tmod ((q+1:Nat):Int) 2=(((q+1)%2:Nat):Int) from rfl]
   omega
  rcases hh with rfl|rfl|rfl|rfl
  ·simp [h0];omega
  ·simp [h0,z0]
  ·simp [h0,z0,ha]
  ·by_cases h5:2*r<b
   ·have h6:((b:Int)-(b-r)<b-r):=by omega
    simp [h0,z0,h5,h6]
   ·by_cases h7:2*r=b
    ·have h6:¬((b:Int)-(b-r)<b-r):=by omega
     have h8:((b:Int)-r=b-(b-r)):=by omega
     have d1:=qK z0
     have d2:=qK h6
     have d3:=decide_eq_true h8
     have d4:=qK h0
     have d5:=qK h5
     have d6:=decide_eq_true h7
     rcases q2 with h10|h10
     ·have d7:=qK (fun h=>t2.1 h h10:¬((-(q:Int)-1).tmod 2=0))
      have d8:=decide_eq_true h10
      rw [d1,d2,d3,d4,d5,d6,d7,d8]
      simp
     ·have d7:=decide_eq_true (t2.2 (by omega))
      have d8:=qK (show ¬q%2=0 by omega)
      rw [d1,d2,d3,d4,d5,d6,d7,d8]
      simp;omega
    ·have h6:¬((b:Int)-(b-r)<b-r):=by omega
     have h8:¬((b:Int)-r=b-(b-r)):=by omega
     have d1:=qK z0
     have d2:=qK h6
     have d3:=qK h8
     have d4:=qK h0
     have d5:=qK h5
     have d6:=qK h7
     rw [d1,d2,d3,d4,d5,d6]
     simp;omega
def jX (n d:Int):Int:=bif decide (d<0) then-n else n
theorem div_rnd {n d how:Int} (hd:d≠0) (h1:1<=how) (h4:how<=4):sgd (jF n d) (rdd n.natAbs d.natAbs (jF n d) how)=rnd (jX n d) d.natAbs how:=by
 have hb:0<d.natAbs:=by omega
 by_cases hs:jF n d=true
 ·rw [hs]
  by_cases h0:n=0
  ·subst h0
   have:jX 0 d=0:=by unfold jX;cases decide (d<0)<;>rfl
   rw [this]
   show-((rdd 0 d.natAbs true how:Nat):Int)=_
   unfold rdd rnd
   rw [zQm]
   unfold pD
   simp
  ·have e:jX n d= -(n.natAbs:Int):=by
    unfold jF at hs;unfold jX
    by_cases a:n<0<;>by_cases b:d<0<;>simp [a,b] at hs⊢ <;>omega
   rw [e]
   exact rdd_neg hb h1 h4 (by omega)
 ·have hs':jF n d=false:=by simpa using hs
  rw [hs']
  have e:jX n d=(n.natAbs:Int):=by
   unfold jF at hs';unfold jX
   by_cases a:n<0<;>by_cases b:d<0<;>simp [a,b] at hs'⊢ <;>omega
  rw [e]
  exact rdd_rnd hb h1 h4
/-! ## Widths -/
def lI (b n:Int):Int:=n-(n+bL b)/(2*bL b)*(2*bL b)
def pR (b o n:Int):Int:=max (-bL b) (min (bL b-1) (bif decide (o=2) then lI b n else n))
def nar (t:Ty) (n:Int):Int:=pR t.Bits t.Over n
theorem wrapW_in {b n:Int} (h1:2<=b) (h2:b<=31): -bL b<=lI b n/\lI b n<=bL b-1:=by
 have hh:=zDz h1 h2
 have e1:=Int.mul_ediv_add_emod (n+bL b) (2*bL b)
 have e2:=Int.emod_nonneg (n+bL b) (show 2*bL b≠0 by omega)
 have e3:=Int.emod_lt_of_pos (n+bL b) (show 0<2*bL b by omega)
 unfold lI
 rw [Int.mul_comm]
 omega
theorem wrapW_id {b n:Int} (h1:2<=b) (h2:b<=31) (h3: -bL b<=n) (h4:n<=bL b-1):lI b n=n:=by
 have hh:=zDz h1 h2
 unfold lI
 rw [Int.ediv_eq_zero_of_lt (by omega) (by omega)]
 omega
def dH (n:Int):Int:=2^n.toNat
theorem pow2_le {n:Int} (h1:0<=n) (h2:n<=30):1<=dH n/\dH n<=1073741824:=by
 have h:=zDz (b:=n+1)
 unfold dH
 have h3:n.toNat<=30:=by omega
 have h4:(2:Int)^n.toNat<=2^30:=by
  have:=Nat.pow_le_pow_right (n:=2) (by omega) h3
  exact_mod_cast this
 have h5:(1:Int)<=2^n.toNat:=by
  have:=Nat.one_le_two_pow (n:=n.toNat)
  exact_mod_cast this
 omega
theorem wrap_shift {b n:Int} (h1:2<=b) (h2:b<=31) (hn:lY n):
  Int.fdiv (IntKind.i64.wrap (IntKind.u64.wrap (IntKind.u64.wrap n*2^(64-b).toNat))) (2^(64-b).toNat)=lI b n:=by
 have hh:=zDz h1 h2
 have hU:(0:Int)<2^(64-b).toNat:=by
  have:=Nat.one_le_two_pow (n:=(64-b).toNat)
  have:(1:Int)<=2^(64-b).toNat:=by exact_mod_cast this
  omega
 have hMU:bL b*2^(64-b).toNat=9223372036854775808:=by
  unfold bL
  rw [←Int.pow_add,show (b-1).toNat+(64-b).toNat=63 by omega]
  rfl
 generalize hU':(2:Int)^(64-b).toNat=U at *
 have e1:IntKind.u64.wrap n=n%18446744073709551616:=by rw [IntKind.wrap_u64]
 have e2:IntKind.u64.wrap (n%18446744073709551616*U)=n%(2*bL b)*U:=by
  rw [IntKind.wrap_u64]
  have:(18446744073709551616:Int)=2*bL b*U:=by rw [Int.mul_assoc,hMU];rfl
  rw [this,Int.mul_comm _ U,Int.mul_comm _ U,Int.mul_emod_mul_of_pos _ _ hU,Int.mul_comm U,Int.emod_emod_of_dvd]
  exact Int.dvd_mul_left _ _
 rw [e1,e2]
 have m2:=Int.emod_nonneg n (show 2*bL b≠0 by omega)
 have m3:=Int.emod_lt_of_pos n (show 0<2*bL b by omega)
 have m1:=Int.mul_ediv_add_emod n (2*bL b)
 have key:∀s:Int,IntKind.i64.wrap (n%(2*bL b)*U)=s*U->s=lI b n->Int.fdiv (IntKind.i64.wrap (n%(2*bL b)*U)) U=lI b n:=by
  intro s hs hw
  rw [hs,Int.fdiv_eq_ediv_of_nonneg _ (by omega),Int.mul_ediv_cancel _ (by omega),hw]
 have up:n%(2*bL b)*U<2*bL b*U:=Int.mul_lt_mul_of_pos_right m3 hU
 have lo:0<=n%(2*bL b)*U:=Int.mul_nonneg m2 (by omega)
 have e5:2*bL b*U=18446744073709551616:=by rw [Int.mul_assoc,hMU];rfl
 by_cases c:n%(2*bL b)<bL b
 ·refine key (n%(2*bL b)) ?_ ?_
  ·have:=Int.mul_lt_mul_of_pos_right c hU
   exact zAv ⟨by omega,by omega⟩
  ·unfold lI
   have:(n+bL b)/(2*bL b)=n/(2*bL b):=((Int.ediv_emod_unique (r:=n%(2*bL b)+bL b) (by omega)).2 ⟨by omega,by omega,by omega⟩).1
   rw [this,Int.mul_comm (n/(2*bL b))]
   omega
 ·refine key (n%(2*bL b)-2*bL b) ?_ ?_
  ·have:=Int.mul_le_mul_of_nonneg_right (show bL b<=n%(2*bL b) by omega) (show 0<=U by omega)
   rw [Int.sub_mul,e5]
   rw [IntKind.wrap_i64]
   omega
  ·unfold lI
   have:(n+bL b)/(2*bL b)=n/(2*bL b)+1:=((Int.ediv_emod_unique (r:=n%(2*bL b)-bL b) (by omega)).2 ⟨by rw [Int.mul_add,Int.mul_one];omega,by omega,by omega⟩).1
   rw [this,Int.add_mul,Int.one_mul,Int.mul_comm (n/(2*bL b))]
   omega
/-! ## Elements -/
def nC (op:Int) (t:Ty) (a b:Int):Vl×Int:=
 bif decide (op=4) then (⟨nar t (a+b),1⟩,0) else bif decide (op=5) then (⟨nar t (a-b),1⟩,0) else
 bif decide (op=6) then (⟨nar t (rnd (a*b) (dH t.Frac) t.Round),1⟩,0) else bif decide (op=8) then (⟨nar t (-a),1⟩,0) else
 bif decide (b=0) then (⟨0,0⟩,4) else (⟨nar t (rnd (jX a b*dH t.Frac) b.natAbs t.Round),1⟩,0)
def dU (op a b:Int):Int:=
 bif decide (op=4) then a+b else bif decide (op=5) then a-b else bif decide (op=6) then a*b else bif decide (op=7) then jX a b/b.natAbs else-a
def nX (op a b:Int):Vl×Int:=
 bif decide (op=7)&&decide (b=0) then (⟨0,0⟩,4) else bif bI (dU op a b) then (⟨dU op a b,1⟩,0) else (⟨0,0⟩,3)
def tD (op:Int) (a b:Vl):Vl×Int:=
 bif decide (op=4) then lO (a.N*b.D+b.N*a.D) (a.D*b.D) else bif decide (op=5) then lO (a.N*b.D-b.N*a.D) (a.D*b.D) else
 bif decide (op=6) then lO (a.N*b.N) (a.D*b.D) else bif decide (op=7) then lO (a.N*b.D) (a.D*b.N) else (⟨-a.N,a.D⟩,0)
def jZ (t:Ty) (a b:Vl):Int:=bif (bD t&&bC t a)&&(bD t&&bC t b) then nJ (a.N*b.D) (b.N*a.D) else 0
def mO (op:Int) (t:Ty) (a b:Vl):Vl×Int:=
 bif decide (op<4)||decide (10<op) then (⟨0,0⟩,1) else bif !bD t then (⟨0,0⟩,10) else
 bif !bC t a||(!decide (op=8)&& !bC t b) then (⟨0,0⟩,1) else
 bif decide (op=9)||decide (op=10) then (bif decide (0<jZ t a b)==decide (op=9) then b else a,0) else
 bif decide (t.Kind=2) then nC op t a.N b.N else bif decide (t.Kind=3) then nX op a.N b.N else tD op a b
def fO (t:Ty) (v:Vl):Vl:=bif decide (t.Kind=2) then (lO v.N (dH t.Frac)).1 else v
def mN (f t:Ty) (v:Vl):Vl×Int:=
 bif !bD f|| !bD t then (⟨0,0⟩,10) else bif !bC f v then (⟨0,0⟩,1) else
 bif decide (t.Kind=3) then (⟨(fO f v).N/(fO f v).D,1⟩,0) else
 bif decide (t.Kind=2) then (⟨nar t (rnd ((fO f v).N*dH t.Frac) (fO f v).D t.Round),1⟩,0) else (fO f v,0)
abbrev tFr:Ty:=⟨1,0,0,0,0⟩
theorem zDu {t:Ty} {v:Vl} (ht:bD t=true) (h:bC t v=true):(t.Kind≠2->bN v=true)/\(t.Kind=2->v.D=1/\ -bL t.Bits<=v.N/\v.N<bL t.Bits)/\bN v=true:=by
 have key:(t.Kind=2->v.D=1/\ -bL t.Bits<=v.N/\v.N<bL t.Bits):=by
  intro hk
  rw [bC,decide_eq_true hk] at h
  simp only [cond_true,Bool.and_eq_true,decide_eq_true_eq] at h
  omega
 have all:bN v=true:=by
  by_cases hk:t.Kind=2
  ·obtain ⟨k1,k2,k3⟩:=key hk
   have hb:=fixB (by rw [←wY hk];exact ht)
   have hh:=zDz hb.1 hb.2
   unfold bN bI
   rw [k1]
   simp only [Bool.and_eq_true,decide_eq_true_eq]
   exact ⟨⟨⟨by omega,by omega⟩,by omega,by omega⟩,Int.gcd_one⟩
  ·rw [bC,qK hk] at h
   by_cases h3:t.Kind=3
   ·rw [decide_eq_true h3] at h
    simp only [cond_false,cond_true,Bool.and_eq_true,decide_eq_true_eq,bI] at h
    unfold bN bI
    rw [h.1]
    simp only [Bool.and_eq_true,decide_eq_true_eq]
    exact ⟨⟨⟨by omega,by omega⟩,by omega,by omega⟩,Int.gcd_one⟩
   ·rw [qK h3] at h
    exact h
 exact ⟨fun _=>all,key,all⟩
theorem cmp_zero {t:Ty} {a b:Vl} (ha:(bD t&&bC t a)=true) (hb:(bD t&&bC t b)=true) (h:jZ t a b=0):a=b:=by
 rw [jZ,ha,hb] at h
 simp only [Bool.and_eq_true] at ha hb
 exact frOk_eq (zDu ha.1 ha.2).2.2 (zDu hb.1 hb.2).2.2 (ordI_zero.1 h)
theorem newF_small {n f:Int} (h1: -1073741824<=n) (h2:n<=1073741824) (h3:1<=f) (h4:f<=1073741824):(lO n f).2=0:=by
 unfold lO pS
 rw [qK (show ¬f=0 by omega)]
 have a1:n.natAbs/Nat.gcd n.natAbs f.natAbs<=n.natAbs:=Nat.div_le_self _ _
 have a2:f.natAbs/Nat.gcd n.natAbs f.natAbs<=f.natAbs:=Nat.div_le_self _ _
 rw [qK (show ¬(2147483647:Int)<((n.natAbs/Nat.gcd n.natAbs f.natAbs:Nat):Int) by omega),qK (show ¬(2147483647:Int)<((f.natAbs/Nat.gcd n.natAbs f.natAbs:Nat):Int) by omega)]
 rfl
theorem fracV_ok {t:Ty} {v:Vl} (ht:bD t=true) (h:bC t v=true):bN (fO t v)=true:=by
 obtain ⟨h1,h2,h3⟩:=zDu ht h
 unfold fO
 by_cases hk:t.Kind=2
 ·rw [decide_eq_true hk]
  obtain ⟨k1,k2,k3⟩:=h2 hk
  have hf:bP t=true:=by rw [←wY hk];exact ht
  have hb:=fixB hf
  have hh:=zDz hb.1 hb.2
  have hfr:0<=t.Frac/\t.Frac<=30:=by
   simp only [bP,Bool.and_eq_true,decide_eq_true_eq] at hf
   omega
  have hp:=pow2_le hfr.1 hfr.2
  exact newF_ok (by omega) (newF_small (by omega) (by omega) (by omega) (by omega))
 ·rw [qK hk]
  exact h3
/-! ## As the walks meet them -/
theorem m31 {x y:Int} (h1: -2147483647<=x) (h2:x<=2147483647) (h3: -2147483647<=y) (h4:y<=2147483647): -4611686014132420609<=x*y/\x*y<=4611686014132420609:=by
 have e:(x*y).natAbs<=2147483647*2147483647:=by
  rw [Int.natAbs_mul]
  exact Nat.mul_le_mul (by omega) (by omega)
 omega
theorem m60 {x y:Int} {B:Nat} (h1:x.natAbs<=B) (h3:0<=y) (h4:y<=1073741824): -((B*1073741824:Nat):Int)<=x*y/\x*y<=((B*1073741824:Nat):Int):=by
 have e:(x*y).natAbs<=B*1073741824:=by
  rw [Int.natAbs_mul]
  exact Nat.mul_le_mul h1 (by omega)
 omega
theorem w31 {m:Nat} (h:¬(2147483647:Int)<(m:Int)):IntKind.i64.wrap (m:Int)=m:=zAv ⟨by omega,by omega⟩
theorem w31n {m:Nat} (h:¬(2147483647:Int)<(m:Int)):IntKind.i64.wrap (-(m:Int))= -(m:Int):=zAv ⟨by omega,by omega⟩
theorem size_neg {n:Int} (h:n<0) (hn:lY n):IntKind.u64.wrap (IntKind.u64.wrap (IntKind.i64.wrap (-(n+1)))+1)=n.natAbs:=by
 have:=hn.1
 have e1:IntKind.u64.wrap (-(n+1))= -(n+1):=zCh (by omega)
 rw [zAv ⟨by omega,by omega⟩,e1,zCh (by omega)]
 omega
theorem madF_big {s:Bool} {a b:Nat} (h:(decide ((2147483647:Int)<((a/Nat.gcd a b:Nat):Int))||decide ((2147483647:Int)<((b/Nat.gcd a b:Nat):Int)))=true):pS s a b=(⟨0,0⟩,3):=by
 unfold pS;rw [h];rfl
theorem zQs {s:Bool} {a b:Nat} (h:(decide ((2147483647:Int)<((a/Nat.gcd a b:Nat):Int))||decide ((2147483647:Int)<((b/Nat.gcd a b:Nat):Int)))=false):
  pS s a b=(⟨bif s then IntKind.i64.wrap (-(IntKind.i64.wrap ((a/Nat.gcd a b:Nat):Int))) else IntKind.i64.wrap ((a/Nat.gcd a b:Nat):Int),IntKind.i64.wrap ((b/Nat.gcd a b:Nat):Int)⟩,0):=by
 have h':=h
 simp only [Bool.or_eq_false_iff,decide_eq_false_iff_not] at h'
 rw [w31 h'.1,w31n h'.1,w31 h'.2]
 unfold pS;rw [h];rfl
theorem newF_nz {n d:Int} (h:¬d=0):lO n d=pS (jF n d) n.natAbs d.natAbs:=by unfold lO;rw [qK h];rfl
theorem newF_zero {n d:Int} (h:d=0):lO n d=(⟨0,0⟩,4):=by unfold lO;rw [decide_eq_true h];rfl
def frX (op:Int) (a b:Vl):Vl×Int:=bif !bN a|| !bN b then (⟨0,0⟩,1) else tD op a b
theorem zPn {op:Int} {a b:Vl} (h:(!bN a|| !bN b)=true):frX op a b=(⟨0,0⟩,1):=by unfold frX;rw [h];rfl
theorem zJu {a b:Vl} (h:(!bN a|| !bN b)=false):bN a=true/\bN b=true:=by
 simpa using h
theorem zCr {op:Int} {a b:Vl} (ha:bN a=true) (hb:bN b=true):frX op a b=tD op a b:=by unfold frX;rw [ha,hb];rfl
structure FrB (a b:Vl):Prop where
 d1:1<=a.D
 d2:1<=b.D
 nd: -4611686014132420609<=a.N*b.D/\a.N*b.D<=4611686014132420609
 dn: -4611686014132420609<=b.N*a.D/\b.N*a.D<=4611686014132420609
 nd': -4611686014132420609<=a.D*b.N/\a.D*b.N<=4611686014132420609
 nn: -4611686014132420609<=a.N*b.N/\a.N*b.N<=4611686014132420609
 dd: -4611686014132420609<=a.D*b.D/\a.D*b.D<=4611686014132420609
theorem zCt {a b:Vl} (ha:bN a=true) (hb:bN b=true):FrB a b:=by
 obtain ⟨a1,a2,a3,a4,_⟩:=zEn ha
 obtain ⟨b1,b2,b3,b4,_⟩:=zEn hb
 exact ⟨a1,b1,m31 (by omega) (by omega) (by omega) (by omega),m31 (by omega) (by omega) (by omega) (by omega),m31 (by omega) (by omega) (by omega) (by omega),m31 (by omega) (by omega) (by omega) (by omega),m31 (by omega) (by omega) (by omega) (by omega)⟩
theorem ordI_lt {a b:Int} (h:a<b):nJ a b= -1:=by unfold nJ;rw [decide_eq_true h];rfl
theorem ordI_gt {a b:Int} (h:¬a<b) (k:b<a):nJ a b=1:=by unfold nJ;rw [qK h,decide_eq_true k];rfl
theorem ordI_eq {a b:Int} (h:¬a<b) (k:¬b<a):nJ a b=0:=by unfold nJ;rw [qK h,qK k];rfl
theorem tdiv_le {n d:Int} (h1: -2147483647<=n) (h2:n<=2147483647): -2147483647<=n.tdiv d/\n.tdiv d<=2147483647:=by
 have e:(n.tdiv d).natAbs<=n.natAbs:=by rw [Int.natAbs_tdiv];exact Nat.div_le_self _ _
 omega
theorem tdivW {n d:Int} (h1: -2147483647<=n) (h2:n<=2147483647):IntKind.i64.wrap (n.tdiv d)=n.tdiv d:=zAv (by have:=tdiv_le (d:=d) h1 h2;exact ⟨by omega,by omega⟩)
theorem zTq {n d:Int} (h:0<d) (hr:n.tmod d<0):n.tdiv d-1=n/d:=by
 rw [←flo_eq h,flo,decide_eq_true]
 ·rfl
 ·have:=Int.mul_tdiv_add_tmod n d
  rw [Int.mul_comm];omega
theorem zTp {n d:Int} (h:0<d) (hr:¬n.tmod d<0):n.tdiv d=n/d:=by
 rw [←flo_eq h,flo,qK]
 ·rfl
 ·have:=Int.mul_tdiv_add_tmod n d
  rw [Int.mul_comm];omega
def lU (n d how:Int):Int×Int:=bif decide (d=0) then (0,4) else (rnd (jX n d) d.natAbs how,0)
theorem zUd {n d how:Int} (h:d=0):lU n d how=(0,4):=by unfold lU;rw [decide_eq_true h];rfl
theorem rdd_le {a b:Nat} {neg:Bool} {how:Int}:rdd a b neg how<=a+1:=by
 unfold rdd
 have:=Nat.div_le_self a b
 cases stays (a/b) (a%b) b neg how<;>simp<;>omega
theorem divR_neg {n d how:Int} (hd:¬d=0) (h1:1<=how) (h4:how<=4) (hn:n.natAbs<=4611686018427387904) (hs:jF n d=true):lU n d how=(IntKind.i64.wrap (IntKind.u64.wrap (-((rdd n.natAbs d.natAbs (jF n d) how:Nat):Int))),0):=by
 have h:=div_rnd (n:=n) hd h1 h4
 have hle:=rdd_le (a:=n.natAbs) (b:=d.natAbs) (neg:=jF n d) (how:=how)
 unfold lU
 rw [qK hd,←h]
 rw [hs] at hle⊢
 simp only [cond_false,sgd,cond_true]
 generalize rdd n.natAbs d.natAbs true how=m at *
 congr 1
 rw [IntKind.wrap_u64,IntKind.wrap_i64]
 omega
theorem divR_pos {n d how:Int} (hd:¬d=0) (h1:1<=how) (h4:how<=4) (hn:n.natAbs<=4611686018427387904) (hs:jF n d=false):lU n d how=(IntKind.i64.wrap ((rdd n.natAbs d.natAbs (jF n d) how:Nat):Int),0):=by
 have h:=div_rnd (n:=n) hd h1 h4
 have hle:=rdd_le (a:=n.natAbs) (b:=d.natAbs) (neg:=jF n d) (how:=how)
 unfold lU
 rw [qK hd,←h]
 rw [hs] at hle⊢
 simp only [cond_false,sgd]
 generalize rdd n.natAbs d.natAbs false how=m at *
 congr 1
 exact (zAv ⟨by omega,by omega⟩).symm
theorem shl_eq {x b:Int} {B:Nat} (h1:0<=b) (h2:b<=30) (hx:x.natAbs<=B) (hB:B<=2147483648):IntKind.i64.wrap (x*2^(min b.toNat IntKind.i64.bits))=x*dH b:=by
 have hp:=pow2_le h1 h2
 have hm:=m60 (B:=B) (y:=dH b) hx (by omega) hp.2
 have h4:min b.toNat IntKind.i64.bits=b.toNat:=Nat.min_eq_left (by simp [IntKind.bits];omega)
 rw [h4]
 exact zAv ⟨by unfold dH at hm;omega,by unfold dH at hm;omega⟩
theorem one_shl {b:Int} (h1:0<=b) (h2:b<=30):IntKind.i64.wrap (1*2^(min b.toNat IntKind.i64.bits))=dH b:=by
 rw [shl_eq (B:=1) h1 h2 (by decide) (by decide),Int.one_mul]
theorem narI_in {b o n:Int} (h1:2<=b) (h2:b<=31) (h:(decide (-bL b<=n)&&decide (n<=bL b-1))=true):pR b o n=n:=by
 simp only [Bool.and_eq_true,decide_eq_true_eq] at h
 unfold pR
 cases decide (o=2) with
 |true=>simp only [cond_true];rw [wrapW_id h1 h2 h.1 h.2];omega
 |false=>simp only [cond_false];omega
theorem narI_lo {b o n:Int} (h1:2<=b) (h2:b<=31) (ho:o=1) (h:n< -bL b):pR b o n= -bL b:=by
 have:=zDz h1 h2
 unfold pR;subst ho;simp;omega
theorem narI_hi {b o n:Int} (h1:2<=b) (h2:b<=31) (ho:o=1) (h:¬n< -bL b) (h':(decide (-bL b<=n)&&decide (n<=bL b-1))=false):pR b o n=bL b-1:=by
 have:=zDz h1 h2
 simp only [Bool.and_eq_false_iff,decide_eq_false_iff_not] at h'
 unfold pR;subst ho;simp;omega
theorem narI_wrap {b o n:Int} (h1:2<=b) (h2:b<=31) (ho:o=2):pR b o n=lI b n:=by
 have:=wrapW_in (n:=n) h1 h2
 unfold pR;subst ho;simp;omega
end Go.Br
end
section
namespace Go.Br
open Go Go.Eng Go.L41
structure FxT (t:Ty):Prop where
 k:t.Kind=2
 b1:2<=t.Bits
 b2:t.Bits<=31
 f1:0<=t.Frac
 f2:t.Frac<=30
 r1:1<=t.Round
 r4:t.Round<=4
 ov:t.Over=1∨t.Over=2
 h1:1<=bL t.Bits
 h2:bL t.Bits<=1073741824
 p1:1<=dH t.Frac
 p2:dH t.Frac<=1073741824
theorem fxT {t:Ty} (h:bP t=true):FxT t:=by
 have h':=h
 simp only [bP,Bool.and_eq_true,Bool.or_eq_true,decide_eq_true_eq] at h'
 obtain ⟨⟨⟨⟨⟨⟨⟨h1,h2⟩,h3⟩,h4⟩,h5⟩,h6⟩,h7⟩,h8⟩:=h'
 have a:=zDz h2 h3
 have b:=pow2_le h4 h5
 exact ⟨h1,h2,h3,h4,h5,h6,h7,h8,a.1,a.2,b.1,b.2⟩
theorem fxV {t:Ty} {v:Vl} (h:bP t=true) (hv:bC t v=true):v.D=1/\ -bL t.Bits<=v.N/\v.N<bL t.Bits:=by
 have hk:=(fxT h).k
 exact (zDu (by rw [wY hk];exact h) hv).2.1 hk
theorem fxN {t:Ty} {v:Vl} (h:bP t=true) (hv:bC t v=true):v.N.natAbs<=1073741824:=by
 have:=fxV h hv
 have:=fxT h
 have:=this.h2
 omega
theorem tdiv_le' {n d:Int}:(n.tdiv d).natAbs<=n.natAbs:=by rw [Int.natAbs_tdiv];exact Nat.div_le_self _ _
theorem tdiv_mul_le {n d:Int}:(n.tdiv d*d).natAbs<=n.natAbs:=by
 rw [Int.natAbs_mul,Int.natAbs_tdiv]
 exact Nat.div_mul_le_self _ _
theorem ediv_b {n d:Int} (hd:0<d): -(n.natAbs:Int)<=n/d/\n/d<=n.natAbs/\n/d*d<=n/\n<n/d*d+d:=by
 have e1:=Int.mul_ediv_add_emod n d
 have e2:=Int.emod_nonneg n (show d≠0 by omega)
 have e3:=Int.emod_lt_of_pos n hd
 rw [Int.mul_comm] at e1
 refine ⟨?_,?_,by omega,by omega⟩
 ·by_cases h:0<=n
  ·have:=Int.ediv_nonneg h (Int.le_of_lt hd);omega
  ·refine Int.le_ediv_of_mul_le hd ?_
   have: -(n.natAbs:Int)=n:=by omega
   rw [this]
   have:n*d<=n*1:=Int.mul_le_mul_of_nonpos_left (by omega) (by omega)
   omega
 ·by_cases h:0<=n
  ·have:=Int.ediv_le_self d h;omega
  ·have:n/d<0:=Int.ediv_neg_of_neg_of_pos (by omega) hd
   omega
theorem rnd_b {n d how:Int} (hd:0<d):(rnd n d how).natAbs<=n.natAbs+1:=by
 obtain ⟨h1,h2,_,_⟩:=ediv_b (n:=n) hd
 have:rnd n d how=n/d∨rnd n d how=n/d+1:=by
  unfold rnd
  generalize (decide (n-n/d*d=0)||decide (how=1))=b1
  generalize (decide (d-(n-n/d*d)<n-n/d*d)||(decide (n-n/d*d=d-(n-n/d*d))&& !decide ((n/d).tmod 2=0)))=b2
  cases b1<;>cases decide (how=2)<;>cases decide (how=3)<;>cases decide (n<0)<;>cases b2<;>simp
 omega
theorem flo_lt {n d:Int} (hd:0<d) (h:n<n.tdiv d*d):n.tdiv d-1=n/d:=by rw [←flo_eq hd,flo,decide_eq_true h];rfl
theorem flo_ge {n d:Int} (hd:0<d) (h:¬n<n.tdiv d*d):n.tdiv d=n/d:=by rw [←flo_eq hd,flo,qK h];rfl
theorem rnd1 {n d how:Int} (h:(decide (n-n/d*d=0)||decide (how=1))=true):n/d=rnd n d how:=by rw [rnd,h];rfl
theorem rnd2 {n d how:Int} (h:(decide (n-n/d*d=0)||decide (how=1))=false) (h2:how=2):n/d+1=rnd n d how:=by rw [rnd,h,decide_eq_true h2];rfl
theorem rnd3 {n d how:Int} (h:(decide (n-n/d*d=0)||decide (how=1))=false) (h2:¬how=2) (h3:how=3) (h4:n<0):n/d+1=rnd n d how:=by rw [rnd,h,qK h2,decide_eq_true h3,decide_eq_true h4];rfl
theorem rnd4 {n d how:Int} (h:(decide (n-n/d*d=0)||decide (how=1))=false) (h2:¬how=2) (h3:how=3) (h4:¬n<0):n/d=rnd n d how:=by rw [rnd,h,qK h2,decide_eq_true h3,qK h4];rfl
theorem rnd5 {n d how:Int} (h:(decide (n-n/d*d=0)||decide (how=1))=false) (h2:¬how=2) (h3:¬how=3) (h5:(decide (d-(n-n/d*d)<n-n/d*d)||(decide (n-n/d*d=d-(n-n/d*d))&& !decide ((n/d).tmod 2=0)))=true):n/d+1=rnd n d how:=by rw [rnd,h,qK h2,qK h3,h5];rfl
theorem rnd6 {n d how:Int} (h:(decide (n-n/d*d=0)||decide (how=1))=false) (h2:¬how=2) (h3:¬how=3) (h5:(decide (d-(n-n/d*d)<n-n/d*d)||(decide (n-n/d*d=d-(n-n/d*d))&& !decide ((n/d).tmod 2=0)))=false):n/d=rnd n d how:=by rw [rnd,h,qK h2,qK h3,h5];rfl
theorem fit_w {t:Ty} {n:Int} (h:t.Over=2):max (-bL t.Bits) (min (bL t.Bits-1) (n-(n+bL t.Bits)/(2*bL t.Bits)*2*bL t.Bits))=nar t n:=by
 unfold nar pR lI
 rw [decide_eq_true h,Int.mul_assoc];rfl
theorem fit_n {t:Ty} {n:Int} (h:¬t.Over=2):max (-bL t.Bits) (min (bL t.Bits-1) n)=nar t n:=by
 unfold nar pR
 rw [qK h];rfl
theorem zKg {n d:Int} (h:0<d):jX n d=n:=by unfold jX;rw [qK (by omega)];rfl
theorem zMg {n d:Int} (h:d<0):jX n d= -n:=by unfold jX;rw [decide_eq_true h];rfl
theorem divR_eq {n d how:Int} (h:0<d):lU n d how=(rnd n d how,0):=by
 unfold lU
 rw [qK (show ¬d=0 by omega),zKg h,show (d.natAbs:Int)=d by omega];rfl
theorem divR_nz {n d how:Int} (h:¬d=0):lU n d how=(rnd (jX n d) d.natAbs how,0):=by
 unfold lU;rw [qK h];rfl
theorem tmod_np {a b:Int} (h:a<=0):a.tmod b<=0:=by
 have:=Int.tmod_nonneg (a:= -a) b (by omega)
 rw [Int.neg_tmod] at this
 omega
theorem fixA_div (t:Ty) (a b:Int):nC 7 t a b=(bif decide ((lU (a*dH t.Frac) b t.Round).2=0) then ⟨nar t (lU (a*dH t.Frac) b t.Round).1,1⟩ else ⟨0,0⟩,(lU (a*dH t.Frac) b t.Round).2):=by
 unfold nC
 by_cases h:b=0
 ·rw [zUd h,decide_eq_true h];rfl
 ·rw [divR_nz h,qK h]
  have:jX (a*dH t.Frac) b=jX a b*dH t.Frac:=by
   unfold jX;cases decide (b<0)
   ·rfl
   ·show-(a*dH t.Frac)= -a*dH t.Frac
    rw [Int.neg_mul]
  rw [this];rfl
theorem divR_b {x y how:Int} (hx: -((1073741824*1073741824:Nat):Int)<=x/\x<=((1073741824*1073741824:Nat):Int)):lY (lU x y how).1:=by
 by_cases h:y=0
 ·rw [zUd h];exact ⟨by decide,by decide⟩
 ·rw [divR_nz h]
  have:=rnd_b (n:=jX x y) (d:=(y.natAbs:Int)) (how:=how) (by omega)
  have hp:(jX x y).natAbs=x.natAbs:=by unfold jX;cases decide (y<0)<;>simp
  exact ⟨by show _<=rnd _ _ _;omega,by show rnd _ _ _<=_;omega⟩
theorem fixA1 {op:Int} {t:Ty} {a b:Int} (h:op=4):nC op t a b=(⟨nar t (a+b),1⟩,0):=by subst h;rfl
theorem fixA2 {op:Int} {t:Ty} {a b:Int} (h:op=5):nC op t a b=(⟨nar t (a-b),1⟩,0):=by subst h;rfl
theorem fixA3 {op:Int} {t:Ty} {a b:Int} (h:op=6):nC op t a b=(⟨nar t (rnd (a*b) (dH t.Frac) t.Round),1⟩,0):=by subst h;rfl
theorem fixA4 {op:Int} {t:Ty} {a b:Int} (h:op=8):nC op t a b=(⟨nar t (-a),1⟩,0):=by subst h;rfl
theorem fixA5 {op:Int} {t:Ty} {a b:Int} (h:op=7) (h0:b=0):nC op t a b=(⟨0,0⟩,4):=by subst h;subst h0;rfl
theorem fixA6 {op:Int} {t:Ty} {a b:Int} (h:op=7) (h0:¬b=0):nC op t a b=(⟨nar t (rnd (jX a b*dH t.Frac) b.natAbs t.Round),1⟩,0):=by subst h;unfold nC;rw [qK h0];rfl
theorem intN1 {op a b:Int} (h:op=4):dU op a b=a+b:=by subst h;rfl
theorem intN2 {op a b:Int} (h:op=5):dU op a b=a-b:=by subst h;rfl
theorem intN3 {op a b:Int} (h:op=6):dU op a b=a*b:=by subst h;rfl
theorem intN4 {op a b:Int} (h:op=7):dU op a b=jX a b/b.natAbs:=by subst h;rfl
theorem intN5 {op a b:Int} (h:op=8):dU op a b= -a:=by subst h;rfl
theorem n31 {a:Int} (h:bI a=true): -2147483647<=a/\a<=2147483647:=by
 simp only [bI,Bool.and_eq_true,decide_eq_true_eq] at h;exact h
theorem n31_f {a:Int} (h:(decide (2147483647<a)||decide (a< -2147483647))=true):bI a=false:=by
 simp only [Bool.or_eq_true,decide_eq_true_eq] at h
 simp only [bI,Bool.and_eq_false_iff,decide_eq_false_iff_not];omega
theorem n31_t {a:Int} (h:(decide (2147483647<a)||decide (a< -2147483647))=false):bI a=true:=by
 simp only [Bool.or_eq_false_iff,decide_eq_false_iff_not] at h
 simp only [bI,Bool.and_eq_true,decide_eq_true_eq];omega
theorem zFa {op a b:Int} (h:op=7) (h0:b=0):nX op a b=(⟨0,0⟩,4):=by subst h;subst h0;rfl
theorem zEz {op a b:Int} (h:¬(op=7/\b=0)) (hx:bI (dU op a b)=false):nX op a b=(⟨0,0⟩,3):=by
 unfold nX
 rw [hx,show (decide (op=7)&&decide (b=0))=false by simp;omega];rfl
theorem zEy {op a b:Int} (h:¬(op=7/\b=0)) (hx:bI (dU op a b)=true):nX op a b=(⟨dU op a b,1⟩,0):=by
 unfold nX
 rw [hx,show (decide (op=7)&&decide (b=0))=false by simp;omega];rfl
theorem idiv {a b:Int} (hb:¬b=0) (h:(!decide (a.tmod b=0)&&jF a b)=true):a.tdiv b-1=jX a b/b.natAbs:=by
 simp only [Bool.and_eq_true,Bool.not_eq_true',decide_eq_false_iff_not,jF,bne_iff_ne,ne_eq,decide_eq_decide] at h
 by_cases k:0<b
 ·rw [zKg k,show (b.natAbs:Int)=b by omega]
  refine zTq k ?_
  have:=Int.tmod_nonneg (a:=a) b
  have h0:a<0:=by omega
  have:=tmod_np (a:=a) (b:=b) (by omega)
  omega
 ·have k':0< -b:=by omega
  rw [zMg (by omega),show (b.natAbs:Int)= -b by omega]
  have e:(-a).tdiv (-b)=a.tdiv b:=by rw [Int.neg_tdiv_neg]
  have e2:(-a).tmod (-b)= -(a.tmod b):=by rw [Int.tmod_neg,Int.neg_tmod]
  rw [←e]
  refine zTq k' ?_
  rw [e2]
  have:=Int.tmod_nonneg (a:=a) b (by omega)
  omega
theorem idiv0 {a b:Int} (hb:¬b=0) (h:(!decide (a.tmod b=0)&&jF a b)=false):a.tdiv b=jX a b/b.natAbs:=by
 simp only [Bool.and_eq_false_iff,Bool.not_eq_false',decide_eq_true_eq,jF,bne_eq_false_iff_eq,decide_eq_decide] at h
 by_cases k:0<b
 ·rw [zKg k,show (b.natAbs:Int)=b by omega]
  refine zTp k ?_
  rcases h with h|h
  ·omega
  ·have:=Int.tmod_nonneg (a:=a) b (by omega);omega
 ·have k':0< -b:=by omega
  rw [zMg (by omega),show (b.natAbs:Int)= -b by omega]
  have e:(-a).tdiv (-b)=a.tdiv b:=by rw [Int.neg_tdiv_neg]
  have e2:(-a).tmod (-b)= -(a.tmod b):=by rw [Int.tmod_neg,Int.neg_tmod]
  rw [←e]
  refine zTp k' ?_
  rw [e2]
  rcases h with h|h
  ·omega
  ·have:=tmod_np (a:=a) (b:=b) (by omega);omega
def vG (t:Ty) (a:Vl):Vl×Int:=bif decide (t.Kind=2) then (⟨nar t (-a.N),1⟩,0) else (⟨-a.N,a.D⟩,0)
def pW (op:Int) (t:Ty) (a b:Vl):Vl×Int:=bif decide (t.Kind=2) then nC op t a.N b.N else bif decide (t.Kind=3) then nX op a.N b.N else tD op a b
theorem apl1 {op:Int} {t:Ty} {a b:Vl} (h:(decide (op<4)||decide (10<op))=true):mO op t a b=(⟨0,0⟩,1):=by rw [mO,h];rfl
theorem apl2 {op:Int} {t:Ty} {a b:Vl} (h:(decide (op<4)||decide (10<op))=false) (h2:bD t=false):mO op t a b=(⟨0,0⟩,10):=by rw [mO,h,h2];rfl
theorem apl3 {op:Int} {t:Ty} {a b:Vl} (h:(decide (op<4)||decide (10<op))=false) (h2:bD t=true) (h3:(!bC t a||(!decide (op=8)&& !bC t b))=true):mO op t a b=(⟨0,0⟩,1):=by rw [mO,h,h2,h3];rfl
theorem apl4 {op:Int} {t:Ty} {a b:Vl} (h:(decide (op<4)||decide (10<op))=false) (h2:bD t=true) (h3:(!bC t a||(!decide (op=8)&& !bC t b))=false):mO op t a b=bif decide (op=9)||decide (op=10) then (bif decide (0<jZ t a b)==decide (op=9) then b else a,0) else pW op t a b:=by rw [mO,h,h2,h3];rfl
theorem apl5 {op:Int} {t:Ty} {a b:Vl} (h:(decide (op<4)||decide (10<op))=false) (h2:bD t=true) (h3:(!bC t a||(!decide (op=8)&& !bC t b))=false) (hm:(decide (op=9)||decide (op=10))=false):mO op t a b=pW op t a b:=by rw [apl4 h h2 h3,hm];rfl
theorem apl6 {op:Int} {t:Ty} {a b:Vl} (h:(decide (op<4)||decide (10<op))=false) (h2:bD t=true) (h3:(!bC t a||(!decide (op=8)&& !bC t b))=false) (hm:(decide (op=9)||decide (op=10))=true):mO op t a b=(bif decide (0<jZ t a b)==decide (op=9) then b else a,0):=by rw [apl4 h h2 h3,hm];rfl
theorem apl_ok {op:Int} {t:Ty} {a b:Vl} (h:(!bC t a||(!decide (op=8)&& !bC t b))=false):bC t a=true/\(¬op=8->bC t b=true):=by
 rw [Bool.or_eq_false_iff,Bool.and_eq_false_iff] at h
 refine ⟨by simpa using h.1,fun h8=>?_⟩
 rcases h.2 with h|h
 ·simp at h;exact absurd h h8
 ·simpa using h
theorem zUu {op:Int} (h:(decide (op<4)||decide (10<op))=false):4<=op/\op<=10:=by
 simp only [Bool.or_eq_false_iff,decide_eq_false_iff_not] at h;omega
theorem fr31 {v:Vl} (h:bN v=true):bI v.N=true:=by
 have:=zEn h
 simp only [bI,Bool.and_eq_true,decide_eq_true_eq];omega
theorem and_dec {p q:Prop} [Decidable p] [Decidable q] (h:(decide p&&decide q)=true):p/\q:=by simpa using h
theorem ari7 {op:Int} {t:Ty} (hk:t.Kind=2) (h1:4<=op) (h2:op<=7) (c2:(decide (op=4)&&decide (t.Kind=2))=false) (c3:(decide (op=5)&&decide (t.Kind=2))=false) (c4:(decide (op=6)&&decide (t.Kind=2))=false):op=7:=by
 simp [hk] at c2 c3 c4;omega
theorem ari1 {op:Int} {t:Ty} {a b:Vl} (h2:¬t.Kind=2) (h3:¬t.Kind=3):pW op t a b=tD op a b:=by unfold pW;rw [qK h2,qK h3];rfl
theorem ari2 {op:Int} {t:Ty} {a b:Vl} (h:t.Kind=2):pW op t a b=nC op t a.N b.N:=by unfold pW;rw [decide_eq_true h];rfl
theorem ari3 {op:Int} {t:Ty} {a b:Vl} (h:t.Kind=3):pW op t a b=nX op a.N b.N:=by unfold pW;rw [qK (show ¬t.Kind=2 by omega),decide_eq_true h];rfl
theorem ari_neg {t:Ty} {a b:Vl} (h2:bD t=true) (ha:bC t a=true):pW 8 t a b=vG t a:=by
 have hfr:=zEn (zDu h2 ha).2.2
 unfold pW vG
 by_cases hk:t.Kind=2
 ·rw [decide_eq_true hk];rfl
 ·rw [qK hk]
  by_cases h3:t.Kind=3
  ·rw [decide_eq_true h3]
   rw [bC,qK hk,decide_eq_true h3] at ha
   simp only [cond_false,cond_true,Bool.and_eq_true,decide_eq_true_eq,bI] at ha
   have:bI (-a.N)=true:=by simp only [bI,Bool.and_eq_true,decide_eq_true_eq];omega
   rw [ha.1]
   show nX 8 a.N b.N=_
   unfold nX dU
   simp [this]
  ·rw [qK h3];rfl
theorem apl_min {t:Ty} {a b:Vl} {op:Int} (h2:bD t=true) (ha:bC t a=true) (hb:bC t b=true) (h:((decide (0<jZ t a b)==decide (op=9))&& !decide (jZ t a b=0))=true):(bif decide (0<jZ t a b)==decide (op=9) then b else a)=b:=by
 rw [Bool.and_eq_true] at h;rw [h.1];rfl
theorem apl_min0 {t:Ty} {a b:Vl} {op:Int} (h2:bD t=true) (ha:bC t a=true) (hb:bC t b=true) (h:((decide (0<jZ t a b)==decide (op=9))&& !decide (jZ t a b=0))=false):(bif decide (0<jZ t a b)==decide (op=9) then b else a)=a:=by
 rw [Bool.and_eq_false_iff] at h
 rcases h with h|h
 ·rw [h];rfl
 ·have:=cmp_zero (t:=t) (a:=a) (b:=b) (by rw [h2,ha];rfl) (by rw [h2,hb];rfl) (by simpa using h)
  subst this
  cases (decide (0<jZ t a a)==decide (op=9))<;>rfl
theorem cmp_yes {t:Ty} {a b:Vl} (ha:(bD t&&bC t a)=true) (hb:(bD t&&bC t b)=true):jZ t a b=nJ (a.N*b.D) (b.N*a.D):=by rw [jZ,ha,hb];rfl
theorem cmp_no {t:Ty} {a b:Vl} (h:(!(bD t&&bC t a)|| !(bD t&&bC t b))=true):jZ t a b=0:=by
 rw [jZ]
 cases h1:(bD t&&bC t a)<;>cases h2:(bD t&&bC t b)
 ·rfl
 ·rfl
 ·rfl
 ·rw [h1,h2] at h;cases h
theorem both_ok {t:Ty} {a b:Vl} (h:(!(bD t&&bC t a)|| !(bD t&&bC t b))=false):(bD t&&bC t a)=true/\(bD t&&bC t b)=true:=by
 simpa using h
theorem cmp_int {t:Ty} {a b:Vl} (hk:¬t.Kind=1) (ha:(bD t&&bC t a)=true) (hb:(bD t&&bC t b)=true):jZ t a b=nJ a.N b.N:=by
 rw [cmp_yes ha hb]
 have one:∀v:Vl,(bD t&&bC t v)=true->v.D=1:=by
  intro v hv
  rw [Bool.and_eq_true] at hv
  obtain ⟨ht,h⟩:=hv
  by_cases h2:t.Kind=2
  ·rw [bC,decide_eq_true h2] at h
   simp only [cond_true,Bool.and_eq_true,decide_eq_true_eq] at h;exact h.1.1
  ·by_cases h3:t.Kind=3
   ·rw [bC,qK h2,decide_eq_true h3] at h
    simp only [cond_true,cond_false,Bool.and_eq_true,decide_eq_true_eq] at h;exact h.1
   ·rw [tyk0 hk h3 h2] at ht;cases ht
 rw [one a ha,one b hb,Int.mul_one,Int.mul_one]
theorem cst1 {f t:Ty} {v:Vl} (h:(!bD f|| !bD t)=true):mN f t v=(⟨0,0⟩,10):=by rw [mN,h];rfl
theorem cst2 {f t:Ty} {v:Vl} (h:(!bD f|| !bD t)=false) (h2:bC f v=false):mN f t v=(⟨0,0⟩,1):=by rw [mN,h,h2];rfl
theorem cst3 {f t:Ty} {v:Vl} (h:(!bD f|| !bD t)=false) (h2:bC f v=true) (h3:t.Kind=3):mN f t v=(⟨(fO f v).N/(fO f v).D,1⟩,0):=by rw [mN,h,h2,decide_eq_true h3];rfl
theorem cst4 {f t:Ty} {v:Vl} (h:(!bD f|| !bD t)=false) (h2:bC f v=true) (h3:¬t.Kind=3) (h4:t.Kind=2):mN f t v=(⟨nar t (rnd ((fO f v).N*dH t.Frac) (fO f v).D t.Round),1⟩,0):=by rw [mN,h,h2,qK h3,decide_eq_true h4];rfl
theorem cst5 {f t:Ty} {v:Vl} (h:(!bD f|| !bD t)=false) (h2:bC f v=true) (h3:¬t.Kind=3) (h4:¬t.Kind=2):mN f t v=(fO f v,0):=by rw [mN,h,h2,qK h3,qK h4];rfl
theorem err_ty {f t:Ty}:(!decide (bS f=0)|| !decide (bS t=0))=(!bD f|| !bD t):=by
 unfold bS;cases bD f<;>cases bD t<;>rfl
theorem fracV_2 {t:Ty} {v:Vl} (h:t.Kind=2):fO t v=(lO v.N (dH t.Frac)).1:=by unfold fO;rw [decide_eq_true h];rfl
theorem fracV_n {t:Ty} {v:Vl} (h:¬t.Kind=2):fO t v=v:=by unfold fO;rw [qK h];rfl
end Go.Br
end
section
namespace Go.Br
open Go Go.Eng Go.L41
structure In where
 Op:Int
 A:Int
 B:Int
 C:Int
 Val:Vl
 Ty:Ty
 deriving DecidableEq
def In.cells (x:In):List Eng.C:=[cI x.Op,cI x.A,cI x.B,cI x.C,cI x.Val.N,cI x.Val.D,cI x.Ty.Kind,cI x.Ty.Bits,cI x.Ty.Frac,cI x.Ty.Round,cI x.Ty.Over]
def Ty.cells (t:Ty):List Eng.C:=[cI t.Kind,cI t.Bits,cI t.Frac,cI t.Round,cI t.Over]
abbrev vIn (x:In):V:=.agg x.cells
abbrev sV (l:List In):V:=.c (.sl 11 (l.map In.cells))
abbrev sU (l:List Ty):V:=.c (.sl 5 (l.map Ty.cells))
/-! ## Well formed instructions -/
def opTab:List ByteArray:=[bs [45,45,45],bs [120,110,45],bs [120,120,45],bs [120,120,120],bs [120,120,110],bs [120,120,120],bs [120,120,120],bs [116,45,45],bs [116,120,120],bs [114,45,45],bs [114,120,99],bs [114,120,99],bs [114,114,114],bs [114,114,45],bs [116,114,114],bs [120,114,109],bs [114,120,45]]
def gF (k n:Int):Bool:=
 bif decide (k=45) then decide (n=0) else bif decide (k=120)||decide (k=114) then decide (0<=n)&&decide (n<=255) else
 bif decide (k=116) then decide (0<=n)&&decide (n<65536) else bif decide (k=110) then bI n else
 bif decide (k=99) then decide (0<=n)&&decide (n<=1048576) else decide (1<=n)&&decide (n<=4096)
def sG (v:Vl) (a b:Int):Bool:=decide (v.D=1)&&decide (a<=v.N)&&decide (v.N<=b)
def vaB (x:In):Bool:=
 bif decide (x.Op=9) then bN x.Val else bif decide (x.Op=10)||decide (x.Op=11) then sG x.Val 0 x.C else
 bif decide (x.Op=12) then sG x.Val 4 10&&(!decide (x.Val.N=8)||decide (x.C=0)) else bif decide (x.Op=13) then sG x.Val 0 255 else
 bif decide (x.Op=14) then sG x.Val 13 15 else rB x.Val
def mQ (op:Int):Bool:=decide (op=12)||decide (op=13)||decide (op=14)
def jK (op:Int) (k:Nat):Int:=mI (opTab.getD op.toNat (bs [])) k
def dS (op:Int):Bool:=decide (0<=op)&&decide (op<17)
def fmd (x:In):Bool:=
 dS x.Op&&(gF (jK x.Op 0) x.A&&gF (jK x.Op 1) x.B&&gF (jK x.Op 2) x.C&&vaB x)&&(bif mQ x.Op then bD x.Ty else ty0 x.Ty)
def dR (op:Int):Bool:=decide (op=7)||decide (op=8)||decide (op=14)
def jI (many types words:Int) (x:In):Bool:=
 fmd x&& !(dR x.Op&&decide (many<=x.A))&& !((decide (x.Op=10)||decide (x.Op=11))&&decide (words<x.C))&& !(decide (x.Op=13)&&decide (types<=x.Val.N))
/-! The program's tables. -/
def mR (x:In) (k:Int):Bool:=decide (k=0)||(decide (k=6)&&decide (x.Op=12)&&decide (x.Val.N=8))
def kinds (x:In):List Int:=(kTab.getD x.Op.toNat []).filter fun k=> !mR x k
def bG (n a b:Int):Bool:=decide (a<=n)&&decide (n<=b)
def fS (x:In) (k:Int):Bool:=
 bif decide (k=1)||decide (k=4) then bG x.A 0 255 else bif decide (k=2)||decide (k=5) then bG x.B 0 255 else bif decide (k=3)||decide (k=6) then bG x.C 0 255 else
 bif decide (k=7) then bG x.A 0 65535 else bif decide (k=8) then bG x.B (-2147483647) 2147483647 else bif decide (k=9) then bG x.C (-2147483647) 2147483647 else
 bif decide (k=10) then bG x.Val.N 0 x.C else bif decide (k=11) then bG x.C 0 1048576 else bif decide (k=12) then bG x.Val.N 0 255 else bif decide (k=13) then bG x.C 1 4096 else
 bif decide (k=14) then bN x.Val else bif decide (k=15) then bG x.Val.N 4 10 else bif decide (k=16) then bG x.Val.N 13 15 else bD x.Ty
def dA (u x:In) (k:Int):In:=
 bif decide (k=1)||(decide (k=4)||decide (k=7)) then { u with A:=x.A } else bif decide (k=2)||(decide (k=5)||decide (k=8)) then { u with B:=x.B } else
 bif decide (k=3)||(decide (k=6)||(decide (k=9)||(decide (k=11)||decide (k=13)))) then { u with C:=x.C } else
 bif decide (k=10)||(decide (k=12)||(decide (k=15)||decide (k=16))) then { u with Val:=⟨x.Val.N,1⟩ } else bif decide (k=14) then { u with Val:=x.Val } else
 bif decide (k=17) then { u with Ty:=x.Ty } else u
def in0 (op:Int):In:=⟨op,0,0,0,⟨0,0⟩,⟨0,0,0,0,0⟩⟩
def wfP (x:In):Bool:=dS x.Op&&((kinds x).all (fS x)&&decide ((kinds x).foldl (fun u k=>dA u x k) (in0 x.Op)=x))
theorem in_eq (a b:In):(a=b)↔(a.Op=b.Op/\a.A=b.A/\a.B=b.B/\a.C=b.C/\(a.Val.N=b.Val.N/\a.Val.D=b.Val.D)/\(a.Ty.Kind=b.Ty.Kind/\a.Ty.Bits=b.Ty.Bits/\a.Ty.Frac=b.Ty.Frac/\a.Ty.Round=b.Ty.Round/\a.Ty.Over=b.Ty.Over)):=by
 obtain ⟨o,a1,b1,c1,⟨n1,d1⟩,⟨k1,k2,k3,k4,k5⟩⟩:=a
 obtain ⟨o',a1',b1',c1',⟨n1',d1'⟩,⟨k1',k2',k3',k4',k5'⟩⟩:=b
 simp only [In.mk.injEq,Vl.mk.injEq,Ty.mk.injEq]
theorem val0_iff (v:Vl):rB v=true↔v.N=0/\v.D=0:=by simp [rB,bF,cEq]
theorem ty0_iff (t:Ty):ty0 t=true↔t.Kind=0/\t.Bits=0/\t.Frac=0/\t.Round=0/\t.Over=0:=by simp [ty0,bF,cEq]
theorem wf_fmd (x:In):wfP x=fmd x:=by
 unfold wfP fmd
 cases hk:dS x.Op with
 |false=>rfl
 |true=>
  simp only [dS,Bool.and_eq_true,decide_eq_true_eq] at hk
  obtain ⟨o,a,b,c,⟨n,d⟩,t⟩:=x
  have hc:o=0∨o=1∨o=2∨o=3∨o=4∨o=5∨o=6∨o=7∨o=8∨o=9∨o=10∨o=11∨o=12∨o=13∨o=14∨o=15∨o=16:=by
   have:=hk.1;have:=hk.2;dsimp only at *;omega
  have hty:∀t':Ty,(t=t')↔(t.Kind=t'.Kind/\t.Bits=t'.Bits/\t.Frac=t'.Frac/\t.Round=t'.Round/\t.Over=t'.Over):=by
   intro t';cases t;cases t';simp only [Ty.mk.injEq]
  rw [Bool.eq_iff_iff]
  have e8:n=8∨¬n=8:=Classical.em _
  rcases hc with rfl|rfl|rfl|rfl|rfl|rfl|rfl|rfl|rfl|rfl|rfl|rfl|rfl|rfl|rfl|rfl|rfl
  case inr.inr.inr.inr.inr.inr.inr.inr.inr.inr.inr.inr.inl=>
   rcases e8 with rfl|h8
   ·simp [kinds,kTab,mR,fS,dA,in0,in_eq,jK,opTab,mI,gF,vaB,mQ,bG,sG,bI,val0_iff,ty0_iff,-Bool.not_eq_true]
    try first|omega|(generalize bD t=p;cases p<;>first|(simp;done)|(simp;omega)|omega)
   ·simp [kinds,kTab,mR,fS,dA,in0,in_eq,jK,opTab,mI,gF,vaB,mQ,bG,sG,bI,val0_iff,ty0_iff,h8,-Bool.not_eq_true]
    try first|omega|(generalize bD t=p;cases p<;>first|(simp;done)|(simp;omega)|omega)
  all_goals
   simp [kinds,kTab,mR,fS,dA,in0,in_eq,jK,opTab,mI,gF,vaB,mQ,bG,sG,bI,val0_iff,ty0_iff,-Bool.not_eq_true]
   try first|omega|(generalize bD t=p;cases p<;>first|(simp;done)|(simp;omega)|omega)|(generalize bN ⟨n,d⟩=q;cases q<;>first|(simp;done)|(simp;omega)|omega)
/-! ## Programs -/
def lF {α:Type} (p:α->Bool) (l:List α):Int×Int:=bif decide (bW p l= -1) then (0,0) else (bW p l,25)
def vld (code:List In) (tys:List Ty) (words:Int):Int×Int:=
 bif decide ((65536:Int)<code.length) then (0,2) else bif !bG words 0 1048576 then (0,1) else bif tys.any (fun t=> !bD t) then (0,10) else
 lF (fun x=> !jI code.length tys.length words x) code
/-! ## The machine -/
structure Mc where
 code:List In
 tys:List Ty
 pc:Int
 X:List Int
 R:List Vl
 M:List Vl
 hl:Bool
namespace Mc
def gX (s:Mc) (i:Int):Int:=s.X.getD i.toNat 0
def gR (s:Mc) (i:Int):Vl:=s.R.getD i.toNat ⟨0,0⟩
def gM (s:Mc) (i:Int):Vl:=s.M.getD i.toNat ⟨0,0⟩
def sX (s:Mc) (i n:Int):Mc:={ s with X:=s.X.set i.toNat n }
def sR (s:Mc) (i:Int) (v:Vl):Mc:={ s with R:=s.R.set i.toNat v }
def sM (s:Mc) (i:Int) (v:Vl):Mc:={ s with M:=s.M.set i.toNat v }
end Mc
def lR (s:Mc) (x:In):Int:=
 bif decide (x.Op=1) then x.B else bif decide (x.Op=2) then s.gX x.B else bif decide (x.Op=3) then IntKind.i64.wrap (s.gX x.B+s.gX x.C) else
 bif decide (x.Op=4) then IntKind.i64.wrap (s.gX x.B*x.C) else bif decide (x.Op=5) then min (s.gX x.B) (s.gX x.C) else
 bif decide (x.Op=6) then max (s.gX x.B) (s.gX x.C) else max 0 (min (s.gR x.B).N (x.C-1))
def jQ (s:Mc) (x:In):Mc×Int:=
 bif decide (s.gX x.B<x.Val.N)||decide (x.C<=s.gX x.B) then (s,12) else
 bif decide (x.Op=10) then (s.sR x.A (s.gM (s.gX x.B)),0) else (s.sM (s.gX x.B) (s.gR x.A),0)
def jU (s:Mc) (x:In):Vl×Int:=
 bif decide (x.Op=9) then (x.Val,0) else bif decide (x.Op=12) then mO x.Val.N x.Ty (s.gR x.B) (s.gR x.C) else
 bif decide (x.Op=13) then mN (s.tys.getD x.Val.N.toNat ⟨0,0,0,0,0⟩) x.Ty (s.gR x.B) else
 bif decide (2147483647<s.gX x.B)||decide (s.gX x.B< -2147483647) then (⟨0,0⟩,3) else (⟨s.gX x.B,1⟩,0)
def jC (s:Mc) (x:In):Mc×Int:=bif decide ((jU s x).2=0) then (s.sR x.A (jU s x).1,0) else (s,(jU s x).2)
def lT (s:Mc) (x:In):Bool×Int:=
 bif decide (x.Op=7) then (true,0) else bif decide (x.Op=8) then (decide (s.gX x.B<s.gX x.C),0) else
 bif !(bD x.Ty&&bC x.Ty (s.gR x.B))|| !(bD x.Ty&&bC x.Ty (s.gR x.C)) then (false,1) else
 (!((decide (jZ x.Ty (s.gR x.B) (s.gR x.C)<0)&& !decide (x.Val.N=15))||(decide (jZ x.Ty (s.gR x.B) (s.gR x.C)=0)&& !decide (x.Val.N=13))),0)
def zIn:In:=in0 0
def Mc.ins (s:Mc):In:=s.code.getD s.pc.toNat zIn
def gN (op:Int):Bool:=decide (op=10)||decide (op=11)
def fQ (op:Int):Bool:=decide (op=9)||decide (op=12)||decide (op=13)||decide (op=16)
def doM (s:Mc) (x:In):Mc×Int:=
 bif dR x.Op then (s,(lT s x).2) else bif gN x.Op then jQ s x else bif fQ x.Op then jC s x else (s.sX x.A (lR s x),0)
def dY (s:Mc) (x:In):Int:=bif dR x.Op&&(lT s x).1 then x.A else s.pc+1
def dX (s:Mc):Mc×Bool×Int:=
 bif s.hl then (s,false,0) else bif decide ((s.code.length:Int)<=s.pc) then (s,false,25) else
 bif decide (s.ins.Op=0) then ({ s with hl:=true },false,0) else
 bif decide ((doM s s.ins).2=0) then ({ (doM s s.ins).1 with pc:=dY s s.ins },true,0) else (s,false,(doM s s.ins).2)
def mA:Nat->Mc->Int->Mc×Int×Int
 |0,s,n=>bif s.hl then (s,n,0) else (s,0,14)
 |k+1,s,n=>bif s.hl then (s,n,0) else bif decide ((dX s).2.2=0) then mA k (dX s).1 (n+1) else (s,0,(dX s).2.2)
structure Mc.Ok (s:Mc) (words:Int):Prop where
 hc:∀x,x∈s.code->jI s.code.length s.tys.length words x=true
 hp:0<=s.pc
 hn:s.code.length<=65536
 hX:s.X.length=256
 hR:s.R.length=256
 hM:(s.M.length:Int)=words
 hw:words<=1048576
 ht:∀t,t∈s.tys->bD t=true
theorem Mc.Ok.insOk {s:Mc} {w:Int} (h:s.Ok w) (hp:s.pc<s.code.length):s.code[s.pc.toNat]? =some s.ins/\jI s.code.length s.tys.length w s.ins=true:=by
 have:=h.hp
 have hl:s.pc.toNat<s.code.length:=by omega
 have e:s.code[s.pc.toNat]? =some s.ins:=by simp [Mc.ins,List.getD,List.getElem?_eq_getElem hl]
 exact ⟨e,h.hc _ (List.mem_of_getElem? e)⟩
theorem Mc.Ok.setX {s:Mc} {w:Int} (h:s.Ok w) (i n:Int):(s.sX i n).Ok w:=⟨h.hc,h.hp,h.hn,by simp [Mc.sX,h.hX],h.hR,h.hM,h.hw,h.ht⟩
theorem Mc.Ok.setR {s:Mc} {w:Int} (h:s.Ok w) (i:Int) (v:Vl):(s.sR i v).Ok w:=⟨h.hc,h.hp,h.hn,h.hX,by simp [Mc.sR,h.hR],h.hM,h.hw,h.ht⟩
theorem Mc.Ok.setM {s:Mc} {w:Int} (h:s.Ok w) (i:Int) (v:Vl):(s.sM i v).Ok w:=⟨h.hc,h.hp,h.hn,h.hX,h.hR,by simp [Mc.sM,h.hM],h.hw,h.ht⟩
theorem Mc.Ok.setPC {s:Mc} {w:Int} (h:s.Ok w) {n:Int} (hn:0<=n):Mc.Ok { s with pc:=n } w:=⟨h.hc,hn,h.hn,h.hX,h.hR,h.hM,h.hw,h.ht⟩
theorem Mc.Ok.halt {s:Mc} {w:Int} (h:s.Ok w):Mc.Ok { s with hl:=true } w:=⟨h.hc,h.hp,h.hn,h.hX,h.hR,h.hM,h.hw,h.ht⟩
theorem zGc {s:Mc} {w:Int} (h:s.Ok w) (x:In):(doM s x).1.Ok w:=by
 unfold doM
 cases dR x.Op with
 |true=>exact h
 |false=>
  cases gN x.Op with
  |true=>
   show (jQ s x).1.Ok w
   unfold jQ
   cases (decide (s.gX x.B<x.Val.N)||decide (x.C<=s.gX x.B)) with
   |true=>exact h
   |false=>cases decide (x.Op=10) with|true=>exact h.setR _ _|false=>exact h.setM _ _
  |false=>
   cases fQ x.Op with
   |true=>
    show (jC s x).1.Ok w
    unfold jC
    cases decide ((jU s x).2=0) with|true=>exact h.setR _ _|false=>exact h
   |false=>exact h.setX _ _
theorem fmd_parts {x:In} (h:fmd x=true):0<=x.Op/\x.Op<=16/\(gF (jK x.Op 0) x.A=true/\gF (jK x.Op 1) x.B=true/\gF (jK x.Op 2) x.C=true)/\vaB x=true/\(mQ x.Op=true->bD x.Ty=true):=by
 simp only [fmd,dS,Bool.and_eq_true,decide_eq_true_eq] at h
 obtain ⟨⟨h1,⟨⟨h2,h3⟩,h4⟩,h5⟩,h6⟩:=h
 refine ⟨h1.1,by omega,⟨h2,h3,h4⟩,h5,fun ht=>?_⟩
 rw [ht] at h6
 exact h6
theorem inOk_fmd {m t w:Int} {x:In} (h:jI m t w x=true):fmd x=true/\(dR x.Op=true->x.A<m)/\(gN x.Op=true->x.C<=w)/\(x.Op=13->x.Val.N<t):=by
 simp only [jI,Bool.and_eq_true,Bool.not_eq_true',Bool.and_eq_false_iff,decide_eq_false_iff_not] at h
 obtain ⟨⟨⟨h1,h2⟩,h3⟩,h4⟩:=h
 refine ⟨h1,fun hj=>?_,fun hm=>?_,fun ho=>?_⟩
 ·rcases h2 with h2|h2
  ·rw [hj] at h2;cases h2
  ·omega
 ·rcases h3 with h3|h3
  ·unfold gN at hm;rw [hm] at h3;cases h3
  ·omega
 ·rcases h4 with h4|h4
  ·exact absurd ho h4
  ·omega
theorem zTr {x:In} (h:fmd x=true):
  (dR x.Op=true->0<=x.A/\x.A<65536)/\
  (dR x.Op=false->x.Op≠0->0<=x.A/\x.A<=255)/\
  (x.Op≠0->x.Op≠1->x.Op≠7->x.Op≠9->0<=x.B/\x.B<=255)/\
  (x.Op=3∨x.Op=5∨x.Op=6∨x.Op=8∨x.Op=12∨x.Op=14->0<=x.C/\x.C<=255)/\
  (gN x.Op=true->0<=x.C/\x.C<=1048576/\0<=x.Val.N/\x.Val.N<=x.C)/\
  (x.Op=12->4<=x.Val.N/\x.Val.N<=10)/\(x.Op=13->0<=x.Val.N/\x.Val.N<=255)/\(x.Op=14->13<=x.Val.N/\x.Val.N<=15)/\
  (x.Op=15->1<=x.C/\x.C<=4096)/\(x.Op=1-> -2147483647<=x.B/\x.B<=2147483647)/\(x.Op=4-> -2147483647<=x.C/\x.C<=2147483647)/\(x.Op=9->bN x.Val=true):=by
 obtain ⟨h1,h2,⟨ha,hb,hc⟩,hv,_⟩:=fmd_parts h
 obtain ⟨o,a,b,c,⟨n,d⟩,t⟩:=x
 dsimp only at *
 have hcs:o=0∨o=1∨o=2∨o=3∨o=4∨o=5∨o=6∨o=7∨o=8∨o=9∨o=10∨o=11∨o=12∨o=13∨o=14∨o=15∨o=16:=by omega
 rcases hcs with rfl|rfl|rfl|rfl|rfl|rfl|rfl|rfl|rfl|rfl|rfl|rfl|rfl|rfl|rfl|rfl|rfl
 all_goals
  simp [jK,opTab,mI,gF,vaB,sG,bI,dR,gN] at ha hb hc hv⊢
  try first|omega|exact ⟨ha,hv⟩
theorem stepM_ok {s:Mc} {w:Int} (h:s.Ok w):(dX s).1.Ok w:=by
 unfold dX
 cases s.hl with
 |true=>exact h
 |false=>
  by_cases hp:(s.code.length:Int)<=s.pc
  ·rw [decide_eq_true hp];exact h
  ·rw [qK hp]
   cases decide (s.ins.Op=0) with
   |true=>exact h.halt
   |false=>
    cases decide ((doM s s.ins).2=0) with
    |true=>
     refine (zGc h s.ins).setPC ?_
     unfold dY
     have hA:=zTr (inOk_fmd (h.insOk (by omega)).2).1
     have:=h.hp
     cases hj:dR s.ins.Op with
     |true=>have:=hA.1 hj;cases (lT s s.ins).1<;>simp<;>omega
     |false=>simp;omega
    |false=>exact h
theorem runM_ok:∀(k:Nat) {s:Mc} {w:Int} (n:Int),s.Ok w->(mA k s n).1.Ok w
 |0,s,w,n,h=>by unfold mA;cases s.hl<;>exact h
 |k+1,s,w,n,h=>by
  unfold mA
  cases s.hl with
  |true=>exact h
  |false=>
   cases decide ((dX s).2.2=0) with
   |true=>exact runM_ok k (n+1) (stepM_ok h)
   |false=>exact h
/-! ## Calls from outside -/
def dC (s:Mc) (at_ many:Int):Bool:=decide (0<=at_)&&decide (0<=many)&&decide (at_<=s.M.length)&&decide (many<=s.M.length-at_)
def nG (s:Mc) (at_:Int) (v:List Vl):Mc×Int:=bif dC s at_ v.length then ({ s with M:=s.M.take at_.toNat++v++s.M.drop (at_.toNat+v.length) },0) else (s,12)
def pI (s:Mc) (at_ many:Int):List Vl×Int:=bif dC s at_ many then ((s.M.drop at_.toNat).take many.toNat,0) else ([],12)
def dN (s:Mc) (fuel:Int):Mc×Int×Int:=bif decide (fuel<0)||decide (16777216<fuel) then (s,0,1) else mA fuel.toNat s 0
theorem stoM_ok {s:Mc} {w:Int} (h:s.Ok w) (a:Int) (v:List Vl):(nG s a v).1.Ok w:=by
 unfold nG
 cases hh:dC s a v.length with
 |false=>exact h
 |true=>
  simp only [dC,Bool.and_eq_true,decide_eq_true_eq] at hh
  have:=h.hM
  refine ⟨h.hc,h.hp,h.hn,h.hX,h.hR,?_,h.hw,h.ht⟩
  show ((s.M.take a.toNat++v++s.M.drop (a.toNat+v.length)).length:Int)=w
  simp only [List.length_append,List.length_take,List.length_drop]
  omega
theorem runX_ok {s:Mc} {w:Int} (h:s.Ok w) (f:Int):(dN s f).1.Ok w:=by
 unfold dN
 cases (decide (f<0)||decide (16777216<f)) with
 |true=>exact h
 |false=>exact runM_ok _ _ h
def dJ (code:List In) (tys:List Ty) (words:Int):Mc:=⟨code,tys,0,List.replicate 256 0,List.replicate 256 ⟨0,1⟩,List.replicate words.toNat ⟨0,1⟩,false⟩
end Go.Br
end
section
namespace Go.Br
open Go Go.Eng Go.L41
abbrev lQ (op:Int):List Int:=kTab.getD op.toNat []
theorem zQt {op:Int} (h:dS op=true):0<=op/\op<17:=by simpa [dS] using h
theorem kRow_len {op:Int} (h0:0<=op) (h:op<17):(lQ op).length=5:=opt_len _ (by omega)
theorem kRow_at {op:Int} {k:Nat} {x:Int} (h:(lQ op)[k]? =some x):(List.map C.lit ((lQ op).map fun n=>Value.int .i64 n))[((k:Int)).toNat]? =some (cI x):=by
 show (List.map C.lit ((lQ op).map fun n=>Value.int .i64 n))[k]? =_
 rw [List.getElem?_map,List.getElem?_map,h];rfl
theorem filt_no {α:Type} {p:α->Bool} {l:List α} {k:Nat} {x:α} (h:l[k]? =some x) (hp:p x=false):(l.take (k+1)).filter p=(l.take k).filter p:=by
 rw [kK h,List.filter_append];simp [hp]
theorem filt_yes {α:Type} {p:α->Bool} {l:List α} {k:Nat} {x:α} (h:l[k]? =some x) (hp:p x=true):(l.take (k+1)).filter p=(l.take k).filter p++[x]:=by
 rw [kK h,List.filter_append];simp [hp]
theorem kinds_all {x:In} {k:Nat} (h:¬k<(lQ x.Op).length):((lQ x.Op).take k).filter (fun k=> !mR x k)=kinds x:=by
 rw [yP h];rfl
theorem zEf (t:Ty):decide (bS t=0)=bD t:=by
 unfold bS
 cases bD t<;>rfl
theorem skip_eq {x:In} {q:Int}:(decide (q=0)||((decide (q=6)&&decide (x.Op=12))&&decide (x.Val.N=8)))=mR x q:=rfl
theorem jmp_tab {op:Int} (h0:0<=op) (h:op<17):(lQ op).any (fun k=>decide (k=7))=dR op:=by
 exact v32
theorem jmp_out {op:Int} (h:dS op=false):dR op=false:=by
 simp only [dS,Bool.and_eq_false_iff,decide_eq_false_iff_not] at h
 simp [dR];omega
theorem in_lits (a b:In):bF a.cells b.cells=decide (a=b):=by
 rw [Bool.eq_iff_iff,decide_eq_true_eq,in_eq]
 simp [bF,cEq,In.cells,and_assoc]
theorem vl_lits (a b:Vl):bF a.cells b.cells=decide (a=b):=by
 cases a;cases b
 rw [Bool.eq_iff_iff,decide_eq_true_eq]
 simp [bF,cEq,Vl.cells]
theorem wf_yes {x:In} (hk:dS x.Op=true) (h1:(kinds x).all (fS x)=true):decide ((kinds x).foldl (fun u k=>dA u x k) (in0 x.Op)=x)=wfP x:=by rw [wfP,hk,h1];rfl
theorem wf_no {x:In} {k:Nat} {q:Int} (hx:(kinds x)[k]? =some q) (h:fS x q=false):wfP x=false:=by
 rw [wfP,show (kinds x).all (fS x)=false from List.all_eq_false.2 ⟨q,qL hx,by simp [h]⟩];simp
theorem all_next {α:Type} {p:α->Bool} {l:List α} {k:Nat} {x:α} (h:l[k]? =some x) (hn:(l.take k).all p=true) (hp:p x=true):(l.take (k+1)).all p=true:=by
 rw [kK h,List.all_append,hn];simp [hp]
/-! ## Validity -/
theorem val1 {x:In} {m t w:Int} (h:wfP x=false):jI m t w x=false:=by rw [jI,←wf_fmd,h];rfl
theorem val2 {x:In} {m t w:Int} (h:wfP x=true) (hj:dR x.Op=true):decide (x.A<m)=jI m t w x:=by
 rw [jI,←wf_fmd,h,hj]
 simp only [dR,Bool.or_eq_true,decide_eq_true_eq] at hj
 rw [Bool.eq_iff_iff]
 simp;omega
theorem val3 {x:In} {m t w:Int} (h:wfP x=true) (hj:dR x.Op=false) (h3:x.Op=10∨x.Op=11):decide (x.C<=w)=jI m t w x:=by
 rw [jI,←wf_fmd,h,hj]
 rw [Bool.eq_iff_iff]
 simp;omega
theorem val4 {x:In} {m t w:Int} (h:wfP x=true) (hj:dR x.Op=false) (h4:x.Op=13):decide (x.Val.N<t)=jI m t w x:=by
 rw [jI,←wf_fmd,h,hj]
 rw [Bool.eq_iff_iff]
 simp;omega
theorem val5 {x:In} {m t w:Int} (h:wfP x=true) (hj:dR x.Op=false) (h3:¬(x.Op=10∨x.Op=11)) (h4:¬x.Op=13):jI m t w x=true:=by
 rw [jI,←wf_fmd,h,hj]
 simp;omega
theorem bad_ref {x:In} {m t w:Int}:(((!fmd x||(dR x.Op&&decide (m<=x.A)))||((decide (x.Op=10)||decide (x.Op=11))&&decide (w<x.C)))||(decide (x.Op=13)&&decide (t<=x.Val.N)))= !jI m t w x:=by
 unfold jI
 cases fmd x<;>cases (dR x.Op&&decide (m<=x.A))<;>cases ((decide (x.Op=10)||decide (x.Op=11))&&decide (w<x.C))<;>cases (decide (x.Op=13)&&decide (t<=x.Val.N))<;>rfl
theorem vld1 {code:List In} {tys:List Ty} {w:Int} (h:(65536:Int)<code.length):vld code tys w=(0,2):=by rw [vld,decide_eq_true h];rfl
theorem vld2 {code:List In} {tys:List Ty} {w:Int} (h:¬(65536:Int)<code.length) (h2:bG w 0 1048576=false):vld code tys w=(0,1):=by rw [vld,qK h,h2];rfl
theorem vld3 {code:List In} {tys:List Ty} {w:Int} (h:¬(65536:Int)<code.length) (h2:bG w 0 1048576=true) {t:Ty} {k:Nat} (ht:tys[k]? =some t) (h3:bD t=false):vld code tys w=(0,10):=by
 rw [vld,qK h,h2,show tys.any (fun t=> !bD t)=true from List.any_eq_true.2 ⟨t,qL ht,by simp [h3]⟩];rfl
theorem vldF {code:List In} {tys:List Ty} {w:Int} (h:¬(65536:Int)<code.length) (h2:bG w 0 1048576=true) (h3:tys.any (fun t=> !bD t)=false):vld code tys w=lF (fun x=> !jI code.length tys.length w x) code:=by rw [vld,qK h,h2,h3];rfl
theorem zTv {α:Type} {p:α->Bool} {l:List α} {k:Nat} {x:α} (h:l[k]? =some x) (hp:p x=true) (hn:(l.take k).any p=false):lF p l=((k:Int),25):=by
 rw [lF,zFx h hp hn,qK (by omega)];rfl
theorem zTu {α:Type} {p:α->Bool} {l:List α} {k:Nat} (hk:¬k<l.length) (hn:(l.take k).any p=false):lF p l=(0,0):=by
 rw [yP hk] at hn
 rw [lF,zDg hn];rfl
theorem vld_ok {code:List In} {tys:List Ty} {w:Int} (h:(vld code tys w).2=0):code.length<=65536/\0<=w/\w<=1048576/\(∀t,t∈tys->bD t=true)/\∀x,x∈code->jI code.length tys.length w x=true:=by
 by_cases h1:(65536:Int)<code.length
 ·rw [vld1 h1] at h;cases h
 ·cases h2:bG w 0 1048576 with
  |false=>rw [vld2 h1 h2] at h;cases h
  |true=>
   cases h3:tys.any (fun t=> !bD t) with
   |true=>rw [vld,qK h1,h2,h3] at h;cases h
   |false=>
    rw [vldF h1 h2 h3,lF] at h
    have h4:code.any (fun x=> !jI code.length tys.length w x)=false:=by
     rw [←zHb]
     have:=zMq (fun x=> !jI code.length tys.length w x) code
     by_cases h5:bW (fun x=> !jI code.length tys.length w x) code= -1
     ·rw [h5];rfl
     ·rw [qK h5] at h;cases h
    simp only [bG,Bool.and_eq_true,decide_eq_true_eq] at h2
    rw [List.any_eq_false] at h3 h4
    exact ⟨by omega,h2.1,h2.2,fun t ht=>by simpa using h3 t ht,fun x hx=>by simpa using h4 x hx⟩
/-! ## The reference's tables -/
def mnTab:List ByteArray:=[bs [104,97,108,116],bs [105,110,116],bs [109,111,118,101],bs [97,100,100],bs [109,117,108],bs [109,105,110],bs [109,97,120],bs [106,117,109,112],bs [106,108,116],bs [99,111,110,115,116],bs [108,111,97,100],bs [115,116,111,114,101],bs [111,112],bs [99,97,115,116],bs [116,101,115,116],bs [116,111,105,110,116],bs [102,114,111,109,105,110,116]]
def mnT (op:Int):ByteArray:=bif dS op then mnTab.getD op.toNat (bs []) else bs []
theorem tab_get {l:List ByteArray} {i:Nat} (h:i<l.length):(l.map fun s=>[cS s])[i]? =some [cS (l.getD i (bs []))]:=by
 simp [List.getD,h]
theorem mn_get {op:Int} (h0:0<=op) (h:op<17):(mnTab.map fun s=>[cS s])[op.toNat]? =some [cS (mnTab.getD op.toNat (bs []))]:=tab_get (by show _<17;omega)
theorem op_get {op:Int} (h0:0<=op) (h:op<17):(opTab.map fun s=>[cS s])[op.toNat]? =some [cS (opTab.getD op.toNat (bs []))]:=tab_get (by show _<17;omega)
theorem mn_known {op:Int} (h0:0<=op) (h:op<17):mnTab.getD op.toNat (bs [])=mnT op:=by
 unfold mnT
 rw [show dS op=true by simp [dS];omega];rfl
theorem mn_out {op:Int} (h:(decide (op<0)||decide (17<=op))=true):bs []=mnT op:=by
 unfold mnT
 rw [show dS op=false by simp [dS] at h⊢;omega];rfl
theorem mn_empty {op:Int}:mnT op=bs []↔dS op=false:=by
 cases h:dS op with
 |false=>unfold mnT;rw [h];simp
 |true=>
  have:=zQt h
  unfold mnT
  rw [h]
  simp only [cond_true,Bool.true_eq_false,iff_false]
  rcases (show op=0∨op=1∨op=2∨op=3∨op=4∨op=5∨op=6∨op=7∨op=8∨op=9∨op=10∨op=11∨op=12∨op=13∨op=14∨op=15∨op=16 by omega) with rfl|rfl|rfl|rfl|rfl|rfl|rfl|rfl|rfl|rfl|rfl|rfl|rfl|rfl|rfl|rfl|rfl<;>decide
theorem op_size {op:Int} (h0:0<=op) (h:op<17):(opTab.getD op.toNat (bs [])).size=3:=by
 exact v32
theorem fmd0 {x:In} (h:dS x.Op=false):fmd x=false:=by rw [fmd,h];rfl
theorem fmd1 {x:In} (h:dS x.Op=true) (h2:(((!gF (jK x.Op 0) x.A|| !gF (jK x.Op 1) x.B)|| !gF (jK x.Op 2) x.C)|| !vaB x)=true):fmd x=false:=by
 rw [fmd,h]
 revert h2
 cases gF (jK x.Op 0) x.A<;>cases gF (jK x.Op 1) x.B<;>cases gF (jK x.Op 2) x.C<;>cases vaB x<;>intro h2<;>first|rfl|cases h2
theorem fmd2 {x:In} (h:dS x.Op=true) (h2:(((!gF (jK x.Op 0) x.A|| !gF (jK x.Op 1) x.B)|| !gF (jK x.Op 2) x.C)|| !vaB x)=false):fmd x=bif mQ x.Op then bD x.Ty else ty0 x.Ty:=by
 rw [fmd,h]
 revert h2
 cases gF (jK x.Op 0) x.A<;>cases gF (jK x.Op 1) x.B<;>cases gF (jK x.Op 2) x.C<;>cases vaB x<;>intro h2<;>first|rfl|cases h2
end Go.Br
end
section
namespace Go.Br
open Go Go.Eng Go.L41
def xsC (l:List Int):List Eng.C:=l.map cI
def rsC (l:List Vl):List Eng.C:=(l.map Vl.cells).flatten
def mcC (sv:Value) (s:Mc):List Eng.C:=.lit (.bool true)::.sl 11 (s.code.map In.cells)::.sl 5 (s.tys.map Ty.cells)::.lit sv::(xsC s.X++(rsC s.R++[cI s.pc,.lit (.bool s.hl)]))
abbrev mcE (b:Nat) (sv:Value) (s:Mc):List E:=[.row b 101 (mcC sv s),.vec sv 59 2 (s.M.map Vl.cells)]
abbrev vPt (b:Nat):V:=.c (.lit (.pointer (some ⟨b,0,none⟩)))
abbrev vMc (s:Mc):V:=.agg [.sl 11 (s.code.map In.cells),.sl 5 (s.tys.map Ty.cells),cI s.pc,.sl 1 (s.X.map fun n=>[cI n]),.sl 2 (s.R.map Vl.cells),.sl 2 (s.M.map Vl.cells),.lit (.bool s.hl)]
theorem zSj (l:List Vl):(rsC l).length=l.length*2:=by
 unfold rsC
 induction l with
 |nil=>rfl
 |cons v l ih=>rw [List.map_cons,List.flatten_cons,List.length_append,ih];simp [Vl.cells];omega
theorem zHe (l:List Int):(xsC l).length=l.length:=by simp [xsC]
theorem rsC_at0:∀{l:List Vl} {i:Nat} {v:Vl},l[i]? =some v->(rsC l)[i*2]? =some (cI v.N)/\(rsC l)[i*2+1]? =some (cI v.D)
 |[],i,v,h=>by simp at h
 |x::l,0,v,h=>by
  simp only [List.getElem?_cons_zero,Option.some.injEq] at h
  subst h
  exact ⟨rfl,rfl⟩
 |x::l,i+1,v,h=>by
  have ih:=rsC_at0 (l:=l) (i:=i) (v:=v) (by simpa using h)
  have e:rsC (x::l)=cI x.N::cI x.D::rsC l:=rfl
  rw [e,show (i+1)*2=i*2+1+1 by omega]
  exact ⟨by simpa using ih.1,by simpa using ih.2⟩
theorem gX_at {s:Mc} {i:Int} (h:i.toNat<s.X.length):s.X[i.toNat]? =some (s.gX i):=by
 simp [Mc.gX,List.getD,List.getElem?_eq_getElem h]
theorem gR_at {s:Mc} {i:Int} (h:i.toNat<s.R.length):s.R[i.toNat]? =some (s.gR i):=by
 simp [Mc.gR,List.getD,List.getElem?_eq_getElem h]
theorem gM_at {s:Mc} {i:Int} (h:i.toNat<s.M.length):s.M[i.toNat]? =some (s.gM i):=by
 simp [Mc.gM,List.getD,List.getElem?_eq_getElem h]
theorem zBc {sv:Value} {s:Mc} {w:Int} (hs:s.Ok w):(mcC sv s).length=774:=by
 simp [mcC,zHe,zSj,hs.hX,hs.hR]
theorem mc_X {sv:Value} {s:Mc} {w:Int} (hs:s.Ok w) {i:Int} (h0:0<=i) (h:i<256):(mcC sv s).drop (4+i.toNat*1)=cI (s.gX i)::(mcC sv s).drop (4+i.toNat*1+1):=by
 refine yA ?_
 have e:(mcC sv s)[4+i.toNat*1]? =(xsC s.X++(rsC s.R++[cI s.pc,.lit (.bool s.hl)]))[i.toNat]?:=by
  rw [show 4+i.toNat*1=i.toNat+1+1+1+1 by omega];rfl
 have hl:i.toNat<s.X.length:=by rw [hs.hX];omega
 rw [e,List.getElem?_append_left (by rw [zHe];exact hl),xsC,List.getElem?_map,gX_at hl];rfl
theorem mc_Rk {sv:Value} {s:Mc} {w:Int} (hs:s.Ok w) (k:Nat) (hk:k<512):(mcC sv s)[260+k]? =(rsC s.R)[k]?:=by
 have e:(mcC sv s)[260+k]? =(xsC s.X++(rsC s.R++[cI s.pc,.lit (.bool s.hl)]))[256+k]?:=by
  rw [show 260+k=256+k+1+1+1+1 by omega];rfl
 rw [e,List.getElem?_append_right (by rw [zHe,hs.hX];omega),zHe,hs.hX,Nat.add_sub_cancel_left,List.getElem?_append_left (by rw [zSj,hs.hR];omega)]
theorem mc_R {sv:Value} {s:Mc} {w:Int} (hs:s.Ok w) {i:Int} (h0:0<=i) (h:i<256):(mcC sv s).drop (260+i.toNat*2)=(s.gR i).cells++(mcC sv s).drop (260+i.toNat*2+1+1):=by
 have hl:i.toNat<s.R.length:=by rw [hs.hR];omega
 obtain ⟨a0,a1⟩:=rsC_at0 (gR_at hl)
 rw [yA (x:=cI (s.gR i).N) (by rw [mc_Rk hs _ (by omega)];exact a0),yA (l:=mcC sv s) (k:=260+i.toNat*2+1) (x:=cI (s.gR i).D) (by rw [Nat.add_assoc,mc_Rk hs _ (by omega)];exact a1)]
 rfl
theorem mc_RN {sv:Value} {s:Mc} {w:Int} (hs:s.Ok w) {i:Int} (h0:0<=i) (h:i<256):(mcC sv s).drop (260+i.toNat*2+0)=cI (s.gR i).N::(cI (s.gR i).D::(mcC sv s).drop (260+i.toNat*2+1+1)):=by
 rw [Nat.add_zero,mc_R hs h0 h];rfl
theorem mc_tail {sv:Value} {s:Mc} {w:Int} (hs:s.Ok w):(mcC sv s).drop 772=[cI s.pc,.lit (.bool s.hl)]:=by
 have e:mcC sv s=(.lit (.bool true)::.sl 11 (s.code.map In.cells)::.sl 5 (s.tys.map Ty.cells)::.lit sv::(xsC s.X++rsC s.R))++[cI s.pc,.lit (.bool s.hl)]:=by simp [mcC]
 rw [e]
 refine List.drop_left' ?_
 simp [zHe,zSj,hs.hX,hs.hR]
theorem mc_pc {sv:Value} {s:Mc} {w:Int} (hs:s.Ok w):(mcC sv s).drop (0+772)=cI s.pc::[.lit (.bool s.hl)]:=mc_tail hs
theorem mc_hl {sv:Value} {s:Mc} {w:Int} (hs:s.Ok w):(mcC sv s).drop (0+773)=.lit (.bool s.hl)::[]:=by
 rw [show 0+773=772+1 from rfl,←List.drop_drop,mc_tail hs];rfl
/-! ## Writing -/
theorem zSa:∀(A B new:List Eng.C) (o:Nat),spl (A++B) (A.length+o) new=A++spl B o new
 |[],B,new,o=>by simp
 |a::A,B,new,o=>by
  rw [List.length_cons,List.cons_append,show A.length+1+o=(A.length+o)+1 by omega,spl,zSa A B new o];rfl
theorem spl_pre:∀(B D new:List Eng.C) (o:Nat),o+new.length<=B.length->spl (B++D) o new=spl B o new++D
 |B,D,new,0,h=>by
  cases B<;>simp only [spl,List.nil_append,List.cons_append]<;>(try rw [←List.cons_append])<;>simp only [List.append_assoc]<;>congr 1
  ·simp at h;subst h;simp
  ·rw [List.drop_append_of_le_length (by simpa using h)]
 |[],D,new,o+1,h=>by simp at h
 |b::B,D,new,o+1,h=>by
  rw [List.cons_append,spl,spl,spl_pre B D new o (by simp at h;omega)];rfl
theorem spl_xs:∀(l:List Int) (i:Nat) (n:Int),i<l.length->spl (xsC l) i [cI n]=xsC (l.set i n)
 |[],i,n,h=>by simp at h
 |x::l,0,n,_=>by simp [xsC,spl]
 |x::l,i+1,n,h=>by
  have:=spl_xs l i n (by simpa using h)
  simp only [xsC,List.map_cons,spl,List.set_cons_succ] at this⊢
  rw [this]
theorem spl_rs:∀(l:List Vl) (i:Nat) (v:Vl),i<l.length->spl (rsC l) (i*2) v.cells=rsC (l.set i v)
 |[],i,v,h=>by simp at h
 |x::l,0,v,_=>rfl
 |x::l,i+1,v,h=>by
  have ih:=spl_rs l i v (by simpa using h)
  have e:rsC (x::l)=[cI x.N,cI x.D]++rsC l:=rfl
  have e2:rsC ((x::l).set (i+1) v)=[cI x.N,cI x.D]++rsC (l.set i v):=rfl
  rw [e,e2,show (i+1)*2=[cI x.N,cI x.D].length+i*2 by simp;omega,zSa,ih]
theorem mc_sX {sv:Value} {s:Mc} {w:Int} (hs:s.Ok w) {i:Int} (n:Int) (h0:0<=i) (h:i<256):spl (mcC sv s) (0+4+i.toNat*1) [cI n]=mcC sv (s.sX i n):=by
 have hl:i.toNat<s.X.length:=by rw [hs.hX];omega
 rw [show 0+4+i.toNat*1=i.toNat+1+1+1+1 by omega]
 simp only [mcC,spl]
 rw [spl_pre _ _ _ _ (by rw [zHe];simp;omega),spl_xs _ _ _ hl];rfl
theorem mc_sR {sv:Value} {s:Mc} {w:Int} (hs:s.Ok w) {i:Int} (v:Vl) (h0:0<=i) (h:i<256):spl (mcC sv s) (0+260+i.toNat*2) [cI v.N,cI v.D]=mcC sv (s.sR i v):=by
 have hl:i.toNat<s.R.length:=by rw [hs.hR];omega
 rw [show 0+260+i.toNat*2=((xsC s.X).length+i.toNat*2)+1+1+1+1 by rw [zHe,hs.hX];omega]
 simp only [mcC,spl]
 rw [zSa,spl_pre _ _ _ _ (by rw [zSj];simp;omega),show [cI v.N,cI v.D]=v.cells from rfl,spl_rs _ _ _ hl];rfl
theorem mc_st {sv:Value} {s:Mc} {w:Int} (hs:s.Ok w) (o:Nat) (new:List Eng.C):spl (mcC sv s) (772+o) new=(.lit (.bool true)::.sl 11 (s.code.map In.cells)::.sl 5 (s.tys.map Ty.cells)::.lit sv::(xsC s.X++(rsC s.R++spl [cI s.pc,.lit (.bool s.hl)] o new))):=by
 rw [show 772+o=((xsC s.X).length+((rsC s.R).length+o))+1+1+1+1 by rw [zHe,hs.hX,zSj,hs.hR];omega]
 simp only [mcC,spl]
 rw [zSa,zSa]
theorem zGy {sv:Value} {s:Mc} {w:Int} (hs:s.Ok w) (n:Int):spl (mcC sv s) (0+772) [cI n]=mcC sv { s with pc:=n }:=by
 rw [show 0+772=772+0 from rfl,mc_st hs];rfl
theorem mc_sHL {sv:Value} {s:Mc} {w:Int} (hs:s.Ok w):spl (mcC sv s) (0+773) [.lit (.bool true)]=mcC sv { s with hl:=true }:=by
 rw [show 0+773=772+1 from rfl,mc_st hs];rfl
theorem mc_arr {sv:Value} {s:Mc} {w:Int} (hs:s.Ok w):(mcC sv s).drop (0+4)=xsC s.X++(rsC s.R++[cI s.pc,.lit (.bool s.hl)]):=rfl
theorem xs_rows (l:List Int):((xsC l).map fun c=>[c])=l.map fun n=>[cI n]:=by simp [xsC]
theorem rows_lit (l:List Int):(l.map fun n=>[cI n]).all (fun r=>r.all sK)=true:=by
 rw [List.all_map,List.all_eq_true];intro x _;rfl
theorem vals_lit (l:List Vl):(l.map Vl.cells).all (fun r=>r.all sK)=true:=by
 rw [List.all_map,List.all_eq_true];intro x _;rfl
theorem set_row {l:List Vl} {i:Nat} {x v:Vl}:(l.map Vl.cells).set i (spl x.cells 0 [cI v.N,cI v.D])=(l.set i v).map Vl.cells:=by
 rw [List.map_set];rfl
/-! ## What kinds of instructions need -/
theorem int_facts {x:In} (hx:fmd x=true) (ho:dR x.Op=false/\gN x.Op=false/\fQ x.Op=false/\x.Op≠0):
  (0<=x.A/\x.A<=255)/\(x.Op≠1->0<=x.B/\x.B<=255)/\(x.Op=3∨x.Op=5∨x.Op=6->0<=x.C/\x.C<=255)/\(x.Op=15->1<=x.C/\x.C<=4096)/\(x.Op=1∨x.Op=2∨x.Op=3∨x.Op=4∨x.Op=5∨x.Op=6∨x.Op=15):=by
 obtain ⟨f1,f2,f3,f4,f5,f6,f7,f8,f9,f10,f11,f12⟩:=zTr hx
 obtain ⟨h1,h2,h3,h4⟩:=ho
 have hr:=fmd_parts hx
 have a:=f2 h1 h4
 simp only [dR,gN,fQ,Bool.or_eq_false_iff,decide_eq_false_iff_not] at h1 h2 h3
 exact ⟨a,fun h=>f3 h4 h (by omega) (by omega),fun h=>f4 (by omega),f9,by omega⟩
theorem mem_facts {x:In} (hx:fmd x=true) (ho:gN x.Op=true):(0<=x.A/\x.A<=255)/\(0<=x.B/\x.B<=255)/\(0<=x.C/\x.C<=1048576/\0<=x.Val.N/\x.Val.N<=x.C)/\(x.Op=10∨x.Op=11):=by
 obtain ⟨f1,f2,f3,f4,f5,f6,f7,f8,f9,f10,f11,f12⟩:=zTr hx
 have h5:=f5 ho
 have h:x.Op=10∨x.Op=11:=by simpa [gN] using ho
 exact ⟨f2 (by simp [dR];omega) (by omega),f3 (by omega) (by omega) (by omega) (by omega),h5,h⟩
theorem cpt_facts {x:In} (hx:fmd x=true) (ho:fQ x.Op=true):(0<=x.A/\x.A<=255)/\(x.Op≠9->0<=x.B/\x.B<=255)/\(x.Op=12->0<=x.C/\x.C<=255)/\(x.Op=13->0<=x.Val.N/\x.Val.N<=255)/\(x.Op=9∨x.Op=12∨x.Op=13∨x.Op=16):=by
 obtain ⟨f1,f2,f3,f4,f5,f6,f7,f8,f9,f10,f11,f12⟩:=zTr hx
 have h:x.Op=9∨x.Op=12∨x.Op=13∨x.Op=16:=by simp [fQ] at ho;omega
 exact ⟨f2 (by simp [dR];omega) (by omega),fun h9=>f3 (by omega) (by omega) (by omega) h9,fun h=>f4 (by omega),f7,h⟩
theorem zTj {x:In} (hx:fmd x=true) (ho:dR x.Op=true):(0<=x.A/\x.A<65536)/\(x.Op≠7->(0<=x.B/\x.B<=255)/\0<=x.C/\x.C<=255)/\(x.Op=14->13<=x.Val.N/\x.Val.N<=15)/\(x.Op=7∨x.Op=8∨x.Op=14):=by
 obtain ⟨f1,f2,f3,f4,f5,f6,f7,f8,f9,f10,f11,f12⟩:=zTr hx
 have h:x.Op=7∨x.Op=8∨x.Op=14:=by simp [dR] at ho;omega
 exact ⟨f1 ho,fun h7=>⟨f3 (by omega) (by omega) (by omega) (by omega),f4 (by omega)⟩,f8,h⟩
theorem zAh {b:Int} (h0:0<=b) (h:b<=255):lS b=b:=(and255 b).2.2 h0 h
theorem low8_0 (b:Int):0<=lS b:=(and255 b).1
theorem low8_1 (b:Int):lS b<((256:Nat):Int):=(and255 b).2.1
theorem intv1 {s:Mc} {x:In} (h:x.Op=1):lR s x=x.B:=by unfold lR;rw [h];rfl
theorem intv2 {s:Mc} {x:In} (h:x.Op=2) (hB:lS x.B=x.B):lR s x=s.gX (lS x.B):=by unfold lR;rw [h,hB];rfl
theorem intv3 {s:Mc} {x:In} (h:x.Op=3) (hB:lS x.B=x.B) (hC:lS x.C=x.C):lR s x=IntKind.i64.wrap (s.gX (lS x.B)+s.gX (lS x.C)):=by unfold lR;rw [h,hB,hC];rfl
theorem intv4 {s:Mc} {x:In} (h:x.Op=4) (hB:lS x.B=x.B):lR s x=IntKind.i64.wrap (s.gX (lS x.B)*x.C):=by unfold lR;rw [h,hB];rfl
theorem intv5 {s:Mc} {x:In} (h:x.Op=5) (hB:lS x.B=x.B) (hC:lS x.C=x.C):lR s x=min (s.gX (lS x.B)) (s.gX (lS x.C)):=by unfold lR;rw [h,hB,hC];rfl
theorem intv6 {s:Mc} {x:In} (h:x.Op=6) (hB:lS x.B=x.B) (hC:lS x.C=x.C):lR s x=max (s.gX (lS x.B)) (s.gX (lS x.C)):=by unfold lR;rw [h,hB,hC];rfl
theorem intv7 {s:Mc} {x:In} (h:x.Op=15):lR s x=max 0 (min (s.gR x.B).N (x.C-1)):=by unfold lR;rw [h];rfl
theorem memv1 {s:Mc} {x:In} (h:(decide (s.gX x.B<x.Val.N)||decide (x.C<=s.gX x.B))=true):jQ s x=(s,12):=by unfold jQ;rw [h];rfl
theorem memv2 {s:Mc} {x:In} (h:(decide (s.gX x.B<x.Val.N)||decide (x.C<=s.gX x.B))=false) (h2:x.Op=10):jQ s x=(s.sR x.A (s.gM (s.gX x.B)),0):=by unfold jQ;rw [h,decide_eq_true h2];rfl
theorem memv3 {s:Mc} {x:In} (h:(decide (s.gX x.B<x.Val.N)||decide (x.C<=s.gX x.B))=false) (h2:¬x.Op=10):jQ s x=(s.sM (s.gX x.B) (s.gR x.A),0):=by unfold jQ;rw [h,qK h2];rfl
theorem zGk {s:Mc} {x:In} (h:(decide (s.gX x.B<x.Val.N)||decide (x.C<=s.gX x.B))=false):x.Val.N<=s.gX x.B/\s.gX x.B<x.C:=by
 simp only [Bool.or_eq_false_iff,decide_eq_false_iff_not] at h;omega
theorem cptv1 {s:Mc} {x:In} (h:x.Op=9):jU s x=(x.Val,0):=by unfold jU;rw [h];rfl
theorem cptv2 {s:Mc} {x:In} (h:x.Op=12):jU s x=mO x.Val.N x.Ty (s.gR x.B) (s.gR x.C):=by unfold jU;rw [h];rfl
theorem cptv3 {s:Mc} {x:In} (h:x.Op=13):jU s x=mN (s.tys.getD x.Val.N.toNat ⟨0,0,0,0,0⟩) x.Ty (s.gR x.B):=by unfold jU;rw [h];rfl
theorem cptv4 {s:Mc} {x:In} (h:x.Op=16) (hr:(decide (2147483647<s.gX x.B)||decide (s.gX x.B< -2147483647))=true):jU s x=(⟨0,0⟩,3):=by unfold jU;rw [h,hr];rfl
theorem cptv5 {s:Mc} {x:In} (h:x.Op=16) (hr:(decide (2147483647<s.gX x.B)||decide (s.gX x.B< -2147483647))=false):jU s x=(⟨s.gX x.B,1⟩,0):=by unfold jU;rw [h,hr];rfl
theorem cptm1 {s:Mc} {x:In} (h:(jU s x).2=0):jC s x=(s.sR x.A (jU s x).1,0):=by unfold jC;rw [decide_eq_true h];rfl
theorem cptm2 {s:Mc} {x:In} (h:¬(jU s x).2=0):jC s x=(s,(jU s x).2):=by unfold jC;rw [qK h];rfl
theorem ty_at {s:Mc} {i:Int} (h:i.toNat<s.tys.length):s.tys[i.toNat]? =some (s.tys.getD i.toNat ⟨0,0,0,0,0⟩):=by
 simp [List.getD,List.getElem?_eq_getElem h]
theorem jmpv1 {s:Mc} {x:In} (h:x.Op=7):lT s x=(true,0):=by unfold lT;rw [h];rfl
theorem jmpv2 {s:Mc} {x:In} (h:x.Op=8):lT s x=(decide (s.gX x.B<s.gX x.C),0):=by unfold lT;rw [h];rfl
theorem jmpv3 {s:Mc} {x:In} (h:x.Op=14) (hv:(!(bD x.Ty&&bC x.Ty (s.gR x.B))|| !(bD x.Ty&&bC x.Ty (s.gR x.C)))=true):lT s x=(false,1):=by unfold lT;rw [h,hv];rfl
theorem jmpv4 {s:Mc} {x:In} (h:x.Op=14) (hv:(!(bD x.Ty&&bC x.Ty (s.gR x.B))|| !(bD x.Ty&&bC x.Ty (s.gR x.C)))=false):lT s x=(!((decide (jZ x.Ty (s.gR x.B) (s.gR x.C)<0)&& !decide (x.Val.N=15))||(decide (jZ x.Ty (s.gR x.B) (s.gR x.C)=0)&& !decide (x.Val.N=13))),0):=by unfold lT;rw [h,hv];rfl
theorem stepM1 {s:Mc} (h:s.hl=true):dX s=(s,false,0):=by unfold dX;rw [h];rfl
theorem stepM2 {s:Mc} (h:s.hl=false) (h2:(s.code.length:Int)<=s.pc):dX s=(s,false,25):=by unfold dX;rw [h,decide_eq_true h2];rfl
theorem stepM3 {s:Mc} (h:s.hl=false) (h2:¬(s.code.length:Int)<=s.pc) (h0:s.ins.Op=0):dX s=({ s with hl:=true },false,0):=by unfold dX;rw [h,qK h2,decide_eq_true h0];rfl
theorem zBk {s:Mc} (h:s.hl=false) (h2:¬(s.code.length:Int)<=s.pc) (h0:¬s.ins.Op=0) {t:Mc} {n:Int} (hd:doM s s.ins=(t,0)) (hn:dY s s.ins=n):dX s=({ t with pc:=n },true,0):=by unfold dX;rw [h,qK h2,qK h0,hd,hn];rfl
theorem zDh {s:Mc} (h:s.hl=false) (h2:¬(s.code.length:Int)<=s.pc) (h0:¬s.ins.Op=0) {t:Mc} {e:Int} (hd:doM s s.ins=(t,e)) (he:¬e=0):dX s=(s,false,e):=by unfold dX;rw [h,qK h2,qK h0,hd,qK he];rfl
theorem doM1 {s:Mc} {x:In} (h:dR x.Op=true):doM s x=(s,(lT s x).2):=by unfold doM;rw [h];rfl
theorem doM2 {s:Mc} {x:In} (h:dR x.Op=false) (h2:gN x.Op=true):doM s x=jQ s x:=by unfold doM;rw [h,h2];rfl
theorem doM3 {s:Mc} {x:In} (h:dR x.Op=false) (h2:gN x.Op=false) (h3:fQ x.Op=true):doM s x=jC s x:=by unfold doM;rw [h,h2,h3];rfl
theorem doM4 {s:Mc} {x:In} (h:dR x.Op=false) (h2:gN x.Op=false) (h3:fQ x.Op=false):doM s x=(s.sX x.A (lR s x),0):=by unfold doM;rw [h,h2,h3];rfl
theorem next1 {s:Mc} {x:In} (h:dR x.Op=true) (h2:(lT s x).1=true):dY s x=x.A:=by unfold dY;rw [h,h2];rfl
theorem next2 {s:Mc} {x:In} (h:(lT s x).1=false):dY s x=s.pc+1:=by unfold dY;rw [h,Bool.and_false];rfl
theorem zMk {s:Mc} {x:In} (h:dR x.Op=false):dY s x=s.pc+1:=by unfold dY;rw [h];rfl
theorem zQb {α:Type} {p:α×Int} (h:p.2=0):p=(p.1,0):=by rw [←h]
theorem memV_err {s:Mc} {x:In} (h:¬(jQ s x).2=0):(jQ s x).1=s:=by
 unfold jQ at h⊢
 cases hb:(decide (s.gX x.B<x.Val.N)||decide (x.C<=s.gX x.B)) with
 |true=>rfl
 |false=>rw [hb] at h;cases hc:decide (x.Op=10)<;>(rw [hc] at h;exact absurd rfl h)
theorem zRd {s:Mc} {x:In} (h:¬(jC s x).2=0):(jC s x).1=s:=by
 unfold jC at h⊢
 cases hb:decide ((jU s x).2=0) with
 |true=>rw [hb] at h;exact absurd rfl h
 |false=>rfl
theorem stepM_err {s:Mc} (h:¬(dX s).2.2=0):(dX s).1=s:=by
 unfold dX at h⊢
 cases h1:s.hl with
 |true=>rfl
 |false=>
  rw [h1] at h
  cases h2:decide ((s.code.length:Int)<=s.pc) with
  |true=>rfl
  |false=>
   rw [h2] at h
   cases h3:decide (s.ins.Op=0) with
   |true=>rw [h3] at h;exact absurd rfl h
   |false=>
    rw [h3] at h
    cases h4:decide ((doM s s.ins).2=0) with
    |true=>rw [h4] at h;exact absurd rfl h
    |false=>rfl
theorem runM_hl {k:Nat} {t:Mc} {n:Int} (h:t.hl=true):mA k t n=(t,n,0):=by cases k<;>(unfold mA;rw [h];rfl)
theorem runM_0 {t:Mc} {n:Int} (h:t.hl=false):mA 0 t n=(t,0,14):=by unfold mA;rw [h];rfl
theorem runM_e {k:Nat} {t:Mc} {n:Int} (h:t.hl=false) (he:¬(dX t).2.2=0):mA (k+1) t n=(t,0,(dX t).2.2):=by rw [mA,h,qK he];rfl
theorem runM_s {k:Nat} {t:Mc} {n:Int} (h:t.hl=false) (he:(dX t).2.2=0):mA (k+1) t n=mA k (dX t).1 (n+1):=by rw [mA,h,decide_eq_true he];rfl
theorem runX_no {s:Mc} {f:Int} (h:f<0∨16777216<f):dN s f=(s,0,1):=by
 unfold dN;rw [show (decide (f<0)||decide (16777216<f))=true by simpa using h];rfl
theorem zKf {s:Mc} {f:Int} (h:¬(f<0∨16777216<f)):dN s f=mA f.toNat s 0:=by
 unfold dN;rw [show (decide (f<0)||decide (16777216<f))=false by simp;omega];rfl
theorem zTl {s:Mc} {a m:Int} (h:dC s a m=true):0<=a/\0<=m/\a+m<=s.M.length:=by
 simp only [dC,Bool.and_eq_true,decide_eq_true_eq] at h;omega
theorem sto_yes {s:Mc} {a:Int} {v:List Vl} (h:dC s a v.length=true):nG s a v=({ s with M:=s.M.take a.toNat++v++s.M.drop (a.toNat+v.length) },0):=by unfold nG;rw [h];rfl
theorem sto_no {s:Mc} {a:Int} {v:List Vl} (h:dC s a v.length=false):nG s a v=(s,12):=by unfold nG;rw [h];rfl
theorem loa_yes {s:Mc} {a m:Int} (h:dC s a m=true):pI s a m=((s.M.drop a.toNat).take m.toNat,0):=by unfold pI;rw [h];rfl
theorem loa_no {s:Mc} {a m:Int} (h:dC s a m=false):pI s a m=([],12):=by unfold pI;rw [h];rfl
theorem sto_rows {s:Mc} {a:Int} {v:List Vl} (h:dC s a v.length=true):(s.M.map Vl.cells).take a.toNat++(v.map Vl.cells).take (s.M.length-a.toNat)++(s.M.map Vl.cells).drop (a.toNat+min (v.map Vl.cells).length (s.M.length-a.toNat))=(s.M.take a.toNat++v++s.M.drop (a.toNat+v.length)).map Vl.cells:=by
 have:=zTl h
 have e:min (v.map Vl.cells).length (s.M.length-a.toNat)=v.length:=by rw [List.length_map];omega
 rw [e,List.map_append,List.map_append,List.map_take,List.map_drop,List.take_of_length_le (l:=v.map Vl.cells) (by rw [List.length_map];omega)]
theorem rep_init {v:Vl} {n:Nat} (z:List Eng.C):(List.replicate n z).take 0++([v].map Vl.cells).take n++(List.replicate n z).drop (0+min ([v].map Vl.cells).length n)=(List.replicate (min 1 n) v).map Vl.cells++List.replicate (n-min 1 n) z:=by
 cases n with
 |zero=>rfl
 |succ n=>rw [show min 1 (n+1)=1 by omega,show 0+min ([v].map Vl.cells).length (n+1)=1 by simp];simp
theorem rep_rows {v:Vl} {n j:Nat} (h1:1<=j) (h2:j<=n) (z:List Eng.C):(((List.replicate j v).map Vl.cells++List.replicate (n-j) z).take j++((List.replicate j v).map Vl.cells++List.replicate (n-j) z).take (min j (n-j))++((List.replicate j v).map Vl.cells++List.replicate (n-j) z).drop (j+min j (n-j)))=(List.replicate (j+min j (n-j)) v).map Vl.cells++List.replicate (n-(j+min j (n-j))) z:=by
 simp only [List.map_replicate,List.take_append,List.drop_append,List.length_replicate,List.take_replicate,List.drop_replicate,Nat.sub_self]
 rw [show min j j=j by omega,show min 0 (n-j)=0 by omega,show min (min j (n-j)) j=min j (n-j) by omega,show min (min j (n-j)-j) (n-j)=0 by omega,show j-(j+min j (n-j))=0 by omega,show n-j-(j+min j (n-j)-j)=n-(j+min j (n-j)) by omega]
 simp only [List.replicate_zero,List.append_nil,List.nil_append,←List.append_assoc,List.replicate_append_replicate]
theorem jmp13 {c n:Int} (h:n=13):decide (0<=c)= !((decide (c<0)&& !decide (n=15))||(decide (c=0)&& !decide (n=13))):=by
 subst h;rw [Bool.eq_iff_iff];simp
theorem jmp14 {c n:Int} (h:n=14):decide (0<c)= !((decide (c<0)&& !decide (n=15))||(decide (c=0)&& !decide (n=13))):=by
 subst h;rw [Bool.eq_iff_iff];simp;omega
theorem jmp15 {c n:Int} (h:n=15):(!decide (c=0))= !((decide (c<0)&& !decide (n=15))||(decide (c=0)&& !decide (n=13))):=by
 subst h;rw [Bool.eq_iff_iff];simp
end Go.Br
end
section
namespace Go.Br
open Go Go.Eng Go.L41
def zMc:Mc:=⟨[],[],0,[],[],[],false⟩
theorem getX {s:Mc} {w:Int} (hs:s.Ok w) {i:Int} (h0:0<=i) (h:i<256):(s.X.map fun n=>[cI n])[i.toNat]? =some [cI (s.gX i)]:=by
 rw [List.getElem?_map,gX_at (by rw [hs.hX];omega)];rfl
theorem getR {s:Mc} {w:Int} (hs:s.Ok w) {i:Int} (h0:0<=i) (h:i<256):(s.R.map Vl.cells)[i.toNat]? =some (s.gR i).cells:=by
 rw [List.getElem?_map,gR_at (by rw [hs.hR];omega)];rfl
theorem getM {s:Mc} {i:Int} (h:i.toNat<s.M.length):(s.M.map Vl.cells)[i.toNat]? =some (s.gM i).cells:=by
 rw [List.getElem?_map,gM_at h];rfl
theorem lenX {s:Mc} {w:Int} (hs:s.Ok w):(s.X.map fun n=>[cI n]).length=256:=by rw [List.length_map,hs.hX]
theorem lenR {s:Mc} {w:Int} (hs:s.Ok w):(s.R.map Vl.cells).length=256:=by rw [List.length_map,hs.hR]
theorem set_X {l:List Int} {i:Nat} {n x:Int}:(l.map fun n=>[cI n]).set i (spl [cI x] 0 [cI n])=(l.set i n).map fun n=>[cI n]:=by
 rw [List.map_set];rfl
theorem sto_one {s:Mc} {a:Int} {v:Vl} (h0:0<=a) (h:a<s.M.length):nG s a [v]=(s.sM a v,0):=by
 have hh:dC s a ([v].length:Nat)=true:=by simp [dC];omega
 have e:s.M.take a.toNat++[v]++s.M.drop (a.toNat+1)=s.M.set a.toNat v:=by
  rw [List.set_eq_take_append_cons_drop,if_pos (by omega)];simp
 rw [sto_yes hh]
 show (({ s with M:=s.M.take a.toNat++[v]++s.M.drop (a.toNat+1) }:Mc),(0:Int))=_
 rw [e];rfl
def nE (s:Mc) (x:In):Mc×Int:=bif decide (x.Op=16)&&(decide (2147483647<s.gX x.B)||decide (s.gX x.B< -2147483647)) then (s,3) else (s.sR x.A (jU s x).1,(jU s x).2)
theorem cptr1 {s:Mc} {x:In} (h:¬x.Op=16):nE s x=(s.sR x.A (jU s x).1,(jU s x).2):=by unfold nE;rw [qK h];rfl
theorem cptr2 {s:Mc} {x:In} (h:x.Op=16) (hr:(decide (2147483647<s.gX x.B)||decide (s.gX x.B< -2147483647))=true):nE s x=(s,3):=by unfold nE;rw [decide_eq_true h,hr];rfl
theorem cptr3 {s:Mc} {x:In} (h:x.Op=16) (hr:(decide (2147483647<s.gX x.B)||decide (s.gX x.B< -2147483647))=false):nE s x=(s.sR x.A ⟨s.gX x.B,1⟩,0):=by
 unfold nE;rw [decide_eq_true h,hr,cptv5 h hr];rfl
theorem zFc {s:Mc} {x:In} (hx:fQ x.Op=true):(nE s x).2=(jC s x).2:=by
 have hc:x.Op=9∨x.Op=12∨x.Op=13∨x.Op=16:=by simp [fQ] at hx;omega
 have e:(nE s x).2=(jU s x).2:=by
  by_cases h:x.Op=16
  ·cases hr:(decide (2147483647<s.gX x.B)||decide (s.gX x.B< -2147483647)) with
   |true=>rw [cptr2 h hr,cptv4 h hr]
   |false=>rw [cptr3 h hr,cptv5 h hr]
  ·rw [cptr1 h]
 rw [e]
 by_cases h:(jU s x).2=0
 ·rw [cptm1 h,h]
 ·rw [cptm2 h]
theorem cptR_ok {s:Mc} {x:In} (hx:fQ x.Op=true) (h:(nE s x).2=0):nE s x=jC s x:=by
 have h2:=(zFc (s:=s) hx).symm.trans h
 have hv:(jU s x).2=0:=by
  by_cases h:(jU s x).2=0
  ·exact h
  ·rw [cptm2 h] at h2;exact absurd h2 h
 rw [cptm1 hv]
 by_cases h6:x.Op=16
 ·cases hr:(decide (2147483647<s.gX x.B)||decide (s.gX x.B< -2147483647)) with
  |true=>rw [cptv4 h6 hr] at hv;exact absurd hv (by decide)
  |false=>rw [cptr3 h6 hr,cptv5 h6 hr]
 ·rw [cptr1 h6,hv]
def xP (s:Mc) (x:In):Bool:=(decide (jZ x.Ty (s.gR x.B) (s.gR x.C)<0)&& !decide (x.Val.N=15))||(decide (jZ x.Ty (s.gR x.B) (s.gR x.C)=0)&& !decide (x.Val.N=13))
def sC (s:Mc) (x:In):Bool×Int:=bif (!(bD x.Ty&&bC x.Ty (s.gR x.B))|| !(bD x.Ty&&bC x.Ty (s.gR x.C))) then (false,1) else (xP s x,0)
theorem tst1 {s:Mc} {x:In} (h:(!(bD x.Ty&&bC x.Ty (s.gR x.B))|| !(bD x.Ty&&bC x.Ty (s.gR x.C)))=true):sC s x=(false,1):=by unfold sC;rw [h];rfl
theorem tst2 {s:Mc} {x:In} (h:(!(bD x.Ty&&bC x.Ty (s.gR x.B))|| !(bD x.Ty&&bC x.Ty (s.gR x.C)))=false):sC s x=(xP s x,0):=by unfold sC;rw [h];rfl
theorem zRu {s:Mc} {x:In} (h:x.Op=14):(sC s x).2=(lT s x).2/\((sC s x).2=0->(lT s x).1= !(sC s x).1):=by
 cases hv:(!(bD x.Ty&&bC x.Ty (s.gR x.B))|| !(bD x.Ty&&bC x.Ty (s.gR x.C))) with
 |true=>rw [tst1 hv,jmpv3 h hv];exact ⟨rfl,fun h=>absurd h (by decide)⟩
 |false=>rw [tst2 hv,jmpv4 h hv];exact ⟨rfl,fun _=>rfl⟩
def vD (code:List In) (tys:List Ty) (w:Int):Mc×Int:=bif decide ((vld code tys w).2=0) then (dJ code tys w,0) else (zMc,(vld code tys w).2)
theorem newr1 {code:List In} {tys:List Ty} {w:Int} (h:(vld code tys w).2=0):vD code tys w=(dJ code tys w,0):=by unfold vD;rw [decide_eq_true h];rfl
theorem newr2 {code:List In} {tys:List Ty} {w:Int} (h:¬(vld code tys w).2=0):vD code tys w=(zMc,(vld code tys w).2):=by unfold vD;rw [qK h];rfl
theorem zHu {code:List In} {tys:List Ty} {w:Int} (h:(vld code tys w).2=0):(dJ code tys w).Ok w:=by
 obtain ⟨h1,h2,h3,h4,h5⟩:=vld_ok h
 exact ⟨h5,Int.le_refl 0,h1,List.length_replicate,List.length_replicate,by show ((List.replicate w.toNat _).length:Int)=w;rw [List.length_replicate];omega,h3,h4⟩
theorem new_st (code:List In) (tys:List Ty) (w:Int):vMc (dJ code tys w)=.agg [.sl 11 (code.map In.cells),.sl 5 (tys.map Ty.cells),cI 0,.sl 1 (List.replicate 256 [cI 0]),.sl 2 ((List.replicate 256 (⟨0,1⟩:Vl)).map Vl.cells),.sl 2 ((List.replicate w.toNat (⟨0,1⟩:Vl)).map Vl.cells),.lit (.bool false)]:=by
 unfold vMc dJ
 rw [List.map_replicate (f:=fun n:Int=>[cI n])]
theorem rep_next {v:Vl} {k:Nat}:(List.replicate k v).map Vl.cells++[[cI v.N,cI v.D]]=(List.replicate (k+1) v).map Vl.cells:=by
 rw [List.replicate_succ',List.map_append];rfl
end Go.Br
end
section
namespace Go.Br
open Go Go.Eng Go.L41
structure St0 where
 Name:ByteArray
 At:Int
 Len:Int
def St0.cells (x:St0):List Eng.C:=[cS x.Name,cI x.At,cI x.Len]
structure Un0 where
 code:List In
 tys:List Ty
 slots:List St0
 words:Int
structure Ac where
 Kind:Int
 At:Int
 Many:Int
 Vals:List Vl
def Ac.cells (x:Ac):List Eng.C:=[cI x.Kind,cI x.At,cI x.Many,.sl 2 (x.Vals.map Vl.cells)]
abbrev vU0 (u:Un0):V:=.agg [.sl 11 (u.code.map In.cells),.sl 5 (u.tys.map Ty.cells),.sl 3 (u.slots.map St0.cells),cI u.words]
structure Un0.Fit (u:Un0):Prop where
 hc:u.code.length<=140737488355328
 ht:u.tys.length<=140737488355328
 hs:u.slots.length<=140737488355328
def Un0.few (u:Un0):Bool:= !u.slots.any (fun x=>decide ((100:Int)<(x.Name.size:Int)))&&(decide ((u.code.length:Int)<=300)&&decide ((u.tys.length:Int)<=30)&&decide ((u.slots.length:Int)<=60)&&(decide (u.words<=2000)||decide (1048576<u.words)))
theorem few_tys {u:Un0} (h:u.few=true):u.tys.length<=1000000:=by
 simp only [Un0.few,Bool.and_eq_true,decide_eq_true_eq] at h
 omega
theorem few_yes {u:Un0} {k:Nat} (hk:¬k<u.slots.length) (h:(u.slots.take k).any (fun x=>decide ((100:Int)<(x.Name.size:Int)))=false):u.few=(decide ((u.code.length:Int)<=300)&&decide ((u.tys.length:Int)<=30)&&decide ((u.slots.length:Int)<=60)&&(decide (u.words<=2000)||decide (1048576<u.words))):=by
 rw [yP hk] at h
 rw [Un0.few,h];rfl
theorem few_no {u:Un0} {k:Nat} {x:St0} (hx:u.slots[k]? =some x) (h:(100:Int)<(x.Name.size:Int)):u.few=false:=by
 rw [Un0.few,show u.slots.any (fun x=>decide ((100:Int)<(x.Name.size:Int)))=true from List.any_eq_true.2 ⟨x,qL hx,decide_eq_true h⟩];rfl
def zM:List Value:=.bool false::.slice none 0 0::.slice none 0 0::.slice none 0 0::(List.replicate 256 (.int .i64 0)++((List.replicate 256 [.int .i64 0,.int .i64 0]).flatten++[.int .i64 0,.bool false]))
def vF (code:List In) (tys:List Ty) (w:Int) (k:Nat):Mc:=⟨code,tys,0,List.replicate 256 0,List.replicate k ⟨0,1⟩++List.replicate (256-k) ⟨0,0⟩,List.replicate w.toNat ⟨0,1⟩,false⟩
theorem newK_ok {code:List In} {tys:List Ty} {w:Int} (h:(vld code tys w).2=0) {k:Nat} (hk:k<=256):(vF code tys w k).Ok w:=by
 obtain ⟨h1,h2,h3,h4,h5⟩:=vld_ok h
 exact ⟨h5,Int.le_refl 0,h1,List.length_replicate,by show (List.replicate k _++List.replicate (256-k) _).length=256;rw [List.length_append,List.length_replicate,List.length_replicate];omega,by show ((List.replicate w.toNat _).length:Int)=w;rw [List.length_replicate];omega,h3,h4⟩
theorem newK_next {code:List In} {tys:List Ty} {w:Int} {k:Nat} (hk:k<256):(vF code tys w k).sR (k:Int) (⟨0,1⟩:Vl)=vF code tys w (k+1):=by
 have e:(List.replicate k (⟨0,1⟩:Vl)++List.replicate (256-k) (⟨0,0⟩:Vl)).set k (⟨0,1⟩:Vl)=List.replicate (k+1) (⟨0,1⟩:Vl)++List.replicate (256-(k+1)) (⟨0,0⟩:Vl):=by
  rw [List.set_append_right _ _ (by rw [List.length_replicate];exact Nat.le_refl _),List.length_replicate,Nat.sub_self,show 256-k=(256-(k+1))+1 by omega,List.replicate_succ,List.set_cons_zero,List.replicate_succ',List.append_assoc];rfl
 show (⟨code,tys,0,_,(List.replicate k (⟨0,1⟩:Vl)++List.replicate (256-k) (⟨0,0⟩:Vl)).set (k:Int).toNat (⟨0,1⟩:Vl),_,false⟩:Mc)=_
 rw [Int.toNat_natCast,e];rfl
theorem newK_all {code:List In} {tys:List Ty} {w:Int}:vF code tys w 256=dJ code tys w:=by
 unfold vF dJ
 rw [Nat.sub_self,List.replicate_zero,List.append_nil]
end Go.Br
end
section
namespace Go.Br
open Go Go.Eng Go.L41
def u1:Un0:=⟨[⟨1,0,3,0,⟨0,0⟩,⟨0,0,0,0,0⟩⟩,⟨0,0,0,0,⟨0,0⟩,⟨0,0,0,0,0⟩⟩],[],[],0⟩
def u2:Un0:=⟨[⟨1,0,2,0,⟨0,0⟩,⟨0,0,0,0,0⟩⟩,⟨10,0,0,2,⟨0,1⟩,⟨0,0,0,0,0⟩⟩],[],[],2⟩
def u3:Un0:=⟨[⟨7,0,0,0,⟨0,0⟩,⟨0,0,0,0,0⟩⟩],[],[],0⟩
abbrev m1:Mc:=dJ u1.code u1.tys u1.words
abbrev m2:Mc:=dJ u2.code u2.tys u2.words
abbrev m3:Mc:=dJ u3.code u3.tys u3.words
theorem v1:(vld u1.code u1.tys u1.words).2=0:=by decide+kernel
theorem v2:(vld u2.code u2.tys u2.words).2=0:=by decide+kernel
theorem v3:(vld u3.code u3.tys u3.words).2=0:=by decide+kernel
theorem r1n:(dN m1 10).2.1=2:=by decide+kernel
theorem r1e:(dN m1 10).2.2=0:=by decide+kernel
theorem r1p:(dN m1 10).1.pc=1:=by decide+kernel
theorem r1x:(dN m1 10).1.X[(0:Int).toNat]? =some 3:=by decide+kernel
theorem r2e:(dN m2 10).2.2=12:=by decide+kernel
theorem r3e:(dN m3 10).2.2=14:=by decide+kernel
end Go.Br
end
section
namespace Go.Br
open Go Go.Eng Go.L41
structure Tn where
 T:Ty
 Dims:List Int
 Vals:List Vl
 deriving DecidableEq
structure Nmd where
 Name:ByteArray
 T:Tn
 deriving DecidableEq
def Tn.cells (t:Tn):List Eng.C:=[cI t.T.Kind,cI t.T.Bits,cI t.T.Frac,cI t.T.Round,cI t.T.Over,.sl 1 (t.Dims.map fun n=>[cI n]),.sl 2 (t.Vals.map Vl.cells)]
def Nmd.cells (x:Nmd):List Eng.C:=cS x.Name::x.T.cells
abbrev vTn (t:Tn):V:=.agg t.cells
abbrev xO (x:Nmd):V:=.agg x.cells
abbrev jJ (l:List Nmd):V:=.c (.sl 8 (l.map Nmd.cells))
def zTn:Tn:=⟨zTy,[],[]⟩
def gP (t:Tn):Int:=if bD t.T=true then (if bR t.Dims=0 then (if (t.Vals.length:Int)=bZ t.Dims then (if t.Vals.all (bC t.T)=true then 0 else 1) else 1) else bR t.Dims) else 10
def fJ:List Nmd->ByteArray->Option Tn
 |[],_=>none
 |x::r,s=>if x.Name=s then some x.T else fJ r s
theorem fndT_at {l:List Nmd} {k:Nat} {x:Nmd} {s:ByteArray} (h:l[k]? =some x) (hx:x.Name=s):fJ (l.drop k) s=some x.T:=by rw [yA h,fJ,if_pos hx]
theorem fndT_nx {l:List Nmd} {k:Nat} {x:Nmd} {s:ByteArray} (h:l[k]? =some x) (hx:¬x.Name=s):fJ (l.drop k) s=fJ (l.drop (k+1)) s:=by rw [yA h,fJ,if_neg hx]
theorem fndT_end {l:List Nmd} {k:Nat} {s:ByteArray} (h:l.length<=k):fJ (l.drop k) s=none:=by rw [List.drop_eq_nil_of_le h];rfl
theorem fndT_idx:∀(l:List Nmd) (s:ByteArray),fJ l s=if 0<=bW (fun x=>decide (x.Name=s)) l then (l[(bW (fun x=>decide (x.Name=s)) l).toNat]?).map Nmd.T else none
 |[],s=>by simp [fJ,bW]
 |x::r,s=>by
  have ih:=fndT_idx r s
  rw [fJ,bW]
  exact n6
def fN (mem:List Nmd) (b:Bf):Int:=
 match fJ mem b.Name with
 |none=>9
 |some t=>if gP t=0 then (if t.T=b.T then (if t.Dims=b.Dims then 0 else 15) else 10) else 1
theorem zSz {mem:List Nmd} {b:Bf} (h:fJ mem b.Name=none):fN mem b=9:=by unfold fN;rw [h]
theorem must_1 {mem:List Nmd} {b:Bf} {t:Tn} (h:fJ mem b.Name=some t) (h1:¬gP t=0):fN mem b=1:=by unfold fN;rw [h];exact if_neg h1
theorem must_10 {mem:List Nmd} {b:Bf} {t:Tn} (h:fJ mem b.Name=some t) (h1:gP t=0) (h2:¬t.T=b.T):fN mem b=10:=by unfold fN;rw [h];dsimp only;rw [if_pos h1,if_neg h2]
theorem must_15 {mem:List Nmd} {b:Bf} {t:Tn} (h:fJ mem b.Name=some t) (h1:gP t=0) (h2:t.T=b.T) (h3:¬t.Dims=b.Dims):fN mem b=15:=by unfold fN;rw [h];dsimp only;rw [if_pos h1,if_pos h2,if_neg h3]
theorem must_0 {mem:List Nmd} {b:Bf} {t:Tn} (h:fJ mem b.Name=some t) (h1:gP t=0) (h2:t.T=b.T) (h3:t.Dims=b.Dims):fN mem b=0:=by unfold fN;rw [h];dsimp only;rw [if_pos h1,if_pos h2,if_pos h3]
def mF (ins:List Nmd) (b:Bf):Nmd:=if b.Use=1 then ⟨b.Name,(fJ ins b.Name).getD zTn⟩ else ⟨b.Name,⟨b.T,b.Dims,List.replicate (bZ b.Dims).toNat ⟨0,1⟩⟩⟩
def nO (ins:List Nmd) (b:Bf):Int:=if b.Use=1 then fN ins b else 0
def jR (ins:List Nmd):List Bf->Int
 |[]=>0
 |b::r=>if nO ins b=0 then jR ins r else nO ins b
def gQ (n:Ns) (ins:List Nmd):List Nmd×Int:=
 if (fL n).2=0 then (if jR ins n.Bufs=0 then (n.Bufs.map (mF ins),0) else ([],jR ins n.Bufs)) else ([],(fL n).2)
theorem zQu {ins:List Nmd} {l:List Bf} {k:Nat} {b:Bf} (h:l[k]? =some b) (hp:jR ins l=jR ins (l.drop k)) (he:nO ins b=0):jR ins l=jR ins (l.drop (k+1)):=by rw [hp,yA h,jR,if_pos he]
theorem ini_bad {ins:List Nmd} {l:List Bf} {k:Nat} {b:Bf} (h:l[k]? =some b) (hp:jR ins l=jR ins (l.drop k)) (he:¬nO ins b=0):jR ins l=nO ins b:=by rw [hp,yA h,jR,if_neg he]
theorem ini_end {ins:List Nmd} {l:List Bf} {k:Nat} (h:l.length<=k) (hp:jR ins l=jR ins (l.drop k)):jR ins l=0:=by rw [hp,List.drop_eq_nil_of_le h];rfl
theorem init_v {n:Ns} {ins:List Nmd} (h:¬(fL n).2=0):gQ n ins=([],(fL n).2):=by unfold gQ;rw [if_neg h]
theorem init_e {n:Ns} {ins:List Nmd} (h:(fL n).2=0) (h2:¬jR ins n.Bufs=0):gQ n ins=([],jR ins n.Bufs):=by unfold gQ;rw [if_pos h,if_neg h2]
theorem init_ok {n:Ns} {ins:List Nmd} (h:(fL n).2=0) (h2:jR ins n.Bufs=0):gQ n ins=(n.Bufs.map (mF ins),0):=by unfold gQ;rw [if_pos h,if_pos h2]
theorem zQv {ins:List Nmd}:∀{l:List Bf},jR ins l=0->∀b,b∈l->nO ins b=0
 |a::r,h,b,hb=>by
  rw [jR] at h
  by_cases c:nO ins a=0
  ·rw [if_pos c] at h
   rcases List.mem_cons.1 hb with rfl|hb
   ·exact c
   ·exact zQv h b hb
  ·rw [if_neg c] at h;exact absurd h c
end Go.Br
end
section
namespace Go.Br
open Go Go.Eng Go.L41
def fH:List St0->ByteArray->Option St0
 |[],_=>none
 |x::r,s=>if x.Name=s then some x else fH r s
def zSt0:St0:=⟨bs [],0,0⟩
def fP (S:List St0) (s:ByteArray):St0:=(fH S s).getD zSt0
theorem fndSl_at {l:List St0} {k:Nat} {x:St0} {s:ByteArray} (h:l[k]? =some x) (hx:x.Name=s):fH (l.drop k) s=some x:=by rw [yA h,fH,if_pos hx]
theorem fndSl_nx {l:List St0} {k:Nat} {x:St0} {s:ByteArray} (h:l[k]? =some x) (hx:¬x.Name=s):fH (l.drop k) s=fH (l.drop (k+1)) s:=by rw [yA h,fH,if_neg hx]
theorem fndSl_end {l:List St0} {k:Nat} {s:ByteArray} (h:l.length<=k):fH (l.drop k) s=none:=by rw [List.drop_eq_nil_of_le h];rfl
theorem zTo:∀(l:List St0) (s:ByteArray),fH l s=if 0<=bW (fun x=>decide (x.Name=s)) l then l[(bW (fun x=>decide (x.Name=s)) l).toNat]? else none
 |[],s=>by simp [fH,bW]
 |x::r,s=>by
  have ih:=zTo r s
  rw [fH,bW]
  exact n6
def pE (s:Mc) (S:List St0) (b:Bf):Int:=
 match fH S b.Name with
 |none=>9
 |some x=>if x.Len=bZ b.Dims then (if dC s x.At x.Len=true then 0 else 12) else 15
def jE (s:Mc) (S:List St0):List Bf->Int
 |[]=>0
 |b::r=>if pE s S b=0 then jE s S r else pE s S b
theorem slt_next {s:Mc} {S:List St0} {l:List Bf} {k:Nat} {b:Bf} (h:l[k]? =some b) (hp:jE s S l=jE s S (l.drop k)) (he:pE s S b=0):jE s S l=jE s S (l.drop (k+1)):=by rw [hp,yA h,jE,if_pos he]
theorem zNu {s:Mc} {S:List St0} {l:List Bf} {k:Nat} {b:Bf} (h:l[k]? =some b) (hp:jE s S l=jE s S (l.drop k)) (he:¬pE s S b=0):jE s S l=pE s S b:=by rw [hp,yA h,jE,if_neg he]
theorem slt_end {s:Mc} {S:List St0} {l:List Bf} {k:Nat} (h:l.length<=k) (hp:jE s S l=jE s S (l.drop k)):jE s S l=0:=by rw [hp,List.drop_eq_nil_of_le h];rfl
theorem sltE_9 {s:Mc} {S:List St0} {b:Bf} (h:fH S b.Name=none):pE s S b=9:=by unfold pE;rw [h]
theorem sltE_15 {s:Mc} {S:List St0} {b:Bf} {x:St0} (h:fH S b.Name=some x) (h1:¬x.Len=bZ b.Dims):pE s S b=15:=by unfold pE;rw [h];exact if_neg h1
theorem sltE_12 {s:Mc} {S:List St0} {b:Bf} {x:St0} (h:fH S b.Name=some x) (h1:x.Len=bZ b.Dims) (h2:dC s x.At x.Len=false):pE s S b=12:=by unfold pE;rw [h];dsimp only;rw [if_pos h1,if_neg (by rw [h2];simp)]
theorem sltE_0 {s:Mc} {S:List St0} {b:Bf} {x:St0} (h:fH S b.Name=some x) (h1:x.Len=bZ b.Dims) (h2:dC s x.At x.Len=true):pE s S b=0:=by unfold pE;rw [h];dsimp only;rw [if_pos h1,if_pos h2]
def rQ (S:List St0) (ins:List Nmd) (s:Mc) (b:Bf):Mc:=if b.Use=1 then (nG s (fP S b.Name).At (mF ins b).T.Vals).1 else s
def fM (S:List St0) (ins:List Nmd) (s:Mc) (l:List Bf):Mc:=l.foldl (rQ S ins) s
theorem zQk {S:List St0} {ins:List Nmd} {s:Mc} {l:List Bf} {k:Nat} {b:Bf} (h:l[k]? =some b):fM S ins s (l.take (k+1))=rQ S ins (fM S ins s (l.take k)) b:=by
 unfold fM;rw [kK h,List.foldl_append];rfl
def pF (s:Mc) (S:List St0) (b:Bf):List Vl:=(pI s (fP S b.Name).At (fP S b.Name).Len).1
def pH (s:Mc) (S:List St0) (b:Bf):List Nmd:=if b.Use=2 then [⟨b.Name,⟨b.T,b.Dims,pF s S b⟩⟩] else []
def pG (s:Mc) (S:List St0) (b:Bf):Bool:=decide (b.Use=2)&&(pF s S b).any fun v=> !(bD b.T&&bC b.T v)
def gG (n:Ns) (u:Un0) (ins:List Nmd) (fuel:Int):List Nmd×Int×Int:=
 if ¬(gQ n ins).2=0 then ([],0,(gQ n ins).2) else
 if ¬(vld u.code u.tys u.words).2=0 then ([],0,(vld u.code u.tys u.words).2) else
 if ¬jE (dJ u.code u.tys u.words) u.slots n.Bufs=0 then ([],0,jE (dJ u.code u.tys u.words) u.slots n.Bufs) else
 if ¬(dN (fM u.slots ins (dJ u.code u.tys u.words) n.Bufs) fuel).2.2=0 then ([],0,(dN (fM u.slots ins (dJ u.code u.tys u.words) n.Bufs) fuel).2.2) else
 if n.Bufs.any (pG (dN (fM u.slots ins (dJ u.code u.tys u.words) n.Bufs) fuel).1 u.slots)=true then ([],0,10) else
 (n.Bufs.flatMap (pH (dN (fM u.slots ins (dJ u.code u.tys u.words) n.Bufs) fuel).1 u.slots),(dN (fM u.slots ins (dJ u.code u.tys u.words) n.Bufs) fuel).2.1,0)
theorem exe_1 {n:Ns} {u:Un0} {ins:List Nmd} {f:Int} (h:¬(gQ n ins).2=0):gG n u ins f=([],0,(gQ n ins).2):=by unfold gG;rw [if_pos h]
theorem exe_2 {n:Ns} {u:Un0} {ins:List Nmd} {f:Int} (h:(gQ n ins).2=0) (h2:¬(vld u.code u.tys u.words).2=0):gG n u ins f=([],0,(vld u.code u.tys u.words).2):=by
 unfold gG;rw [if_neg (fun c=>c h),if_pos h2]
theorem exe_3 {n:Ns} {u:Un0} {ins:List Nmd} {f:Int} (h:(gQ n ins).2=0) (h2:(vld u.code u.tys u.words).2=0) (h3:¬jE (dJ u.code u.tys u.words) u.slots n.Bufs=0):gG n u ins f=([],0,jE (dJ u.code u.tys u.words) u.slots n.Bufs):=by
 unfold gG;rw [if_neg (fun c=>c h),if_neg (fun c=>c h2),if_pos h3]
theorem exe_4 {n:Ns} {u:Un0} {ins:List Nmd} {f:Int} (h:(gQ n ins).2=0) (h2:(vld u.code u.tys u.words).2=0) (h3:jE (dJ u.code u.tys u.words) u.slots n.Bufs=0) (h4:¬(dN (fM u.slots ins (dJ u.code u.tys u.words) n.Bufs) f).2.2=0):
  gG n u ins f=([],0,(dN (fM u.slots ins (dJ u.code u.tys u.words) n.Bufs) f).2.2):=by
 unfold gG;rw [if_neg (fun c=>c h),if_neg (fun c=>c h2),if_neg (fun c=>c h3),if_pos h4]
theorem exe_5 {n:Ns} {u:Un0} {ins:List Nmd} {f:Int} (h:(gQ n ins).2=0) (h2:(vld u.code u.tys u.words).2=0) (h3:jE (dJ u.code u.tys u.words) u.slots n.Bufs=0) (h4:(dN (fM u.slots ins (dJ u.code u.tys u.words) n.Bufs) f).2.2=0) {k:Nat} {b:Bf} (hb:n.Bufs[k]? =some b)
  (h5:pG (dN (fM u.slots ins (dJ u.code u.tys u.words) n.Bufs) f).1 u.slots b=true):gG n u ins f=([],0,10):=by
 unfold gG;rw [if_neg (fun c=>c h),if_neg (fun c=>c h2),if_neg (fun c=>c h3),if_neg (fun c=>c h4),if_pos (List.any_eq_true.2 ⟨b,qL hb,h5⟩)]
theorem exe_0 {n:Ns} {u:Un0} {ins:List Nmd} {f:Int} (h:(gQ n ins).2=0) (h2:(vld u.code u.tys u.words).2=0) (h3:jE (dJ u.code u.tys u.words) u.slots n.Bufs=0) (h4:(dN (fM u.slots ins (dJ u.code u.tys u.words) n.Bufs) f).2.2=0)
  (h5:n.Bufs.any (pG (dN (fM u.slots ins (dJ u.code u.tys u.words) n.Bufs) f).1 u.slots)=false):gG n u ins f=(n.Bufs.flatMap (pH (dN (fM u.slots ins (dJ u.code u.tys u.words) n.Bufs) f).1 u.slots),(dN (fM u.slots ins (dJ u.code u.tys u.words) n.Bufs) f).2.1,0):=by
 unfold gG;rw [if_neg (fun c=>c h),if_neg (fun c=>c h2),if_neg (fun c=>c h3),if_neg (fun c=>c h4),if_neg (by rw [h5];simp)]
theorem zQp {s:Mc} {S:List St0} {l:List Bf} {k:Nat} {b:Bf} (h:l[k]? =some b):(l.take (k+1)).flatMap (pH s S)=(l.take k).flatMap (pH s S)++pH s S b:=by rw [kK h,List.flatMap_append];simp
end Go.Br
end
section
namespace Go.Br
open Go Go.Eng Go.L41
/-! ## Small nests and memories -/
def xQ (m d:Int):Int:=min (w64 (m*max d 0)) 65
def tB (l:List Int):Int:=l.foldl xQ 1
def tA (n:Ns):Bool:=n.Bufs.all (fun b=>decide (tB b.Dims<=64))&&(rM n 200&&decide ((n.Bufs.length:Int)<=30))
theorem lgtD_next {l:List Int} {k:Nat} {d:Int} (h:l[k]? =some d):tB (l.take (k+1))=xQ (tB (l.take k)) d:=by
 unfold tB;rw [kK h,List.foldl_append];rfl
theorem lgt_no {n:Ns} {k:Nat} {b:Bf} (h:n.Bufs[k]? =some b) (hb:64<tB b.Dims):tA n=false:=by
 unfold tA;rw [zIo h (decide_eq_false (by omega))];rfl
theorem lgt_yes {n:Ns} (h:n.Bufs.all (fun b=>decide (tB b.Dims<=64))=true):tA n=(rM n 200&&decide ((n.Bufs.length:Int)<=30)):=by
 unfold tA;rw [h];rfl
theorem lgt_parts {n:Ns} (h:tA n=true):n.Bufs.length<=30/\gK n.Body 200<=200:=by
 unfold tA at h
 simp only [Bool.and_eq_true,decide_eq_true_eq] at h
 exact ⟨by omega,(few_parts h.2.1).2.2.1⟩
def sO (x:Nmd):Bool:=(decide ((4200:Int)<x.T.Vals.length)||decide ((20:Int)<x.T.Dims.length))||decide ((100:Int)<x.Name.size)
def pN (l:List Nmd):Bool:= !l.any sO&&decide ((l.length:Int)<=30)
theorem fewNm_no {l:List Nmd} {k:Nat} {x:Nmd} (h:l[k]? =some x) (hx:sO x=true):pN l=false:=by
 unfold pN;rw [List.any_eq_true.2 ⟨x,qL h,hx⟩];rfl
theorem fewNm_yes {l:List Nmd} (h:l.any sO=false):pN l=decide ((l.length:Int)<=30):=by
 unfold pN;rw [h];rfl
theorem fewNm_parts {l:List Nmd} (h:pN l=true):l.length<=30/\∀x,x∈l->x.T.Vals.length<=4200/\x.T.Dims.length<=20:=by
 unfold pN at h
 simp only [Bool.and_eq_true,Bool.not_eq_true',decide_eq_true_eq] at h
 refine ⟨by omega,fun x hx=>?_⟩
 have h1:=h.1
 rw [List.any_eq_false] at h1
 have h2:=h1 x hx
 simp only [sO,Bool.or_eq_true,decide_eq_true_eq,not_or] at h2
 omega
theorem fndT_mem:∀{l:List Nmd} {s:ByteArray} {t:Tn},fJ l s=some t->∃x,x∈l/\x.T=t
 |[],s,t,h=>by cases h
 |x::r,s,t,h=>by
  rw [fJ] at h
  split at h
  ·injection h with h;exact ⟨x,by simp,h⟩
  ·obtain ⟨y,hy,e⟩:=fndT_mem h;exact ⟨y,by simp [hy],e⟩
/-! ## What memory holds before a run -/
theorem zEk (d:List Int):0<=bZ d/\bZ d<=4096:=by
 by_cases h:bR d=0
 ·obtain ⟨_,_,s,hs,h1,h2⟩:=zMz h
  rw [zHy h hs];omega
 ·rw [zUf h];omega
theorem bfErr_ty {seen:List Bf} {b:Bf} (h:jB seen b=0):bD b.T=true/\bR b.Dims=0:=by
 unfold jB at h
 split at h
 ·split at h
  ·cases h
  ·split at h
   ·next h3=>
    split at h
    ·next h4=>exact ⟨h3,h4⟩
    ·next h4=>exact absurd h h4
   ·cases h
 ·cases h
theorem bufs_ty:∀{l seen:List Bf},bY seen l=0->∀b,b∈l->bD b.T=true/\bR b.Dims=0
 |x::r,seen,h,b,hb=>by
  rw [bY] at h
  by_cases c:jB seen x=0
  ·rw [if_pos c] at h
   rcases List.mem_cons.1 hb with rfl|hb
   ·exact bfErr_ty c
   ·exact bufs_ty h b hb
  ·rw [if_neg c] at h;exact absurd h c
theorem must_inv {mem:List Nmd} {b:Bf} (h:fN mem b=0):∃t,fJ mem b.Name=some t/\gP t=0/\t.T=b.T/\t.Dims=b.Dims:=by
 cases e:fJ mem b.Name with
 |none=>rw [zSz e] at h;cases h
 |some t=>
  by_cases h1:gP t=0
  ·by_cases h2:t.T=b.T
   ·by_cases h3:t.Dims=b.Dims
    ·exact ⟨t,rfl,h1,h2,h3⟩
    ·rw [must_15 e h1 h2 h3] at h;cases h
   ·rw [must_10 e h1 h2] at h;cases h
  ·rw [must_1 e h1] at h;cases h
theorem tn_len {t:Tn} (h:gP t=0):(t.Vals.length:Int)=bZ t.Dims:=by
 unfold gP at h
 split at h
 ·split at h
  ·split at h
   ·next h3=>exact h3
   ·cases h
  ·next h2=>exact absurd h h2
 ·cases h
theorem iniV_len {ins:List Nmd} {b:Bf} (h:nO ins b=0):((mF ins b).T.Vals.length:Int)=bZ b.Dims:=by
 unfold nO at h
 unfold mF
 by_cases c:b.Use=1
 ·rw [if_pos c] at h⊢
  obtain ⟨t,e1,e2,e3,e4⟩:=must_inv h
  dsimp only
  rw [e1,←e4];exact tn_len e2
 ·rw [if_neg c]
  have:=zEk b.Dims
  show ((List.replicate (bZ b.Dims).toNat (⟨0,1⟩:Vl)).length:Int)=_
  rw [List.length_replicate];omega
/-! ## Slots -/
theorem zRy {S:List St0} {ins:List Nmd} {s:Mc} {w:Int} (h:s.Ok w) (b:Bf):(rQ S ins s b).Ok w:=by
 unfold rQ;split
 ·exact stoM_ok h _ _
 ·exact h
theorem stoA_ok {S:List St0} {ins:List Nmd} {w:Int}:∀(l:List Bf) {s:Mc},s.Ok w->(fM S ins s l).Ok w
 |[],s,h=>h
 |b::r,s,h=>by unfold fM;rw [List.foldl_cons];exact stoA_ok r (zRy h b)
theorem zQl {S:List St0} {ins:List Nmd} {s:Mc} {b:Bf} (h:b.Use=1):rQ S ins s b=(nG s (fP S b.Name).At (mF ins b).T.Vals).1:=if_pos h
theorem stoB_no {S:List St0} {ins:List Nmd} {s:Mc} {b:Bf} (h:¬b.Use=1):rQ S ins s b=s:=if_neg h
theorem zKh {s:Mc} {S:List St0} {b:Bf} (h:b.Use=2):pH s S b=[⟨b.Name,⟨b.T,b.Dims,pF s S b⟩⟩]:=if_pos h
theorem zOd {s:Mc} {S:List St0} {b:Bf} (h:¬b.Use=2):pH s S b=[]:=if_neg h
theorem outV_len {s:Mc} {w:Int} (hs:s.Ok w) (S:List St0) (b:Bf):(pF s S b).length<=1048576:=by
 have h1:=hs.hM
 have h2:=hs.hw
 unfold pF pI
 cases dC s (fP S b.Name).At (fP S b.Name).Len with
 |false=>exact Nat.zero_le _
 |true=>
  show ((s.M.drop _).take _).length<=_
  rw [List.length_take,List.length_drop];omega
/-! ## For the walks -/
theorem tyv_f {a b:Ty} (h:(!bF (tyC a) (tyC b))=true):¬a=b:=fun e=>by
 rw [show bF (tyC a) (tyC b)=decide (a=b) from zRt a b,decide_eq_true e] at h;cases h
theorem tyv_t {a b:Ty} (h:(!bF (tyC a) (tyC b))=false):a=b:=by
 rw [show bF (tyC a) (tyC b)=decide (a=b) from zRt a b] at h
 exact of_decide_eq_true (by simpa using h)
abbrev vZ (x:St0):V:=.agg x.cells
abbrev pM (l:List St0):V:=.c (.sl 3 (l.map St0.cells))
theorem idx_lt2 {α:Type} {p:α->Bool}:∀{l:List α},0<=bW p l->(bW p l).toNat<l.length
 |[],h=>by rw [bW] at h;omega
 |x::r,h=>by
  rw [bW] at h⊢
  cases c:p x with
  |true=>simp
  |false=>
   rw [c,cond_false] at h
   rw [cond_false]
   by_cases c2:bW p r= -1
   ·rw [decide_eq_true c2,cond_true] at h;omega
   ·rw [decide_eq_false c2,cond_false] at h⊢
    have h1:=zMq p r
    have:=idx_lt2 (p:=p) (l:=r) (by omega)
    rw [List.length_cons];omega
theorem idx_fnd {α:Type} {p:α->Bool} {l:List α} (h:0<=bW p l):∃i x,bW p l=(i:Nat)/\l[i]? =some x:=by
 have hl:=idx_lt2 h
 exact ⟨(bW p l).toNat,l[(bW p l).toNat],by omega,List.getElem?_eq_getElem hl⟩
theorem tn_10 {t:Tn} (h:bD t.T=false):gP t=10:=by unfold gP;rw [if_neg (by rw [h];simp)]
theorem tn_d {t:Tn} (h:bD t.T=true) (h2:¬bR t.Dims=0):gP t=bR t.Dims:=by unfold gP;rw [if_pos h,if_neg h2]
theorem tn_l {t:Tn} (h:bD t.T=true) (h2:bR t.Dims=0) (h3:¬(t.Vals.length:Int)=bZ t.Dims):gP t=1:=by unfold gP;rw [if_pos h,if_pos h2,if_neg h3]
theorem tn_v {t:Tn} (h:bD t.T=true) (h2:bR t.Dims=0) (h3:(t.Vals.length:Int)=bZ t.Dims) {k:Nat} {v:Vl} (hv:t.Vals[k]? =some v) (h4:bC t.T v=false):gP t=1:=by
 unfold gP;rw [if_pos h,if_pos h2,if_pos h3,if_neg (by rw [zIo hv h4];simp)]
theorem tn_0 {t:Tn} (h:bD t.T=true) (h2:bR t.Dims=0) (h3:(t.Vals.length:Int)=bZ t.Dims) (h4:t.Vals.all (bC t.T)=true):gP t=0:=by unfold gP;rw [if_pos h,if_pos h2,if_pos h3,if_pos h4]
theorem fnd_some {l:List Nmd} {s:ByteArray} {t:Tn} (h:(fJ l s).isSome=true) (ht:t=(fJ l s).getD zTn):fJ l s=some t:=by
 cases e:fJ l s with
 |none=>rw [e] at h;cases h
 |some x=>rw [e] at ht;rw [ht];rfl
theorem fnd_none {l:List Nmd} {s:ByteArray} (h:(fJ l s).isSome=false):fJ l s=none:=by
 cases e:fJ l s with
 |none=>rfl
 |some x=>rw [e] at h;cases h
def vC (mem:List Nmd) (b:Bf):Tn:=if fN mem b=0 then (fJ mem b.Name).getD zTn else zTn
theorem prv_no {mem:List Nmd} {b:Bf} (h:¬fN mem b=0):vC mem b=zTn:=if_neg h
theorem prv_yes {mem:List Nmd} {b:Bf} {t:Tn} (h:fN mem b=0) (ht:fJ mem b.Name=some t):vC mem b=t:=by unfold vC;rw [if_pos h,ht];rfl
theorem iniB_p {ins:List Nmd} {b:Bf} (h:b.Use=1) (h2:fN ins b=0):mF ins b=⟨b.Name,vC ins b⟩:=by unfold mF vC;rw [if_pos h,if_pos h2]
theorem iniB_f {ins:List Nmd} {b:Bf} (h:b.Use=1):mF ins b=⟨b.Name,(fJ ins b.Name).getD zTn⟩:=if_pos h
theorem iniB_z {ins:List Nmd} {b:Bf} (h:¬b.Use=1):mF ins b=⟨b.Name,⟨b.T,b.Dims,List.replicate (bZ b.Dims).toNat ⟨0,1⟩⟩⟩:=if_neg h
theorem iniE_p {ins:List Nmd} {b:Bf} (h:b.Use=1):nO ins b=fN ins b:=if_pos h
theorem iniE_z {ins:List Nmd} {b:Bf} (h:¬b.Use=1):nO ins b=0:=if_neg h
theorem fndSl_some {S:List St0} {s:ByteArray} {x:St0} (h:(fH S s).isSome=true) (ht:x=fP S s):fH S s=some x:=by
 unfold fP at ht
 cases e:fH S s with
 |none=>rw [e] at h;cases h
 |some y=>rw [e] at ht;rw [ht];rfl
theorem fndSl_none {S:List St0} {s:ByteArray} (h:(fH S s).isSome=false):fH S s=none:=by
 cases e:fH S s with
 |none=>rfl
 |some x=>rw [e] at h;cases h
theorem ini_ix {ins:List Nmd} {l:List Bf} {k:Nat} {b:Bf} (h:l[k]? =some b):(l.map (mF ins))[k]? =some (mF ins b):=by rw [List.getElem?_map,h];rfl
theorem slt_ix {S:List St0} {l:List Bf} {k:Nat} {b:Bf} (h:l[k]? =some b):(l.map fun b=>fP S b.Name)[k]? =some (fP S b.Name):=by rw [List.getElem?_map,h];rfl
theorem outR_n {s:Mc} {S:List St0} {b:Bf} (h:¬b.Use=2):pG s S b=false:=by unfold pG;rw [decide_eq_false h];rfl
theorem outR_t {s:Mc} {S:List St0} {b:Bf} (h:b.Use=2) (h2:(pF s S b).any (fun v=> !(bD b.T&&bC b.T v))=true):pG s S b=true:=by unfold pG;rw [decide_eq_true h,h2];rfl
theorem outR_f {s:Mc} {S:List St0} {b:Bf} (h2:(pF s S b).any (fun v=> !(bD b.T&&bC b.T v))=false):pG s S b=false:=by unfold pG;rw [h2,Bool.and_false]
theorem init_is {n:Ns} {ins:List Nmd} (h:(gQ n ins).2=0):(gQ n ins).1=n.Bufs.map (mF ins)/\jR ins n.Bufs=0/\(fL n).2=0:=by
 by_cases h1:(fL n).2=0
 ·by_cases h2:jR ins n.Bufs=0
  ·exact ⟨by rw [init_ok h1 h2],h2,h1⟩
  ·rw [init_e h1 h2] at h;exact absurd h h2
 ·rw [init_v h1] at h;exact absurd h h1
theorem out_len {s:Mc} {S:List St0}:∀l:List Bf,(l.flatMap (pH s S)).length<=l.length
 |[]=>Nat.le_refl _
 |b::r=>by
  have ih:=out_len (s:=s) (S:=S) r
  rw [List.flatMap_cons,List.length_append,List.length_cons]
  have h1:(pH s S b).length<=1:=by
   by_cases c:b.Use=2
   ·rw [zKh c];exact Nat.le_refl _
   ·rw [zOd c];exact Nat.zero_le _
  omega
theorem exe_out {n:Ns} {u:Un0} {ins:List Nmd} {f:Int} (hn:n.Ok):(gG n u ins f).1.length<=140737488355328/\∀x,x∈(gG n u ins f).1->x.T.Dims.length<=17592186044416/\x.T.Vals.length<=140737488355328:=by
 have hbl:=hn.bufs
 unfold gG
 split
 ·exact ⟨Nat.zero_le _,fun x hx=>by cases hx⟩
 ·split
  ·exact ⟨Nat.zero_le _,fun x hx=>by cases hx⟩
  ·next h2=>
   have hR:=runX_ok (stoA_ok (S:=u.slots) (ins:=ins) n.Bufs (zHu (Decidable.not_not.1 h2))) f
   split
   ·exact ⟨Nat.zero_le _,fun x hx=>by cases hx⟩
   ·split
    ·exact ⟨Nat.zero_le _,fun x hx=>by cases hx⟩
    ·split
     ·exact ⟨Nat.zero_le _,fun x hx=>by cases hx⟩
     ·have h1:=out_len (s:=(dN (fM u.slots ins (dJ u.code u.tys u.words) n.Bufs) f).1) (S:=u.slots) n.Bufs
      refine ⟨by dsimp only;omega,fun x hx=>?_⟩
      obtain ⟨b,hb,hx⟩:=List.mem_flatMap.1 hx
      by_cases c:b.Use=2
      ·rw [zKh c] at hx
       obtain rfl:=List.mem_singleton.1 hx
       have h3:=outV_len hR u.slots b
       exact ⟨hn.dims b hb,by dsimp only;omega⟩
      ·rw [zOd c] at hx;cases hx
theorem ty_eqv (t:Ty):bF (tyC t) (tyC t)=true:=(zRt t t).trans (decide_eq_true rfl)
theorem any_fin {α:Type} {p:α->Bool} {l:List α} {k:Nat} (h:(l.take k).any p=false) (hk:l.length<=k):l.any p=false:=by rw [List.take_of_length_le hk] at h;exact h
end Go.Br
end
