/-
  What all rows of this seat need: the world of the witness,the table out of the row's list,the memory at the call's beginning.
  The program's configuration,second form: the table of powers of ten holds what its initialiser lays,too.
  What the rows of this seat need whose lists hold the table of powers of ten.
  Facts of the whole program that every row of the seat asks for,each by computation.
  What an argument of this seat is.
  What an argument of this seat is: the numbers in its forms are in range.
  What an argument of this seat is: nests.
  What an argument of this seat is: the numbers in the forms of statements are in range.
  Conditions: none.
-/
import Derived.Test.YtmmiedgoamlhpaaGreatDoorCards
import Derived.Test.YtmmiedgoamlhpaaGreatDoorTie
import Derived.Test.YtmmiedgoamlhpaaGreatDoorCfg
import Derived.Test.YtmmiedgoamlhpaaGreatDoorEngY
import Derived.ProofKit
import Derived.Deep.DeepHandedRow
import Derived.Deep.DeepWitnessRowRef
import Derived.Lib.LaidTab
import Derived.Test.YtmmiedgoamlhpaaGreatDoorShelfX
import Derived.Test.YtmmiedgoamlhpaaGreatDoorEngZ
import Derived.Test.YtmmiedgoamlhpaaGreatDoorPlain2
import Derived.Lib.AppendIntMem
import Derived.JoinedCond
import Derived.DeepKeys2
import Derived.Test.YtmmiedgoamlhpaaGreatDoorPlain
set_option linter.unusedSimpArgs false
set_option linter.unusedVariables false
section
namespace Go.L41
open Go Go.Eng Go.RowKit Go.ChangeShapes Go.WideShapes Go.ChangeAt Go.Proofs Go.Proofs.YtmmiedgoamlhpaaGreatDoor
theorem own:ownKnob Tryz.prog.godebug=none:=by kernel_rfl
theorem laidOut:laidOutB Tryz.prog=true:=by kernel_rfl
theorem gTabType:(Tryz.prog.globals[3]?).map (·.type)=some 338:=by kernel_rfl
theorem cellsTab:Tryz.prog.cellsOf 338=256:=by kernel_rfl
theorem cellsU8:Tryz.prog.cellsOf 5=1:=by kernel_rfl
theorem zFt {P:Program} {x:String×DataW Unit} {r:List (String×DataW Unit)} {w:World} (h:laidMet P (x::r) w):laidMet P r w:=by
 obtain ⟨ps,hv,hnd,hrows⟩:=h
 obtain ⟨n,d⟩:=x
 obtain ⟨g,t,cs,fuel,p,q,_,_,_,_,hq,rfl⟩:=hv
 exact ⟨q,hq,List.Nodup.sublist (List.sublist_append_right _ _) hnd,fun b off hm=>hrows b off (List.mem_append_right _ hm)⟩
theorem tab_len:0<Lib.asciiSpaceTab.length:=by rw [Lib.asciiSpaceTab_length];omega
theorem laid_same:(Rows.laid_strings_asciiSpace:DataW Unit)=Lib.tabData .u8 Lib.asciiSpaceTab:=by kernel_rfl
noncomputable def laidWorld (os:Os):World:=
 let N:=(World.settled Tryz.prog os).heap.size
 let r (a b c:Int):List Value:=[.int .u16 a,.int .u16 b,.int .u16 c]
 let w0:=World.holding Tryz.prog os ⟨#[
  .cells (r 9 13 1++r 32 133 101++r 160 5760 5600++r 8192 8202 1++r 8232 8233 1++r 8239 8287 48++r 12288 12288 1).toArray 378,
  .cells #[.slice (some ⟨N,0,none⟩) 7 7,.slice none 0 0,.int .i64 2] 375],#[],[]⟩
 let put (h:Array Obj) (g:Nat) (cs:Array Value):Array Obj:=h.modify g fun
  |.cells _ t frozen=>.cells cs t frozen
  |o=>o
 let h1:=put w0.heap 3 (Lib.asciiSpaceTab.map fun z=>Value.int .u8 z).toArray
 let h2:=put h1 4 #[.pointer (some ⟨N+1,0,none⟩)]
 { w0 with heap:=h2 }
end Go.L41
end
section
namespace Go.Br
open Go Go.Eng Go.RowKit Go.Proofs Go.L41
theorem gPow : Tryz.prog.globalNamed "internal/strconv.uint64pow10" = some 1 := by kernel_rfl
theorem pow_kept (w w' : World) (h : ∀ b, b < 1 + 1 → w'.heap[b]? = w.heap[b]?) (k : Lib.TabIs Tryz.prog w "internal/strconv.uint64pow10" .u64 Lib.pow10Tab) : Lib.TabIs Tryz.prog w' "internal/strconv.uint64pow10" .u64 Lib.pow10Tab := by
 unfold Lib.TabIs World.var? at *
 rw [gPow] at *
 simp only [Option.bind_some] at *
 rw [h _ (by omega)]
 exact k
noncomputable def cfgI : Cfg := ⟨Tryz.prog, max (3 + 1) (1 + 1), fun w => Lib.TabIs Tryz.prog w "strings.asciiSpace" .u8 Lib.asciiSpaceTab ∧ Lib.TabIs Tryz.prog w "internal/strconv.uint64pow10" .u64 Lib.pow10Tab,
 fun w w' h k=>⟨tab_kept w w' (fun b hb=>h b (by omega)) k.1,pow_kept w w' (fun b hb=>h b (by omega)) k.2⟩⟩
theorem upI {f:FuncId} {args:List V} {μ:List E} {Q:V->List E->Prop} (h:Con cfg f args μ Q):Con cfgI f args μ Q:=Con.upG (X:=cfg) (X':=cfgI) rfl (Nat.le_max_left _ _) (fun _ h=>h.1) h
open Go.Sort in
theorem strconv_Itoa (n:Nat) (h:n<=9223372036854775807):Pur cfgI 91 [vI n] (vS (decB n)):=by
 intro w I vs hH ha
 match vs,ha with
 |[v],ha=>
  have hv:CRep w I (cI n) v:=ha.1
  cases hv
  refine (Tryz.strconv_Itoa n (by omega) (by omega) w hH.glob.2).mono ?_
  rintro e w' ⟨rfl,k,os,rfl⟩
  have hb:=Lib.below_grow w.heap.size w (Nat.le_refl _) k os
  refine ⟨_,_,[],I,rfl,rfl,?_,?_,?_⟩
  ·show CRep _ _ (cS (decB n)) _
   rw [show (⟨(Lib.itoa n).toArray⟩:ByteArray)=decB n by unfold decB Lib.itoa;rw [if_neg (by omega)];simp]
   exact CRep.lit _ rfl
  ·refine ⟨by have:=hH.lo;have:=hb.size;omega,cfgI.hG _ _ (fun b hb'=>hb.block b (by have:=hH.lo;omega)) hH.glob,by simp [blocksOf],fun b hb=>by simp [blocksOf] at hb,fun b hb'=>?_,fun en hen=>by simp at hen,fun en hen=>by simp at hen⟩
   have:=hH.imm b hb';have:=hb.size;omega
  ·exact ⟨hb.os,hb.tape,hb.output,hb.size,fun b hb' _=>hb.block b hb',fun b hb=>hb,fun b hb=>.inl hb,fun b hb=>by simp [blocksOf] at hb⟩
end Go.Br
end
section
namespace Go.Br
open Go Go.Eng Go.RowKit Go.ChangeShapes Go.WideShapes Go.ChangeAt Go.Proofs Go.Proofs.YtmmiedgoamlhpaaGreatDoor Go.L41
abbrev theLaidI : List (String × DataW Unit) := [("math/bits.deBruijn32tab", Rows.laid_math_bits_deBruijn32tab), ("math/bits.deBruijn64tab", Rows.laid_math_bits_deBruijn64tab), ("internal/strconv.uint64pow10", Rows.laid_internal_strconv_uint64pow10), ("unicode.White_Space", Rows.laid_unicode_White_Space), ("strings.asciiSpace", Rows.laid_strings_asciiSpace)]
theorem gPowType:(Tryz.prog.globals[1]?).map (·.type)=some 331:=by kernel_rfl
theorem cellsPow:Tryz.prog.cellsOf 331=20:=by kernel_rfl
theorem cellsU64:Tryz.prog.cellsOf 188=1:=by kernel_rfl
theorem pow_same:(Rows.laid_internal_strconv_uint64pow10:DataW Unit)=Lib.tabData .u64 Lib.pow10Tab:=by kernel_rfl
theorem tableI {W : World} (h : laidMetH Tryz.prog theLaidI W) : Lib.TabIs Tryz.prog W "strings.asciiSpace" .u8 Lib.asciiSpaceTab := by
 have h':laidMet Tryz.prog theLaidI W:=h
 have h2:=zFt (zFt (zFt (zFt h')))
 rw [laid_same] at h2
 exact Lib.tabIs_of_head (rest:=[]) gTab gTabType Tryz.underlying338 Tryz.underlying5 cellsU8 cellsTab h2
theorem tablePow {W : World} (h : laidMetH Tryz.prog theLaidI W) : Lib.TabIs Tryz.prog W "internal/strconv.uint64pow10" .u64 Lib.pow10Tab := by
 have h':laidMet Tryz.prog theLaidI W:=h
 have h2:=zFt (zFt h')
 rw [pow_same] at h2
 exact Lib.tabIs_of_head (rest := [("unicode.White_Space", Rows.laid_unicode_White_Space), ("strings.asciiSpace", Rows.laid_strings_asciiSpace)]) gPow gPowType Tryz.underlying331 Tryz.underlying188 cellsU64 cellsPow h2
theorem pow_len:0<Lib.pow10Tab.length:=by decide+kernel
theorem heap0I {W:World} (h:laidMetH Tryz.prog theLaidI W):Heap cfgI W (fun b=>b<W.heap.size) []:=by
 refine ⟨?_,⟨tableI h,tablePow h⟩,by simp [blocksOf],fun b hb=>by simp [blocksOf] at hb,fun b hb=>hb,fun e he=>by simp at he,fun e he=>by simp at he⟩
 have h1:=World.block_lt_of_cell? W _ ((tableI h).cell gTab 0 tab_len)
 have h2:=World.block_lt_of_cell? W _ ((tablePow h).cell gPow 0 pow_len)
 exact Nat.max_le.2 ⟨h1,h2⟩
def datumV:DataW Unit->Array Value
 |.agg l=>(l.map fun|.lit v=>Lit.toCell v|_=>.nilFunc).toArray
 |_=> #[]
noncomputable def laidWorldI (os:Os):World:=
 let w0:=laidWorld os
 let put (h:Array Obj) (g:Nat) (cs:Array Value):Array Obj:=h.modify g fun
  |.cells _ t frozen=>.cells cs t frozen
  |o=>o
 let h1:=put w0.heap 5 (datumV Rows.laid_math_bits_deBruijn32tab)
 let h2:=put h1 6 (datumV Rows.laid_math_bits_deBruijn64tab)
 let h3:=put h2 1 (datumV Rows.laid_internal_strconv_uint64pow10)
 { w0 with heap:=h3 }
theorem laid_metI (os:Os) (args:Array Value):laidMet Tryz.prog theLaidI ((laidWorldI os).forCall (fun _ _=>0) ⟨#[],args,[]⟩).memory:=
 laidMet_of_run' 8 (by kernel_rfl) (by kernel_rfl)
end Go.Br
end
section
namespace Go.Br
open Go Go.Proofs Go.Proofs.YtmmiedgoamlhpaaGreatDoor
set_option maxRecDepth 100000
theorem side25:Tryz.pinned.checked.prog.mayEnter=true:=by kernel_rfl
theorem side26:(Rows.nestFormatsRow.lifted==Tryz.pinned.checked.prog.liftsFinal)=true:=by kernel_rfl
theorem side27:(Tryz.pinned.checked.prog.make==some Rows.nestFormatsRow.make)=true:=by kernel_rfl
end Go.Br
end
section
set_option maxRecDepth 100000
namespace Go.Br
open Go Go.Eng Go.RowKit Go.Proofs Go.L41
abbrev types:List TypeId:=[9,3,2,98,99,101,102,104,105,108,106,63,65]
theorem cStr:Tryz.prog.cellsOf 9=1:=by kernel_rfl
theorem cInt:Tryz.prog.cellsOf 3=1:=by kernel_rfl
theorem cInt64:Tryz.prog.cellsOf 2=1:=by kernel_rfl
theorem cMono:Tryz.prog.cellsOf 98=2:=by kernel_rfl
theorem cMonos:Tryz.prog.cellsOf 99=1:=by kernel_rfl
theorem cLin:Tryz.prog.cellsOf 101=2:=by kernel_rfl
theorem cLins:Tryz.prog.cellsOf 102=1:=by kernel_rfl
theorem cIndex:Tryz.prog.cellsOf 104=4:=by kernel_rfl
theorem zPx:Tryz.prog.cellsOf 105=1:=by kernel_rfl
theorem cExpr:Tryz.prog.cellsOf 108=13:=by kernel_rfl
theorem cExprs:Tryz.prog.cellsOf 106=1:=by kernel_rfl
theorem cVal:Tryz.prog.cellsOf 63=2:=by kernel_rfl
theorem cType:Tryz.prog.cellsOf 65=5:=by kernel_rfl
theorem bMono:Tryz.prog.bytesOf 98=24:=by kernel_rfl
theorem bLin:Tryz.prog.bytesOf 101=32:=by kernel_rfl
theorem bIndex:Tryz.prog.bytesOf 104=72:=by kernel_rfl
theorem bExpr:Tryz.prog.bytesOf 108=160:=by kernel_rfl
theorem zEy:reachBytes=140737488351232:=by decide
theorem zHw {f:Nat} {l:List C} (h:Sh Tryz.prog f 9 l):∃s:ByteArray,l=[cS s]:=by
 cases f with
 |zero=>exact h.elim
 |succ f=>have h:=Sh.str Tryz.underlying9 h;obtain ⟨s,h,_⟩:=h;exact ⟨s,h⟩
theorem zHh {f:Nat} {l:List C} (h:Sh Tryz.prog f 3 l):∃n:Int,l=[cI n]:=by
 cases f with
 |zero=>exact h.elim
 |succ f=>have h:=Sh.int Tryz.underlying3 h;obtain ⟨s,h,_⟩:=h;exact ⟨s,h⟩
theorem zPf {f:Nat} {l:List C} (h:Sh Tryz.prog f 2 l):∃n:Int,l=[cI n]:=by
 cases f with
 |zero=>exact h.elim
 |succ f=>have h:=Sh.int Tryz.underlying2 h;obtain ⟨s,h,_⟩:=h;exact ⟨s,h⟩
theorem zGs {α:Type} {Q:α->List C} {P:α->Prop}:∀{rows:List (List C)},(∀r,r∈rows->∃x,r=Q x/\P x)->∃l:List α,rows=l.map Q/\∀x,x∈l->P x
 |[],_=>⟨[],rfl,fun x hx=>by cases hx⟩
 |r::rows,h=>by
  obtain ⟨x,rfl,hx⟩:=h r (by simp)
  obtain ⟨l,rfl,hl⟩:=zGs (rows:=rows) fun r hr=>h r (by simp [hr])
  exact ⟨x::l,rfl,fun y hy=>by rcases List.mem_cons.1 hy with rfl|hy;exact hx;exact hl y hy⟩
theorem sh_mono {f:Nat} {l:List C} (h:Sh Tryz.prog f 98 l):∃x:Mono,l=x.cells/\True:=by
 cases f with
 |zero=>exact h.elim
 |succ f=>
  have h:=Sh.struct Tryz.underlying98 h
  obtain ⟨hl,hf⟩:=h
  rw [cMono] at hl
  match l,hl with
  |[a,b],_=>
   simp only [List.mem_cons,List.not_mem_nil,or_false,forall_eq_or_imp,forall_eq,cStr,cInt64,List.drop_zero,List.drop_succ_cons,List.take_succ_cons,List.take_zero] at hf
   obtain ⟨h0,h1⟩:=hf
   obtain ⟨s,e0⟩:=zHw h0
   obtain ⟨n,e1⟩:=zPf h1
   simp only [List.cons.injEq,and_true] at e0 e1
   subst e0 e1
   exact ⟨⟨s,n⟩,rfl,trivial⟩
theorem sh_monos {f:Nat} {l:List C} (h:Sh Tryz.prog f 99 l):∃x:List Mono,l=[.sl 2 (x.map Mono.cells)]/\x.length<=140737488355328:=by
 cases f with
 |zero=>exact h.elim
 |succ f=>
  have h:=Sh.slice Tryz.underlying99 h
  obtain ⟨rows,rfl,⟨_,hb⟩,hr⟩:=h
  obtain ⟨x,rfl,_⟩:=zGs fun r hr'=>sh_mono (hr r hr')
  rw [bMono,zEy,List.length_map] at hb
  exact ⟨x,by rw [cMono],by omega⟩
theorem sh_lin {f:Nat} {l:List C} (h:Sh Tryz.prog f 101 l):∃x:Lf,l=x.cells/\x.L.length<=140737488355328:=by
 cases f with
 |zero=>exact h.elim
 |succ f=>
  have h:=Sh.struct Tryz.underlying101 h
  obtain ⟨hl,hf⟩:=h
  rw [cLin] at hl
  match l,hl with
  |[a,b],_=>
   simp only [List.mem_cons,List.not_mem_nil,or_false,forall_eq_or_imp,forall_eq,cMonos,cInt64,List.drop_zero,List.drop_succ_cons,List.take_succ_cons,List.take_zero] at hf
   obtain ⟨h0,h1⟩:=hf
   obtain ⟨n,e0⟩:=zPf h0
   obtain ⟨L,e1,hL⟩:=sh_monos h1
   simp only [List.cons.injEq,and_true] at e0 e1
   subst e0 e1
   exact ⟨⟨n,L⟩,rfl,hL⟩
theorem sh_lins {f:Nat} {l:List C} (h:Sh Tryz.prog f 102 l):∃x:List Lf,l=[.sl 2 (x.map Lf.cells)]/\x.length<=140737488355328/\∀y,y∈x->y.L.length<=140737488355328:=by
 cases f with
 |zero=>exact h.elim
 |succ f=>
  have h:=Sh.slice Tryz.underlying102 h
  obtain ⟨rows,rfl,⟨_,hb⟩,hr⟩:=h
  obtain ⟨x,rfl,hx⟩:=zGs fun r hr'=>sh_lin (hr r hr')
  rw [bLin,zEy,List.length_map] at hb
  exact ⟨x,by rw [cLin],by omega,hx⟩
theorem sh_index {f:Nat} {l:List C} (h:Sh Tryz.prog f 104 l):∃x:Ix,l=x.cells/\x.fit:=by
 cases f with
 |zero=>exact h.elim
 |succ f=>
  have h:=Sh.struct Tryz.underlying104 h
  obtain ⟨hl,hf⟩:=h
  rw [cIndex] at hl
  match l,hl with
  |[a,b,c,d],_=>
   simp only [List.mem_cons,List.not_mem_nil,or_false,forall_eq_or_imp,forall_eq,cStr,cLin,cLins,List.drop_zero,List.drop_succ_cons,List.take_succ_cons,List.take_zero] at hf
   obtain ⟨h0,h1,h2⟩:=hf
   obtain ⟨⟨K,L⟩,e0,hL⟩:=sh_lin h0
   obtain ⟨s,e1⟩:=zHw h1
   obtain ⟨A,e2,hA,hA'⟩:=sh_lins h2
   simp only [Lf.cells,List.cons.injEq,and_true] at e0 e1 e2
   obtain ⟨e0,e0'⟩:=e0
   subst e0 e0' e1 e2
   exact ⟨⟨⟨K,L⟩,s,A⟩,rfl,hL,hA,hA'⟩
theorem sh_indices {f:Nat} {l:List C} (h:Sh Tryz.prog f 105 l):∃x:List Ix,l=[.sl 4 (x.map Ix.cells)]/\x.length<=140737488355328/\∀y,y∈x->y.fit:=by
 cases f with
 |zero=>exact h.elim
 |succ f=>
  have h:=Sh.slice Tryz.underlying105 h
  obtain ⟨rows,rfl,⟨_,hb⟩,hr⟩:=h
  obtain ⟨x,rfl,hx⟩:=zGs fun r hr'=>sh_index (hr r hr')
  rw [bIndex,zEy,List.length_map] at hb
  exact ⟨x,by rw [cIndex],by omega,hx⟩
theorem sh_val {f:Nat} {l:List C} (h:Sh Tryz.prog f 63 l):∃a b:Int,l=[cI a,cI b]:=by
 cases f with
 |zero=>exact h.elim
 |succ f=>
  have h:=Sh.struct Tryz.underlying63 h
  obtain ⟨hl,hf⟩:=h
  rw [cVal] at hl
  match l,hl with
  |[a,b],_=>
   simp only [List.mem_cons,List.not_mem_nil,or_false,forall_eq_or_imp,forall_eq,cInt64,List.drop_zero,List.drop_succ_cons,List.take_succ_cons,List.take_zero] at hf
   obtain ⟨h0,h1⟩:=hf
   obtain ⟨n,e0⟩:=zPf h0
   obtain ⟨m,e1⟩:=zPf h1
   simp only [List.cons.injEq,and_true] at e0 e1
   subst e0 e1
   exact ⟨n,m,rfl⟩
theorem sh_type {f:Nat} {l:List C} (h:Sh Tryz.prog f 65 l):∃a b c d e:Int,l=[cI a,cI b,cI c,cI d,cI e]:=by
 cases f with
 |zero=>exact h.elim
 |succ f=>
  have h:=Sh.struct Tryz.underlying65 h
  obtain ⟨hl,hf⟩:=h
  rw [cType] at hl
  match l,hl with
  |[a,b,c,d,e],_=>
   simp only [List.mem_cons,List.not_mem_nil,or_false,forall_eq_or_imp,forall_eq,cInt,List.drop_zero,List.drop_succ_cons,List.take_succ_cons,List.take_zero] at hf
   obtain ⟨h0,h1,h2,h3,h4⟩:=hf
   obtain ⟨n0,e0⟩:=zHh h0
   obtain ⟨n1,e1⟩:=zHh h1
   obtain ⟨n2,e2⟩:=zHh h2
   obtain ⟨n3,e3⟩:=zHh h3
   obtain ⟨n4,e4⟩:=zHh h4
   simp only [List.cons.injEq,and_true] at e0 e1 e2 e3 e4
   subst e0 e1 e2 e3 e4
   exact ⟨_,_,_,_,_,rfl⟩
theorem fitL_of {l:List Ex} (h:∀a,a∈l->a.fit):fitL l:=by
 induction l with
 |nil=>trivial
 |cons x r ih=>exact ⟨h x (by simp),ih fun a ha=>h a (by simp [ha])⟩
theorem sh_expr:∀{f:Nat} {l:List C},Sh Tryz.prog f 108 l->∃e:Ex,l=e.cells/\e.fit
 |0,_,h=>h.elim
 |f+1,l,h=>by
  have h:=Sh.struct Tryz.underlying108 h
  obtain ⟨hl,hf⟩:=h
  rw [cExpr] at hl
  match l,hl with
  |[a0,a1,a2,a3,a4,a5,a6,a7,a8,a9,a10,a11,a12],_=>
   simp only [List.mem_cons,List.not_mem_nil,or_false,forall_eq_or_imp,forall_eq,cStr,cInt,cVal,cType,cLin,zPx,cExprs,List.drop_zero,List.drop_succ_cons,List.take_succ_cons,List.take_zero] at hf
   obtain ⟨h0,h1,h2,h3,h4,h5,h6⟩:=hf
   obtain ⟨o,e0⟩:=zHh h0
   obtain ⟨s,e1⟩:=zHw h1
   obtain ⟨vn,vd,e2⟩:=sh_val h2
   obtain ⟨t1,t2,t3,t4,t5,e3⟩:=sh_type h3
   obtain ⟨⟨K,L⟩,e4,hL⟩:=sh_lin h4
   obtain ⟨I,e5,hI,hI'⟩:=sh_indices h5
   have h7:∃x:List Ex,[a12]=[.sl 13 (x.map Ex.cells)]/\x.length<=140737488355328/\∀y,y∈x->y.fit:=by
    match f,h6 with
    |0,h=>exact h.elim
    |f+1,h=>
     have h:=Sh.slice Tryz.underlying106 h
     obtain ⟨rows,e,⟨_,hb⟩,hr⟩:=h
     obtain ⟨x,rfl,hx⟩:=zGs (P:=Ex.fit) fun r hr'=>sh_expr (f:=f) (hr r hr')
     rw [bExpr,zEy,List.length_map] at hb
     exact ⟨x,by rw [e,cExpr],by omega,hx⟩
   obtain ⟨A,e6,hA,hA'⟩:=h7
   simp only [Lf.cells,List.cons.injEq,and_true] at e0 e1 e2 e3 e4 e5 e6
   obtain ⟨e20,e21⟩:=e2
   obtain ⟨e30,e31,e32,e33,e34⟩:=e3
   obtain ⟨e40,e41⟩:=e4
   subst e0 e1 e20 e21 e30 e31 e32 e33 e34 e40 e41 e5 e6
   refine ⟨.mk o s ⟨vn,vd⟩ ⟨t1,t2,t3,t4,t5⟩ ⟨K,L⟩ I A,?_,?_⟩
   ·rw [Ex.cells,cellsL_eq]
   ·rw [Ex.fit];exact ⟨hL,hI,hA,hI',fitL_of hA'⟩
theorem sh_exprV {f:Nat} {l:List C} (h:Sh Tryz.prog f 108 l):∃e:Ex,l=e.cs/\e.fit:=by
 obtain ⟨e,h1,h2⟩:=sh_expr h
 exact ⟨e,by rw [h1,Ex.cells_eq],h2⟩
end Go.Br
end
section
set_option maxRecDepth 100000
namespace Go.Br
open Go Go.Eng Go.RowKit Go.Proofs Go.L41
theorem rng_int64 {f:Nat} {n:Int} (h:Sh Tryz.prog f 2 [cI n]):r64 n:=by
 cases f with
 |zero=>exact h.elim
 |succ f=>
  obtain ⟨m,e,hw⟩:=Sh.int Tryz.underlying2 h
  injection e with e1
  injection e1 with e1
  injection e1 with _ e1
  subst e1
  have hw:(decide (IntKind.i64.min<=n)&&decide (n<=IntKind.i64.max))=true:=hw
  rw [Bool.and_eq_true,decide_eq_true_eq,decide_eq_true_eq] at hw
  exact hw
theorem rng_mono {f:Nat} {x:Mono} (h:Sh Tryz.prog f 98 x.cells):r64 x.By:=by
 cases f with
 |zero=>exact h.elim
 |succ f=>
  obtain ⟨_,hf⟩:=Sh.struct Tryz.underlying98 h
  simp only [Mono.cells,List.mem_cons,List.not_mem_nil,or_false,forall_eq_or_imp,forall_eq,cStr,cInt64,List.drop_zero,List.drop_succ_cons,List.take_succ_cons,List.take_zero] at hf
  exact rng_int64 hf.2
theorem zGh {α:Type} {Q:α->List C} {f:Nat} {t e:TypeId} {n:Nat} {l:List α} (hu:Tryz.prog.underlying t=some (.slice e)) (h:Sh Tryz.prog (f+1) t [.sl n (l.map Q)]):∀x,x∈l->Sh Tryz.prog f e (Q x):=by
 obtain ⟨rows,e,_,hr⟩:=Sh.slice hu h
 injection e with e1
 injection e1 with _ e1
 intro x hx
 exact hr _ (by rw [←e1];exact List.mem_map.2 ⟨x,hx,rfl⟩)
theorem rng_lin {f:Nat} {x:Lf} (h:Sh Tryz.prog f 101 x.cells):x.rng:=by
 match f,h with
 |0,h=>exact h.elim
 |f+1,h=>
  obtain ⟨_,hf⟩:=Sh.struct Tryz.underlying101 h
  simp only [Lf.cells,List.mem_cons,List.not_mem_nil,or_false,forall_eq_or_imp,forall_eq,cMonos,cInt64,List.drop_zero,List.drop_succ_cons,List.take_succ_cons,List.take_zero] at hf
  refine ⟨rng_int64 hf.1,?_⟩
  match f,hf.2 with
  |0,h=>exact h.elim
  |f+1,h=>exact fun m hm=>rng_mono (zGh (Q:=Mono.cells) Tryz.underlying99 h m hm)
theorem rng_index {f:Nat} {x:Ix} (h:Sh Tryz.prog f 104 x.cells):x.Lin.rng/\∀l,l∈x.At->l.rng:=by
 match f,h with
 |0,h=>exact h.elim
 |f+1,h=>
  obtain ⟨_,hf⟩:=Sh.struct Tryz.underlying104 h
  simp only [Ix.cells,List.mem_cons,List.not_mem_nil,or_false,forall_eq_or_imp,forall_eq,cStr,cLin,cLins,List.drop_zero,List.drop_succ_cons,List.take_succ_cons,List.take_zero] at hf
  refine ⟨rng_lin (x:=x.Lin) hf.1,?_⟩
  match f,hf.2.2 with
  |0,h=>exact h.elim
  |f+1,h=>exact fun m hm=>rng_lin (zGh (Q:=Lf.cells) Tryz.underlying102 h m hm)
theorem rng_nodes {P:Lf->Prop} {e:Ex} (h1:∀l,l∈formsL e->P l) (h2:∀a,a∈e.Args->a.allF P):e.allF P:=by
 intro x hx
 rw [wJ] at hx
 rcases List.mem_cons.1 hx with rfl|hx
 ·exact h1
 ·have:∀l:List Ex,(∀a,a∈l->a.allF P)->x∈nodesL l->∀y,y∈formsL x->P y:=by
   intro l
   induction l with
   |nil=>intro _ h;simp [nodesL] at h
   |cons a r ih=>
    intro h hm
    rw [nodesL] at hm
    rcases List.mem_append.1 hm with k|k
    ·exact h a (by simp) x k
    ·exact ih (fun b hb=>h b (by simp [hb])) k
  exact this e.Args h2 hx
theorem rng_expr:∀{f:Nat} {e:Ex},Sh Tryz.prog f 108 e.cells->e.allF Lf.rng
 |0,_,h=>h.elim
 |f+1,e,h=>by
  obtain ⟨_,hf⟩:=Sh.struct Tryz.underlying108 h
  rw [Ex.cells_eq] at hf
  simp only [Ex.cs,List.mem_cons,List.not_mem_nil,or_false,forall_eq_or_imp,forall_eq,cStr,cInt,cVal,cType,cLin,zPx,cExprs,List.drop_zero,List.drop_succ_cons,List.take_succ_cons,List.take_zero] at hf
  obtain ⟨_,_,_,_,h4,h5,h6⟩:=hf
  refine rng_nodes ?_ ?_
  ·intro l hl
   unfold formsL at hl
   rcases List.mem_cons.1 hl with rfl|hl
   ·exact rng_lin (x:=e.Lin) h4
   ·obtain ⟨x,hx,hl⟩:=List.mem_flatMap.1 hl
    match f,h5 with
    |0,h=>exact h.elim
    |f+1,h=>
     obtain ⟨k1,k2⟩:=rng_index (zGh (Q:=Ix.cells) Tryz.underlying105 h x hx)
     rcases List.mem_cons.1 hl with rfl|hl
     ·exact k1
     ·exact k2 l hl
  ·intro a ha
   match f,h6 with
   |0,h=>exact h.elim
   |f+1,h=>exact rng_expr (f:=f) (zGh (Q:=Ex.cells) Tryz.underlying106 h a ha)
end Go.Br
end
section
set_option maxRecDepth 100000
namespace Go.Br
open Go Go.Eng Go.RowKit Go.Proofs Go.L41
abbrev typesN:List TypeId:=[9,3,2,98,99,101,102,104,105,108,106,63,65,376,55,95,50,110,51,53]
theorem okTypesN:typesN.all (okT Tryz.prog typesN)=true:=by kernel_rfl
theorem cInts:Tryz.prog.cellsOf 55=1:=by kernel_rfl
theorem cBf:Tryz.prog.cellsOf 95=8:=by kernel_rfl
theorem cBfs:Tryz.prog.cellsOf 50=1:=by kernel_rfl
theorem cSt:Tryz.prog.cellsOf 110=20:=by kernel_rfl
theorem cSts:Tryz.prog.cellsOf 51=1:=by kernel_rfl
theorem cNs:Tryz.prog.cellsOf 53=2:=by kernel_rfl
theorem bInt:Tryz.prog.bytesOf 3=8:=by kernel_rfl
theorem bBf:Tryz.prog.bytesOf 95=88:=by kernel_rfl
theorem bSt:Tryz.prog.bytesOf 110=256:=by kernel_rfl
theorem sh_ints {f:Nat} {l:List C} (h:Sh Tryz.prog f 55 l):∃x:List Int,l=[.sl 1 (x.map fun n=>[cI n])]/\x.length<=17592186044416:=by
 cases f with
 |zero=>exact h.elim
 |succ f=>
  have h:=Sh.slice Tryz.underlying55 h
  obtain ⟨rows,rfl,⟨_,hb⟩,hr⟩:=h
  obtain ⟨x,rfl,_⟩:=zGs (P:=fun _=>True) (Q:=fun n:Int=>[cI n]) fun r hr'=>(zHh (hr r hr')).imp fun _ h=>⟨h,trivial⟩
  rw [bInt,zEy,List.length_map] at hb
  exact ⟨x,by rw [cInt],by omega⟩
theorem sh_bf {f:Nat} {l:List C} (h:Sh Tryz.prog f 95 l):∃x:Bf,l=x.cells/\x.Dims.length<=17592186044416:=by
 cases f with
 |zero=>exact h.elim
 |succ f=>
  have h:=Sh.struct Tryz.underlying95 h
  obtain ⟨hl,hf⟩:=h
  rw [cBf] at hl
  match l,hl with
  |[a0,a1,a2,a3,a4,a5,a6,a7],_=>
   simp only [List.mem_cons,List.not_mem_nil,or_false,forall_eq_or_imp,forall_eq,cType,cStr,cInts,cInt,List.drop_zero,List.drop_succ_cons,List.take_succ_cons,List.take_zero] at hf
   obtain ⟨h0,h1,h2,h3⟩:=hf
   obtain ⟨s,e0⟩:=zHw h0
   obtain ⟨t1,t2,t3,t4,t5,e1⟩:=sh_type h1
   obtain ⟨D,e2,hD⟩:=sh_ints h2
   obtain ⟨u,e3⟩:=zHh h3
   simp only [List.cons.injEq,and_true] at e0 e1 e2 e3
   obtain ⟨e10,e11,e12,e13,e14⟩:=e1
   subst e0 e10 e11 e12 e13 e14 e2 e3
   exact ⟨⟨s,⟨t1,t2,t3,t4,t5⟩,D,u⟩,rfl,hD⟩
theorem sh_bfs {f:Nat} {l:List C} (h:Sh Tryz.prog f 50 l):∃x:List Bf,l=[.sl 8 (x.map Bf.cells)]/\x.length<=140737488355328/\∀y,y∈x->y.Dims.length<=17592186044416:=by
 cases f with
 |zero=>exact h.elim
 |succ f=>
  have h:=Sh.slice Tryz.underlying50 h
  obtain ⟨rows,rfl,⟨_,hb⟩,hr⟩:=h
  obtain ⟨x,rfl,hx⟩:=zGs fun r hr'=>sh_bf (hr r hr')
  rw [bBf,zEy,List.length_map] at hb
  exact ⟨x,by rw [cBf],by omega,hx⟩
theorem sh_st:∀{f:Nat} {l:List C},Sh Tryz.prog f 110 l->∃s:St,l=s.cells/\s.fit
 |0,_,h=>h.elim
 |f+1,l,h=>by
  have h:=Sh.struct Tryz.underlying110 h
  obtain ⟨hl,hf⟩:=h
  rw [cSt] at hl
  match l,hl with
  |[a0,a1,a2,a3,a4,a5,a6,a7,a8,a9,a10,a11,a12,a13,a14,a15,a16,a17,a18,a19],_=>
   simp only [List.mem_cons,List.not_mem_nil,or_false,forall_eq_or_imp,forall_eq,cStr,cInt,zPx,cExpr,cSts,List.drop_zero,List.drop_succ_cons,List.take_succ_cons,List.take_zero] at hf
   obtain ⟨h0,h1,h2,h3,h4,h5,h6,h7⟩:=hf
   obtain ⟨o,e0⟩:=zHh h0
   obtain ⟨s,e1⟩:=zHw h1
   obtain ⟨mn,e2⟩:=zHh h2
   obtain ⟨mk,e3⟩:=zHh h3
   obtain ⟨fo,e4⟩:=zHh h4
   obtain ⟨I,e5,hI,hI'⟩:=sh_indices h5
   obtain ⟨b,e6,hb⟩:=sh_exprV h6
   have h8:∃x:List St,[a19]=[.sl 20 (x.map St.cells)]/\x.length<=140737488355328/\∀y,y∈x->y.fit:=by
    match f,h7 with
    |0,h=>exact h.elim
    |f+1,h=>
     have h:=Sh.slice Tryz.underlying51 h
     obtain ⟨rows,e,⟨_,hb⟩,hr⟩:=h
     obtain ⟨x,rfl,hx⟩:=zGs (P:=St.fit) fun r hr'=>sh_st (f:=f) (hr r hr')
     rw [bSt,zEy,List.length_map] at hb
     exact ⟨x,by rw [e,cSt],by omega,hx⟩
   obtain ⟨B,e7,hB,hB'⟩:=h8
   simp only [Ex.cs,List.cons.injEq,and_true] at e0 e1 e2 e3 e4 e5 e6 e7
   obtain ⟨f0,f1,f2,f3,f4,f5,f6,f7,f8,f9,f10,f11,f12⟩:=e6
   subst e0 e1 e2 e3 e4 e5 f0 f1 f2 f3 f4 f5 f6 f7 f8 f9 f10 f11 f12 e7
   refine ⟨.mk o s mn mk fo I b B,?_,?_⟩
   ·rw [St.cells,zQu];rfl
   ·rw [St.fit];exact ⟨hI,hI',hb,hB,fitS_of hB'⟩
theorem sh_sts {f:Nat} {l:List C} (h:Sh Tryz.prog f 51 l):∃x:List St,l=[.sl 20 (x.map St.cells)]/\x.length<=140737488355328/\fitS x:=by
 cases f with
 |zero=>exact h.elim
 |succ f=>
  have h:=Sh.slice Tryz.underlying51 h
  obtain ⟨rows,rfl,⟨_,hb⟩,hr⟩:=h
  obtain ⟨x,rfl,hx⟩:=zGs (P:=St.fit) fun r hr'=>sh_st (hr r hr')
  rw [bSt,zEy,List.length_map] at hb
  exact ⟨x,by rw [cSt],by omega,fitS_of hx⟩
theorem sh_nest {f:Nat} {l:List C} (h:Sh Tryz.prog f 53 l):∃x:Ns,l=x.cells/\x.Fit:=by
 cases f with
 |zero=>exact h.elim
 |succ f=>
  have h:=Sh.struct Tryz.underlying53 h
  obtain ⟨hl,hf⟩:=h
  rw [cNs] at hl
  match l,hl with
  |[a0,a1],_=>
   simp only [List.mem_cons,List.not_mem_nil,or_false,forall_eq_or_imp,forall_eq,cBfs,cSts,List.drop_zero,List.drop_succ_cons,List.take_succ_cons,List.take_zero] at hf
   obtain ⟨h0,h1⟩:=hf
   obtain ⟨B,e0,hB,hB'⟩:=sh_bfs h0
   obtain ⟨D,e1,hD,hD'⟩:=sh_sts h1
   simp only [List.cons.injEq,and_true] at e0 e1
   subst e0 e1
   exact ⟨⟨B,D⟩,rfl,⟨hB,hB',hD,hD'⟩⟩
end Go.Br
end
section
set_option maxRecDepth 100000
namespace Go.Br
open Go Go.Eng Go.RowKit Go.Proofs Go.L41
theorem rng_st:∀{f:Nat} {s:St},Sh Tryz.prog f 110 s.cells->s.allF Lf.rng
 |0,_,h=>h.elim
 |f+1,s,h=>by
  obtain ⟨_,hf⟩:=Sh.struct Tryz.underlying110 h
  rw [St.cells_eq] at hf
  simp only [St.cs,List.mem_cons,List.not_mem_nil,or_false,forall_eq_or_imp,forall_eq,cStr,cInt,zPx,cExpr,cSts,List.drop_zero,List.drop_succ_cons,List.take_succ_cons,List.take_zero] at hf
  obtain ⟨_,_,_,_,_,h5,h6,h7⟩:=hf
  have hI:ixsAll Lf.rng s.Idx:=by
   intro x hx
   match f,h5 with
   |0,h=>exact h.elim
   |f+1,h=>exact rng_index (zGh (Q:=Ix.cells) Tryz.underlying105 h x hx)
  have hE:s.E.allF Lf.rng:=rng_expr (f:=f) (by rw [Ex.cells_eq];exact h6)
  have hB:allSs Lf.rng s.Body:=by
   match f,h7 with
   |0,h=>exact h.elim
   |f+1,h=>exact allSs_of fun a ha=>rng_st (f:=f) (zGh (Q:=St.cells) Tryz.underlying51 h a ha)
  cases s
  rw [St.allF]
  exact ⟨hI,hE,hB⟩
theorem rng_sts {f:Nat} {l:List St} (h:Sh Tryz.prog f 51 [.sl 20 (l.map St.cells)]):allSs Lf.rng l:=by
 match f,h with
 |0,h=>exact h.elim
 |f+1,h=>exact allSs_of fun a ha=>rng_st (zGh (Q:=St.cells) Tryz.underlying51 h a ha)
theorem sh_nestR {f:Nat} {l:List C} (h:Sh Tryz.prog f 53 l):∃x:Ns,l=x.cells/\x.Fit/\allSs Lf.rng x.Body:=by
 obtain ⟨x,h1,h2⟩:=sh_nest h
 subst h1
 refine ⟨x,rfl,h2,?_⟩
 match f,h with
 |0,h=>exact h.elim
 |f+1,h=>
  obtain ⟨_,hf⟩:=Sh.struct Tryz.underlying53 h
  simp only [Ns.cells,List.mem_cons,List.not_mem_nil,or_false,forall_eq_or_imp,forall_eq,cBfs,cSts,List.drop_zero,List.drop_succ_cons,List.take_succ_cons,List.take_zero] at hf
  exact rng_sts hf.2
end Go.Br
end
