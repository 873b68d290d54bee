/-
  What all rows of this seat need: the world of the witness,the table out of the row's list,the memory at the call's beginning.
  And what the laws need besides.
  Conditions: none.
-/
import Derived.Test.YthgichbbgocmoaaGreatDoorCards
import Derived.Test.YthgichbbgocmoaaGreatDoorTie
import Derived.Test.YthgichbbgocmoaaGreatDoorCfg
import Derived.Test.YthgichbbgocmoaaGreatDoorEngY
import Derived.ProofKit
import Derived.Deep.DeepHandedRow
import Derived.Deep.DeepWitnessRowRef
import Derived.Lib.LaidTab
import Derived.JoinedCond
import Derived.Test.YthgichbbgocmoaaGreatDoorPlain
import Derived.Test.YthgichbbgocmoaaGreatDoorPlain2
import Derived.Test.YthgichbbgocmoaaGreatDoorPlain3
import Derived.Test.YthgichbbgocmoaaGreatDoorPlainT
set_option linter.unusedSimpArgs false
set_option linter.unusedVariables false
set_option linter.defProp false
section
namespace Go.L41
open Go Go.Eng Go.RowKit Go.ChangeShapes Go.WideShapes Go.ChangeAt Go.Proofs Go.Proofs.YthgichbbgocmoaaGreatDoor Tryz
def own:ownKnob prog.godebug=none:=by kernel_rfl
def laidOut:laidOutB prog=true:=by kernel_rfl
def gTabType:(prog.globals[0]?).map (·.type)=some 206:=by kernel_rfl
def cellsTab:prog.cellsOf 206=256:=by kernel_rfl
def cellsU8:prog.cellsOf 5=1:=by kernel_rfl
abbrev rN : List (String × DataW Unit) := [("unicode.White_Space", Rows.laid_unicode_White_Space), ("strings.asciiSpace", Rows.laid_strings_asciiSpace)]
def laid_tail {P:Program} {x:String×DataW Unit} {r:List (String×DataW Unit)} {w:World} (h:laidMet P (x::r) w):laidMet P r w:=by
 obtain ⟨ps,hv,hnd,hrows⟩:=h
 obtain ⟨n,d⟩:=x
 obtain ⟨g,t,cs,fuel,p,q,_,_,_,_,hq,rfl⟩:=hv
 exact ⟨q,hq,List.Nodup.sublist (List.sublist_append_right _ _) hnd,fun b off hm=>hrows b off (kc _ hm)⟩
def tab_len:0<Lib.asciiSpaceTab.length:=by rw [Lib.asciiSpaceTab_length];omega
def laid_same:(Rows.laid_strings_asciiSpace:DataW Unit)=Lib.tabData .u8 Lib.asciiSpaceTab:=by kernel_rfl
def table {W : World} (h : laidMetH prog rN W) : Lib.TabIs prog W "strings.asciiSpace" .u8 Lib.asciiSpaceTab := by
 have h':laidMet prog rN W:=h
 have h2:=laid_tail h'
 rw [laid_same] at h2
 exact Lib.tabIs_of_head (rest:=[]) gTab gTabType Tryz.underlying206 Tryz.underlying5 cellsU8 cellsTab h2
def heap0 {W:World} (h:laidMetH prog rN W):Heap cfg W (fun b=>b<W.heap.size) []:=by
 refine ⟨?_,table h,by simp [bC],fun b hb=>by simp [bC] at hb,fun b hb=>hb,fun e he=>by simp at he,fun e he=>by simp at he⟩
 have hc:=(table h).cell gTab 0 tab_len
 have:=World.block_lt_of_cell? W _ hc
 exact this
noncomputable def sF (os:Os):World:=
 let N:=(World.settled prog os).heap.size
 let r (a b c:Int):List Value:=[.int .u16 a,.int .u16 b,.int .u16 c]
 let w0:=World.holding prog os ⟨#[
  .cells (r 9 13 1++r 32 133 101++r 160 5760 5600++r 8192 8202 1++r 8232 8233 1++r 8239 8287 48++r 12288 12288 1).toArray 246,
  .cells #[.slice (some ⟨N,0,none⟩) 7 7,.slice none 0 0,.int .i64 2] 243],#[],[]⟩
 let put (h:Array Obj) (g:Nat) (cs:Array Value):Array Obj:=h.modify g fun
  |.cells _ t frozen=>.cells cs t frozen
  |o=>o
 let h1:=put w0.heap 0 (Lib.asciiSpaceTab.map fun z=>Value.int .u8 z).toArray
 let h2:=put h1 1 #[.pointer (some ⟨N+1,0,none⟩)]
 { w0 with heap:=h2 }
def laid_met (os:Os) (args:Array Value):laidMet prog rN ((sF os).forCall (fun _ _=>0) ⟨#[],args,[]⟩).memory:=
 laidMet_of_run' 8 uB uB
end Go.L41
end
section
namespace Go.Br
set_option maxRecDepth 100000
open Go Go.Eng Go.Proofs Go.Proofs.YthgichbbgocmoaaGreatDoor Tryz
def side25:Tryz.pinned.checked.prog.mayEnter=true:=by kernel_rfl
def side26:(Rows.splitRunsRow.lifted==Tryz.pinned.checked.prog.liftsFinal)=true:=by kernel_rfl
def side27:(Tryz.pinned.checked.prog.make==some Rows.splitRunsRow.make)=true:=by kernel_rfl
end Go.Br
end
section
set_option maxRecDepth 100000
namespace Go.Br
open Go Go.Eng Go.RowKit Go.Proofs Go.L41 Tryz
abbrev types:List lu:=[9,3,2,109,49,51,90,92,44,54,52,46,48]
def cStr:prog.cellsOf 9=1:=by kernel_rfl
def cInt:prog.cellsOf 3=1:=by kernel_rfl
def cInt64:prog.cellsOf 2=1:=by kernel_rfl
def cMono:prog.cellsOf 109=2:=by kernel_rfl
def cMonos:prog.cellsOf 49=1:=by kernel_rfl
def cLin:prog.cellsOf 51=2:=by kernel_rfl
def cLins:prog.cellsOf 90=1:=by kernel_rfl
def cIndex:prog.cellsOf 92=4:=by kernel_rfl
def zVq:prog.cellsOf 44=1:=by kernel_rfl
def cExpr:prog.cellsOf 54=13:=by kernel_rfl
def cExprs:prog.cellsOf 52=1:=by kernel_rfl
def cVal:prog.cellsOf 46=2:=by kernel_rfl
def cType:prog.cellsOf 48=5:=by kernel_rfl
def bMono:prog.bytesOf 109=24:=by kernel_rfl
def bLin:prog.bytesOf 51=32:=by kernel_rfl
def bIndex:prog.bytesOf 92=72:=by kernel_rfl
def bExpr:prog.bytesOf 54=160:=by kernel_rfl
def zHk:reachBytes=140737488351232:=by decide
variable {l:List C} {f:Nat}
def zFd (h:Sh prog f 9 l):∃s:lr,l=[cS s]:=by
 cases f with
 |zero=>exact h.elim
 |succ f=>have h:=Sh.str Tryz.underlying9 h;obtain ⟨s,h,_⟩:=h;exact ⟨s,h⟩
def zKh (h:Sh prog f 3 l):∃n:Int,l=[cI n]:=by
 cases f with
 |zero=>exact h.elim
 |succ f=>have h:=Sh.int Tryz.underlying3 h;obtain ⟨s,h,_⟩:=h;exact ⟨s,h⟩
def zUv (h:Sh prog f 2 l):∃n:Int,l=[cI n]:=by
 cases f with
 |zero=>exact h.elim
 |succ f=>have h:=Sh.int Tryz.underlying2 h;obtain ⟨s,h,_⟩:=h;exact ⟨s,h⟩
def zGw {α:Type} {Q:α->List C} {P:α->Prop}:∀{rows:List (List C)},(∀r,r∈rows->∃x,r=Q x/\P x)->∃l:List α,rows=l.map Q/\∀x,x∈l->P x
 |[],_=>⟨[],rfl,fun x hx=>by cases hx⟩
 |r::rows,h=>by
  obtain ⟨x,rfl,hx⟩:=h r uD
  obtain ⟨l,rfl,hl⟩:=zGw (rows:=rows) fun r hr=>h r (by simp [hr])
  exact ⟨x::l,rfl,fun y hy=>by rcases af.1 hy with rfl|hy;exact hx;exact hl y hy⟩
def sh_mono (h:Sh prog f 109 l):∃x:Mono,l=x.cells/\True:=by
 cases f with
 |zero=>exact h.elim
 |succ f=>
  have h:=Sh.struct Tryz.underlying109 h
  obtain ⟨hl,hf⟩:=h
  rw [cMono] at hl
  match l,hl with
  |[a,b],_=>
   simp only [lMc,aN,cp,aX,cq,cStr,cInt64,aY,aQ,aF,bc] at hf
   obtain ⟨h0,h1⟩:=hf
   obtain ⟨s,e0⟩:=zFd h0
   obtain ⟨n,e1⟩:=zUv h1
   simp only [ba,dj] at e0 e1
   subst e0 e1
   exact ⟨⟨s,n⟩,rfl,trivial⟩
def sh_monos (h:Sh prog f 49 l):∃x:List Mono,l=[.sl 2 (x.map Mono.cells)]/\x.length<=140737488355328:=by
 cases f with
 |zero=>exact h.elim
 |succ f=>
  have h:=Sh.slice Tryz.underlying49 h
  obtain ⟨rows,rfl,⟨_,hb⟩,hr⟩:=h
  obtain ⟨x,rfl,_⟩:=zGw fun r hr'=>sh_mono (hr r hr')
  rw [bMono,zHk,lLm] at hb
  exact ⟨x,by rw [cMono],zA⟩
def sh_lin (h:Sh prog f 51 l):∃x:Lf,l=x.cells/\x.L.length<=140737488355328:=by
 cases f with
 |zero=>exact h.elim
 |succ f=>
  have h:=Sh.struct Tryz.underlying51 h
  obtain ⟨hl,hf⟩:=h
  rw [cLin] at hl
  match l,hl with
  |[a,b],_=>
   simp only [lMc,aN,cp,aX,cq,cMonos,cInt64,aY,aQ,aF,bc] at hf
   obtain ⟨h0,h1⟩:=hf
   obtain ⟨n,e0⟩:=zUv h0
   obtain ⟨L,e1,hL⟩:=sh_monos h1
   simp only [ba,dj] at e0 e1
   subst e0 e1
   exact ⟨⟨n,L⟩,rfl,hL⟩
def sh_lins (h:Sh prog f 90 l):∃x:List Lf,l=[.sl 2 (x.map Lf.cells)]/\x.length<=140737488355328/\∀y,y∈x->y.L.length<=140737488355328:=by
 cases f with
 |zero=>exact h.elim
 |succ f=>
  have h:=Sh.slice Tryz.underlying90 h
  obtain ⟨rows,rfl,⟨_,hb⟩,hr⟩:=h
  obtain ⟨x,rfl,hx⟩:=zGw fun r hr'=>sh_lin (hr r hr')
  rw [bLin,zHk,lLm] at hb
  exact ⟨x,by rw [cLin],zA,hx⟩
def sh_index (h:Sh prog f 92 l):∃x:Ix,l=x.cells/\x.fit:=by
 cases f with
 |zero=>exact h.elim
 |succ f=>
  have h:=Sh.struct Tryz.underlying92 h
  obtain ⟨hl,hf⟩:=h
  rw [cIndex] at hl
  match l,hl with
  |[a,b,c,d],_=>
   simp only [lMc,aN,cp,aX,cq,cStr,cLin,cLins,aY,aQ,aF,bc] at hf
   obtain ⟨h0,h1,h2⟩:=hf
   obtain ⟨⟨K,L⟩,e0,hL⟩:=sh_lin h0
   obtain ⟨s,e1⟩:=zFd h1
   obtain ⟨A,e2,hA,hA'⟩:=sh_lins h2
   simp only [Lf.cells,ba,dj] at e0 e1 e2
   obtain ⟨e0,e0'⟩:=e0
   subst e0 e0' e1 e2
   exact ⟨⟨⟨K,L⟩,s,A⟩,rfl,hL,hA,hA'⟩
def sh_indices (h:Sh prog f 44 l):∃x:List Ix,l=[.sl 4 (x.map Ix.cells)]/\x.length<=140737488355328/\∀y,y∈x->y.fit:=by
 cases f with
 |zero=>exact h.elim
 |succ f=>
  have h:=Sh.slice Tryz.underlying44 h
  obtain ⟨rows,rfl,⟨_,hb⟩,hr⟩:=h
  obtain ⟨x,rfl,hx⟩:=zGw fun r hr'=>sh_index (hr r hr')
  rw [bIndex,zHk,lLm] at hb
  exact ⟨x,by rw [cIndex],zA,hx⟩
def sh_val (h:Sh prog f 46 l):∃a b:Int,l=[cI a,cI b]:=by
 cases f with
 |zero=>exact h.elim
 |succ f=>
  have h:=Sh.struct Tryz.underlying46 h
  obtain ⟨hl,hf⟩:=h
  rw [cVal] at hl
  match l,hl with
  |[a,b],_=>
   simp only [lMc,aN,cp,aX,cq,cInt64,aY,aQ,aF,bc] at hf
   obtain ⟨h0,h1⟩:=hf
   obtain ⟨n,e0⟩:=zUv h0
   obtain ⟨m,e1⟩:=zUv h1
   simp only [ba,dj] at e0 e1
   subst e0 e1
   exact ⟨n,m,rfl⟩
def sh_type (h:Sh prog f 48 l):∃a b c d e:Int,l=[cI a,cI b,cI c,cI d,cI e]:=by
 cases f with
 |zero=>exact h.elim
 |succ f=>
  have h:=Sh.struct Tryz.underlying48 h
  obtain ⟨hl,hf⟩:=h
  rw [cType] at hl
  match l,hl with
  |[a,b,c,d,e],_=>
   simp only [lMc,aN,cp,aX,cq,cInt,aY,aQ,aF,bc] at hf
   obtain ⟨h0,h1,h2,h3,h4⟩:=hf
   obtain ⟨n0,e0⟩:=zKh h0
   obtain ⟨n1,e1⟩:=zKh h1
   obtain ⟨n2,e2⟩:=zKh h2
   obtain ⟨n3,e3⟩:=zKh h3
   obtain ⟨n4,e4⟩:=zKh h4
   simp only [ba,dj] at e0 e1 e2 e3 e4
   subst e0 e1 e2 e3 e4
   exact ⟨_,_,_,_,_,rfl⟩
def fitL_of {l:List Ex} (h:∀a,a∈l->a.fit):cZ l:=by
 induction l with
 |nil=>trivial
 |cons x r ih=>exact ⟨h x uD,ih fun a ha=>h a (by simp [ha])⟩
def sh_expr:∀{f:Nat} {l:List C},Sh prog f 54 l->∃e:Ex,l=e.cells/\e.fit
 |0,_,h=>h.elim
 |f+1,l,h=>by
  have h:=Sh.struct Tryz.underlying54 h
  obtain ⟨hl,hf⟩:=h
  rw [cExpr] at hl
  match l,hl with
  |[a0,a1,a2,a3,a4,a5,a6,a7,a8,a9,a10,a11,a12],_=>
   simp only [lMc,aN,cp,aX,cq,cStr,cInt,cVal,cType,cLin,zVq,cExprs,aY,aQ,aF,bc] at hf
   obtain ⟨h0,h1,h2,h3,h4,h5,h6⟩:=hf
   obtain ⟨o,e0⟩:=zKh h0
   obtain ⟨s,e1⟩:=zFd h1
   obtain ⟨vn,vd,e2⟩:=sh_val h2
   obtain ⟨t1,t2,t3,t4,t5,e3⟩:=sh_type h3
   obtain ⟨⟨K,L⟩,e4,hL⟩:=sh_lin h4
   obtain ⟨I,e5,hI,hI'⟩:=sh_indices h5
   have h7:∃x:List Ex,[a12]=[.sl 13 (x.map Ex.cells)]/\x.length<=140737488355328/\∀y,y∈x->y.fit:=by
    match f,h6 with
    |0,h=>exact h.elim
    |f+1,h=>
     have h:=Sh.slice Tryz.underlying52 h
     obtain ⟨rows,e,⟨_,hb⟩,hr⟩:=h
     obtain ⟨x,rfl,hx⟩:=zGw (P:=Ex.fit) fun r hr'=>sh_expr (f:=f) (hr r hr')
     rw [bExpr,zHk,lLm] at hb
     exact ⟨x,by rw [e,cExpr],zA,hx⟩
   obtain ⟨A,e6,hA,hA'⟩:=h7
   simp only [Lf.cells,ba,dj] at e0 e1 e2 e3 e4 e5 e6
   obtain ⟨e20,e21⟩:=e2
   obtain ⟨e30,e31,e32,e33,e34⟩:=e3
   obtain ⟨e40,e41⟩:=e4
   subst e0 e1 e20 e21 e30 e31 e32 e33 e34 e40 e41 e5 e6
   refine ⟨.mk o s ⟨vn,vd⟩ ⟨t1,t2,t3,t4,t5⟩ ⟨K,L⟩ I A,?_,?_⟩
   ·rw [Ex.cells,cellsL_eq]
   ·rw [Ex.fit];exact ⟨hL,hI,hA,hI',fitL_of hA'⟩
def sh_exprV (h:Sh prog f 54 l):∃e:Ex,l=e.cs/\e.fit:=by
 obtain ⟨e,h1,h2⟩:=sh_expr h
 exact ⟨e,by rw [h1,Ex.cells_eq],h2⟩
end Go.Br
end
section
set_option maxRecDepth 100000
namespace Go.Br
open Go Go.Eng Go.RowKit Go.Proofs Go.L41 Tryz
variable {f:Nat}
def rng_int64 {n:Int} (h:Sh prog f 2 [cI n]):r64 n:=by
 cases f with
 |zero=>exact h.elim
 |succ f=>
  obtain ⟨m,e,hw⟩:=Sh.int Tryz.underlying2 h
  injection e with e1
  injection e1 with e1
  injection e1 with _ e1
  subst e1
  have hw:(decide (IntKind.i64.min<=n)&&decide (n<=IntKind.i64.max))=true:=hw
  rw [ae,ah,ah] at hw
  exact hw
def rng_mono {x:Mono} (h:Sh prog f 109 x.cells):r64 x.By:=by
 cases f with
 |zero=>exact h.elim
 |succ f=>
  obtain ⟨_,hf⟩:=Sh.struct Tryz.underlying109 h
  simp only [Mono.cells,lMc,aN,cp,aX,cq,cStr,cInt64,aY,aQ,aF,bc] at hf
  exact rng_int64 hf.2
def zJi {α:Type} {Q:α->List C} {t e:lu} {n:Nat} {l:List α} (hu:prog.underlying t=some (.slice e)) (h:Sh prog (f+1) t [.sl n (l.map Q)]):∀x,x∈l->Sh prog f e (Q x):=by
 obtain ⟨rows,e,_,hr⟩:=Sh.slice hu h
 injection e with e1
 injection e1 with _ e1
 intro x hx
 exact hr _ (by rw [←e1];exact bq.2 ⟨x,hx,rfl⟩)
def rng_lin {x:Lf} (h:Sh prog f 51 x.cells):x.rng:=by
 match f,h with
 |0,h=>exact h.elim
 |f+1,h=>
  obtain ⟨_,hf⟩:=Sh.struct Tryz.underlying51 h
  simp only [Lf.cells,lMc,aN,cp,aX,cq,cMonos,cInt64,aY,aQ,aF,bc] at hf
  refine ⟨rng_int64 hf.1,?_⟩
  match f,hf.2 with
  |0,h=>exact h.elim
  |f+1,h=>exact fun m hm=>rng_mono (zJi (Q:=Mono.cells) Tryz.underlying49 h m hm)
def rng_index {x:Ix} (h:Sh prog f 92 x.cells):x.Lin.rng/\∀l,l∈x.At->l.rng:=by
 match f,h with
 |0,h=>exact h.elim
 |f+1,h=>
  obtain ⟨_,hf⟩:=Sh.struct Tryz.underlying92 h
  simp only [Ix.cells,lMc,aN,cp,aX,cq,cStr,cLin,cLins,aY,aQ,aF,bc] at hf
  refine ⟨rng_lin (x:=x.Lin) hf.1,?_⟩
  match f,hf.2.2 with
  |0,h=>exact h.elim
  |f+1,h=>exact fun m hm=>rng_lin (zJi (Q:=Lf.cells) Tryz.underlying90 h m hm)
def rng_nodes {P:Lf->Prop} {e:Ex} (h1:∀l,l∈dC e->P l) (h2:∀a,a∈e.Args->a.allF P):e.allF P:=by
 exact n9
def rng_expr:∀{f:Nat} {e:Ex},Sh prog f 54 e.cells->e.allF Lf.rng
 |0,_,h=>h.elim
 |f+1,e,h=>by
  obtain ⟨_,hf⟩:=Sh.struct Tryz.underlying54 h
  rw [Ex.cells_eq] at hf
  simp only [Ex.cs,lMc,aN,cp,aX,cq,cStr,cInt,cVal,cType,cLin,zVq,cExprs,aY,aQ,aF,bc] at hf
  obtain ⟨_,_,_,_,h4,h5,h6⟩:=hf
  refine rng_nodes ?_ ?_
  ·intro l hl
   unfold dC at hl
   rcases af.1 hl with rfl|hl
   ·exact rng_lin (x:=e.Lin) h4
   ·obtain ⟨x,hx,hl⟩:=cf.1 hl
    match f,h5 with
    |0,h=>exact h.elim
    |f+1,h=>
     obtain ⟨k1,k2⟩:=rng_index (zJi (Q:=Ix.cells) Tryz.underlying44 h x hx)
     rcases af.1 hl with rfl|hl
     ·exact k1
     ·exact k2 l hl
  ·intro a ha
   match f,h6 with
   |0,h=>exact h.elim
   |f+1,h=>exact rng_expr (f:=f) (zJi (Q:=Ex.cells) Tryz.underlying52 h a ha)
end Go.Br
end
section
set_option maxRecDepth 100000
namespace Go.Br
open Go Go.Eng Go.RowKit Go.Proofs Go.L41 Tryz
def cInts:prog.cellsOf 38=1:=by kernel_rfl
def cBf:prog.cellsOf 94=8:=by kernel_rfl
def cBfs:prog.cellsOf 22=1:=by kernel_rfl
def cSt:prog.cellsOf 56=20:=by kernel_rfl
def cSts:prog.cellsOf 23=1:=by kernel_rfl
def cNs:prog.cellsOf 25=2:=by kernel_rfl
def bInt:prog.bytesOf 3=8:=by kernel_rfl
def bBf:prog.bytesOf 94=88:=by kernel_rfl
def bSt:prog.bytesOf 56=256:=by kernel_rfl
variable {l:List C} {f:Nat}
def sh_ints (h:Sh prog f 38 l):∃x:List Int,l=[.sl 1 (x.map fun n=>[cI n])]/\x.length<=17592186044416:=by
 cases f with
 |zero=>exact h.elim
 |succ f=>
  have h:=Sh.slice Tryz.underlying38 h
  obtain ⟨rows,rfl,⟨_,hb⟩,hr⟩:=h
  obtain ⟨x,rfl,_⟩:=zGw (P:=fun _=>True) (Q:=fun n:Int=>[cI n]) fun r hr'=>(zKh (hr r hr')).imp fun _ h=>⟨h,trivial⟩
  rw [bInt,zHk,lLm] at hb
  exact ⟨x,by rw [cInt],zA⟩
def sh_bf (h:Sh prog f 94 l):∃x:Bf,l=x.cells/\x.Dims.length<=17592186044416:=by
 cases f with
 |zero=>exact h.elim
 |succ f=>
  have h:=Sh.struct Tryz.underlying94 h
  obtain ⟨hl,hf⟩:=h
  rw [cBf] at hl
  match l,hl with
  |[a0,a1,a2,a3,a4,a5,a6,a7],_=>
   simp only [lMc,aN,cp,aX,cq,cType,cStr,cInts,cInt,aY,aQ,aF,bc] at hf
   obtain ⟨h0,h1,h2,h3⟩:=hf
   obtain ⟨s,e0⟩:=zFd h0
   obtain ⟨t1,t2,t3,t4,t5,e1⟩:=sh_type h1
   obtain ⟨D,e2,hD⟩:=sh_ints h2
   obtain ⟨u,e3⟩:=zKh h3
   simp only [ba,dj] at e0 e1 e2 e3
   obtain ⟨e10,e11,e12,e13,e14⟩:=e1
   subst e0 e10 e11 e12 e13 e14 e2 e3
   exact ⟨⟨s,⟨t1,t2,t3,t4,t5⟩,D,u⟩,rfl,hD⟩
def sh_bfs (h:Sh prog f 22 l):∃x:List Bf,l=[.sl 8 (x.map Bf.cells)]/\x.length<=140737488355328/\∀y,y∈x->y.Dims.length<=17592186044416:=by
 cases f with
 |zero=>exact h.elim
 |succ f=>
  have h:=Sh.slice Tryz.underlying22 h
  obtain ⟨rows,rfl,⟨_,hb⟩,hr⟩:=h
  obtain ⟨x,rfl,hx⟩:=zGw fun r hr'=>sh_bf (hr r hr')
  rw [bBf,zHk,lLm] at hb
  exact ⟨x,by rw [cBf],zA,hx⟩
def sh_st:∀{f:Nat} {l:List C},Sh prog f 56 l->∃s:St,l=s.cells/\s.fit
 |0,_,h=>h.elim
 |f+1,l,h=>by
  have h:=Sh.struct Tryz.underlying56 h
  obtain ⟨hl,hf⟩:=h
  rw [cSt] at hl
  match l,hl with
  |[a0,a1,a2,a3,a4,a5,a6,a7,a8,a9,a10,a11,a12,a13,a14,a15,a16,a17,a18,a19],_=>
   simp only [lMc,aN,cp,aX,cq,cStr,cInt,zVq,cExpr,cSts,aY,aQ,aF,bc] at hf
   obtain ⟨h0,h1,h2,h3,h4,h5,h6,h7⟩:=hf
   obtain ⟨o,e0⟩:=zKh h0
   obtain ⟨s,e1⟩:=zFd h1
   obtain ⟨mn,e2⟩:=zKh h2
   obtain ⟨mk,e3⟩:=zKh h3
   obtain ⟨fo,e4⟩:=zKh h4
   obtain ⟨I,e5,hI,hI'⟩:=sh_indices h5
   obtain ⟨b,e6,hb⟩:=sh_exprV h6
   have h8:∃x:List St,[a19]=[.sl 20 (x.map St.cells)]/\x.length<=140737488355328/\∀y,y∈x->y.fit:=by
    match f,h7 with
    |0,h=>exact h.elim
    |f+1,h=>
     have h:=Sh.slice Tryz.underlying23 h
     obtain ⟨rows,e,⟨_,hb⟩,hr⟩:=h
     obtain ⟨x,rfl,hx⟩:=zGw (P:=St.fit) fun r hr'=>sh_st (f:=f) (hr r hr')
     rw [bSt,zHk,lLm] at hb
     exact ⟨x,by rw [e,cSt],zA,hx⟩
   obtain ⟨B,e7,hB,hB'⟩:=h8
   simp only [Ex.cs,ba,dj] at e0 e1 e2 e3 e4 e5 e6 e7
   obtain ⟨f0,f1,f2,f3,f4,f5,f6,f7,f8,f9,f10,f11,f12⟩:=e6
   subst e0 e1 e2 e3 e4 e5 f0 f1 f2 f3 f4 f5 f6 f7 f8 f9 f10 f11 f12 e7
   refine ⟨.mk o s mn mk fo I b B,?_,?_⟩
   ·rw [St.cells,zWj];rfl
   ·rw [St.fit];exact ⟨hI,hI',hb,hB,fitS_of hB'⟩
def sh_sts (h:Sh prog f 23 l):∃x:List St,l=[.sl 20 (x.map St.cells)]/\x.length<=140737488355328/\rJ x:=by
 cases f with
 |zero=>exact h.elim
 |succ f=>
  have h:=Sh.slice Tryz.underlying23 h
  obtain ⟨rows,rfl,⟨_,hb⟩,hr⟩:=h
  obtain ⟨x,rfl,hx⟩:=zGw (P:=St.fit) fun r hr'=>sh_st (hr r hr')
  rw [bSt,zHk,lLm] at hb
  exact ⟨x,by rw [cSt],zA,fitS_of hx⟩
def sh_nest (h:Sh prog f 25 l):∃x:Ns,l=x.cells/\x.Fit:=by
 cases f with
 |zero=>exact h.elim
 |succ f=>
  have h:=Sh.struct Tryz.underlying25 h
  obtain ⟨hl,hf⟩:=h
  rw [cNs] at hl
  match l,hl with
  |[a0,a1],_=>
   simp only [lMc,aN,cp,aX,cq,cBfs,cSts,aY,aQ,aF,bc] at hf
   obtain ⟨h0,h1⟩:=hf
   obtain ⟨B,e0,hB,hB'⟩:=sh_bfs h0
   obtain ⟨D,e1,hD,hD'⟩:=sh_sts h1
   simp only [ba,dj] at e0 e1
   subst e0 e1
   exact ⟨⟨B,D⟩,rfl,⟨hB,hB',hD,hD'⟩⟩
end Go.Br
end
section
set_option maxRecDepth 100000
namespace Go.Br
open Go Go.Eng Go.RowKit Go.Proofs Go.L41 Tryz
def rng_st:∀{f:Nat} {s:St},Sh prog f 56 s.cells->s.allF Lf.rng
 |0,_,h=>h.elim
 |f+1,s,h=>by
  obtain ⟨_,hf⟩:=Sh.struct Tryz.underlying56 h
  rw [St.cells_eq] at hf
  simp only [St.cs,lMc,aN,cp,aX,cq,cStr,cInt,zVq,cExpr,cSts,aY,aQ,aF,bc] at hf
  obtain ⟨_,_,_,_,_,h5,h6,h7⟩:=hf
  have hI:gK Lf.rng s.Idx:=by
   intro x hx
   match f,h5 with
   |0,h=>exact h.elim
   |f+1,h=>exact rng_index (zJi (Q:=Ix.cells) Tryz.underlying44 h x hx)
  have hE:s.E.allF Lf.rng:=rng_expr (f:=f) (by rw [Ex.cells_eq];exact h6)
  have hB:bE Lf.rng s.Body:=by
   match f,h7 with
   |0,h=>exact h.elim
   |f+1,h=>exact zHs fun a ha=>rng_st (f:=f) (zJi (Q:=St.cells) Tryz.underlying23 h a ha)
  cases s
  rw [St.allF]
  exact ⟨hI,hE,hB⟩
def rng_sts {f:Nat} {l:List St} (h:Sh prog f 23 [.sl 20 (l.map St.cells)]):bE Lf.rng l:=by
 match f,h with
 |0,h=>exact h.elim
 |f+1,h=>exact zHs fun a ha=>rng_st (zJi (Q:=St.cells) Tryz.underlying23 h a ha)
def sh_nestR {f:Nat} {l:List C} (h:Sh prog f 25 l):∃x:Ns,l=x.cells/\x.Fit/\bE Lf.rng x.Body:=by
 obtain ⟨x,h1,h2⟩:=sh_nest h
 subst h1
 refine ⟨x,rfl,h2,?_⟩
 match f,h with
 |0,h=>exact h.elim
 |f+1,h=>
  obtain ⟨_,hf⟩:=Sh.struct Tryz.underlying25 h
  simp only [Ns.cells,lMc,aN,cp,aX,cq,cBfs,cSts,aY,aQ,aF,bc] at hf
  exact rng_sts hf.2
end Go.Br
end
section
set_option maxRecDepth 100000
namespace Go.Br
open Go Go.Eng Go.L41 Go.Proofs Tryz
def sh_intR {f:Nat} {l:List C} (h:Sh prog f 3 l):∃n:Int,l=[cI n]/\r64 n:=by
 cases f with
 |zero=>exact h.elim
 |succ f=>
  obtain ⟨m,e,hw⟩:=Sh.int Tryz.underlying3 h
  have hw:(decide (IntKind.i64.min<=m)&&decide (m<=IntKind.i64.max))=true:=hw
  rw [ae,ah,ah] at hw
  exact ⟨m,e,hw.1,hw.2⟩
end Go.Br
end
section
set_option maxRecDepth 100000
namespace Go.Br
open Go Go.Eng Go.RowKit Go.Proofs Go.L41 Tryz
def Ty.cells (t:Ty):List C:=[cI t.Kind,cI t.Bits,cI t.Frac,cI t.Round,cI t.Over]
abbrev typesT:List lu:=[9,3,2,46,119,48,38,121,125,26,109,49,51,90,92,44,54,52,244,94,22,56,23,25]
def zMv:typesT.all (okT prog typesT)=true:=by kernel_rfl
def c_str:prog.cellsOf 9=1:=by kernel_rfl
def c_int:prog.cellsOf 3=1:=by kernel_rfl
def c_i64:prog.cellsOf 2=1:=by kernel_rfl
def c_val:prog.cellsOf 46=2:=by kernel_rfl
def c_vals:prog.cellsOf 119=1:=by kernel_rfl
def c_ty:prog.cellsOf 48=5:=by kernel_rfl
def c_ints:prog.cellsOf 38=1:=by kernel_rfl
def c_ten:prog.cellsOf 121=7:=by kernel_rfl
def c_nmd:prog.cellsOf 125=8:=by kernel_rfl
def b_val:prog.bytesOf 46=16:=by kernel_rfl
def b_nmd:prog.bytesOf 125=104:=by kernel_rfl
def reachE:reachBytes=140737488351232:=by decide
variable {l:List C} {f:Nat}
def shv_str (h:Sh prog f 9 l):∃s:lr,l=[cS s]/\True:=by
 cases f with
 |zero=>exact h.elim
 |succ f=>have h:=Sh.str Tryz.underlying9 h;obtain ⟨s,h,_⟩:=h;exact ⟨s,h,trivial⟩
def zWr (h:Sh prog f 3 l):∃n:Int,l=[cI n]/\True:=by
 cases f with
 |zero=>exact h.elim
 |succ f=>have h:=Sh.int Tryz.underlying3 h;obtain ⟨s,h,_⟩:=h;exact ⟨s,h,trivial⟩
def shv_i64 (h:Sh prog f 2 l):∃n:Int,l=[cI n]/\True:=by
 cases f with
 |zero=>exact h.elim
 |succ f=>have h:=Sh.int Tryz.underlying2 h;obtain ⟨s,h,_⟩:=h;exact ⟨s,h,trivial⟩
def shv_val (h:Sh prog f 46 l):∃x:Vl,l=x.cells/\True:=by
 cases f with
 |zero=>exact h.elim
 |succ f=>
  have h:=Sh.struct Tryz.underlying46 h
  obtain ⟨hl,hf⟩:=h
  rw [c_val] at hl
  match l,hl with
  |[a0,a1],_=>
   simp only [lMc,aN,cp,aX,cq,c_i64,aY,aQ,aF,bc] at hf
   obtain ⟨h0,h1⟩:=hf
   obtain ⟨n,e0,p0⟩:=shv_i64 h0
   simp only [ba,dj] at e0
   obtain ⟨d,e1,p1⟩:=shv_i64 h1
   simp only [ba,dj] at e1
   subst e0 e1
   exact ⟨⟨n,d⟩,rfl,trivial⟩
def shv_vals (h:Sh prog f 119 l):∃x:List Vl,l=[.sl 2 (x.map Vl.cells)]/\x.length<=140737488355328:=by
 cases f with
 |zero=>exact h.elim
 |succ f=>
  have h:=Sh.slice Tryz.underlying119 h
  obtain ⟨rows,rfl,⟨_,hb⟩,hr⟩:=h
  obtain ⟨x,rfl,hx⟩:=zGw fun r hr'=>shv_val (hr r hr')
  rw [b_val,reachE,lLm] at hb
  exact ⟨x,by rw [c_val],zA⟩
def shv_ty (h:Sh prog f 48 l):∃x:Ty,l=x.cells/\True:=by
 cases f with
 |zero=>exact h.elim
 |succ f=>
  have h:=Sh.struct Tryz.underlying48 h
  obtain ⟨hl,hf⟩:=h
  rw [c_ty] at hl
  match l,hl with
  |[a0,a1,a2,a3,a4],_=>
   simp only [lMc,aN,cp,aX,cq,c_int,aY,aQ,aF,bc] at hf
   obtain ⟨h0,h1,h2,h3,h4⟩:=hf
   obtain ⟨k,e0,p0⟩:=zWr h0
   simp only [ba,dj] at e0
   obtain ⟨b,e1,p1⟩:=zWr h1
   simp only [ba,dj] at e1
   obtain ⟨fr,e2,p2⟩:=zWr h2
   simp only [ba,dj] at e2
   obtain ⟨r,e3,p3⟩:=zWr h3
   simp only [ba,dj] at e3
   obtain ⟨ov,e4,p4⟩:=zWr h4
   simp only [ba,dj] at e4
   subst e0 e1 e2 e3 e4
   exact ⟨⟨k,b,fr,r,ov⟩,rfl,trivial⟩
def shv_ints (h:Sh prog f 38 l):∃x:List Int,l=[.sl 1 (x.map fun n=>[cI n])]/\x.length<=17592186044416:=sh_ints h
def Tn.Fit (t:Tn):Prop:=t.Dims.length<=17592186044416/\t.Vals.length<=140737488355328
def shv_ten (h:Sh prog f 121 l):∃x:Tn,l=x.cells/\x.Fit:=by
 cases f with
 |zero=>exact h.elim
 |succ f=>
  have h:=Sh.struct Tryz.underlying121 h
  obtain ⟨hl,hf⟩:=h
  rw [c_ten] at hl
  match l,hl with
  |[a0,a1,a2,a3,a4,a5,a6],_=>
   simp only [lMc,aN,cp,aX,cq,c_ty,c_ints,c_vals,aY,aQ,aF,bc] at hf
   obtain ⟨h0,h1,h2⟩:=hf
   obtain ⟨⟨k,b,fr,r,ov⟩,e0,p0⟩:=shv_ty h0
   simp only [Ty.cells,ba,dj] at e0
   obtain ⟨e0_0,e0_1,e0_2,e0_3,e0_4⟩:=e0
   obtain ⟨D,e1,p1⟩:=shv_ints h1
   simp only [ba,dj] at e1
   obtain ⟨v,e2,p2⟩:=shv_vals h2
   simp only [ba,dj] at e2
   subst e0_0 e0_1 e0_2 e0_3 e0_4 e1 e2
   exact ⟨⟨⟨k,b,fr,r,ov⟩,D,v⟩,rfl,⟨p1,p2⟩⟩
def shv_nmd (h:Sh prog f 125 l):∃x:Nmd,l=x.cells/\x.T.Fit:=by
 cases f with
 |zero=>exact h.elim
 |succ f=>
  have h:=Sh.struct Tryz.underlying125 h
  obtain ⟨hl,hf⟩:=h
  rw [c_nmd] at hl
  match l,hl with
  |[a0,a1,a2,a3,a4,a5,a6,a7],_=>
   simp only [lMc,aN,cp,aX,cq,c_str,c_ten,aY,aQ,aF,bc] at hf
   obtain ⟨h0,h1⟩:=hf
   obtain ⟨s,e0,p0⟩:=shv_str h0
   simp only [ba,dj] at e0
   obtain ⟨⟨⟨k,b,fr,r,ov⟩,D,v⟩,e1,p1⟩:=shv_ten h1
   simp only [Tn.cells,ba,dj] at e1
   obtain ⟨e1_0,e1_1,e1_2,e1_3,e1_4,e1_5,e1_6⟩:=e1
   subst e0 e1_0 e1_1 e1_2 e1_3 e1_4 e1_5 e1_6
   exact ⟨⟨s,⟨⟨k,b,fr,r,ov⟩,D,v⟩⟩,rfl,p1⟩
def shv_mem (h:Sh prog f 26 l):∃x:List Nmd,l=[.sl 8 (x.map Nmd.cells)]/\(x.length<=140737488355328/\∀y,y∈x->y.T.Fit):=by
 cases f with
 |zero=>exact h.elim
 |succ f=>
  have h:=Sh.slice Tryz.underlying26 h
  obtain ⟨rows,rfl,⟨_,hb⟩,hr⟩:=h
  obtain ⟨x,rfl,hx⟩:=zGw fun r hr'=>shv_nmd (hr r hr')
  rw [b_nmd,reachE,lLm] at hb
  exact ⟨x,by rw [c_nmd],zA,hx⟩
end Go.Br
end
