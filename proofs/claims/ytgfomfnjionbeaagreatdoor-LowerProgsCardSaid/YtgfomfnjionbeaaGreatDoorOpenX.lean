/-
  What all rows of this seat need: the world of the witness,the table out of the row's list,the memory at the call's beginning.
  And what the laws need besides.
  Conditions: none.
-/
import Derived.Test.YtgfomfnjionbeaaGreatDoorCards
import Derived.Test.YtgfomfnjionbeaaGreatDoorTie
import Derived.Test.YtgfomfnjionbeaaGreatDoorCfg
import Derived.Test.YtgfomfnjionbeaaGreatDoorEngY
import Derived.ProofKit
import Derived.Deep.DeepHandedRow
import Derived.Deep.DeepWitnessRowRef
import Derived.Lib.LaidTab
import Derived.JoinedCond
import Derived.Test.YtgfomfnjionbeaaGreatDoorPlain
import Derived.Test.YtgfomfnjionbeaaGreatDoorPlain2
import Derived.Test.YtgfomfnjionbeaaGreatDoorPlainL
set_option linter.unusedSimpArgs false
set_option linter.unusedVariables false
set_option linter.defProp false
section
namespace Go.L41
open Go Go.Eng Go.RowKit Go.ChangeShapes Go.WideShapes Go.ChangeAt Go.Proofs Go.Proofs.YtgfomfnjionbeaaGreatDoor Tryz
def own:ownKnob prog.godebug=none:=by kernel_rfl
def T6:laidOutB prog=true:=by kernel_rfl
def PJ:(prog.globals[0]?).map (·.type)=some 258:=by kernel_rfl
def O3:prog.cellsOf 258=256:=by kernel_rfl
def Tq:prog.cellsOf 5=1:=by kernel_rfl
abbrev sB : List (String × DataW Unit) := [("unicode.White_Space", Rows.laid_unicode_White_Space), ("strings.asciiSpace", Rows.laid_strings_asciiSpace)]
def MK {P:Program} {x:String×DataW Unit} {r:List (String×DataW Unit)} {w:World} (h:laidMet P (x::r) w):laidMet P r w:=by
 obtain ⟨ps,hv,hnd,hrows⟩:=h
 obtain ⟨n,d⟩:=x
 obtain ⟨g,t,cs,fuel,p,q,_,_,_,_,hq,rfl⟩:=hv
 exact ⟨q,hq,List.Nodup.sublist (List.sublist_append_right _ _) hnd,λb off hm=>hrows b off (dp _ hm)⟩
def Vm:0<Lib.asciiSpaceTab.length:=by rw [Lib.asciiSpaceTab_length];omega
def MJ:(Rows.laid_strings_asciiSpace:DataW Unit)=Lib.tabData .u8 Lib.asciiSpaceTab:=by kernel_rfl
def table {W : World} (h : laidMetH prog sB W) : Lib.TabIs prog W "strings.asciiSpace" .u8 Lib.asciiSpaceTab := by
 have h':laidMet prog sB W:=h
 have h2:=MK h'
 rw [MJ] at h2
 exact Lib.tabIs_of_head (rest:=[]) Yi PJ Tryz.underlying258 Tryz.underlying5 Tq O3 h2
def heap0 {W:World} (h:laidMetH prog sB W):Heap cfg W (λb=>b<W.heap.size) []:=by
 refine ⟨?_,table h,by simp [bC],λb hb=>by simp [bC] at hb,λb hb=>hb,λe he=>by simp at he,λe he=>by simp at he⟩
 have hc:=(table h).cell Yi 0 Vm
 have:=World.block_lt_of_cell? W _ hc
 exact this
noncomputable def sN (os:Os):World:=
 let N:=(World.settled prog os).heap.size
 let r (a b c:Int):List Value:=[.int .u16 a,.int .u16 b,.int .u16 c]
 let w0:=World.holding prog os ⟨#[
  .cells (r 9 13 1++r 32 133 101++r 160 5760 5600++r 8192 8202 1++r 8232 8233 1++r 8239 8287 48++r 12288 12288 1).toArray 312,
  .cells #[.slice (some ⟨N,0,none⟩) 7 7,.slice none 0 0,.int .i64 2] 309],#[],[]⟩
 let put (h:Array Obj) (g:Nat) (cs:Array Value):Array Obj:=h.modify g fun
  |.cells _ t frozen=>.cells cs t frozen
  |o=>o
 let h1:=put w0.heap 0 (Lib.asciiSpaceTab.map λz=>Value.int .u8 z).toArray
 let h2:=put h1 2 #[.pointer (some ⟨N+1,0,none⟩)]
 { w0 with heap:=h2 }
def P3 (os:Os) (args:Array Value):laidMet prog sB ((sN os).forCall (λ_ _=>0) ⟨#[],args,[]⟩).memory:=
 laidMet_of_run' 8 uB uB
end Go.L41
end
section
namespace Go.Br
set_option maxRecDepth 100000
open Go Go.Eng Go.Proofs Go.Proofs.YtgfomfnjionbeaaGreatDoor Tryz
def Zi:Tryz.pinned.checked.prog.mayEnter=true:=by kernel_rfl
def Zj:(Rows.lowerNamesRow.lifted==Tryz.pinned.checked.prog.liftsFinal)=true:=by kernel_rfl
def Zk:(Tryz.pinned.checked.prog.make==some Rows.lowerNamesRow.make)=true:=by kernel_rfl
end Go.Br
end
section
set_option maxRecDepth 100000
namespace Go.Br
open Go Go.Eng Go.RowKit Go.Proofs Go.L41 Tryz
abbrev types:List nr:=[9,3,2,139,57,59,72,93,52,62,60,54,56]
def ru:prog.cellsOf 9=1:=by kernel_rfl
def HC:prog.cellsOf 3=1:=by kernel_rfl
def Y4:prog.cellsOf 2=1:=by kernel_rfl
def V5:prog.cellsOf 139=2:=by kernel_rfl
def HD:prog.cellsOf 57=1:=by kernel_rfl
def uk:prog.cellsOf 59=2:=by kernel_rfl
def Ek:prog.cellsOf 72=1:=by kernel_rfl
def O1:prog.cellsOf 93=4:=by kernel_rfl
def Ej:prog.cellsOf 52=1:=by kernel_rfl
def AO:prog.cellsOf 62=13:=by kernel_rfl
def O0:prog.cellsOf 60=1:=by kernel_rfl
def XE:prog.cellsOf 54=2:=by kernel_rfl
def sn:prog.cellsOf 56=5:=by kernel_rfl
def V1:prog.bytesOf 139=24:=by kernel_rfl
def bLin:prog.bytesOf 59=32:=by kernel_rfl
def Xy:prog.bytesOf 93=72:=by kernel_rfl
def bExpr:prog.bytesOf 62=160:=by kernel_rfl
def Sy:reachBytes=140737488351232:=by decide
variable {l:List C} {f:Nat}
def W6 (h:Sh prog f 9 l):∃s:nq,l=[cS s]:=by
 cases f with
 |zero=>exact h.elim
 |succ f=>have h:=Sh.str Tryz.underlying9 h;obtain ⟨s,h,_⟩:=h;exact ⟨s,h⟩
def zXn (h:Sh prog f 3 l):∃n:Int,l=[cI n]:=by
 cases f with
 |zero=>exact h.elim
 |succ f=>have h:=Sh.int Tryz.underlying3 h;obtain ⟨s,h,_⟩:=h;exact ⟨s,h⟩
def zVq (h:Sh prog f 2 l):∃n:Int,l=[cI n]:=by
 cases f with
 |zero=>exact h.elim
 |succ f=>have h:=Sh.int Tryz.underlying2 h;obtain ⟨s,h,_⟩:=h;exact ⟨s,h⟩
def SE {α:Type} {Q:α->List C} {P:α->Prop}:∀{rows:List (List C)},(∀r,r∈rows->∃x,r=Q x/\P x)->∃l:List α,rows=l.map Q/\∀x,x∈l->P x
 |[],_=>⟨[],rfl,λx hx=>by cases hx⟩
 |r::rows,h=>by
  obtain ⟨x,rfl,hx⟩:=h r uF
  obtain ⟨l,rfl,hl⟩:=SE (rows:=rows) λr hr=>h r (by simp [hr])
  exact ⟨x::l,rfl,λy hy=>by rcases ag.1 hy with rfl|hy;exact hx;exact hl y hy⟩
def U7 (h:Sh prog f 139 l):∃x:Mono,l=x.cells/\True:=by
 cases f with
 |zero=>exact h.elim
 |succ f=>
  have h:=Sh.struct Tryz.underlying139 h
  obtain ⟨hl,hf⟩:=h
  rw [V5] at hl
  match l,hl with
  |[a,b],_=>
   simp only [rp,aJ,cm,aP,ck,ru,Y4,aQ,aF,av,aS] at hf
   obtain ⟨h0,h1⟩:=hf
   obtain ⟨s,e0⟩:=W6 h0
   obtain ⟨n,e1⟩:=zVq h1
   simp only [dh,ge] at e0 e1
   subst e0 e1
   exact ⟨⟨s,n⟩,rfl,trivial⟩
def Rs (h:Sh prog f 57 l):∃x:List Mono,l=[.sl 2 (x.map Mono.cells)]/\x.length<=140737488355328:=by
 cases f with
 |zero=>exact h.elim
 |succ f=>
  have h:=Sh.slice Tryz.underlying57 h
  obtain ⟨rows,rfl,⟨_,hb⟩,hr⟩:=h
  obtain ⟨x,rfl,_⟩:=SE λr hr'=>U7 (hr r hr')
  rw [V1,Sy,pc] at hb
  exact ⟨x,by rw [V5],zB⟩
def y6 (h:Sh prog f 59 l):∃x:Lf,l=x.cells/\x.L.length<=140737488355328:=by
 cases f with
 |zero=>exact h.elim
 |succ f=>
  have h:=Sh.struct Tryz.underlying59 h
  obtain ⟨hl,hf⟩:=h
  rw [uk] at hl
  match l,hl with
  |[a,b],_=>
   simp only [rp,aJ,cm,aP,ck,HD,Y4,aQ,aF,av,aS] at hf
   obtain ⟨h0,h1⟩:=hf
   obtain ⟨n,e0⟩:=zVq h0
   obtain ⟨L,e1,hL⟩:=Rs h1
   simp only [dh,ge] at e0 e1
   subst e0 e1
   exact ⟨⟨n,L⟩,rfl,hL⟩
def Ls (h:Sh prog f 72 l):∃x:List Lf,l=[.sl 2 (x.map Lf.cells)]/\x.length<=140737488355328/\∀y,y∈x->y.L.length<=140737488355328:=by
 cases f with
 |zero=>exact h.elim
 |succ f=>
  have h:=Sh.slice Tryz.underlying72 h
  obtain ⟨rows,rfl,⟨_,hb⟩,hr⟩:=h
  obtain ⟨x,rfl,hx⟩:=SE λr hr'=>y6 (hr r hr')
  rw [bLin,Sy,pc] at hb
  exact ⟨x,by rw [uk],zB,hx⟩
def Rr (h:Sh prog f 93 l):∃x:Ix,l=x.cells/\x.fit:=by
 cases f with
 |zero=>exact h.elim
 |succ f=>
  have h:=Sh.struct Tryz.underlying93 h
  obtain ⟨hl,hf⟩:=h
  rw [O1] at hl
  match l,hl with
  |[a,b,c,d],_=>
   simp only [rp,aJ,cm,aP,ck,ru,uk,Ek,aQ,aF,av,aS] at hf
   obtain ⟨h0,h1,h2⟩:=hf
   obtain ⟨⟨K,L⟩,e0,hL⟩:=y6 h0
   obtain ⟨s,e1⟩:=W6 h1
   obtain ⟨A,e2,hA,hA'⟩:=Ls h2
   simp only [Lf.cells,dh,ge] at e0 e1 e2
   obtain ⟨e0,e0'⟩:=e0
   subst e0 e0' e1 e2
   exact ⟨⟨⟨K,L⟩,s,A⟩,rfl,hL,hA,hA'⟩
def Jc (h:Sh prog f 52 l):∃x:List Ix,l=[.sl 4 (x.map Ix.cells)]/\x.length<=140737488355328/\∀y,y∈x->y.fit:=by
 cases f with
 |zero=>exact h.elim
 |succ f=>
  have h:=Sh.slice Tryz.underlying52 h
  obtain ⟨rows,rfl,⟨_,hb⟩,hr⟩:=h
  obtain ⟨x,rfl,hx⟩:=SE λr hr'=>Rr (hr r hr')
  rw [Xy,Sy,pc] at hb
  exact ⟨x,by rw [O1],zB,hx⟩
def Zh (h:Sh prog f 54 l):∃a b:Int,l=[cI a,cI b]:=by
 cases f with
 |zero=>exact h.elim
 |succ f=>
  have h:=Sh.struct Tryz.underlying54 h
  obtain ⟨hl,hf⟩:=h
  rw [XE] at hl
  match l,hl with
  |[a,b],_=>
   simp only [rp,aJ,cm,aP,ck,Y4,aQ,aF,av,aS] at hf
   obtain ⟨h0,h1⟩:=hf
   obtain ⟨n,e0⟩:=zVq h0
   obtain ⟨m,e1⟩:=zVq h1
   simp only [dh,ge] at e0 e1
   subst e0 e1
   exact ⟨n,m,rfl⟩
def DO (h:Sh prog f 56 l):∃a b c d e:Int,l=[cI a,cI b,cI c,cI d,cI e]:=by
 cases f with
 |zero=>exact h.elim
 |succ f=>
  have h:=Sh.struct Tryz.underlying56 h
  obtain ⟨hl,hf⟩:=h
  rw [sn] at hl
  match l,hl with
  |[a,b,c,d,e],_=>
   simp only [rp,aJ,cm,aP,ck,HC,aQ,aF,av,aS] at hf
   obtain ⟨h0,h1,h2,h3,h4⟩:=hf
   obtain ⟨n0,e0⟩:=zXn h0
   obtain ⟨n1,e1⟩:=zXn h1
   obtain ⟨n2,e2⟩:=zXn h2
   obtain ⟨n3,e3⟩:=zXn h3
   obtain ⟨n4,e4⟩:=zXn h4
   simp only [dh,ge] at e0 e1 e2 e3 e4
   subst e0 e1 e2 e3 e4
   exact ⟨_,_,_,_,_,rfl⟩
def TS {l:List Ex} (h:∀a,a∈l->a.fit):eU l:=by
 induction l with
 |nil=>trivial
 |cons x r ih=>exact ⟨h x uF,ih λa ha=>h a (by simp [ha])⟩
def Lr:∀{f:Nat} {l:List C},Sh prog f 62 l->∃e:Ex,l=e.cells/\e.fit
 |0,_,h=>h.elim
 |f+1,l,h=>by
  have h:=Sh.struct Tryz.underlying62 h
  obtain ⟨hl,hf⟩:=h
  rw [AO] at hl
  match l,hl with
  |[a0,a1,a2,a3,a4,a5,a6,a7,a8,a9,a10,a11,a12],_=>
   simp only [rp,aJ,cm,aP,ck,ru,HC,XE,sn,uk,Ej,O0,aQ,aF,av,aS] at hf
   obtain ⟨h0,h1,h2,h3,h4,h5,h6⟩:=hf
   obtain ⟨o,e0⟩:=zXn h0
   obtain ⟨s,e1⟩:=W6 h1
   obtain ⟨vn,vd,e2⟩:=Zh h2
   obtain ⟨t1,t2,t3,t4,t5,e3⟩:=DO h3
   obtain ⟨⟨K,L⟩,e4,hL⟩:=y6 h4
   obtain ⟨I,e5,hI,hI'⟩:=Jc h5
   have h7:∃x:List Ex,[a12]=[.sl 13 (x.map Ex.cells)]/\x.length<=140737488355328/\∀y,y∈x->y.fit:=by
    match f,h6 with
    |0,h=>exact h.elim
    |f+1,h=>
     have h:=Sh.slice Tryz.underlying60 h
     obtain ⟨rows,e,⟨_,hb⟩,hr⟩:=h
     obtain ⟨x,rfl,hx⟩:=SE (P:=Ex.fit) λr hr'=>Lr (f:=f) (hr r hr')
     rw [bExpr,Sy,pc] at hb
     exact ⟨x,by rw [e,AO],zB,hx⟩
   obtain ⟨A,e6,hA,hA'⟩:=h7
   simp only [Lf.cells,dh,ge] at e0 e1 e2 e3 e4 e5 e6
   obtain ⟨e20,e21⟩:=e2
   obtain ⟨e30,e31,e32,e33,e34⟩:=e3
   obtain ⟨e40,e41⟩:=e4
   subst e0 e1 e20 e21 e30 e31 e32 e33 e34 e40 e41 e5 e6
   refine ⟨.mk o s ⟨vn,vd⟩ ⟨t1,t2,t3,t4,t5⟩ ⟨K,L⟩ I A,?_,?_⟩
   ·rw [Ex.cells,AP]
   ·rw [Ex.fit];exact ⟨hL,hI,hA,hI',TS hA'⟩
def Rq (h:Sh prog f 62 l):∃e:Ex,l=e.cs/\e.fit:=by
 obtain ⟨e,h1,h2⟩:=Lr h
 exact ⟨e,by rw [h1,Ex.cells_eq],h2⟩
end Go.Br
end
section
set_option maxRecDepth 100000
namespace Go.Br
open Go Go.Eng Go.RowKit Go.Proofs Go.L41 Tryz
abbrev eW:List nr:=[9,3,2,139,57,59,72,93,52,62,60,54,56,4,5,310,25,123,26,99,68,74,27,70,28,30]
def OZ:prog.cellsOf 4=1:=by kernel_rfl
def O2:prog.cellsOf 25=1:=by kernel_rfl
def cCn:prog.cellsOf 123=3:=by kernel_rfl
def XB:prog.cellsOf 26=1:=by kernel_rfl
def cAx:prog.cellsOf 99=3:=by kernel_rfl
def Tp:prog.cellsOf 68=1:=by kernel_rfl
def cPm:prog.cellsOf 74=7:=by kernel_rfl
def XD:prog.cellsOf 27=1:=by kernel_rfl
def cDf:prog.cellsOf 70=22:=by kernel_rfl
def XC:prog.cellsOf 28=1:=by kernel_rfl
def cPg:prog.cellsOf 30=5:=by kernel_rfl
def bStr:prog.bytesOf 9=16:=by kernel_rfl
def bCn:prog.bytesOf 123=40:=by kernel_rfl
def bAx:prog.bytesOf 99=48:=by kernel_rfl
def bPm:prog.bytesOf 74=80:=by kernel_rfl
def bDf:prog.bytesOf 70=272:=by kernel_rfl
variable {l:List C} {f:Nat}
def U6 (h:Sh prog f 4 l):∃b:Bool,l=[cB b]:=by
 cases f with
 |zero=>exact h.elim
 |succ f=>unfold Sh at h;rw [Tryz.underlying4] at h;exact h
def Lt (h:Sh prog f 25 l):∃x:List nq,l=[.sl 1 (x.map λs=>[cS s])]/\x.length<=140737488355328:=by
 cases f with
 |zero=>exact h.elim
 |succ f=>
  have h:=Sh.slice Tryz.underlying25 h
  obtain ⟨rows,rfl,⟨_,hb⟩,hr⟩:=h
  obtain ⟨x,rfl,_⟩:=SE (P:=λ_=>True) (Q:=λs:nq=>[cS s]) λr hr'=>(W6 (hr r hr')).imp λ_ h=>⟨h,trivial⟩
  rw [bStr,Sy,pc] at hb
  exact ⟨x,by rw [ru],zB⟩
def sh_cn (h:Sh prog f 123 l):∃x:Cn,l=x.cells/\sP x.Lin:=by
 cases f with
 |zero=>exact h.elim
 |succ f=>
  have h:=Sh.struct Tryz.underlying123 h
  obtain ⟨hl,hf⟩:=h
  rw [cCn] at hl
  match l,hl with
  |[a,b,c],_=>
   simp only [rp,aJ,cm,aP,ck,uk,OZ,aQ,aF,av,aS] at hf
   obtain ⟨h0,h1⟩:=hf
   obtain ⟨⟨K,L⟩,e0,hL⟩:=y6 h0
   obtain ⟨q,e1⟩:=U6 h1
   simp only [Lf.cells,dh,ge] at e0 e1
   obtain ⟨e0,e0'⟩:=e0
   subst e0 e0' e1
   exact ⟨⟨⟨K,L⟩,q⟩,rfl,hL⟩
def sh_ax (h:Sh prog f 99 l):∃x:Ax,l=x.cells/\sP x.Size:=by
 cases f with
 |zero=>exact h.elim
 |succ f=>
  have h:=Sh.struct Tryz.underlying99 h
  obtain ⟨hl,hf⟩:=h
  rw [cAx] at hl
  match l,hl with
  |[a,b,c],_=>
   simp only [rp,aJ,cm,aP,ck,uk,ru,aQ,aF,av,aS] at hf
   obtain ⟨h0,h1⟩:=hf
   obtain ⟨s,e0⟩:=W6 h0
   obtain ⟨⟨K,L⟩,e1,hL⟩:=y6 h1
   simp only [Lf.cells,dh,ge] at e0 e1
   obtain ⟨e1,e1'⟩:=e1
   subst e0 e1 e1'
   exact ⟨⟨s,⟨K,L⟩⟩,rfl,hL⟩
def Ze (h:Sh prog f 26 l):∃x:List Cn,l=[.sl 3 (x.map Cn.cells)]/\x.length<=140737488355328/\∀y,y∈x->sP y.Lin:=by
 cases f with
 |zero=>exact h.elim
 |succ f=>
  have h:=Sh.slice Tryz.underlying26 h
  obtain ⟨rows,rfl,⟨_,hb⟩,hr⟩:=h
  obtain ⟨x,rfl,hx⟩:=SE λr hr'=>sh_cn (hr r hr')
  rw [bCn,Sy,pc] at hb
  exact ⟨x,by rw [cCn],zB,hx⟩
def Rp (h:Sh prog f 68 l):∃x:List Ax,l=[.sl 3 (x.map Ax.cells)]/\x.length<=140737488355328/\∀y,y∈x->sP y.Size:=by
 cases f with
 |zero=>exact h.elim
 |succ f=>
  have h:=Sh.slice Tryz.underlying68 h
  obtain ⟨rows,rfl,⟨_,hb⟩,hr⟩:=h
  obtain ⟨x,rfl,hx⟩:=SE λr hr'=>sh_ax (hr r hr')
  rw [bAx,Sy,pc] at hb
  exact ⟨x,by rw [cAx],zB,hx⟩
def sh_pm (h:Sh prog f 74 l):∃x:Pm,l=x.cells/\x.fit:=by
 cases f with
 |zero=>exact h.elim
 |succ f=>
  have h:=Sh.struct Tryz.underlying74 h
  obtain ⟨hl,hf⟩:=h
  rw [cPm] at hl
  match l,hl with
  |[a0,a1,a2,a3,a4,a5,a6],_=>
   simp only [rp,aJ,cm,aP,ck,sn,ru,Ek,aQ,aF,av,aS] at hf
   obtain ⟨h0,h1,h2⟩:=hf
   obtain ⟨s,e0⟩:=W6 h0
   obtain ⟨t1,t2,t3,t4,t5,e1⟩:=DO h1
   obtain ⟨D,e2,hD,hD'⟩:=Ls h2
   simp only [dh,ge] at e0 e1 e2
   obtain ⟨e10,e11,e12,e13,e14⟩:=e1
   subst e0 e10 e11 e12 e13 e14 e2
   exact ⟨⟨s,⟨t1,t2,t3,t4,t5⟩,D⟩,rfl,hD,hD'⟩
def Zg (h:Sh prog f 27 l):∃x:List Pm,l=[.sl 7 (x.map Pm.cells)]/\x.length<=140737488355328/\∀y,y∈x->y.fit:=by
 cases f with
 |zero=>exact h.elim
 |succ f=>
  have h:=Sh.slice Tryz.underlying27 h
  obtain ⟨rows,rfl,⟨_,hb⟩,hr⟩:=h
  obtain ⟨x,rfl,hx⟩:=SE λr hr'=>sh_pm (hr r hr')
  rw [bPm,Sy,pc] at hb
  exact ⟨x,by rw [cPm],zB,hx⟩
def sh_df (h:Sh prog f 70 l):∃x:Df,l=x.cells/\x.fit:=by
 cases f with
 |zero=>exact h.elim
 |succ f=>
  have h:=Sh.struct Tryz.underlying70 h
  obtain ⟨hl,hf⟩:=h
  rw [cDf] at hl
  match l,hl with
  |[a0,a1,a2,a3,a4,a5,a6,a7,a8,a9,a10,a11,a12,a13,a14,a15,a16,a17,a18,a19,a20,a21],_=>
   simp only [rp,aJ,cm,aP,ck,sn,ru,Tp,HC,AO,aQ,aF,av,aS] at hf
   obtain ⟨h0,h1,h2,h3,h4,h5⟩:=hf
   obtain ⟨s,e0⟩:=W6 h0
   obtain ⟨t1,t2,t3,t4,t5,e1⟩:=DO h1
   obtain ⟨D,e2,hD,hD'⟩:=Rp h2
   obtain ⟨R,e3,hR,hR'⟩:=Rp h3
   obtain ⟨n,e4⟩:=zXn h4
   obtain ⟨b,e5,hb⟩:=Rq h5
   simp only [Ex.cs,dh,ge] at e0 e1 e2 e3 e4 e5
   obtain ⟨e10,e11,e12,e13,e14⟩:=e1
   obtain ⟨f0,f1,f2,f3,f4,f5,f6,f7,f8,f9,f10,f11,f12⟩:=e5
   subst e0 e10 e11 e12 e13 e14 e2 e3 e4 f0 f1 f2 f3 f4 f5 f6 f7 f8 f9 f10 f11 f12
   exact ⟨⟨s,⟨t1,t2,t3,t4,t5⟩,D,R,n,b⟩,rfl,hD,hR,hD',hR',hb⟩
def Zf (h:Sh prog f 28 l):∃x:List Df,l=[.sl 22 (x.map Df.cells)]/\x.length<=140737488355328/\∀y,y∈x->y.fit:=by
 cases f with
 |zero=>exact h.elim
 |succ f=>
  have h:=Sh.slice Tryz.underlying28 h
  obtain ⟨rows,rfl,⟨_,hb⟩,hr⟩:=h
  obtain ⟨x,rfl,hx⟩:=SE λr hr'=>sh_df (hr r hr')
  rw [bDf,Sy,pc] at hb
  exact ⟨x,by rw [cDf],zB,hx⟩
def U8 (h:Sh prog f 30 l):∃x:Pg,l=x.cells/\x.Fit:=by
 cases f with
 |zero=>exact h.elim
 |succ f=>
  have h:=Sh.struct Tryz.underlying30 h
  obtain ⟨hl,hf⟩:=h
  rw [cPg] at hl
  match l,hl with
  |[a0,a1,a2,a3,a4],_=>
   simp only [rp,aJ,cm,aP,ck,O2,XB,XD,XC,aQ,aF,av,aS] at hf
   obtain ⟨h0,h1,h2,h3,h4⟩:=hf
   obtain ⟨S,e0,hS⟩:=Lt h0
   obtain ⟨W,e1,hW,hW'⟩:=Ze h1
   obtain ⟨P,e2,hP,hP'⟩:=Zg h2
   obtain ⟨D,e3,hD,hD'⟩:=Zf h3
   obtain ⟨O,e4,hO⟩:=Lt h4
   simp only [dh,ge] at e0 e1 e2 e3 e4
   subst e0 e1 e2 e3 e4
   exact ⟨⟨S,W,P,D,O⟩,rfl,⟨hS,hW,hP,hD,hO,hW',hP',hD'⟩⟩
end Go.Br
end
section
set_option maxRecDepth 100000
namespace Go.Br
open Go Go.Eng Go.RowKit Go.Proofs Go.L41 Tryz
variable {f:Nat}
def BK {n:Int} (h:Sh prog f 2 [cI n]):oQ n:=by
 cases f with
 |zero=>exact h.elim
 |succ f=>
  obtain ⟨m,e,hw⟩:=Sh.int Tryz.underlying2 h
  injection e with e1
  injection e1 with e1
  injection e1 with _ e1
  subst e1
  have hw:(decide (IntKind.i64.min<=n)&&decide (n<=IntKind.i64.max))=true:=hw
  rw [ae,aj,aj] at hw
  exact hw
def Re {x:Mono} (h:Sh prog f 139 x.cells):oQ x.By:=by
 cases f with
 |zero=>exact h.elim
 |succ f=>
  obtain ⟨_,hf⟩:=Sh.struct Tryz.underlying139 h
  simp only [Mono.cells,rp,aJ,cm,aP,ck,ru,Y4,aQ,aF,av,aS] at hf
  exact BK hf.2
def LW {α:Type} {Q:α->List C} {t e:nr} {n:Nat} {l:List α} (hu:prog.underlying t=some (.slice e)) (h:Sh prog (f+1) t [.sl n (l.map Q)]):∀x,x∈l->Sh prog f e (Q x):=by
 obtain ⟨rows,e,_,hr⟩:=Sh.slice hu h
 injection e with e1
 injection e1 with _ e1
 intro x hx
 exact hr _ (by rw [<-e1];exact aY.2 ⟨x,hx,rfl⟩)
def zSl {x:Lf} (h:Sh prog f 59 x.cells):x.rng:=by
 match f,h with
 |0,h=>exact h.elim
 |f+1,h=>
  obtain ⟨_,hf⟩:=Sh.struct Tryz.underlying59 h
  simp only [Lf.cells,rp,aJ,cm,aP,ck,HD,Y4,aQ,aF,av,aS] at hf
  refine ⟨BK hf.1,?_⟩
  match f,hf.2 with
  |0,h=>exact h.elim
  |f+1,h=>exact λm hm=>Re (LW (Q:=Mono.cells) Tryz.underlying57 h m hm)
def Nz {x:Ix} (h:Sh prog f 93 x.cells):x.Lin.rng/\∀l,l∈x.At->l.rng:=by
 match f,h with
 |0,h=>exact h.elim
 |f+1,h=>
  obtain ⟨_,hf⟩:=Sh.struct Tryz.underlying93 h
  simp only [Ix.cells,rp,aJ,cm,aP,ck,ru,uk,Ek,aQ,aF,av,aS] at hf
  refine ⟨zSl (x:=x.Lin) hf.1,?_⟩
  match f,hf.2.2 with
  |0,h=>exact h.elim
  |f+1,h=>exact λm hm=>zSl (LW (Q:=Lf.cells) Tryz.underlying72 h m hm)
def NA {P:Lf->Prop} {e:Ex} (h1:∀l,l∈dH e->P l) (h2:∀a,a∈e.Args->a.allF P):e.allF P:=by
 exact v15
def Gm:∀{f:Nat} {e:Ex},Sh prog f 62 e.cells->e.allF Lf.rng
 |0,_,h=>h.elim
 |f+1,e,h=>by
  obtain ⟨_,hf⟩:=Sh.struct Tryz.underlying62 h
  rw [Ex.cells_eq] at hf
  simp only [Ex.cs,rp,aJ,cm,aP,ck,ru,HC,XE,sn,uk,Ej,O0,aQ,aF,av,aS] at hf
  obtain ⟨_,_,_,_,h4,h5,h6⟩:=hf
  refine NA ?_ ?_
  ·intro l hl
   unfold dH at hl
   rcases ag.1 hl with rfl|hl
   ·exact zSl (x:=e.Lin) h4
   ·obtain ⟨x,hx,hl⟩:=dm.1 hl
    match f,h5 with
    |0,h=>exact h.elim
    |f+1,h=>
     obtain ⟨k1,k2⟩:=Nz (LW (Q:=Ix.cells) Tryz.underlying52 h x hx)
     rcases ag.1 hl with rfl|hl
     ·exact k1
     ·exact k2 l hl
  ·intro a ha
   match f,h6 with
   |0,h=>exact h.elim
   |f+1,h=>exact Gm (f:=f) (LW (Q:=Ex.cells) Tryz.underlying60 h a ha)
end Go.Br
end
section
set_option maxRecDepth 100000
namespace Go.Br
open Go Go.Eng Go.RowKit Go.Proofs Go.L41 Tryz
variable {f:Nat}
def CZ {x:Lf} (h:Sh prog f 59 x.cells):x.L.length<=5864062014805:=by
 match f,h with
 |0,h=>exact h.elim
 |f+1,h=>
  obtain ⟨_,hf⟩:=Sh.struct Tryz.underlying59 h
  simp only [Lf.cells,rp,aJ,cm,aP,ck,HD,Y4,aQ,aF,av,aS] at hf
  match f,hf.2 with
  |0,h=>exact h.elim
  |f+1,h=>
   obtain ⟨rows,e,⟨_,hb⟩,_⟩:=Sh.slice Tryz.underlying57 h
   injection e with e1
   injection e1 with _ e1
   rw [V1,Sy,<-e1,pc] at hb
   omega
def Yu {x:Ax} (h:Sh prog f 99 x.cells):x.Size.L.length<=5864062014805:=by
 match f,h with
 |0,h=>exact h.elim
 |f+1,h=>
  obtain ⟨_,hf⟩:=Sh.struct Tryz.underlying99 h
  simp only [Ax.cells,rp,aJ,cm,aP,ck,uk,ru,aQ,aF,av,aS] at hf
  exact CZ (x:=x.Size) hf.2
def KB {l:List Ax} (h:Sh prog f 68 [.sl 3 (l.map Ax.cells)]):∀a,a∈l->a.Size.L.length<=5864062014805:=by
 match f,h with
 |0,h=>exact h.elim
 |f+1,h=>exact λa ha=>Yu (LW (Q:=Ax.cells) Tryz.underlying68 h a ha)
def Lo {d:Df} (h:Sh prog f 70 d.cells):(∀a,a∈d.Dims->a.Size.L.length<=5864062014805)/\(∀a,a∈d.Red->a.Size.L.length<=5864062014805)/\d.Body.allF Lf.rng:=by
 match f,h with
 |0,h=>exact h.elim
 |f+1,h=>
  obtain ⟨_,hf⟩:=Sh.struct Tryz.underlying70 h
  simp only [Df.cells,rp,aJ,cm,aP,ck,sn,ru,Tp,HC,AO,aQ,aF,av,aS] at hf
  obtain ⟨_,_,h2,h3,_,h5⟩:=hf
  exact ⟨KB h2,KB h3,Gm (e:=d.Body) (by rw [Ex.cells_eq];exact h5)⟩
end Go.Br
end
section
set_option maxRecDepth 100000
namespace Go.Br
open Go Go.Eng Go.RowKit Go.Proofs Go.L41 Tryz
variable {f:Nat}
def Yv {x:Cn} (h:Sh prog f 123 x.cells):x.Lin.L.length<=5864062014805:=by
 match f,h with
 |0,h=>exact h.elim
 |f+1,h=>
  obtain ⟨_,hf⟩:=Sh.struct Tryz.underlying123 h
  simp only [Cn.cells,rp,aJ,cm,aP,ck,uk,OZ,aQ,aF,av,aS] at hf
  exact CZ (x:=x.Lin) hf.1
def Yw {x:Pm} (h:Sh prog f 74 x.cells):∀l,l∈x.Dims->l.L.length<=5864062014805:=by
 match f,h with
 |0,h=>exact h.elim
 |f+1,h=>
  obtain ⟨_,hf⟩:=Sh.struct Tryz.underlying74 h
  simp only [Pm.cells,rp,aJ,cm,aP,ck,sn,ru,Ek,aQ,aF,av,aS] at hf
  match f,hf.2.2 with
  |0,h=>exact h.elim
  |f+1,h=>exact λa ha=>CZ (LW (Q:=Lf.cells) Tryz.underlying72 h a ha)
def PH {p:Pg} (h:Sh prog f 30 p.cells):p.Frm:=by
 match f,h with
 |0,h=>exact h.elim
 |f+1,h=>
  obtain ⟨_,hf⟩:=Sh.struct Tryz.underlying30 h
  simp only [Pg.cells,rp,aJ,cm,aP,ck,O2,XB,XD,XC,aQ,aF,av,aS] at hf
  obtain ⟨_,h1,h2,h3,_⟩:=hf
  match f,h1,h2,h3 with
  |0,h1,_,_=>exact h1.elim
  |f+1,h1,h2,h3=>
   exact ⟨λc hc=>Yv (LW (Q:=Cn.cells) Tryz.underlying26 h1 c hc),λx hx=>Yw (LW (Q:=Pm.cells) Tryz.underlying27 h2 x hx),
    λd hd=>have h:=Lo (LW (Q:=Df.cells) Tryz.underlying28 h3 d hd);⟨h.1,h.2.1⟩⟩
end Go.Br
end
section
set_option maxRecDepth 100000
namespace Go.Br
open Go Go.Eng Go.RowKit Go.Proofs Go.L41 Tryz
variable {f:Nat}
def Zb {x:Ax} (h:Sh prog f 99 x.cells):x.Size.rng:=by
 match f,h with
 |0,h=>exact h.elim
 |f+1,h=>
  obtain ⟨_,hf⟩:=Sh.struct Tryz.underlying99 h
  simp only [Ax.cells,rp,aJ,cm,aP,ck,uk,ru,aQ,aF,av,aS] at hf
  exact zSl (x:=x.Size) hf.2
def Ln {l:List Ax} (h:Sh prog f 68 [.sl 3 (l.map Ax.cells)]):∀a,a∈l->a.Size.rng:=by
 match f,h with
 |0,h=>exact h.elim
 |f+1,h=>exact λa ha=>Zb (LW (Q:=Ax.cells) Tryz.underlying68 h a ha)
def Lp {d:Df} (h:Sh prog f 70 d.cells):d.Body.allF Lf.rng/\∀a,a∈d.Red->a.Size.rng:=by
 refine ⟨(Lo h).2.2,?_⟩
 match f,h with
 |0,h=>exact h.elim
 |f+1,h=>
  obtain ⟨_,hf⟩:=Sh.struct Tryz.underlying70 h
  simp only [Df.cells,rp,aJ,cm,aP,ck,sn,ru,Tp,HC,AO,aQ,aF,av,aS] at hf
  obtain ⟨_,_,h2,h3,_,h5⟩:=hf
  exact Ln h3
end Go.Br
end
section
set_option maxRecDepth 100000
namespace Go.Br
open Go Go.Eng Go.RowKit Go.Proofs Go.L41 Tryz
def cBd:prog.cellsOf 50=2:=by kernel_rfl
def bBd:prog.bytesOf 50=24:=by kernel_rfl
abbrev typesL:List nr:=31::50::eW
def okTypesL:typesL.all (YV prog typesL)=true:=by kernel_rfl
variable {f:Nat} {l:List C}
def NH (h:Sh prog f 2 l):∃n:Int,l=[cI n]/\oQ n:=by
 cases f with
 |zero=>exact h.elim
 |succ f=>
  obtain ⟨m,e,hw⟩:=Sh.int Tryz.underlying2 h
  have hw:(decide (IntKind.i64.min<=m)&&decide (m<=IntKind.i64.max))=true:=hw
  rw [ae,aj,aj] at hw
  exact ⟨m,e,hw.1,hw.2⟩
def sh_bd (h:Sh prog f 50 l):∃x:Bd,l=x.cells/\oQ x.Val:=by
 cases f with
 |zero=>exact h.elim
 |succ f=>
  have h:=Sh.struct Tryz.underlying50 h
  obtain ⟨hl,hf⟩:=h
  rw [cBd] at hl
  match l,hl with
  |[a,b],_=>
   simp only [rp,aJ,cm,aP,ck,ru,Y4,aQ,aF,av,aS] at hf
   obtain ⟨h0,h1⟩:=hf
   obtain ⟨s,e0⟩:=W6 h0
   obtain ⟨n,e1,hn⟩:=NH h1
   simp only [dh,ge] at e0 e1
   subst e0 e1
   exact ⟨⟨s,n⟩,rfl,hn⟩
def Zd (h:Sh prog f 31 l):∃x:List Bd,l=[.sl 2 (x.map Bd.cells)]/\x.length<=140737488355328/\∀y,y∈x->oQ y.Val:=by
 cases f with
 |zero=>exact h.elim
 |succ f=>
  have h:=Sh.slice Tryz.underlying31 h
  obtain ⟨rows,rfl,⟨_,hb⟩,hr⟩:=h
  obtain ⟨x,rfl,hx⟩:=SE λr hr'=>sh_bd (hr r hr')
  rw [bBd,Sy,pc] at hb
  exact ⟨x,by rw [cBd],zB,hx⟩
def UW {x:Cn} (h:Sh prog f 123 x.cells):x.Lin.rng:=by
 match f,h with
 |0,h=>exact h.elim
 |f+1,h=>
  obtain ⟨_,hf⟩:=Sh.struct Tryz.underlying123 h
  simp only [Cn.cells,rp,aJ,cm,aP,ck,uk,OZ,aQ,aF,av,aS] at hf
  exact zSl (x:=x.Lin) hf.1
def UY {x:Pm} (h:Sh prog f 74 x.cells):∀l,l∈x.Dims->l.rng:=by
 match f,h with
 |0,h=>exact h.elim
 |f+1,h=>
  obtain ⟨_,hf⟩:=Sh.struct Tryz.underlying74 h
  simp only [Pm.cells,rp,aJ,cm,aP,ck,sn,ru,Ek,aQ,aF,av,aS] at hf
  match f,hf.2.2 with
  |0,h=>exact h.elim
  |f+1,h=>exact λa ha=>zSl (LW (Q:=Lf.cells) Tryz.underlying72 h a ha)
def UX {d:Df} (h:Sh prog f 70 d.cells):∀a,a∈d.Dims->a.Size.rng:=by
 match f,h with
 |0,h=>exact h.elim
 |f+1,h=>
  obtain ⟨_,hf⟩:=Sh.struct Tryz.underlying70 h
  simp only [Df.cells,rp,aJ,cm,aP,ck,sn,ru,Tp,HC,AO,aQ,aF,av,aS] at hf
  obtain ⟨_,_,h2,h3,_,h5⟩:=hf
  exact Ln h2
def NB {p:Pg} (h:Sh prog f 30 p.cells):p.Rng:=by
 match f,h with
 |0,h=>exact h.elim
 |f+1,h=>
  obtain ⟨_,hf⟩:=Sh.struct Tryz.underlying30 h
  simp only [Pg.cells,rp,aJ,cm,aP,ck,O2,XB,XD,XC,aQ,aF,av,aS] at hf
  obtain ⟨_,h1,h2,h3,_⟩:=hf
  match f,h1,h2,h3 with
  |0,h1,_,_=>exact h1.elim
  |f+1,h1,h2,h3=>
   exact ⟨λc hc=>UW (LW (Q:=Cn.cells) Tryz.underlying26 h1 c hc),λx hx=>UY (LW (Q:=Pm.cells) Tryz.underlying27 h2 x hx),
    λd hd=>have h:=LW (Q:=Df.cells) Tryz.underlying28 h3 d hd;⟨UX h,(Lp h).2,(Lp h).1⟩⟩
def Rt (h:Sh prog f 30 l):∃p:Pg,l=p.cells/\p.Fit/\p.Frm/\p.Rng:=by
 obtain ⟨p,rfl,h2⟩:=U8 h
 exact ⟨p,rfl,h2,PH h,NB h⟩
end Go.Br
end
