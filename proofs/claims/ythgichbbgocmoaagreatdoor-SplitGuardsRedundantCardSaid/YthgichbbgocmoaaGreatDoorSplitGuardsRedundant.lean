/-
  The row and the card of SplitGuardsRedundant. Printed by wip/row/rows.py.
  Conditions: none.
-/
import Derived.Test.YthgichbbgocmoaaGreatDoorOpenX
import Derived.Test.YthgichbbgocmoaaGreatDoorGT
set_option linter.unusedSimpArgs false
set_option linter.unusedVariables false
namespace Go.Proofs.YthgichbbgocmoaaGreatDoor.splitGuardsRedundant
open Go Go.Eng Go.RowKit Go.ChangeShapes Go.WideShapes Go.ChangeAt Go.L41 Go.Br Go.W
set_option maxRecDepth 100000 in
theorem contract (H:Type) (enc:TypeId×Value->H) (W:World) (base:Nat) (args:Array Value) (ds gs:List (DataW H)) (before:List MemPlace)
  (hval:∀(j:Nat) t v,Tryz.f4.params[j]? =some t->args[j]? =some v->Value.okWide Tryz.prog W .any base t v)
  (hW:DataW.Whole enc Tryz.prog Tryz.f4.params.toList Rows.splitGuardsRedundantSpec.vars false W args.toList ds gs before) (hZ:(DataW.weightsEach Tryz.prog (Tryz.f4.params.toList++Rows.splitGuardsRedundantSpec.plain.varTypes Tryz.prog) (ds++gs)).all (· <=reachBytes)=true) (hL:laidMetH Tryz.prog rC W):
  Calls Tryz.prog 4 args W fun e W'=>∃v,e=.returned v/\Rows.splitGuardsRedundantSpec.post enc Tryz.prog Tryz.f4 false true false false W args v W':=by
 have hW':=hW
 obtain ⟨p,q,hA0,hV,rfl,hfz,hnd⟩:=hW
 have hA:DataW.TrodAll enc Tryz.prog W 0 (fun _=>true) true Tryz.f4.params.toList args.toList ds p:=hA0
 rw [Tryz.params4] at hA hval
 obtain ⟨v0,vs0,d0,ds0,p0,q0,hargs0,rfl,rfl,h0,r0⟩:=trodAll_cons hA
 obtain ⟨v1,vs1,d1,ds1,p1,q1,hargs1,rfl,rfl,h1,r1⟩:=trodAll_cons r0
 obtain ⟨rfl,rfl,rfl⟩:=trodAll_nil r1
 obtain rfl:args= #[v0,v1]:=by cases args;simp_all
 obtain ⟨f0,l0,s0,b0,k0⟩:=open_arg okTypesT zB (hval 0 25 v0 rfl rfl) (zRb hZ 0 (by rw [Tryz.params4];rfl) rfl) h0
 rw [show tZ Tryz.prog 25=true by kernel_rfl] at k0
 obtain ⟨x0,rfl,y0,u0⟩:=sh_nestR s0
 obtain ⟨f1,l1,s1,b1,k1⟩:=open_arg okTypesT zB (hval 1 26 v1 rfl rfl) (zRb hZ 1 (by rw [Tryz.params4];rfl) rfl) h1
 rw [show tZ Tryz.prog 26=false by kernel_rfl] at k1
 obtain ⟨x1,rfl,y1,u1⟩:=shv_mem s1
 exact law_row (X:=cfg) (s:=Rows.splitGuardsRedundantSpec) (tb:=4) (law_SplitGuardsRedundant x0 y0 u0 x1 y1 u1) (heap0 hL) ⟨k0,k1,trivial⟩ rfl uC Tryz.underlying4 laidOut
  (fun t ht=>by
   rw [Tryz.params4] at ht
   simp only [List.mem_cons,List.not_mem_nil,or_false] at ht
   rcases ht with rfl|rfl<;>exact ⟨uC,of_decide_eq_true uC⟩)
  (fun gs hg=>by subst hg;exact ⟨rfl,rfl,rfl⟩) hW'
theorem reads (os:Os) {H:Type} (enc:TypeId×Value->H):∃places,DataW.whole enc Tryz.prog ((rR os).forCall (fun _ _=>0) ⟨#[],#[.agg #[.slice none 0 0,.slice none 0 0],.slice none 0 0],[]⟩).memory Tryz.f4.params.toList Rows.splitGuardsRedundantSpec.vars false (#[.agg #[.slice none 0 0,.slice none 0 0],.slice none 0 0]:Array Value).toList 8=some ([.agg [.nil,.nil],.nil],[],places):=
 ⟨[],uC⟩
set_option maxRecDepth 100000 in
theorem lifted (os:Os) (started:os.Started) (H:Type) (enc:TypeId×Value->H) (F:Stop.Interp):
  ReturnsInHanded {} Tryz.checked os 4 .any ((OpenSpec.ofChange Rows.splitGuardsRedundantSpec).preRow enc Tryz.prog Tryz.f4 Rows.splitGuardsRedundantRow.domain false Rows.splitGuardsRedundantRow.laid) (((OpenSpec.ofChange Rows.splitGuardsRedundantSpec).at F).post enc Tryz.prog Tryz.f4 false true false false):=by
 obtain ⟨places,hx⟩:=reads os enc
 refine returnsInHanded_of_row (C:=Tryz.checked) (s:=OpenSpec.ofChange Rows.splitGuardsRedundantSpec) own started uC Tryz.func4
  (witness_row_atRef (enc:=enc) (C:=Tryz.checked) false (rR os) #[.agg #[.slice none 0 0,.slice none 0 0],.slice none 0 0] rfl uC uC uC
   (OpenSpec.preRow_of_cond 8 hx uC (fun k hk=>by cases hk) uC (laid_met os _))) ?_
 intro W base args ds gs before hval hW _ hcond hZ hL _ _
 exact contract H enc W base args ds gs before hval hW hZ hL
set_option maxRecDepth 100000 in
theorem fact0:(Rows.splitGuardsRedundantRow.wf (OpenSpec.ofChange (OpenSpec.ofChange Rows.splitGuardsRedundantSpec).bare))=true:=by kernel_rfl
set_option maxRecDepth 100000 in
theorem fact1:(laidOutB Tryz.pinned.checked.prog)=true:=by kernel_rfl
set_option maxRecDepth 100000 in
theorem fact2:(mapsRowed Tryz.pinned.checked.prog)=true:=by kernel_rfl
set_option maxRecDepth 100000 in
theorem fact3:(Tryz.f4.params.all (Tryz.pinned.checked.prog.readableRec ·))=true:=by kernel_rfl
set_option maxRecDepth 100000 in
theorem fact4:(namedTie Tryz.pinned.checked.prog Rows.splitGuardsRedundantRow.named (OpenSpec.ofChange Rows.splitGuardsRedundantSpec).bare.vars)=true:=by kernel_rfl
set_option maxRecDepth 100000 in
theorem fact5:((Rows.splitGuardsRedundantRow.stops==[]))=true:=by kernel_rfl
set_option maxRecDepth 100000 in
theorem fact6:((Tryz.pinned.checked.prog.stops==[]))=true:=by kernel_rfl
set_option maxRecDepth 100000 in
theorem fact7:((Rows.splitGuardsRedundantRow.knobs==[]))=true:=by kernel_rfl
set_option maxRecDepth 100000 in
theorem fact8:((Tryz.pinned.checked.prog.stopKnobs==[]))=true:=by kernel_rfl
set_option maxRecDepth 100000 in
theorem fact9:((Rows.splitGuardsRedundantRow.inPlace==Tryz.pinned.checked.prog.inPlace (4:FuncId)))=true:=by kernel_rfl
set_option maxRecDepth 100000 in
theorem fact10:((Rows.splitGuardsRedundantRow.unfollowed==Tryz.pinned.checked.prog.unfollowed (4:FuncId)))=true:=by kernel_rfl
set_option maxRecDepth 100000 in
theorem fact11:((Rows.splitGuardsRedundantRow.recurses==Tryz.pinned.checked.prog.recurses (4:FuncId)))=true:=by kernel_rfl
set_option maxRecDepth 100000 in
theorem fact12:((Rows.splitGuardsRedundantRow.named==Tryz.pinned.checked.prog.varsNamed (4:FuncId)))=true:=by kernel_rfl
set_option maxRecDepth 100000 in
theorem fact13:((Rows.splitGuardsRedundantRow.maps==(Tryz.f4.params.toList++(OpenSpec.ofChange Rows.splitGuardsRedundantSpec).bare.plain.varTypes Tryz.pinned.checked.prog).any (Tryz.pinned.checked.prog.mapsRec ·)))=true:=by kernel_rfl
set_option maxRecDepth 100000 in
theorem fact14:((Rows.splitGuardsRedundantRow.ifaces==(Tryz.f4.params.toList++(OpenSpec.ofChange Rows.splitGuardsRedundantSpec).bare.plain.varTypes Tryz.pinned.checked.prog).any (Tryz.pinned.checked.prog.ifacesRec ·)))=true:=by kernel_rfl
set_option maxRecDepth 100000 in
theorem fact15:((Rows.splitGuardsRedundantRow.mapsOut==Tryz.pinned.checked.prog.mapsAmong Tryz.f4.resultTypes.toList))=true:=by kernel_rfl
set_option maxRecDepth 100000 in
theorem fact16:((Rows.splitGuardsRedundantRow.loops==(Tryz.f4.params.toList++(OpenSpec.ofChange Rows.splitGuardsRedundantSpec).bare.plain.varTypes Tryz.pinned.checked.prog).any (Tryz.pinned.checked.prog.loopsFrom ·)))=true:=by kernel_rfl
set_option maxRecDepth 100000 in
theorem fact17:((Rows.splitGuardsRedundantRow.wideKeys==(Tryz.f4.params.toList++(OpenSpec.ofChange Rows.splitGuardsRedundantSpec).bare.plain.varTypes Tryz.pinned.checked.prog++Tryz.f4.resultTypes.toList).any (Tryz.pinned.checked.prog.wideKeysFrom ·)))=true:=by kernel_rfl
set_option maxRecDepth 100000 in
theorem fact18:((OpenSpec.ofChange Rows.splitGuardsRedundantSpec).bare.vars.all (Tryz.pinned.checked.prog.varReadable ·))=true:=by kernel_rfl
set_option maxRecDepth 100000 in
theorem fact19:(Tryz.f4.resultTypes.all (fun t=>Tryz.pinned.checked.prog.readableRec t&&decide (t<Tryz.pinned.checked.prog.types.size)))=true:=by kernel_rfl
set_option maxRecDepth 100000 in
theorem fact20:((Rows.splitGuardsRedundantRow.ifacesOut==Tryz.f4.resultTypes.toList.any (Tryz.pinned.checked.prog.ifacesRec ·)))=true:=by kernel_rfl
set_option maxRecDepth 100000 in
theorem fact21:((Rows.splitGuardsRedundantRow.loopsOut==Tryz.f4.resultTypes.toList.any (Tryz.pinned.checked.prog.loopsFrom ·)))=true:=by kernel_rfl
set_option maxRecDepth 100000 in
theorem fact22:((Rows.splitGuardsRedundantRow.plainKeys==Tryz.pinned.checked.prog.plainKeys))=true:=by kernel_rfl
set_option maxRecDepth 100000 in
theorem fact23:(Rows.splitGuardsRedundantRow.shortTexts.isNone)=true:=by kernel_rfl
set_option maxRecDepth 100000 in
theorem fact24:(Tryz.pinned.checked.prog.stopsHeard)=true:=by kernel_rfl
set_option maxRecDepth 100000 in
theorem fact25:(Tryz.pinned.checked.prog.mayEnter)=true:=side25
set_option maxRecDepth 100000 in
theorem fact26:((Rows.splitGuardsRedundantRow.lifted==Tryz.pinned.checked.prog.liftsFinal))=true:=side26
set_option maxRecDepth 100000 in
theorem fact27:((Tryz.pinned.checked.prog.make==some Rows.splitGuardsRedundantRow.make))=true:=side27
set_option maxRecDepth 100000 in
theorem fact28:((Rows.splitGuardsRedundantRow.kinds==(if Rows.splitGuardsRedundantRow.domain.isEmpty then [] else Tryz.f4.params.toList.map fun t=>match Tryz.pinned.checked.prog.underlying t with|some (.int k)=>some k|_=>none)))=true:=by kernel_rfl
set_option maxRecDepth 100000 in
theorem fact29:((Rows.splitGuardsRedundantRow.pinned==Rows.splitGuardsRedundantRow.pinnedBy))=true:=by kernel_rfl
set_option maxRecDepth 100000 in
theorem fact30:((Rows.splitGuardsRedundantRow.veiled==(Tryz.f4.params.toList++(OpenSpec.ofChange Rows.splitGuardsRedundantSpec).bare.plain.varTypes Tryz.pinned.checked.prog++Tryz.f4.resultTypes.toList).any (Tryz.pinned.checked.prog.veiledRec ·)))=true:=by kernel_rfl
set_option maxRecDepth 100000 in
theorem fact31:(Rows.splitGuardsRedundantRow.veiledFits Tryz.pinned.checked.prog Tryz.f4.params.toList (Tryz.f4.params.toList++(OpenSpec.ofChange Rows.splitGuardsRedundantSpec).bare.plain.varTypes Tryz.pinned.checked.prog++Tryz.f4.resultTypes.toList))=true:=by kernel_rfl
set_option maxRecDepth 100000 in
theorem facts:joinedFacts Tryz.pinned.checked.prog (4:FuncId) Tryz.f4 (OpenSpec.ofChange Rows.splitGuardsRedundantSpec).bare Rows.splitGuardsRedundantRow=true:=by
 unfold joinedFacts
 exact (kC (kC (kC (kC (kC (kC (kC (kC (kC (kC (kC (kC (kC (kC (kC (kC (kC (kC (kC (kC (kC (kC (kC (kC (kC (kC (kC (kC (kC (kC (kC fact0 fact1) fact2) fact3) fact4) fact5) fact6) fact7) fact8) fact9) fact10) fact11) fact12) fact13) fact14) fact15) fact16) fact17) fact18) fact19) fact20) fact21) fact22) fact23) fact24) fact25) fact26) fact27) fact28) fact29) fact30) fact31)
theorem wrapped:Tryz.f4.isWrapper Tryz.pinned.checked.prog Rows.splitGuardsRedundantRow.wrapper Rows.splitGuardsRedundantRow.mainSum:=by unfold Func.isWrapper;first|(rw [if_pos (by decide+kernel)];kernel_rfl)|(rw [if_neg (by decide+kernel)];exact ⟨rfl,rfl⟩)
theorem instanced:Tryz.f4.isInstance Tryz.pinned.checked.prog Rows.splitGuardsRedundantRow.origin Rows.splitGuardsRedundantRow.targs:=of_decide_eq_true uC
theorem named:Tryz.pinned.checked.prog.funcNamed Rows.splitGuardsRedundantRow.func=some (4:FuncId):=by kernel_rfl
theorem said:Rows.SplitGuardsRedundantSaid:=
 OpenClaim.holds_of_cond 4 Tryz.f4 rfl rfl rfl rfl rfl rfl rfl ⟨rfl,rfl,rfl,rfl,rfl⟩ rfl rfl rfl rfl rfl named Tryz.func4 facts instanced wrapped
  (fun os started H enc _ F=>by rw [OpenClaim.pre_eq_preRow];exact lifted os started H enc F)
theorem plain (f : FuncId) (fn : Func) (hf : Tryz.pinned.checked.prog.funcNamed "brocade/brocadelaw36.SplitGuardsRedundant" = some f) (hfn : Tryz.pinned.checked.prog.funcs[f]? = some fn) :
  false=Tryz.pinned.checked.prog.looks []/\∀(j:Nat) t,fn.params[j]? =some t->Tryz.pinned.checked.prog.wantsStandIn t=false:=by
 obtain rfl : f = 4 := Option.some.inj ((show Tryz.prog.funcNamed "brocade/brocadelaw36.SplitGuardsRedundant" = some 4 by kernel_rfl).symm.trans hf) |>.symm
 obtain rfl:fn=Tryz.f4:=(Option.some.inj (Tryz.func4.symm.trans hfn)).symm
 refine ⟨uC,fun j t ht=>?_⟩
 have hm:=Array.mem_of_getElem? ht
 rw [Tryz.params4] at hm
 simp only [List.mem_toArray,List.mem_cons,List.not_mem_nil,or_false] at hm
 rcases hm with rfl|rfl<;>exact (show Tryz.prog.wantsStandIn _=false by kernel_rfl)
theorem card:Rows.SplitGuardsRedundantCardSaid:=
 Claim7.holds_tied_plain_at .later [] _ _ _ _ said (fun _ h=>by cases h) uC (fun _ h=>by cases h) splitGuardsRedundant_row_tie rfl ⟨rfl,rfl⟩ uC rfl plain uC
end Go.Proofs.YthgichbbgocmoaaGreatDoor.splitGuardsRedundant
