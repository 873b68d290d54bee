/-
  The row and the card of CodegenValid. Printed by wip/row/rows.py.
  Conditions: none.
-/
import Derived.Test.YtdldhbfgfkebjaaGreatDoorOpenN
import Derived.Test.YtdldhbfgfkebjaaGreatDoorSidesG
import Derived.Test.YtdldhbfgfkebjaaGreatDoorBaseO
import Derived.Test.YtdldhbfgfkebjaaGreatDoorHR
set_option linter.unusedSimpArgs false
set_option linter.unusedVariables false
namespace Go.Proofs.YtdldhbfgfkebjaaGreatDoor.codegenValid
open Go Go.Eng Go.RowKit Go.ChangeShapes Go.WideShapes Go.ChangeAt Go.L41 Go.Br Go.W
set_option maxRecDepth 100000 in
theorem contract (H:Type) (enc:TypeId×Value->H) (W:World) (base:Nat) (args:Array Value) (ds gs:List (DataW H)) (before:List MemPlace)
  (hval:∀(j:Nat) t v,Tryz.f7.params[j]? =some t->args[j]? =some v->Value.okWide Tryz.prog W .any base t v)
  (hW:DataW.Whole enc Tryz.prog Tryz.f7.params.toList Rows.codegenValidSpec.vars false W args.toList ds gs before) (hZ:(DataW.weightsEach Tryz.prog (Tryz.f7.params.toList++Rows.codegenValidSpec.plain.varTypes Tryz.prog) (ds++gs)).all (· <=reachBytes)=true) (hL:laidMetH Tryz.prog lK W):
  Calls Tryz.prog 7 args W fun e W'=>∃v,e=.returned v/\Rows.codegenValidSpec.post enc Tryz.prog Tryz.f7 false true false false W args v W':=by
 have hW':=hW
 obtain ⟨p,q,hA0,hV,rfl,hfz,hnd⟩:=hW
 have hA:DataW.TrodAll enc Tryz.prog W 0 (fun _=>true) true Tryz.f7.params.toList args.toList ds p:=hA0
 rw [Tryz.params7] at hA hval
 obtain ⟨v0,vs0,d0,ds0,p0,q0,hargs0,rfl,rfl,h0,r0⟩:=trodAll_cons hA
 obtain ⟨rfl,rfl,rfl⟩:=trodAll_nil r0
 obtain rfl:args= #[v0]:=by cases args;simp_all
 obtain ⟨f0,l0,s0,b0,k0⟩:=open_arg okTypesN (by decide) (hval 0 25 v0 rfl rfl) (weights_each hZ 0 (by rw [Tryz.params7];rfl) rfl) h0
 rw [show tN Tryz.prog 25=true by kernel_rfl] at k0
 obtain ⟨x0,rfl,y0⟩:=sh_nest s0
 exact law_row (X:=cfgO) (s:=Rows.codegenValidSpec) (tb:=4) (law_CodegenValid x0 y0) (heap0O hL) ⟨k0,trivial⟩ rfl (by kernel_rfl) Tryz.underlying4 laidOut
  (fun t ht=>by
   rw [Tryz.params7] at ht
   simp only [List.mem_cons,List.not_mem_nil,or_false] at ht
   subst ht;exact ⟨by kernel_rfl,of_decide_eq_true (by kernel_rfl)⟩)
  (fun gs hg=>by subst hg;exact ⟨rfl,rfl,rfl⟩) hW'
theorem reads (os:Os) {H:Type} (enc:TypeId×Value->H):∃places,DataW.whole enc Tryz.prog ((nW os).forCall (fun _ _=>0) ⟨#[],#[.agg #[.slice none 0 0,.slice none 0 0]],[]⟩).memory Tryz.f7.params.toList Rows.codegenValidSpec.vars false (#[.agg #[.slice none 0 0,.slice none 0 0]]:Array Value).toList 8=some ([.agg [.nil,.nil]],[],places):=
 ⟨[],by kernel_rfl⟩
set_option maxRecDepth 100000 in
theorem lifted (os:Os) (started:os.Started) (H:Type) (enc:TypeId×Value->H) (F:Stop.Interp):
  ReturnsInHanded {} Tryz.checked os 7 .any ((OpenSpec.ofChange Rows.codegenValidSpec).preRow enc Tryz.prog Tryz.f7 Rows.codegenValidRow.domain false Rows.codegenValidRow.laid) (((OpenSpec.ofChange Rows.codegenValidSpec).at F).post enc Tryz.prog Tryz.f7 false true false false):=by
 obtain ⟨places,hx⟩:=reads os enc
 refine returnsInHanded_of_row (C:=Tryz.checked) (s:=OpenSpec.ofChange Rows.codegenValidSpec) own started (by kernel_rfl) Tryz.func7
  (witness_row_atRef (enc:=enc) (C:=Tryz.checked) false (nW os) #[.agg #[.slice none 0 0,.slice none 0 0]] rfl (by kernel_rfl) (by kernel_rfl) (by kernel_rfl)
   (OpenSpec.preRow_of_cond 8 hx (by kernel_rfl) (fun k hk=>by cases hk) (by kernel_rfl) (laid_metO os _))) ?_
 intro W base args ds gs before hval hW _ hcond hZ hL _ _
 exact contract H enc W base args ds gs before hval hW hZ hL
set_option maxRecDepth 100000 in
theorem fact0:(Rows.codegenValidRow.wf (OpenSpec.ofChange (OpenSpec.ofChange Rows.codegenValidSpec).bare))=true:=by kernel_rfl
set_option maxRecDepth 100000 in
theorem fact1:(laidOutB Tryz.pinned.checked.prog)=true:=by kernel_rfl
set_option maxRecDepth 100000 in
theorem fact2:(mapsRowed Tryz.pinned.checked.prog)=true:=by kernel_rfl
set_option maxRecDepth 100000 in
theorem fact3:(Tryz.f7.params.all (Tryz.pinned.checked.prog.readableRec ·))=true:=by kernel_rfl
set_option maxRecDepth 100000 in
theorem fact4:(namedTie Tryz.pinned.checked.prog Rows.codegenValidRow.named (OpenSpec.ofChange Rows.codegenValidSpec).bare.vars)=true:=by kernel_rfl
set_option maxRecDepth 100000 in
theorem fact5:((Rows.codegenValidRow.stops==[]))=true:=by kernel_rfl
set_option maxRecDepth 100000 in
theorem fact6:((Tryz.pinned.checked.prog.stops==[]))=true:=by kernel_rfl
set_option maxRecDepth 100000 in
theorem fact7:((Rows.codegenValidRow.knobs==[]))=true:=by kernel_rfl
set_option maxRecDepth 100000 in
theorem fact8:((Tryz.pinned.checked.prog.stopKnobs==[]))=true:=by kernel_rfl
set_option maxRecDepth 100000 in
theorem fact9:((Rows.codegenValidRow.inPlace==Tryz.pinned.checked.prog.inPlace (7:FuncId)))=true:=by kernel_rfl
set_option maxRecDepth 100000 in
theorem fact10:((Rows.codegenValidRow.unfollowed==Tryz.pinned.checked.prog.unfollowed (7:FuncId)))=true:=by kernel_rfl
set_option maxRecDepth 100000 in
theorem fact11:((Rows.codegenValidRow.recurses==Tryz.pinned.checked.prog.recurses (7:FuncId)))=true:=by kernel_rfl
set_option maxRecDepth 100000 in
theorem fact12:((Rows.codegenValidRow.named==Tryz.pinned.checked.prog.varsNamed (7:FuncId)))=true:=by kernel_rfl
set_option maxRecDepth 100000 in
theorem fact13:((Rows.codegenValidRow.maps==(Tryz.f7.params.toList++(OpenSpec.ofChange Rows.codegenValidSpec).bare.plain.varTypes Tryz.pinned.checked.prog).any (Tryz.pinned.checked.prog.mapsRec ·)))=true:=by kernel_rfl
set_option maxRecDepth 100000 in
theorem fact14:((Rows.codegenValidRow.ifaces==(Tryz.f7.params.toList++(OpenSpec.ofChange Rows.codegenValidSpec).bare.plain.varTypes Tryz.pinned.checked.prog).any (Tryz.pinned.checked.prog.ifacesRec ·)))=true:=by kernel_rfl
set_option maxRecDepth 100000 in
theorem fact15:((Rows.codegenValidRow.mapsOut==Tryz.pinned.checked.prog.mapsAmong Tryz.f7.resultTypes.toList))=true:=by kernel_rfl
set_option maxRecDepth 100000 in
theorem fact16:((Rows.codegenValidRow.loops==(Tryz.f7.params.toList++(OpenSpec.ofChange Rows.codegenValidSpec).bare.plain.varTypes Tryz.pinned.checked.prog).any (Tryz.pinned.checked.prog.loopsFrom ·)))=true:=by kernel_rfl
set_option maxRecDepth 100000 in
theorem fact17:((Rows.codegenValidRow.wideKeys==(Tryz.f7.params.toList++(OpenSpec.ofChange Rows.codegenValidSpec).bare.plain.varTypes Tryz.pinned.checked.prog++Tryz.f7.resultTypes.toList).any (Tryz.pinned.checked.prog.wideKeysFrom ·)))=true:=by kernel_rfl
set_option maxRecDepth 100000 in
theorem fact18:((OpenSpec.ofChange Rows.codegenValidSpec).bare.vars.all (Tryz.pinned.checked.prog.varReadable ·))=true:=by kernel_rfl
set_option maxRecDepth 100000 in
theorem fact19:(Tryz.f7.resultTypes.all (fun t=>Tryz.pinned.checked.prog.readableRec t&&decide (t<Tryz.pinned.checked.prog.types.size)))=true:=by kernel_rfl
set_option maxRecDepth 100000 in
theorem fact20:((Rows.codegenValidRow.ifacesOut==Tryz.f7.resultTypes.toList.any (Tryz.pinned.checked.prog.ifacesRec ·)))=true:=by kernel_rfl
set_option maxRecDepth 100000 in
theorem fact21:((Rows.codegenValidRow.loopsOut==Tryz.f7.resultTypes.toList.any (Tryz.pinned.checked.prog.loopsFrom ·)))=true:=by kernel_rfl
set_option maxRecDepth 100000 in
theorem fact22:((Rows.codegenValidRow.plainKeys==Tryz.pinned.checked.prog.plainKeys))=true:=by kernel_rfl
set_option maxRecDepth 100000 in
theorem fact23:(Rows.codegenValidRow.shortTexts.isNone)=true:=by kernel_rfl
set_option maxRecDepth 100000 in
theorem fact24:(Tryz.pinned.checked.prog.stopsHeard)=true:=by kernel_rfl
set_option maxRecDepth 100000 in
theorem fact25:(Tryz.pinned.checked.prog.mayEnter)=true:=side25
set_option maxRecDepth 100000 in
theorem fact26:((Rows.codegenValidRow.lifted==Tryz.pinned.checked.prog.liftsFinal))=true:=side26
set_option maxRecDepth 100000 in
theorem fact27:((Tryz.pinned.checked.prog.make==some Rows.codegenValidRow.make))=true:=side27
set_option maxRecDepth 100000 in
theorem fact28:((Rows.codegenValidRow.kinds==(if Rows.codegenValidRow.domain.isEmpty then [] else Tryz.f7.params.toList.map fun t=>match Tryz.pinned.checked.prog.underlying t with|some (.int k)=>some k|_=>none)))=true:=by kernel_rfl
set_option maxRecDepth 100000 in
theorem fact29:((Rows.codegenValidRow.pinned==Rows.codegenValidRow.pinnedBy))=true:=by kernel_rfl
set_option maxRecDepth 100000 in
theorem fact30:((Rows.codegenValidRow.veiled==(Tryz.f7.params.toList++(OpenSpec.ofChange Rows.codegenValidSpec).bare.plain.varTypes Tryz.pinned.checked.prog++Tryz.f7.resultTypes.toList).any (Tryz.pinned.checked.prog.veiledRec ·)))=true:=by kernel_rfl
set_option maxRecDepth 100000 in
theorem fact31:(Rows.codegenValidRow.veiledFits Tryz.pinned.checked.prog Tryz.f7.params.toList (Tryz.f7.params.toList++(OpenSpec.ofChange Rows.codegenValidSpec).bare.plain.varTypes Tryz.pinned.checked.prog++Tryz.f7.resultTypes.toList))=true:=by kernel_rfl
set_option maxRecDepth 100000 in
theorem facts:joinedFacts Tryz.pinned.checked.prog (7:FuncId) Tryz.f7 (OpenSpec.ofChange Rows.codegenValidSpec).bare Rows.codegenValidRow=true:=by
 unfold joinedFacts
 exact (kH (kH (kH (kH (kH (kH (kH (kH (kH (kH (kH (kH (kH (kH (kH (kH (kH (kH (kH (kH (kH (kH (kH (kH (kH (kH (kH (kH (kH (kH (kH fact0 fact1) fact2) fact3) fact4) fact5) fact6) fact7) fact8) fact9) fact10) fact11) fact12) fact13) fact14) fact15) fact16) fact17) fact18) fact19) fact20) fact21) fact22) fact23) fact24) fact25) fact26) fact27) fact28) fact29) fact30) fact31)
theorem wrapped:Tryz.f7.isWrapper Tryz.pinned.checked.prog Rows.codegenValidRow.wrapper Rows.codegenValidRow.mainSum:=by unfold Func.isWrapper;first|(rw [if_pos (by decide+kernel)];kernel_rfl)|(rw [if_neg (by decide+kernel)];exact ⟨rfl,rfl⟩)
theorem instanced:Tryz.f7.isInstance Tryz.pinned.checked.prog Rows.codegenValidRow.origin Rows.codegenValidRow.targs:=of_decide_eq_true (by kernel_rfl)
theorem named:Tryz.pinned.checked.prog.funcNamed Rows.codegenValidRow.func=some (7:FuncId):=by kernel_rfl
theorem said:Rows.CodegenValidSaid:=
 OpenClaim.holds_of_cond 7 Tryz.f7 rfl rfl rfl rfl rfl rfl rfl ⟨rfl,rfl,rfl,rfl,rfl⟩ rfl rfl rfl rfl rfl named Tryz.func7 facts instanced wrapped
  (fun os started H enc _ F=>by rw [OpenClaim.pre_eq_preRow];exact lifted os started H enc F)
theorem plain (f : FuncId) (fn : Func) (hf : Tryz.pinned.checked.prog.funcNamed "brocade/brocadelaw48.CodegenValid" = some f) (hfn : Tryz.pinned.checked.prog.funcs[f]? = some fn) :
  false=Tryz.pinned.checked.prog.looks []/\∀(j:Nat) t,fn.params[j]? =some t->Tryz.pinned.checked.prog.wantsStandIn t=false:=by
 obtain rfl : f = 7 := Option.some.inj ((show Tryz.prog.funcNamed "brocade/brocadelaw48.CodegenValid" = some 7 by kernel_rfl).symm.trans hf) |>.symm
 obtain rfl:fn=Tryz.f7:=(Option.some.inj (Tryz.func7.symm.trans hfn)).symm
 refine ⟨by kernel_rfl,fun j t ht=>?_⟩
 have hm:=Array.mem_of_getElem? ht
 rw [Tryz.params7] at hm
 simp only [List.mem_toArray,List.mem_cons,List.not_mem_nil,or_false] at hm
 subst hm;exact (show Tryz.prog.wantsStandIn _=false by kernel_rfl)
theorem card:Rows.CodegenValidCardSaid:=
 Claim7.holds_tied_plain_at .later [] _ _ _ _ said (fun _ h=>by cases h) (by kernel_rfl) (fun _ h=>by cases h) codegenValid_row_tie rfl ⟨rfl,rfl⟩ (by kernel_rfl) rfl plain (by kernel_rfl)
end Go.Proofs.YtdldhbfgfkebjaaGreatDoor.codegenValid
