/-
  The row and the card of LowerNames. Printed by wip/row/rows.py.
  Conditions: none.
-/
import Derived.Test.YtgfomfnjionbeaaGreatDoorOpenX
import Derived.Test.YtgfomfnjionbeaaGreatDoorLD
set_option linter.unusedSimpArgs false
set_option linter.unusedVariables false
namespace Go.Proofs.YtgfomfnjionbeaaGreatDoor.lowerNames
open Go Go.Eng Go.RowKit Go.ChangeShapes Go.WideShapes Go.ChangeAt Go.L41 Go.Br Go.W
set_option maxRecDepth 100000 in
theorem contract (H:Type) (enc:TypeId×Value->H) (W:World) (base:Nat) (args:Array Value) (ds gs:List (DataW H)) (before:List MemPlace)
  (hval:∀(j:Nat) t v,Tryz.f3.params[j]? =some t->args[j]? =some v->Value.okWide Tryz.prog W .any base t v)
  (hW:DataW.Whole enc Tryz.prog Tryz.f3.params.toList Rows.lowerNamesSpec.vars false W args.toList ds gs before) (hZ:(DataW.weightsEach Tryz.prog (Tryz.f3.params.toList++Rows.lowerNamesSpec.plain.varTypes Tryz.prog) (ds++gs)).all (· <=reachBytes)=true) (hL:laidMetH Tryz.prog theLaid W):
  Calls Tryz.prog 3 args W fun e W'=>∃v,e=.returned v/\Rows.lowerNamesSpec.post enc Tryz.prog Tryz.f3 false true false false W args v W':=by
 have hW':=hW
 obtain ⟨p,q,hA0,hV,rfl,hfz,hnd⟩:=hW
 have hA:DataW.TrodAll enc Tryz.prog W 0 (fun _=>true) true Tryz.f3.params.toList args.toList ds p:=hA0
 rw [Tryz.params3] at hA hval
 obtain ⟨v0,vs0,d0,ds0,p0,q0,hargs0,rfl,rfl,h0,r0⟩:=trodAll_cons hA
 obtain ⟨v1,vs1,d1,ds1,p1,q1,hargs1,rfl,rfl,h1,r1⟩:=trodAll_cons r0
 obtain ⟨rfl,rfl,rfl⟩:=trodAll_nil r1
 obtain rfl:args= #[v0,v1]:=by cases args;simp_all
 obtain ⟨f0,l0,s0,b0,k0⟩:=open_arg okTypesL (by decide) (hval 0 9 v0 rfl rfl) (zNb hZ 0 (by rw [Tryz.params3];rfl) rfl) h0
 rw [show isAggT Tryz.prog 9=false by kernel_rfl] at k0
 obtain ⟨x0,rfl⟩:=sh_string s0
 obtain ⟨f1,l1,s1,b1,k1⟩:=open_arg okTypesL (by decide) (hval 1 9 v1 rfl rfl) (zNb hZ 1 (by rw [Tryz.params3];rfl) rfl) h1
 rw [show isAggT Tryz.prog 9=false by kernel_rfl] at k1
 obtain ⟨x1,rfl⟩:=sh_string s1
 exact law_row (X:=cfg) (s:=Rows.lowerNamesSpec) (tb:=4) (law_LowerNames x0 x1) (heap0 hL) ⟨k0,k1,trivial⟩ rfl (by kernel_rfl) Tryz.underlying4 laidOut
  (fun t ht=>by
   rw [Tryz.params3] at ht
   simp only [List.mem_cons,List.not_mem_nil,or_false] at ht
   rcases ht with rfl|rfl<;>exact ⟨by kernel_rfl,of_decide_eq_true (by kernel_rfl)⟩)
  (fun gs hg=>by subst hg;exact ⟨rfl,rfl,rfl⟩) hW'
theorem reads (os:Os) {H:Type} (enc:TypeId×Value->H):∃places,DataW.whole enc Tryz.prog ((laidWorld os).forCall (fun _ _=>0) ⟨#[],#[.string ⟨#[]⟩,.string ⟨#[]⟩],[]⟩).memory Tryz.f3.params.toList Rows.lowerNamesSpec.vars false (#[.string ⟨#[]⟩,.string ⟨#[]⟩]:Array Value).toList 8=some ([.lit (.string []),.lit (.string [])],[],places):=
 ⟨[],by kernel_rfl⟩
set_option maxRecDepth 100000 in
theorem lifted (os:Os) (started:os.Started) (H:Type) (enc:TypeId×Value->H) (F:Stop.Interp):
  ReturnsInHanded {} Tryz.checked os 3 .any ((OpenSpec.ofChange Rows.lowerNamesSpec).preRow enc Tryz.prog Tryz.f3 Rows.lowerNamesRow.domain false Rows.lowerNamesRow.laid) (((OpenSpec.ofChange Rows.lowerNamesSpec).at F).post enc Tryz.prog Tryz.f3 false true false false):=by
 obtain ⟨places,hx⟩:=reads os enc
 refine returnsInHanded_of_row (C:=Tryz.checked) (s:=OpenSpec.ofChange Rows.lowerNamesSpec) own started (by kernel_rfl) Tryz.func3
  (witness_row_atRef (enc:=enc) (C:=Tryz.checked) false (laidWorld os) #[.string ⟨#[]⟩,.string ⟨#[]⟩] rfl (by kernel_rfl) (by kernel_rfl) (by kernel_rfl)
   (OpenSpec.preRow_of_cond 8 hx (by kernel_rfl) (fun k hk=>by cases hk) (by kernel_rfl) (laid_met os _))) ?_
 intro W base args ds gs before hval hW _ hcond hZ hL _ _
 exact contract H enc W base args ds gs before hval hW hZ hL
set_option maxRecDepth 100000 in
theorem fact0:(Rows.lowerNamesRow.wf (OpenSpec.ofChange (OpenSpec.ofChange Rows.lowerNamesSpec).bare))=true:=by kernel_rfl
set_option maxRecDepth 100000 in
theorem fact1:(laidOutB Tryz.pinned.checked.prog)=true:=by kernel_rfl
set_option maxRecDepth 100000 in
theorem fact2:(mapsRowed Tryz.pinned.checked.prog)=true:=by kernel_rfl
set_option maxRecDepth 100000 in
theorem fact3:(Tryz.f3.params.all (Tryz.pinned.checked.prog.readableRec ·))=true:=by kernel_rfl
set_option maxRecDepth 100000 in
theorem fact4:(namedTie Tryz.pinned.checked.prog Rows.lowerNamesRow.named (OpenSpec.ofChange Rows.lowerNamesSpec).bare.vars)=true:=by kernel_rfl
set_option maxRecDepth 100000 in
theorem fact5:((Rows.lowerNamesRow.stops==[]))=true:=by kernel_rfl
set_option maxRecDepth 100000 in
theorem fact6:((Tryz.pinned.checked.prog.stops==[]))=true:=by kernel_rfl
set_option maxRecDepth 100000 in
theorem fact7:((Rows.lowerNamesRow.knobs==[]))=true:=by kernel_rfl
set_option maxRecDepth 100000 in
theorem fact8:((Tryz.pinned.checked.prog.stopKnobs==[]))=true:=by kernel_rfl
set_option maxRecDepth 100000 in
theorem fact9:((Rows.lowerNamesRow.inPlace==Tryz.pinned.checked.prog.inPlace (3:FuncId)))=true:=by kernel_rfl
set_option maxRecDepth 100000 in
theorem fact10:((Rows.lowerNamesRow.unfollowed==Tryz.pinned.checked.prog.unfollowed (3:FuncId)))=true:=by kernel_rfl
set_option maxRecDepth 100000 in
theorem fact11:((Rows.lowerNamesRow.recurses==Tryz.pinned.checked.prog.recurses (3:FuncId)))=true:=by kernel_rfl
set_option maxRecDepth 100000 in
theorem fact12:((Rows.lowerNamesRow.named==Tryz.pinned.checked.prog.varsNamed (3:FuncId)))=true:=by kernel_rfl
set_option maxRecDepth 100000 in
theorem fact13:((Rows.lowerNamesRow.maps==(Tryz.f3.params.toList++(OpenSpec.ofChange Rows.lowerNamesSpec).bare.plain.varTypes Tryz.pinned.checked.prog).any (Tryz.pinned.checked.prog.mapsRec ·)))=true:=by kernel_rfl
set_option maxRecDepth 100000 in
theorem fact14:((Rows.lowerNamesRow.ifaces==(Tryz.f3.params.toList++(OpenSpec.ofChange Rows.lowerNamesSpec).bare.plain.varTypes Tryz.pinned.checked.prog).any (Tryz.pinned.checked.prog.ifacesRec ·)))=true:=by kernel_rfl
set_option maxRecDepth 100000 in
theorem fact15:((Rows.lowerNamesRow.mapsOut==Tryz.pinned.checked.prog.mapsAmong Tryz.f3.resultTypes.toList))=true:=by kernel_rfl
set_option maxRecDepth 100000 in
theorem fact16:((Rows.lowerNamesRow.loops==(Tryz.f3.params.toList++(OpenSpec.ofChange Rows.lowerNamesSpec).bare.plain.varTypes Tryz.pinned.checked.prog).any (Tryz.pinned.checked.prog.loopsFrom ·)))=true:=by kernel_rfl
set_option maxRecDepth 100000 in
theorem fact17:((Rows.lowerNamesRow.wideKeys==(Tryz.f3.params.toList++(OpenSpec.ofChange Rows.lowerNamesSpec).bare.plain.varTypes Tryz.pinned.checked.prog++Tryz.f3.resultTypes.toList).any (Tryz.pinned.checked.prog.wideKeysFrom ·)))=true:=by kernel_rfl
set_option maxRecDepth 100000 in
theorem fact18:((OpenSpec.ofChange Rows.lowerNamesSpec).bare.vars.all (Tryz.pinned.checked.prog.varReadable ·))=true:=by kernel_rfl
set_option maxRecDepth 100000 in
theorem fact19:(Tryz.f3.resultTypes.all (fun t=>Tryz.pinned.checked.prog.readableRec t&&decide (t<Tryz.pinned.checked.prog.types.size)))=true:=by kernel_rfl
set_option maxRecDepth 100000 in
theorem fact20:((Rows.lowerNamesRow.ifacesOut==Tryz.f3.resultTypes.toList.any (Tryz.pinned.checked.prog.ifacesRec ·)))=true:=by kernel_rfl
set_option maxRecDepth 100000 in
theorem fact21:((Rows.lowerNamesRow.loopsOut==Tryz.f3.resultTypes.toList.any (Tryz.pinned.checked.prog.loopsFrom ·)))=true:=by kernel_rfl
set_option maxRecDepth 100000 in
theorem fact22:((Rows.lowerNamesRow.plainKeys==Tryz.pinned.checked.prog.plainKeys))=true:=by kernel_rfl
set_option maxRecDepth 100000 in
theorem fact23:(Rows.lowerNamesRow.shortTexts.isNone)=true:=by kernel_rfl
set_option maxRecDepth 100000 in
theorem fact24:(Tryz.pinned.checked.prog.stopsHeard)=true:=by kernel_rfl
set_option maxRecDepth 100000 in
theorem fact25:(Tryz.pinned.checked.prog.mayEnter)=true:=side25
set_option maxRecDepth 100000 in
theorem fact26:((Rows.lowerNamesRow.lifted==Tryz.pinned.checked.prog.liftsFinal))=true:=side26
set_option maxRecDepth 100000 in
theorem fact27:((Tryz.pinned.checked.prog.make==some Rows.lowerNamesRow.make))=true:=side27
set_option maxRecDepth 100000 in
theorem fact28:((Rows.lowerNamesRow.kinds==(if Rows.lowerNamesRow.domain.isEmpty then [] else Tryz.f3.params.toList.map fun t=>match Tryz.pinned.checked.prog.underlying t with|some (.int k)=>some k|_=>none)))=true:=by kernel_rfl
set_option maxRecDepth 100000 in
theorem fact29:((Rows.lowerNamesRow.pinned==Rows.lowerNamesRow.pinnedBy))=true:=by kernel_rfl
set_option maxRecDepth 100000 in
theorem fact30:((Rows.lowerNamesRow.veiled==(Tryz.f3.params.toList++(OpenSpec.ofChange Rows.lowerNamesSpec).bare.plain.varTypes Tryz.pinned.checked.prog++Tryz.f3.resultTypes.toList).any (Tryz.pinned.checked.prog.veiledRec ·)))=true:=by kernel_rfl
set_option maxRecDepth 100000 in
theorem fact31:(Rows.lowerNamesRow.veiledFits Tryz.pinned.checked.prog Tryz.f3.params.toList (Tryz.f3.params.toList++(OpenSpec.ofChange Rows.lowerNamesSpec).bare.plain.varTypes Tryz.pinned.checked.prog++Tryz.f3.resultTypes.toList))=true:=by kernel_rfl
set_option maxRecDepth 100000 in
theorem facts:joinedFacts Tryz.pinned.checked.prog (3:FuncId) Tryz.f3 (OpenSpec.ofChange Rows.lowerNamesSpec).bare Rows.lowerNamesRow=true:=by
 unfold joinedFacts
 exact (kU (kU (kU (kU (kU (kU (kU (kU (kU (kU (kU (kU (kU (kU (kU (kU (kU (kU (kU (kU (kU (kU (kU (kU (kU (kU (kU (kU (kU (kU (kU fact0 fact1) fact2) fact3) fact4) fact5) fact6) fact7) fact8) fact9) fact10) fact11) fact12) fact13) fact14) fact15) fact16) fact17) fact18) fact19) fact20) fact21) fact22) fact23) fact24) fact25) fact26) fact27) fact28) fact29) fact30) fact31)
theorem wrapped:Tryz.f3.isWrapper Tryz.pinned.checked.prog Rows.lowerNamesRow.wrapper Rows.lowerNamesRow.mainSum:=by unfold Func.isWrapper;first|(rw [if_pos (by decide+kernel)];kernel_rfl)|(rw [if_neg (by decide+kernel)];exact ⟨rfl,rfl⟩)
theorem instanced:Tryz.f3.isInstance Tryz.pinned.checked.prog Rows.lowerNamesRow.origin Rows.lowerNamesRow.targs:=of_decide_eq_true (by kernel_rfl)
theorem named:Tryz.pinned.checked.prog.funcNamed Rows.lowerNamesRow.func=some (3:FuncId):=by kernel_rfl
theorem said:Rows.LowerNamesSaid:=
 OpenClaim.holds_of_cond 3 Tryz.f3 rfl rfl rfl rfl rfl rfl rfl ⟨rfl,rfl,rfl,rfl,rfl⟩ rfl rfl rfl rfl rfl named Tryz.func3 facts instanced wrapped
  (fun os started H enc _ F=>by rw [OpenClaim.pre_eq_preRow];exact lifted os started H enc F)
theorem plain (f : FuncId) (fn : Func) (hf : Tryz.pinned.checked.prog.funcNamed "brocade/brocadelaw32.LowerNames" = some f) (hfn : Tryz.pinned.checked.prog.funcs[f]? = some fn) :
  false=Tryz.pinned.checked.prog.looks []/\∀(j:Nat) t,fn.params[j]? =some t->Tryz.pinned.checked.prog.wantsStandIn t=false:=by
 obtain rfl : f = 3 := Option.some.inj ((show Tryz.prog.funcNamed "brocade/brocadelaw32.LowerNames" = some 3 by kernel_rfl).symm.trans hf) |>.symm
 obtain rfl:fn=Tryz.f3:=(Option.some.inj (Tryz.func3.symm.trans hfn)).symm
 refine ⟨by kernel_rfl,fun j t ht=>?_⟩
 have hm:=Array.mem_of_getElem? ht
 rw [Tryz.params3] at hm
 simp only [List.mem_toArray,List.mem_cons,List.not_mem_nil,or_false] at hm
 rcases hm with rfl|rfl<;>exact (show Tryz.prog.wantsStandIn _=false by kernel_rfl)
theorem card:Rows.LowerNamesCardSaid:=
 Claim7.holds_tied_plain_at .later [] _ _ _ _ said (fun _ h=>by cases h) (by kernel_rfl) (fun _ h=>by cases h) lowerNames_row_tie rfl ⟨rfl,rfl⟩ (by kernel_rfl) rfl plain (by kernel_rfl)
end Go.Proofs.YtgfomfnjionbeaaGreatDoor.lowerNames
