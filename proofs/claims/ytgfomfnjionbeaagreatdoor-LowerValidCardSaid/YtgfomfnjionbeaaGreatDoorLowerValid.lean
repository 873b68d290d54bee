/-
  The row and the card of LowerValid. Printed by wip/row/rows.py.
  Conditions: none.
-/
import Derived.Test.YtgfomfnjionbeaaGreatDoorOpenX
import Derived.Test.YtgfomfnjionbeaaGreatDoorLD
set_option linter.unusedSimpArgs false
set_option linter.unusedVariables false
namespace Go.Proofs.YtgfomfnjionbeaaGreatDoor.lowerValid
open Go Go.Eng Go.RowKit Go.ChangeShapes Go.WideShapes Go.ChangeAt Go.L41 Go.Br Go.W
set_option maxRecDepth 100000 in
theorem contract (H:Type) (enc:TypeId×Value->H) (W:World) (base:Nat) (args:Array Value) (ds gs:List (DataW H)) (before:List MemPlace)
  (hval:∀(j:Nat) t v,Tryz.f6.params[j]? =some t->args[j]? =some v->Value.okWide Tryz.prog W .any base t v)
  (hW:DataW.Whole enc Tryz.prog Tryz.f6.params.toList Rows.lowerValidSpec.vars false W args.toList ds gs before) (hZ:(DataW.weightsEach Tryz.prog (Tryz.f6.params.toList++Rows.lowerValidSpec.plain.varTypes Tryz.prog) (ds++gs)).all (· <=reachBytes)=true) (hL:laidMetH Tryz.prog pU W):
  Calls Tryz.prog 6 args W fun e W'=>∃v,e=.returned v/\Rows.lowerValidSpec.post enc Tryz.prog Tryz.f6 false true false false W args v W':=by
 have hW':=hW
 obtain ⟨p,q,hA0,hV,rfl,hfz,hnd⟩:=hW
 have hA:DataW.TrodAll enc Tryz.prog W 0 (fun _=>true) true Tryz.f6.params.toList args.toList ds p:=hA0
 rw [Tryz.params6] at hA hval
 obtain ⟨v0,vs0,d0,ds0,p0,q0,hargs0,rfl,rfl,h0,r0⟩:=trodAll_cons hA
 obtain ⟨v1,vs1,d1,ds1,p1,q1,hargs1,rfl,rfl,h1,r1⟩:=trodAll_cons r0
 obtain ⟨rfl,rfl,rfl⟩:=trodAll_nil r1
 obtain rfl:args= #[v0,v1]:=by cases args;simp_all
 obtain ⟨f0,l0,s0,b0,k0⟩:=open_arg okTypesL uA (hval 0 30 v0 rfl rfl) (zPn hZ 0 (by rw [Tryz.params6];rfl) rfl) h0
 rw [show tP Tryz.prog 30=true by kernel_rfl] at k0
 obtain ⟨x0,rfl,y0,u0,w0⟩:=sh_progL s0
 obtain ⟨f1,l1,s1,b1,k1⟩:=open_arg okTypesL uA (hval 1 31 v1 rfl rfl) (zPn hZ 1 (by rw [Tryz.params6];rfl) rfl) h1
 rw [show tP Tryz.prog 31=false by kernel_rfl] at k1
 obtain ⟨x1,rfl,y1,u1⟩:=sh_bds s1
 exact law_row (X:=cfg) (s:=Rows.lowerValidSpec) (tb:=4) (law_LowerValid x0 x1 y0 u0 w0 y1 u1) (heap0 hL) ⟨k0,k1,trivial⟩ rfl uC Tryz.underlying4 laidOut
  (fun t ht=>by
   rw [Tryz.params6] at ht
   simp only [List.mem_cons,List.not_mem_nil,or_false] at ht
   rcases ht with rfl|rfl<;>exact ⟨uC,of_decide_eq_true uC⟩)
  (fun gs hg=>by subst hg;exact ⟨rfl,rfl,rfl⟩) hW'
theorem reads (os:Os) {H:Type} (enc:TypeId×Value->H):∃places,DataW.whole enc Tryz.prog ((rN os).forCall (fun _ _=>0) ⟨#[],#[.agg #[.slice none 0 0,.slice none 0 0,.slice none 0 0,.slice none 0 0,.slice none 0 0],.slice none 0 0],[]⟩).memory Tryz.f6.params.toList Rows.lowerValidSpec.vars false (#[.agg #[.slice none 0 0,.slice none 0 0,.slice none 0 0,.slice none 0 0,.slice none 0 0],.slice none 0 0]:Array Value).toList 8=some ([.agg [.nil,.nil,.nil,.nil,.nil],.nil],[],places):=
 ⟨[],uC⟩
set_option maxRecDepth 100000 in
theorem lifted (os:Os) (started:os.Started) (H:Type) (enc:TypeId×Value->H) (F:Stop.Interp):
  ReturnsInHanded {} Tryz.checked os 6 .any ((OpenSpec.ofChange Rows.lowerValidSpec).preRow enc Tryz.prog Tryz.f6 Rows.lowerValidRow.domain false Rows.lowerValidRow.laid) (((OpenSpec.ofChange Rows.lowerValidSpec).at F).post enc Tryz.prog Tryz.f6 false true false false):=by
 obtain ⟨places,hx⟩:=reads os enc
 refine returnsInHanded_of_row (C:=Tryz.checked) (s:=OpenSpec.ofChange Rows.lowerValidSpec) own started uC Tryz.func6
  (witness_row_atRef (enc:=enc) (C:=Tryz.checked) false (rN os) #[.agg #[.slice none 0 0,.slice none 0 0,.slice none 0 0,.slice none 0 0,.slice none 0 0],.slice none 0 0] rfl uC uC uC
   (OpenSpec.preRow_of_cond 8 hx uC (fun k hk=>by cases hk) uC (laid_met os _))) ?_
 intro W base args ds gs before hval hW _ hcond hZ hL _ _
 exact contract H enc W base args ds gs before hval hW hZ hL
set_option maxRecDepth 100000 in
theorem fact0:(Rows.lowerValidRow.wf (OpenSpec.ofChange (OpenSpec.ofChange Rows.lowerValidSpec).bare))=true:=by kernel_rfl
set_option maxRecDepth 100000 in
theorem fact1:(laidOutB Tryz.pinned.checked.prog)=true:=by kernel_rfl
set_option maxRecDepth 100000 in
theorem fact2:(mapsRowed Tryz.pinned.checked.prog)=true:=by kernel_rfl
set_option maxRecDepth 100000 in
theorem fact3:(Tryz.f6.params.all (Tryz.pinned.checked.prog.readableRec ·))=true:=by kernel_rfl
set_option maxRecDepth 100000 in
theorem fact4:(namedTie Tryz.pinned.checked.prog Rows.lowerValidRow.named (OpenSpec.ofChange Rows.lowerValidSpec).bare.vars)=true:=by kernel_rfl
set_option maxRecDepth 100000 in
theorem fact5:((Rows.lowerValidRow.stops==[]))=true:=by kernel_rfl
set_option maxRecDepth 100000 in
theorem fact6:((Tryz.pinned.checked.prog.stops==[]))=true:=by kernel_rfl
set_option maxRecDepth 100000 in
theorem fact7:((Rows.lowerValidRow.knobs==[]))=true:=by kernel_rfl
set_option maxRecDepth 100000 in
theorem fact8:((Tryz.pinned.checked.prog.stopKnobs==[]))=true:=by kernel_rfl
set_option maxRecDepth 100000 in
theorem fact9:((Rows.lowerValidRow.inPlace==Tryz.pinned.checked.prog.inPlace (6:FuncId)))=true:=by kernel_rfl
set_option maxRecDepth 100000 in
theorem fact10:((Rows.lowerValidRow.unfollowed==Tryz.pinned.checked.prog.unfollowed (6:FuncId)))=true:=by kernel_rfl
set_option maxRecDepth 100000 in
theorem fact11:((Rows.lowerValidRow.recurses==Tryz.pinned.checked.prog.recurses (6:FuncId)))=true:=by kernel_rfl
set_option maxRecDepth 100000 in
theorem fact12:((Rows.lowerValidRow.named==Tryz.pinned.checked.prog.varsNamed (6:FuncId)))=true:=by kernel_rfl
set_option maxRecDepth 100000 in
theorem fact13:((Rows.lowerValidRow.maps==(Tryz.f6.params.toList++(OpenSpec.ofChange Rows.lowerValidSpec).bare.plain.varTypes Tryz.pinned.checked.prog).any (Tryz.pinned.checked.prog.mapsRec ·)))=true:=by kernel_rfl
set_option maxRecDepth 100000 in
theorem fact14:((Rows.lowerValidRow.ifaces==(Tryz.f6.params.toList++(OpenSpec.ofChange Rows.lowerValidSpec).bare.plain.varTypes Tryz.pinned.checked.prog).any (Tryz.pinned.checked.prog.ifacesRec ·)))=true:=by kernel_rfl
set_option maxRecDepth 100000 in
theorem fact15:((Rows.lowerValidRow.mapsOut==Tryz.pinned.checked.prog.mapsAmong Tryz.f6.resultTypes.toList))=true:=by kernel_rfl
set_option maxRecDepth 100000 in
theorem fact16:((Rows.lowerValidRow.loops==(Tryz.f6.params.toList++(OpenSpec.ofChange Rows.lowerValidSpec).bare.plain.varTypes Tryz.pinned.checked.prog).any (Tryz.pinned.checked.prog.loopsFrom ·)))=true:=by kernel_rfl
set_option maxRecDepth 100000 in
theorem fact17:((Rows.lowerValidRow.wideKeys==(Tryz.f6.params.toList++(OpenSpec.ofChange Rows.lowerValidSpec).bare.plain.varTypes Tryz.pinned.checked.prog++Tryz.f6.resultTypes.toList).any (Tryz.pinned.checked.prog.wideKeysFrom ·)))=true:=by kernel_rfl
set_option maxRecDepth 100000 in
theorem fact18:((OpenSpec.ofChange Rows.lowerValidSpec).bare.vars.all (Tryz.pinned.checked.prog.varReadable ·))=true:=by kernel_rfl
set_option maxRecDepth 100000 in
theorem fact19:(Tryz.f6.resultTypes.all (fun t=>Tryz.pinned.checked.prog.readableRec t&&decide (t<Tryz.pinned.checked.prog.types.size)))=true:=by kernel_rfl
set_option maxRecDepth 100000 in
theorem fact20:((Rows.lowerValidRow.ifacesOut==Tryz.f6.resultTypes.toList.any (Tryz.pinned.checked.prog.ifacesRec ·)))=true:=by kernel_rfl
set_option maxRecDepth 100000 in
theorem fact21:((Rows.lowerValidRow.loopsOut==Tryz.f6.resultTypes.toList.any (Tryz.pinned.checked.prog.loopsFrom ·)))=true:=by kernel_rfl
set_option maxRecDepth 100000 in
theorem fact22:((Rows.lowerValidRow.plainKeys==Tryz.pinned.checked.prog.plainKeys))=true:=by kernel_rfl
set_option maxRecDepth 100000 in
theorem fact23:(Rows.lowerValidRow.shortTexts.isNone)=true:=by kernel_rfl
set_option maxRecDepth 100000 in
theorem fact24:(Tryz.pinned.checked.prog.stopsHeard)=true:=by kernel_rfl
set_option maxRecDepth 100000 in
theorem fact25:(Tryz.pinned.checked.prog.mayEnter)=true:=side25
set_option maxRecDepth 100000 in
theorem fact26:((Rows.lowerValidRow.lifted==Tryz.pinned.checked.prog.liftsFinal))=true:=side26
set_option maxRecDepth 100000 in
theorem fact27:((Tryz.pinned.checked.prog.make==some Rows.lowerValidRow.make))=true:=side27
set_option maxRecDepth 100000 in
theorem fact28:((Rows.lowerValidRow.kinds==(if Rows.lowerValidRow.domain.isEmpty then [] else Tryz.f6.params.toList.map fun t=>match Tryz.pinned.checked.prog.underlying t with|some (.int k)=>some k|_=>none)))=true:=by kernel_rfl
set_option maxRecDepth 100000 in
theorem fact29:((Rows.lowerValidRow.pinned==Rows.lowerValidRow.pinnedBy))=true:=by kernel_rfl
set_option maxRecDepth 100000 in
theorem fact30:((Rows.lowerValidRow.veiled==(Tryz.f6.params.toList++(OpenSpec.ofChange Rows.lowerValidSpec).bare.plain.varTypes Tryz.pinned.checked.prog++Tryz.f6.resultTypes.toList).any (Tryz.pinned.checked.prog.veiledRec ·)))=true:=by kernel_rfl
set_option maxRecDepth 100000 in
theorem fact31:(Rows.lowerValidRow.veiledFits Tryz.pinned.checked.prog Tryz.f6.params.toList (Tryz.f6.params.toList++(OpenSpec.ofChange Rows.lowerValidSpec).bare.plain.varTypes Tryz.pinned.checked.prog++Tryz.f6.resultTypes.toList))=true:=by kernel_rfl
set_option maxRecDepth 100000 in
theorem facts:joinedFacts Tryz.pinned.checked.prog (6:FuncId) Tryz.f6 (OpenSpec.ofChange Rows.lowerValidSpec).bare Rows.lowerValidRow=true:=by
 unfold joinedFacts
 exact (kM (kM (kM (kM (kM (kM (kM (kM (kM (kM (kM (kM (kM (kM (kM (kM (kM (kM (kM (kM (kM (kM (kM (kM (kM (kM (kM (kM (kM (kM (kM fact0 fact1) fact2) fact3) fact4) fact5) fact6) fact7) fact8) fact9) fact10) fact11) fact12) fact13) fact14) fact15) fact16) fact17) fact18) fact19) fact20) fact21) fact22) fact23) fact24) fact25) fact26) fact27) fact28) fact29) fact30) fact31)
theorem wrapped:Tryz.f6.isWrapper Tryz.pinned.checked.prog Rows.lowerValidRow.wrapper Rows.lowerValidRow.mainSum:=by unfold Func.isWrapper;first|(rw [if_pos (by decide+kernel)];kernel_rfl)|(rw [if_neg (by decide+kernel)];exact ⟨rfl,rfl⟩)
theorem instanced:Tryz.f6.isInstance Tryz.pinned.checked.prog Rows.lowerValidRow.origin Rows.lowerValidRow.targs:=of_decide_eq_true uC
theorem named:Tryz.pinned.checked.prog.funcNamed Rows.lowerValidRow.func=some (6:FuncId):=by kernel_rfl
theorem said:Rows.LowerValidSaid:=
 OpenClaim.holds_of_cond 6 Tryz.f6 rfl rfl rfl rfl rfl rfl rfl ⟨rfl,rfl,rfl,rfl,rfl⟩ rfl rfl rfl rfl rfl named Tryz.func6 facts instanced wrapped
  (fun os started H enc _ F=>by rw [OpenClaim.pre_eq_preRow];exact lifted os started H enc F)
theorem plain (f : FuncId) (fn : Func) (hf : Tryz.pinned.checked.prog.funcNamed "brocade/brocadelaw32.LowerValid" = some f) (hfn : Tryz.pinned.checked.prog.funcs[f]? = some fn) :
  false=Tryz.pinned.checked.prog.looks []/\∀(j:Nat) t,fn.params[j]? =some t->Tryz.pinned.checked.prog.wantsStandIn t=false:=by
 obtain rfl : f = 6 := Option.some.inj ((show Tryz.prog.funcNamed "brocade/brocadelaw32.LowerValid" = some 6 by kernel_rfl).symm.trans hf) |>.symm
 obtain rfl:fn=Tryz.f6:=(Option.some.inj (Tryz.func6.symm.trans hfn)).symm
 refine ⟨uC,fun j t ht=>?_⟩
 have hm:=Array.mem_of_getElem? ht
 rw [Tryz.params6] at hm
 simp only [List.mem_toArray,List.mem_cons,List.not_mem_nil,or_false] at hm
 rcases hm with rfl|rfl<;>exact (show Tryz.prog.wantsStandIn _=false by kernel_rfl)
theorem card:Rows.LowerValidCardSaid:=
 Claim7.holds_tied_plain_at .later [] _ _ _ _ said (fun _ h=>by cases h) uC (fun _ h=>by cases h) lowerValid_row_tie rfl ⟨rfl,rfl⟩ uC rfl plain uC
end Go.Proofs.YtgfomfnjionbeaaGreatDoor.lowerValid
