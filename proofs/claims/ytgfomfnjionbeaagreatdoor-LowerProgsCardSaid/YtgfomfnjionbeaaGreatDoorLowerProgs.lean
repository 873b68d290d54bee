/-
  The row and the card of LowerProgs. Printed by wip/row/rows.py.
  Conditions: none.
-/
import Derived.Test.YtgfomfnjionbeaaGreatDoorOpenX
import Derived.Test.YtgfomfnjionbeaaGreatDoorGR
set_option maxRecDepth 100000
set_option linter.unusedSimpArgs false
set_option linter.unusedVariables false
set_option linter.defProp false
namespace Go.Proofs.YtgfomfnjionbeaaGreatDoor.lowerProgs
open Go Go.Eng Go.RowKit Go.ChangeShapes Go.WideShapes Go.ChangeAt Go.L41 Go.Br Go.W
theorem contract (H:Type) (enc:nr×Value->H) (W:World) (base:Nat) (args:Array Value) (ds gs:List (DataW H)) (before:List MemPlace)
  (hval:∀(j:Nat) t v,Tryz.f5.params[j]? =some t->args[j]? =some v->Value.okWide Tryz.prog W .any base t v)
  (hW:DataW.Whole enc Tryz.prog Tryz.f5.params.toList Rows.lowerProgsSpec.vars false W args.toList ds gs before) (hZ:(DataW.weightsEach Tryz.prog (Tryz.f5.params.toList++Rows.lowerProgsSpec.plain.varTypes Tryz.prog) (ds++gs)).all (· <=reachBytes)=true) (hL:laidMetH Tryz.prog sB W):
  Calls Tryz.prog 5 args W λe W'=>∃v,e=.returned v/\Rows.lowerProgsSpec.post enc Tryz.prog Tryz.f5 false true false false W args v W':=by
 have hW':=hW
 obtain ⟨p,q,hA0,hV,rfl,hfz,hnd⟩:=hW
 have hA:DataW.TrodAll enc Tryz.prog W 0 (λ_=>true) true Tryz.f5.params.toList args.toList ds p:=hA0
 rw [Tryz.params5] at hA hval
 obtain ⟨v0,vs0,d0,ds0,p0,q0,hargs0,rfl,rfl,h0,r0⟩:=trodAll_cons hA
 obtain ⟨v1,vs1,d1,ds1,p1,q1,hargs1,rfl,rfl,h1,r1⟩:=trodAll_cons r0
 obtain ⟨rfl,rfl,rfl⟩:=trodAll_nil r1
 obtain rfl:args= #[v0,v1]:=by cases args;simp_all
 obtain ⟨f0,l0,s0,b0,k0⟩:=FN okTypesL uA (hval 0 30 v0 rfl rfl) (zUd hZ 0 (by rw [Tryz.params5];rfl) rfl) h0
 rw [show xF Tryz.prog 30=true by kernel_rfl] at k0
 obtain ⟨x0,rfl,y0,u0,w0⟩:=Rt s0
 obtain ⟨f1,l1,s1,b1,k1⟩:=FN okTypesL uA (hval 1 31 v1 rfl rfl) (zUd hZ 1 (by rw [Tryz.params5];rfl) rfl) h1
 rw [show xF Tryz.prog 31=false by kernel_rfl] at k1
 obtain ⟨x1,rfl,y1,u1⟩:=Zd s1
 exact law_row (X:=cfg) (s:=Rows.lowerProgsSpec) (tb:=4) (law_LowerProgs x0 x1 y0 u0 w0 y1 u1) (heap0 hL) ⟨k0,k1,trivial⟩ rfl uB Tryz.underlying4 T6
  (λt ht=>by
   rw [Tryz.params5] at ht
   simp only [rp,aJ,cm] at ht
   rcases ht with rfl|rfl<;>exact ⟨uB,ca uB⟩)
  (λgs hg=>by subst hg;exact ⟨rfl,rfl,rfl⟩) hW'
theorem FZ (os:Os) {H:Type} (enc:nr×Value->H):∃places,DataW.whole enc Tryz.prog ((sN os).forCall (λ_ _=>0) ⟨#[],#[.agg #[.slice none 0 0,.slice none 0 0,.slice none 0 0,.slice none 0 0,.slice none 0 0],.slice none 0 0],[]⟩).memory Tryz.f5.params.toList Rows.lowerProgsSpec.vars false (#[.agg #[.slice none 0 0,.slice none 0 0,.slice none 0 0,.slice none 0 0,.slice none 0 0],.slice none 0 0]:Array Value).toList 8=some ([.agg [.nil,.nil,.nil,.nil,.nil],.nil],[],places):=
 ⟨[],uB⟩
theorem lifted (os:Os) (started:os.Started) (H:Type) (enc:nr×Value->H) (F:Stop.Interp):
  ReturnsInHanded {} Tryz.checked os 5 .any ((OpenSpec.ofChange Rows.lowerProgsSpec).preRow enc Tryz.prog Tryz.f5 Rows.lowerProgsRow.domain false Rows.lowerProgsRow.laid) (((OpenSpec.ofChange Rows.lowerProgsSpec).at F).post enc Tryz.prog Tryz.f5 false true false false):=by
 obtain ⟨places,hx⟩:=FZ os enc
 refine returnsInHanded_of_row (C:=Tryz.checked) (s:=OpenSpec.ofChange Rows.lowerProgsSpec) own started uB Tryz.func5
  (witness_row_atRef (enc:=enc) (C:=Tryz.checked) false (sN os) #[.agg #[.slice none 0 0,.slice none 0 0,.slice none 0 0,.slice none 0 0,.slice none 0 0],.slice none 0 0] rfl uB uB uB
   (OpenSpec.preRow_of_cond 8 hx uB (λk hk=>by cases hk) uB (P3 os _))) ?_
 intro W base args ds gs before hval hW _ hcond hZ hL _ _
 exact contract H enc W base args ds gs before hval hW hZ hL
theorem fact0:(Rows.lowerProgsRow.wf (OpenSpec.ofChange (OpenSpec.ofChange Rows.lowerProgsSpec).bare))=true:=by kernel_rfl
theorem fact1:(laidOutB Tryz.pinned.checked.prog)=true:=by kernel_rfl
theorem fact2:(mapsRowed Tryz.pinned.checked.prog)=true:=by kernel_rfl
theorem fact3:(Tryz.f5.params.all (Tryz.pinned.checked.prog.readableRec ·))=true:=by kernel_rfl
theorem fact4:(namedTie Tryz.pinned.checked.prog Rows.lowerProgsRow.named (OpenSpec.ofChange Rows.lowerProgsSpec).bare.vars)=true:=by kernel_rfl
theorem fact5:((Rows.lowerProgsRow.stops==[]))=true:=by kernel_rfl
theorem fact6:((Tryz.pinned.checked.prog.stops==[]))=true:=by kernel_rfl
theorem fact7:((Rows.lowerProgsRow.knobs==[]))=true:=by kernel_rfl
theorem fact8:((Tryz.pinned.checked.prog.stopKnobs==[]))=true:=by kernel_rfl
theorem fact9:((Rows.lowerProgsRow.inPlace==Tryz.pinned.checked.prog.inPlace (5:FuncId)))=true:=by kernel_rfl
theorem XS:((Rows.lowerProgsRow.unfollowed==Tryz.pinned.checked.prog.unfollowed (5:FuncId)))=true:=by kernel_rfl
theorem XT:((Rows.lowerProgsRow.recurses==Tryz.pinned.checked.prog.recurses (5:FuncId)))=true:=by kernel_rfl
theorem XU:((Rows.lowerProgsRow.named==Tryz.pinned.checked.prog.varsNamed (5:FuncId)))=true:=by kernel_rfl
theorem XV:((Rows.lowerProgsRow.maps==(Tryz.f5.params.toList++(OpenSpec.ofChange Rows.lowerProgsSpec).bare.plain.varTypes Tryz.pinned.checked.prog).any (Tryz.pinned.checked.prog.mapsRec ·)))=true:=by kernel_rfl
theorem XW:((Rows.lowerProgsRow.ifaces==(Tryz.f5.params.toList++(OpenSpec.ofChange Rows.lowerProgsSpec).bare.plain.varTypes Tryz.pinned.checked.prog).any (Tryz.pinned.checked.prog.ifacesRec ·)))=true:=by kernel_rfl
theorem XX:((Rows.lowerProgsRow.mapsOut==Tryz.pinned.checked.prog.mapsAmong Tryz.f5.resultTypes.toList))=true:=by kernel_rfl
theorem XY:((Rows.lowerProgsRow.loops==(Tryz.f5.params.toList++(OpenSpec.ofChange Rows.lowerProgsSpec).bare.plain.varTypes Tryz.pinned.checked.prog).any (Tryz.pinned.checked.prog.loopsFrom ·)))=true:=by kernel_rfl
theorem XZ:((Rows.lowerProgsRow.wideKeys==(Tryz.f5.params.toList++(OpenSpec.ofChange Rows.lowerProgsSpec).bare.plain.varTypes Tryz.pinned.checked.prog++Tryz.f5.resultTypes.toList).any (Tryz.pinned.checked.prog.wideKeysFrom ·)))=true:=by kernel_rfl
theorem X0:((OpenSpec.ofChange Rows.lowerProgsSpec).bare.vars.all (Tryz.pinned.checked.prog.varReadable ·))=true:=by kernel_rfl
theorem X1:(Tryz.f5.resultTypes.all (λt=>Tryz.pinned.checked.prog.readableRec t&&decide (t<Tryz.pinned.checked.prog.types.size)))=true:=by kernel_rfl
theorem X2:((Rows.lowerProgsRow.ifacesOut==Tryz.f5.resultTypes.toList.any (Tryz.pinned.checked.prog.ifacesRec ·)))=true:=by kernel_rfl
theorem X3:((Rows.lowerProgsRow.loopsOut==Tryz.f5.resultTypes.toList.any (Tryz.pinned.checked.prog.loopsFrom ·)))=true:=by kernel_rfl
theorem X4:((Rows.lowerProgsRow.plainKeys==Tryz.pinned.checked.prog.plainKeys))=true:=by kernel_rfl
theorem X5:(Rows.lowerProgsRow.shortTexts.isNone)=true:=by kernel_rfl
theorem X6:(Tryz.pinned.checked.prog.stopsHeard)=true:=by kernel_rfl
theorem X7:(Tryz.pinned.checked.prog.mayEnter)=true:=Zi
theorem X8:((Rows.lowerProgsRow.lifted==Tryz.pinned.checked.prog.liftsFinal))=true:=Zj
theorem X9:((Tryz.pinned.checked.prog.make==some Rows.lowerProgsRow.make))=true:=Zk
theorem Ya:((Rows.lowerProgsRow.kinds==(if Rows.lowerProgsRow.domain.isEmpty then [] else Tryz.f5.params.toList.map λt=>match Tryz.pinned.checked.prog.underlying t with|some (.int k)=>some k|_=>none)))=true:=by kernel_rfl
theorem Yb:((Rows.lowerProgsRow.pinned==Rows.lowerProgsRow.pinnedBy))=true:=by kernel_rfl
theorem Yc:((Rows.lowerProgsRow.veiled==(Tryz.f5.params.toList++(OpenSpec.ofChange Rows.lowerProgsSpec).bare.plain.varTypes Tryz.pinned.checked.prog++Tryz.f5.resultTypes.toList).any (Tryz.pinned.checked.prog.veiledRec ·)))=true:=by kernel_rfl
theorem Yd:(Rows.lowerProgsRow.veiledFits Tryz.pinned.checked.prog Tryz.f5.params.toList (Tryz.f5.params.toList++(OpenSpec.ofChange Rows.lowerProgsSpec).bare.plain.varTypes Tryz.pinned.checked.prog++Tryz.f5.resultTypes.toList))=true:=by kernel_rfl
theorem Wc:joinedFacts Tryz.pinned.checked.prog (5:FuncId) Tryz.f5 (OpenSpec.ofChange Rows.lowerProgsSpec).bare Rows.lowerProgsRow=true:=by
 unfold joinedFacts
 exact (kO (kO (kO (kO (kO (kO (kO (kO (kO (kO (kO (kO (kO (kO (kO (kO (kO (kO (kO (kO (kO (kO (kO (kO (kO (kO (kO (kO (kO (kO (kO fact0 fact1) fact2) fact3) fact4) fact5) fact6) fact7) fact8) fact9) XS) XT) XU) XV) XW) XX) XY) XZ) X0) X1) X2) X3) X4) X5) X6) X7) X8) X9) Ya) Yb) Yc) Yd)
theorem Vv:Tryz.f5.isWrapper Tryz.pinned.checked.prog Rows.lowerProgsRow.wrapper Rows.lowerProgsRow.mainSum:=by unfold Func.isWrapper;first|(rw [ab Oe];kernel_rfl)|(rw [aa Oe];exact ⟨rfl,rfl⟩)
theorem MC:Tryz.f5.isInstance Tryz.pinned.checked.prog Rows.lowerProgsRow.origin Rows.lowerProgsRow.targs:=ca uB
theorem named:Tryz.pinned.checked.prog.funcNamed Rows.lowerProgsRow.func=some (5:FuncId):=by kernel_rfl
theorem said:Rows.LowerProgsSaid:=
 OpenClaim.holds_of_cond 5 Tryz.f5 rfl rfl rfl rfl rfl rfl rfl ⟨rfl,rfl,rfl,rfl,rfl⟩ rfl rfl rfl rfl rfl named Tryz.func5 Wc MC Vv
  (λos started H enc _ F=>by rw [OpenClaim.pre_eq_preRow];exact lifted os started H enc F)
theorem plain (f : FuncId) (fn : Func) (hf : Tryz.pinned.checked.prog.funcNamed "brocade/brocadelaw32.LowerProgs" = some f) (hfn : Tryz.pinned.checked.prog.funcs[f]? = some fn) :
  false=Tryz.pinned.checked.prog.looks []/\∀(j:Nat) t,fn.params[j]? =some t->Tryz.pinned.checked.prog.wantsStandIn t=false:=by
 obtain rfl : f = 5 := Option.some.inj ((show Tryz.prog.funcNamed "brocade/brocadelaw32.LowerProgs" = some 5 by kernel_rfl).symm.trans hf) |>.symm
 obtain rfl:fn=Tryz.f5:=(Option.some.inj (Tryz.func5.symm.trans hfn)).symm
 refine ⟨uB,λj t ht=>?_⟩
 have hm:=Array.mem_of_getElem? ht
 rw [Tryz.params5] at hm
 simp only [List.mem_toArray,rp,aJ,cm] at hm
 rcases hm with rfl|rfl<;>exact (show Tryz.prog.wantsStandIn _=false by kernel_rfl)
theorem card:Rows.LowerProgsCardSaid:=
 Claim7.holds_tied_plain_at .later [] _ _ _ _ said (λ_ h=>by cases h) uB (λ_ h=>by cases h) lowerProgs_row_tie rfl ⟨rfl,rfl⟩ uB rfl plain uB
end Go.Proofs.YtgfomfnjionbeaaGreatDoor.lowerProgs
