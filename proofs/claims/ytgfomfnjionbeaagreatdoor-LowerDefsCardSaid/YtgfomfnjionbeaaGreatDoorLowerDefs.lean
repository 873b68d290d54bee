/-
  The row and the card of LowerDefs. Printed by wip/row/rows.py.
  Conditions: none.
-/
import Derived.Test.YtgfomfnjionbeaaGreatDoorOpenX
import Derived.Test.YtgfomfnjionbeaaGreatDoorGR
set_option maxRecDepth 100000
set_option linter.unusedSimpArgs false
set_option linter.unusedVariables false
set_option linter.defProp false
namespace Go.Proofs.YtgfomfnjionbeaaGreatDoor.lowerDefs
open Go Go.Eng Go.RowKit Go.ChangeShapes Go.WideShapes Go.ChangeAt Go.L41 Go.Br Go.W
theorem contract (H:Type) (enc:np×Value->H) (W:World) (base:Nat) (args:Array Value) (ds gs:List (DataW H)) (before:List MemPlace)
  (hval:∀(j:Nat) t v,Tryz.f4.params[j]? =some t->args[j]? =some v->Value.okWide Tryz.prog W .any base t v)
  (hW:DataW.Whole enc Tryz.prog Tryz.f4.params.toList Rows.lowerDefsSpec.vars false W args.toList ds gs before) (hZ:(DataW.weightsEach Tryz.prog (Tryz.f4.params.toList++Rows.lowerDefsSpec.plain.varTypes Tryz.prog) (ds++gs)).all (· <=reachBytes)=true) (hL:laidMetH Tryz.prog rW W):
  Calls Tryz.prog 4 args W fun e W'=>∃v,e=.returned v/\Rows.lowerDefsSpec.post enc Tryz.prog Tryz.f4 false true false false W args v W':=by
 have hW':=hW
 obtain ⟨p,q,hA0,hV,rfl,hfz,hnd⟩:=hW
 have hA:DataW.TrodAll enc Tryz.prog W 0 (fun _=>true) true Tryz.f4.params.toList args.toList ds p:=hA0
 rw [Tryz.params4] at hA hval
 obtain ⟨v0,vs0,d0,ds0,p0,q0,hargs0,rfl,rfl,h0,r0⟩:=trodAll_cons hA
 obtain ⟨v1,vs1,d1,ds1,p1,q1,hargs1,rfl,rfl,h1,r1⟩:=trodAll_cons r0
 obtain ⟨v2,vs2,d2,ds2,p2,q2,hargs2,rfl,rfl,h2,r2⟩:=trodAll_cons r1
 obtain ⟨rfl,rfl,rfl⟩:=trodAll_nil r2
 obtain rfl:args= #[v0,v1,v2]:=by cases args;simp_all
 obtain ⟨f0,l0,s0,b0,k0⟩:=open_arg okTypesL uA (hval 0 30 v0 rfl rfl) (zLc hZ 0 (by rw [Tryz.params4];rfl) rfl) h0
 rw [show tN Tryz.prog 30=true by kernel_rfl] at k0
 obtain ⟨x0,rfl,y0,u0,w0⟩:=sh_progL s0
 obtain ⟨f1,l1,s1,b1,k1⟩:=open_arg okTypesL uA (hval 1 31 v1 rfl rfl) (zLc hZ 1 (by rw [Tryz.params4];rfl) rfl) h1
 rw [show tN Tryz.prog 31=false by kernel_rfl] at k1
 obtain ⟨x1,rfl,y1,u1⟩:=sh_bds s1
 obtain ⟨f2,l2,s2,b2,k2⟩:=open_arg okTypesL uA (hval 2 3 v2 rfl rfl) (zLc hZ 2 (by rw [Tryz.params4];rfl) rfl) h2
 rw [show tN Tryz.prog 3=false by kernel_rfl] at k2
 obtain ⟨x2,rfl⟩:=zSp s2
 exact law_row (X:=cfg) (s:=Rows.lowerDefsSpec) (tb:=4) (law_LowerDefs x0 x1 x2 y0 u0 w0 y1 u1) (heap0 hL) ⟨k0,k1,k2,trivial⟩ rfl uB Tryz.underlying4 laidOut
  (fun t ht=>by
   rw [Tryz.params4] at ht
   simp only [lMc,aG,cj] at ht
   rcases ht with rfl|rfl|rfl<;>exact ⟨uB,ca uB⟩)
  (fun gs hg=>by subst hg;exact ⟨rfl,rfl,rfl⟩) hW'
theorem reads (os:Os) {H:Type} (enc:np×Value->H):∃places,DataW.whole enc Tryz.prog ((sJ os).forCall (fun _ _=>0) ⟨#[],#[.agg #[.slice none 0 0,.slice none 0 0,.slice none 0 0,.slice none 0 0,.slice none 0 0],.slice none 0 0,.int .i64 0],[]⟩).memory Tryz.f4.params.toList Rows.lowerDefsSpec.vars false (#[.agg #[.slice none 0 0,.slice none 0 0,.slice none 0 0,.slice none 0 0,.slice none 0 0],.slice none 0 0,.int .i64 0]:Array Value).toList 8=some ([.agg [.nil,.nil,.nil,.nil,.nil],.nil,.lit (.int .i64 0)],[],places):=
 ⟨[],uB⟩
theorem lifted (os:Os) (started:os.Started) (H:Type) (enc:np×Value->H) (F:Stop.Interp):
  ReturnsInHanded {} Tryz.checked os 4 .any ((OpenSpec.ofChange Rows.lowerDefsSpec).preRow enc Tryz.prog Tryz.f4 Rows.lowerDefsRow.domain false Rows.lowerDefsRow.laid) (((OpenSpec.ofChange Rows.lowerDefsSpec).at F).post enc Tryz.prog Tryz.f4 false true false false):=by
 obtain ⟨places,hx⟩:=reads os enc
 refine returnsInHanded_of_row (C:=Tryz.checked) (s:=OpenSpec.ofChange Rows.lowerDefsSpec) own started uB Tryz.func4
  (witness_row_atRef (enc:=enc) (C:=Tryz.checked) false (sJ os) #[.agg #[.slice none 0 0,.slice none 0 0,.slice none 0 0,.slice none 0 0,.slice none 0 0],.slice none 0 0,.int .i64 0] rfl uB uB uB
   (OpenSpec.preRow_of_cond 8 hx uB (fun k hk=>by cases hk) uB (laid_met os _))) ?_
 intro W base args ds gs before hval hW _ hcond hZ hL _ _
 exact contract H enc W base args ds gs before hval hW hZ hL
theorem fact0:(Rows.lowerDefsRow.wf (OpenSpec.ofChange (OpenSpec.ofChange Rows.lowerDefsSpec).bare))=true:=by kernel_rfl
theorem fact1:(laidOutB Tryz.pinned.checked.prog)=true:=by kernel_rfl
theorem fact2:(mapsRowed Tryz.pinned.checked.prog)=true:=by kernel_rfl
theorem fact3:(Tryz.f4.params.all (Tryz.pinned.checked.prog.readableRec ·))=true:=by kernel_rfl
theorem fact4:(namedTie Tryz.pinned.checked.prog Rows.lowerDefsRow.named (OpenSpec.ofChange Rows.lowerDefsSpec).bare.vars)=true:=by kernel_rfl
theorem fact5:((Rows.lowerDefsRow.stops==[]))=true:=by kernel_rfl
theorem fact6:((Tryz.pinned.checked.prog.stops==[]))=true:=by kernel_rfl
theorem fact7:((Rows.lowerDefsRow.knobs==[]))=true:=by kernel_rfl
theorem fact8:((Tryz.pinned.checked.prog.stopKnobs==[]))=true:=by kernel_rfl
theorem fact9:((Rows.lowerDefsRow.inPlace==Tryz.pinned.checked.prog.inPlace (4:FuncId)))=true:=by kernel_rfl
theorem fact10:((Rows.lowerDefsRow.unfollowed==Tryz.pinned.checked.prog.unfollowed (4:FuncId)))=true:=by kernel_rfl
theorem fact11:((Rows.lowerDefsRow.recurses==Tryz.pinned.checked.prog.recurses (4:FuncId)))=true:=by kernel_rfl
theorem fact12:((Rows.lowerDefsRow.named==Tryz.pinned.checked.prog.varsNamed (4:FuncId)))=true:=by kernel_rfl
theorem fact13:((Rows.lowerDefsRow.maps==(Tryz.f4.params.toList++(OpenSpec.ofChange Rows.lowerDefsSpec).bare.plain.varTypes Tryz.pinned.checked.prog).any (Tryz.pinned.checked.prog.mapsRec ·)))=true:=by kernel_rfl
theorem fact14:((Rows.lowerDefsRow.ifaces==(Tryz.f4.params.toList++(OpenSpec.ofChange Rows.lowerDefsSpec).bare.plain.varTypes Tryz.pinned.checked.prog).any (Tryz.pinned.checked.prog.ifacesRec ·)))=true:=by kernel_rfl
theorem fact15:((Rows.lowerDefsRow.mapsOut==Tryz.pinned.checked.prog.mapsAmong Tryz.f4.resultTypes.toList))=true:=by kernel_rfl
theorem fact16:((Rows.lowerDefsRow.loops==(Tryz.f4.params.toList++(OpenSpec.ofChange Rows.lowerDefsSpec).bare.plain.varTypes Tryz.pinned.checked.prog).any (Tryz.pinned.checked.prog.loopsFrom ·)))=true:=by kernel_rfl
theorem fact17:((Rows.lowerDefsRow.wideKeys==(Tryz.f4.params.toList++(OpenSpec.ofChange Rows.lowerDefsSpec).bare.plain.varTypes Tryz.pinned.checked.prog++Tryz.f4.resultTypes.toList).any (Tryz.pinned.checked.prog.wideKeysFrom ·)))=true:=by kernel_rfl
theorem fact18:((OpenSpec.ofChange Rows.lowerDefsSpec).bare.vars.all (Tryz.pinned.checked.prog.varReadable ·))=true:=by kernel_rfl
theorem fact19:(Tryz.f4.resultTypes.all (fun t=>Tryz.pinned.checked.prog.readableRec t&&decide (t<Tryz.pinned.checked.prog.types.size)))=true:=by kernel_rfl
theorem fact20:((Rows.lowerDefsRow.ifacesOut==Tryz.f4.resultTypes.toList.any (Tryz.pinned.checked.prog.ifacesRec ·)))=true:=by kernel_rfl
theorem fact21:((Rows.lowerDefsRow.loopsOut==Tryz.f4.resultTypes.toList.any (Tryz.pinned.checked.prog.loopsFrom ·)))=true:=by kernel_rfl
theorem fact22:((Rows.lowerDefsRow.plainKeys==Tryz.pinned.checked.prog.plainKeys))=true:=by kernel_rfl
theorem fact23:(Rows.lowerDefsRow.shortTexts.isNone)=true:=by kernel_rfl
theorem fact24:(Tryz.pinned.checked.prog.stopsHeard)=true:=by kernel_rfl
theorem fact25:(Tryz.pinned.checked.prog.mayEnter)=true:=side25
theorem fact26:((Rows.lowerDefsRow.lifted==Tryz.pinned.checked.prog.liftsFinal))=true:=side26
theorem fact27:((Tryz.pinned.checked.prog.make==some Rows.lowerDefsRow.make))=true:=side27
theorem fact28:((Rows.lowerDefsRow.kinds==(if Rows.lowerDefsRow.domain.isEmpty then [] else Tryz.f4.params.toList.map fun t=>match Tryz.pinned.checked.prog.underlying t with|some (.int k)=>some k|_=>none)))=true:=by kernel_rfl
theorem fact29:((Rows.lowerDefsRow.pinned==Rows.lowerDefsRow.pinnedBy))=true:=by kernel_rfl
theorem fact30:((Rows.lowerDefsRow.veiled==(Tryz.f4.params.toList++(OpenSpec.ofChange Rows.lowerDefsSpec).bare.plain.varTypes Tryz.pinned.checked.prog++Tryz.f4.resultTypes.toList).any (Tryz.pinned.checked.prog.veiledRec ·)))=true:=by kernel_rfl
theorem fact31:(Rows.lowerDefsRow.veiledFits Tryz.pinned.checked.prog Tryz.f4.params.toList (Tryz.f4.params.toList++(OpenSpec.ofChange Rows.lowerDefsSpec).bare.plain.varTypes Tryz.pinned.checked.prog++Tryz.f4.resultTypes.toList))=true:=by kernel_rfl
theorem facts:joinedFacts Tryz.pinned.checked.prog (4:FuncId) Tryz.f4 (OpenSpec.ofChange Rows.lowerDefsSpec).bare Rows.lowerDefsRow=true:=by
 unfold joinedFacts
 exact (kR (kR (kR (kR (kR (kR (kR (kR (kR (kR (kR (kR (kR (kR (kR (kR (kR (kR (kR (kR (kR (kR (kR (kR (kR (kR (kR (kR (kR (kR (kR fact0 fact1) fact2) fact3) fact4) fact5) fact6) fact7) fact8) fact9) fact10) fact11) fact12) fact13) fact14) fact15) fact16) fact17) fact18) fact19) fact20) fact21) fact22) fact23) fact24) fact25) fact26) fact27) fact28) fact29) fact30) fact31)
theorem wrapped:Tryz.f4.isWrapper Tryz.pinned.checked.prog Rows.lowerDefsRow.wrapper Rows.lowerDefsRow.mainSum:=by unfold Func.isWrapper;first|(rw [ab (by decide+kernel)];kernel_rfl)|(rw [aa (by decide+kernel)];exact ⟨rfl,rfl⟩)
theorem instanced:Tryz.f4.isInstance Tryz.pinned.checked.prog Rows.lowerDefsRow.origin Rows.lowerDefsRow.targs:=ca uB
theorem named:Tryz.pinned.checked.prog.funcNamed Rows.lowerDefsRow.func=some (4:FuncId):=by kernel_rfl
theorem said:Rows.LowerDefsSaid:=
 OpenClaim.holds_of_cond 4 Tryz.f4 rfl rfl rfl rfl rfl rfl rfl ⟨rfl,rfl,rfl,rfl,rfl⟩ rfl rfl rfl rfl rfl named Tryz.func4 facts instanced wrapped
  (fun os started H enc _ F=>by rw [OpenClaim.pre_eq_preRow];exact lifted os started H enc F)
theorem plain (f : FuncId) (fn : Func) (hf : Tryz.pinned.checked.prog.funcNamed "brocade/brocadelaw32.LowerDefs" = some f) (hfn : Tryz.pinned.checked.prog.funcs[f]? = some fn) :
  false=Tryz.pinned.checked.prog.looks []/\∀(j:Nat) t,fn.params[j]? =some t->Tryz.pinned.checked.prog.wantsStandIn t=false:=by
 obtain rfl : f = 4 := Option.some.inj ((show Tryz.prog.funcNamed "brocade/brocadelaw32.LowerDefs" = some 4 by kernel_rfl).symm.trans hf) |>.symm
 obtain rfl:fn=Tryz.f4:=(Option.some.inj (Tryz.func4.symm.trans hfn)).symm
 refine ⟨uB,fun j t ht=>?_⟩
 have hm:=Array.mem_of_getElem? ht
 rw [Tryz.params4] at hm
 simp only [List.mem_toArray,lMc,aG,cj] at hm
 rcases hm with rfl|rfl|rfl<;>exact (show Tryz.prog.wantsStandIn _=false by kernel_rfl)
theorem card:Rows.LowerDefsCardSaid:=
 Claim7.holds_tied_plain_at .later [] _ _ _ _ said (fun _ h=>by cases h) uB (fun _ h=>by cases h) lowerDefs_row_tie rfl ⟨rfl,rfl⟩ uB rfl plain uB
end Go.Proofs.YtgfomfnjionbeaaGreatDoor.lowerDefs
