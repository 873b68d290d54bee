/-
  The row and the card of SplitRuns. Printed by wip/row/rows.py.
  Conditions: none.
-/
import Derived.Test.YthgichbbgocmoaaGreatDoorOpenX
import Derived.Test.YthgichbbgocmoaaGreatDoorGT
set_option maxRecDepth 100000
set_option linter.unusedSimpArgs false
set_option linter.unusedVariables false
namespace Go.Proofs.YthgichbbgocmoaaGreatDoor.splitRuns
open Go Go.Eng Go.RowKit Go.ChangeShapes Go.WideShapes Go.ChangeAt Go.L41 Go.Br Go.W
theorem contract (H:Type) (enc:lu×Value->H) (W:World) (base:Nat) (args:Array Value) (ds gs:List (DataW H)) (before:List MemPlace)
  (hval:∀(j:Nat) t v,Tryz.f3.params[j]? =some t->args[j]? =some v->Value.okWide Tryz.prog W .any base t v)
  (hW:DataW.Whole enc Tryz.prog Tryz.f3.params.toList Rows.splitRunsSpec.vars false W args.toList ds gs before) (hZ:(DataW.weightsEach Tryz.prog (Tryz.f3.params.toList++Rows.splitRunsSpec.plain.varTypes Tryz.prog) (ds++gs)).all (· <=reachBytes)=true) (hL:laidMetH Tryz.prog rN W):
  Calls Tryz.prog 3 args W fun e W'=>∃v,e=.returned v/\Rows.splitRunsSpec.post enc Tryz.prog Tryz.f3 false true false false W args v W':=by
 have hW':=hW
 obtain ⟨p,q,hA0,hV,rfl,hfz,hnd⟩:=hW
 have hA:DataW.TrodAll enc Tryz.prog W 0 (fun _=>true) true Tryz.f3.params.toList args.toList ds p:=hA0
 rw [Tryz.params3] at hA hval
 obtain ⟨v0,vs0,d0,ds0,p0,q0,hargs0,rfl,rfl,h0,r0⟩:=trodAll_cons hA
 obtain ⟨v1,vs1,d1,ds1,p1,q1,hargs1,rfl,rfl,h1,r1⟩:=trodAll_cons r0
 obtain ⟨v2,vs2,d2,ds2,p2,q2,hargs2,rfl,rfl,h2,r2⟩:=trodAll_cons r1
 obtain ⟨v3,vs3,d3,ds3,p3,q3,hargs3,rfl,rfl,h3,r3⟩:=trodAll_cons r2
 obtain ⟨v4,vs4,d4,ds4,p4,q4,hargs4,rfl,rfl,h4,r4⟩:=trodAll_cons r3
 obtain ⟨v5,vs5,d5,ds5,p5,q5,hargs5,rfl,rfl,h5,r5⟩:=trodAll_cons r4
 obtain ⟨rfl,rfl,rfl⟩:=trodAll_nil r5
 obtain rfl:args= #[v0,v1,v2,v3,v4,v5]:=by cases args;simp_all
 obtain ⟨f0,l0,s0,b0,k0⟩:=zMu zMv zB (hval 0 25 v0 rfl rfl) (zDm hZ 0 (by rw [Tryz.params3];rfl) rfl) h0
 rw [show pS Tryz.prog 25=true by kernel_rfl] at k0
 obtain ⟨x0,rfl,y0,u0⟩:=sh_nestR s0
 obtain ⟨f1,l1,s1,b1,k1⟩:=zMu zMv zB (hval 1 26 v1 rfl rfl) (zDm hZ 1 (by rw [Tryz.params3];rfl) rfl) h1
 rw [show pS Tryz.prog 26=false by kernel_rfl] at k1
 obtain ⟨x1,rfl,y1,u1⟩:=shv_mem s1
 obtain ⟨f2,l2,s2,b2,k2⟩:=zMu zMv zB (hval 2 9 v2 rfl rfl) (zDm hZ 2 (by rw [Tryz.params3];rfl) rfl) h2
 rw [show pS Tryz.prog 9=false by kernel_rfl] at k2
 obtain ⟨x2,rfl⟩:=zFd s2
 obtain ⟨f3,l3,s3,b3,k3⟩:=zMu zMv zB (hval 3 3 v3 rfl rfl) (zDm hZ 3 (by rw [Tryz.params3];rfl) rfl) h3
 rw [show pS Tryz.prog 3=false by kernel_rfl] at k3
 obtain ⟨x3,rfl,y3⟩:=sh_intR s3
 obtain ⟨f4,l4,s4,b4,k4⟩:=zMu zMv zB (hval 4 9 v4 rfl rfl) (zDm hZ 4 (by rw [Tryz.params3];rfl) rfl) h4
 rw [show pS Tryz.prog 9=false by kernel_rfl] at k4
 obtain ⟨x4,rfl⟩:=zFd s4
 obtain ⟨f5,l5,s5,b5,k5⟩:=zMu zMv zB (hval 5 9 v5 rfl rfl) (zDm hZ 5 (by rw [Tryz.params3];rfl) rfl) h5
 rw [show pS Tryz.prog 9=false by kernel_rfl] at k5
 obtain ⟨x5,rfl⟩:=zFd s5
 exact law_row (X:=cfg) (s:=Rows.splitRunsSpec) (tb:=4) (law_SplitRuns x0 y0 u0 x1 y1 u1 x2 x3 x4 x5 y3) (heap0 hL) ⟨k0,k1,k2,k3,k4,k5,trivial⟩ rfl uB Tryz.underlying4 laidOut
  (fun t ht=>by
   rw [Tryz.params3] at ht
   simp only [lMc,aN,cp] at ht
   rcases ht with rfl|rfl|rfl|rfl|rfl|rfl<;>exact ⟨uB,fv uB⟩)
  (fun gs hg=>by subst hg;exact ⟨rfl,rfl,rfl⟩) hW'
theorem reads (os:Os) {H:Type} (enc:lu×Value->H):∃places,DataW.whole enc Tryz.prog ((sF os).forCall (fun _ _=>0) ⟨#[],#[.agg #[.slice none 0 0,.slice none 0 0],.slice none 0 0,.string ⟨#[]⟩,.int .i64 0,.string ⟨#[]⟩,.string ⟨#[]⟩],[]⟩).memory Tryz.f3.params.toList Rows.splitRunsSpec.vars false (#[.agg #[.slice none 0 0,.slice none 0 0],.slice none 0 0,.string ⟨#[]⟩,.int .i64 0,.string ⟨#[]⟩,.string ⟨#[]⟩]:Array Value).toList 8=some ([.agg [.nil,.nil],.nil,.lit (.string []),.lit (.int .i64 0),.lit (.string []),.lit (.string [])],[],places):=
 ⟨[],uB⟩
theorem lifted (os:Os) (started:os.Started) (H:Type) (enc:lu×Value->H) (F:Stop.Interp):
  ReturnsInHanded {} Tryz.checked os 3 .any ((OpenSpec.ofChange Rows.splitRunsSpec).preRow enc Tryz.prog Tryz.f3 Rows.splitRunsRow.domain false Rows.splitRunsRow.laid) (((OpenSpec.ofChange Rows.splitRunsSpec).at F).post enc Tryz.prog Tryz.f3 false true false false):=by
 obtain ⟨places,hx⟩:=reads os enc
 refine returnsInHanded_of_row (C:=Tryz.checked) (s:=OpenSpec.ofChange Rows.splitRunsSpec) own started uB Tryz.func3
  (witness_row_atRef (enc:=enc) (C:=Tryz.checked) false (sF os) #[.agg #[.slice none 0 0,.slice none 0 0],.slice none 0 0,.string ⟨#[]⟩,.int .i64 0,.string ⟨#[]⟩,.string ⟨#[]⟩] rfl uB uB uB
   (OpenSpec.preRow_of_cond 8 hx uB (fun k hk=>by cases hk) uB (laid_met os _))) ?_
 intro W base args ds gs before hval hW _ hcond hZ hL _ _
 exact contract H enc W base args ds gs before hval hW hZ hL
theorem fact0:(Rows.splitRunsRow.wf (OpenSpec.ofChange (OpenSpec.ofChange Rows.splitRunsSpec).bare))=true:=by kernel_rfl
theorem fact1:(laidOutB Tryz.pinned.checked.prog)=true:=by kernel_rfl
theorem fact2:(mapsRowed Tryz.pinned.checked.prog)=true:=by kernel_rfl
theorem fact3:(Tryz.f3.params.all (Tryz.pinned.checked.prog.readableRec ·))=true:=by kernel_rfl
theorem fact4:(namedTie Tryz.pinned.checked.prog Rows.splitRunsRow.named (OpenSpec.ofChange Rows.splitRunsSpec).bare.vars)=true:=by kernel_rfl
theorem fact5:((Rows.splitRunsRow.stops==[]))=true:=by kernel_rfl
theorem fact6:((Tryz.pinned.checked.prog.stops==[]))=true:=by kernel_rfl
theorem fact7:((Rows.splitRunsRow.knobs==[]))=true:=by kernel_rfl
theorem fact8:((Tryz.pinned.checked.prog.stopKnobs==[]))=true:=by kernel_rfl
theorem fact9:((Rows.splitRunsRow.inPlace==Tryz.pinned.checked.prog.inPlace (3:FuncId)))=true:=by kernel_rfl
theorem fact10:((Rows.splitRunsRow.unfollowed==Tryz.pinned.checked.prog.unfollowed (3:FuncId)))=true:=by kernel_rfl
theorem fact11:((Rows.splitRunsRow.recurses==Tryz.pinned.checked.prog.recurses (3:FuncId)))=true:=by kernel_rfl
theorem fact12:((Rows.splitRunsRow.named==Tryz.pinned.checked.prog.varsNamed (3:FuncId)))=true:=by kernel_rfl
theorem fact13:((Rows.splitRunsRow.maps==(Tryz.f3.params.toList++(OpenSpec.ofChange Rows.splitRunsSpec).bare.plain.varTypes Tryz.pinned.checked.prog).any (Tryz.pinned.checked.prog.mapsRec ·)))=true:=by kernel_rfl
theorem fact14:((Rows.splitRunsRow.ifaces==(Tryz.f3.params.toList++(OpenSpec.ofChange Rows.splitRunsSpec).bare.plain.varTypes Tryz.pinned.checked.prog).any (Tryz.pinned.checked.prog.ifacesRec ·)))=true:=by kernel_rfl
theorem fact15:((Rows.splitRunsRow.mapsOut==Tryz.pinned.checked.prog.mapsAmong Tryz.f3.resultTypes.toList))=true:=by kernel_rfl
theorem fact16:((Rows.splitRunsRow.loops==(Tryz.f3.params.toList++(OpenSpec.ofChange Rows.splitRunsSpec).bare.plain.varTypes Tryz.pinned.checked.prog).any (Tryz.pinned.checked.prog.loopsFrom ·)))=true:=by kernel_rfl
theorem fact17:((Rows.splitRunsRow.wideKeys==(Tryz.f3.params.toList++(OpenSpec.ofChange Rows.splitRunsSpec).bare.plain.varTypes Tryz.pinned.checked.prog++Tryz.f3.resultTypes.toList).any (Tryz.pinned.checked.prog.wideKeysFrom ·)))=true:=by kernel_rfl
theorem fact18:((OpenSpec.ofChange Rows.splitRunsSpec).bare.vars.all (Tryz.pinned.checked.prog.varReadable ·))=true:=by kernel_rfl
theorem fact19:(Tryz.f3.resultTypes.all (fun t=>Tryz.pinned.checked.prog.readableRec t&&decide (t<Tryz.pinned.checked.prog.types.size)))=true:=by kernel_rfl
theorem fact20:((Rows.splitRunsRow.ifacesOut==Tryz.f3.resultTypes.toList.any (Tryz.pinned.checked.prog.ifacesRec ·)))=true:=by kernel_rfl
theorem fact21:((Rows.splitRunsRow.loopsOut==Tryz.f3.resultTypes.toList.any (Tryz.pinned.checked.prog.loopsFrom ·)))=true:=by kernel_rfl
theorem fact22:((Rows.splitRunsRow.plainKeys==Tryz.pinned.checked.prog.plainKeys))=true:=by kernel_rfl
theorem fact23:(Rows.splitRunsRow.shortTexts.isNone)=true:=by kernel_rfl
theorem fact24:(Tryz.pinned.checked.prog.stopsHeard)=true:=by kernel_rfl
theorem fact25:(Tryz.pinned.checked.prog.mayEnter)=true:=side25
theorem fact26:((Rows.splitRunsRow.lifted==Tryz.pinned.checked.prog.liftsFinal))=true:=side26
theorem fact27:((Tryz.pinned.checked.prog.make==some Rows.splitRunsRow.make))=true:=side27
theorem fact28:((Rows.splitRunsRow.kinds==(if Rows.splitRunsRow.domain.isEmpty then [] else Tryz.f3.params.toList.map fun t=>match Tryz.pinned.checked.prog.underlying t with|some (.int k)=>some k|_=>none)))=true:=by kernel_rfl
theorem fact29:((Rows.splitRunsRow.pinned==Rows.splitRunsRow.pinnedBy))=true:=by kernel_rfl
theorem fact30:((Rows.splitRunsRow.veiled==(Tryz.f3.params.toList++(OpenSpec.ofChange Rows.splitRunsSpec).bare.plain.varTypes Tryz.pinned.checked.prog++Tryz.f3.resultTypes.toList).any (Tryz.pinned.checked.prog.veiledRec ·)))=true:=by kernel_rfl
theorem fact31:(Rows.splitRunsRow.veiledFits Tryz.pinned.checked.prog Tryz.f3.params.toList (Tryz.f3.params.toList++(OpenSpec.ofChange Rows.splitRunsSpec).bare.plain.varTypes Tryz.pinned.checked.prog++Tryz.f3.resultTypes.toList))=true:=by kernel_rfl
theorem facts:joinedFacts Tryz.pinned.checked.prog (3:FuncId) Tryz.f3 (OpenSpec.ofChange Rows.splitRunsSpec).bare Rows.splitRunsRow=true:=by
 unfold joinedFacts
 exact (kD (kD (kD (kD (kD (kD (kD (kD (kD (kD (kD (kD (kD (kD (kD (kD (kD (kD (kD (kD (kD (kD (kD (kD (kD (kD (kD (kD (kD (kD (kD fact0 fact1) fact2) fact3) fact4) fact5) fact6) fact7) fact8) fact9) fact10) fact11) fact12) fact13) fact14) fact15) fact16) fact17) fact18) fact19) fact20) fact21) fact22) fact23) fact24) fact25) fact26) fact27) fact28) fact29) fact30) fact31)
theorem wrapped:Tryz.f3.isWrapper Tryz.pinned.checked.prog Rows.splitRunsRow.wrapper Rows.splitRunsRow.mainSum:=by unfold Func.isWrapper;first|(rw [ab (by decide+kernel)];kernel_rfl)|(rw [aa (by decide+kernel)];exact ⟨rfl,rfl⟩)
theorem instanced:Tryz.f3.isInstance Tryz.pinned.checked.prog Rows.splitRunsRow.origin Rows.splitRunsRow.targs:=fv uB
theorem named:Tryz.pinned.checked.prog.funcNamed Rows.splitRunsRow.func=some (3:FuncId):=by kernel_rfl
theorem said:Rows.SplitRunsSaid:=
 OpenClaim.holds_of_cond 3 Tryz.f3 rfl rfl rfl rfl rfl rfl rfl ⟨rfl,rfl,rfl,rfl,rfl⟩ rfl rfl rfl rfl rfl named Tryz.func3 facts instanced wrapped
  (fun os started H enc _ F=>by rw [OpenClaim.pre_eq_preRow];exact lifted os started H enc F)
theorem plain (f : FuncId) (fn : Func) (hf : Tryz.pinned.checked.prog.funcNamed "brocade/brocadelaw36.SplitRuns" = some f) (hfn : Tryz.pinned.checked.prog.funcs[f]? = some fn) :
  false=Tryz.pinned.checked.prog.looks []/\∀(j:Nat) t,fn.params[j]? =some t->Tryz.pinned.checked.prog.wantsStandIn t=false:=by
 obtain rfl : f = 3 := Option.some.inj ((show Tryz.prog.funcNamed "brocade/brocadelaw36.SplitRuns" = some 3 by kernel_rfl).symm.trans hf) |>.symm
 obtain rfl:fn=Tryz.f3:=(Option.some.inj (Tryz.func3.symm.trans hfn)).symm
 refine ⟨uB,fun j t ht=>?_⟩
 have hm:=Array.mem_of_getElem? ht
 rw [Tryz.params3] at hm
 simp only [List.mem_toArray,lMc,aN,cp] at hm
 rcases hm with rfl|rfl|rfl|rfl|rfl|rfl<;>exact (show Tryz.prog.wantsStandIn _=false by kernel_rfl)
theorem card:Rows.SplitRunsCardSaid:=
 Claim7.holds_tied_plain_at .later [] _ _ _ _ said (fun _ h=>by cases h) uB (fun _ h=>by cases h) splitRuns_row_tie rfl ⟨rfl,rfl⟩ uB rfl plain uB
end Go.Proofs.YthgichbbgocmoaaGreatDoor.splitRuns
