/-
  The program's configuration,second form: the table of powers of ten holds what its initialiser lays,too.
  Conditions: none.
-/
import Derived.Test.YtlfjpejkoccibaaGreatDoorCfg
import Derived.Test.YtlfjpejkoccibaaGreatDoorShelfI
import Derived.Test.YtlfjpejkoccibaaGreatDoorEngZ
import Derived.Test.YtlfjpejkoccibaaGreatDoorPlain2
import Derived.Lib.AppendIntMem
set_option linter.unusedSimpArgs false
set_option linter.unusedVariables false
namespace Go.Br
open Go Go.Eng Go.RowKit Go.Proofs Go.L41
theorem gPow : Tryz.prog.globalNamed "internal/strconv.uint64pow10" = some 1 := by kernel_rfl
theorem pow_kept (w w' : World) (h : ∀ b, b < 1 + 1 → w'.heap[b]? = w.heap[b]?) (k : Lib.TabIs Tryz.prog w "internal/strconv.uint64pow10" .u64 Lib.pow10Tab) : Lib.TabIs Tryz.prog w' "internal/strconv.uint64pow10" .u64 Lib.pow10Tab := by
 unfold Lib.TabIs World.var? at *
 rw [gPow] at *
 simp only [Option.bind_some] at *
 rw [h _ (by omega)]
 exact k
noncomputable def cfgI : Cfg := ⟨Tryz.prog, max (0 + 1) (1 + 1), fun w => Lib.TabIs Tryz.prog w "strings.asciiSpace" .u8 Lib.asciiSpaceTab ∧ Lib.TabIs Tryz.prog w "internal/strconv.uint64pow10" .u64 Lib.pow10Tab,
 fun w w' h k=>⟨tab_kept w w' (fun b hb=>h b (by omega)) k.1,pow_kept w w' (fun b hb=>h b (by omega)) k.2⟩⟩
open Go.Sort in
theorem strconv_Itoa (n:Nat) (h:n<=9223372036854775807):Pur cfgI 88 [vI n] (vS (vV n)):=by
 intro w I vs hH ha
 match vs,ha with
 |[v],ha=>
  have hv:CRep w I (cI n) v:=ha.1
  cases hv
  refine (Tryz.strconv_Itoa n (by omega) (by omega) w hH.glob.2).mono ?_
  rintro e w' ⟨rfl,k,os,rfl⟩
  have hb:=Lib.below_grow w.heap.size w (Nat.le_refl _) k os
  refine ⟨_,_,[],I,rfl,rfl,?_,?_,?_⟩
  ·show CRep _ _ (cS (vV n)) _
   rw [show (⟨(Lib.itoa n).toArray⟩:ByteArray)=vV n by unfold vV Lib.itoa;rw [if_neg (by omega)];simp]
   exact CRep.lit _ rfl
  ·refine ⟨by have:=hH.lo;have:=hb.size;omega,cfgI.hG _ _ (fun b hb'=>hb.block b (by have:=hH.lo;omega)) hH.glob,by simp [bB],fun b hb=>by simp [bB] at hb,fun b hb'=>?_,fun en hen=>by simp at hen,fun en hen=>by simp at hen⟩
   have:=hH.imm b hb';have:=hb.size;omega
  ·exact ⟨hb.os,hb.tape,hb.output,hb.size,fun b hb' _=>hb.block b hb',fun b hb=>hb,fun b hb=>.inl hb,fun b hb=>by simp [bB] at hb⟩
end Go.Br
