/-
  strconv.FormatInt at base ten,by the shelf's contract.
  strconv.FormatUint at base ten,over the shelf's contracts of what it calls.
  Conditions: none.
-/
import Derived.Test.YtmmiedgoamlhpaaGreatDoorOpenX
import Derived.Test.YtmmiedgoamlhpaaGreatDoorPlainF
import Derived.Test.YtmmiedgoamlhpaaGreatDoorShelfX
import Derived.Test.YtmmiedgoamlhpaaGreatDoorEngZ
import Derived.Shelf.Strconv.Itoa1
import Derived.Shelf.Strconv.Itoa2
import Derived.Lib.Walk
import Derived.Lib.ItoaMem
import Derived.Lib.AppendIntMem
import Derived.WalkKit
import Derived.BigCall
import Derived.BigGuard
set_option linter.unusedSimpArgs false
set_option linter.unusedVariables false
section
namespace Go.Br
open Go Go.Eng Go.RowKit Go.Proofs Go.L41 Go.Sort
theorem itoa_intS (n:Int):(⟨(Lib.itoa n).toArray⟩:ByteArray)=intS n:=by
 unfold Lib.itoa intS
 split
 ·unfold decB
  apply ByteArray.ext
  simp [bs]
 ·next h=>rw [show n.toNat=n.natAbs by omega];rfl
theorem zLa (n:Int) (h: -9223372036854775808<=n) (h2:n<=9223372036854775807):Pur cfgI 341 [vI n,vI 10] (vS (intS n)):=by
 intro w I vs hH ha
 match vs,ha with
 |[v,u],ha=>
  have hv:CRep w I (cI n) v:=ha.1
  have hu:CRep w I (cI 10) u:=ha.2.1
  cases hv
  cases hu
  refine (Tryz.strconv_FormatInt_10 n h h2 w hH.glob.2).mono ?_
  rintro e w' ⟨rfl,k,os,rfl⟩
  have hb:=Lib.below_grow w.heap.size w (Nat.le_refl _) k os
  refine ⟨_,_,[],I,rfl,rfl,?_,?_,?_⟩
  ·show CRep _ _ (cS (intS n)) _
   rw [itoa_intS]
   exact CRep.lit _ rfl
  ·refine ⟨by have:=hH.lo;have:=hb.size;omega,cfgI.hG _ _ (fun b hb'=>hb.block b (by have:=hH.lo;omega)) hH.glob,by simp [blocksOf],fun b hb=>by simp [blocksOf] at hb,fun b hb'=>?_,fun en hen=>by simp at hen,fun en hen=>by simp at hen⟩
   have:=hH.imm b hb';have:=hb.size;omega
  ·exact ⟨hb.os,hb.tape,hb.output,hb.size,fun b hb' _=>hb.block b hb',fun b hb=>hb,fun b hb=>.inl hb,fun b hb=>by simp [blocksOf] at hb⟩
end Go.Br
end
section
namespace Go.Br
open Go Go.Eng Go.Shelf Go.RowKit Go.Sort Go.Proofs Go.L41
set_option maxHeartbeats 6400000 in
set_option maxRecDepth 100000 in
theorem fmtU_in (u : Nat) (hu64 : u < 18446744073709551616) (w : World) (htab : Lib.TabIs Tryz.prog w "internal/strconv.uint64pow10" .u64 Lib.pow10Tab) :
  Calls Tryz.prog 342 #[.int .u64 u,.int .i64 10] w fun e w'=>e=.returned (.string ⟨(Lib.decDigits u).toArray⟩)/\∃k os,w'=grow (w.drewN k) os:=by
 have L:=Tryz.laysM173
 have e283:∀args w,(callFunc 259 args).run Tryz.prog w=.ok (.enter 259 args) w:=enters_of L.f283 (by kernel_rfl) rfl
 have e284:∀args w,(callFunc 260 args).run Tryz.prog w=.ok (.enter 260 args) w:=enters_of L.f284 (by kernel_rfl) rfl
 have e285:∀args w,(callFunc 261 args).run Tryz.prog w=.ok (.enter 261 args) w:=enters_of L.f285 (by kernel_rfl) rfl
 by_cases hs:u<100
 ·have hwr:IntKind.i64.wrap (u:Int)=(u:Int):=by rw [IntKind.wrap_i64];omega
  go_enter Tryz.func342,Tryz.ntmps342
  go_wp2_with (go_at_fn 259;refine (Any.internal_strconv_small (ρ:=Tryz.laysM173_ren) { L with } u hs _).mono ?_;rintro e w' ⟨rfl,rfl⟩)
  go_ret
  exact ⟨rfl,0,#[],by simp [World.drewN_zero]⟩
 ·have hu1:1<=u:=by omega
  have hnd20:Lib.nDigits u<=20:=by have:=Lib.numDigits_eq u hu1 hu64;split at this<;>omega
  have hal:Tryz.prog.arrayLen 289=24:=by simp [Program.arrayLen,Tryz.underlying289]
  have hsl1:∀W,(Instr.sliceAt 289 (.pointer (some ⟨w.heap.size,0,none⟩)) none (some (.int .i64 (Lib.nDigits u:Int))) none).run Tryz.prog W=.ok (.slice (some ⟨w.heap.size,0,none⟩) (Lib.nDigits u) 24) W:=fun W=>by
   rw [run_sliceAt_array_h W 289 ⟨w.heap.size,0,none⟩ (by simp [Program.arrayLen,Program.elem,Tryz.underlying289]) .i64 (Lib.nDigits u:Int) (by omega) (by rw [hal];omega)]
   go_simp
  have hH0:=Lib.holds_zero0 w 289 (Lib.nDigits u) (by omega)
  have hfmt:=Any.internal_strconv_formatBase10 (ρ:=Tryz.laysM173_ren) { L with } w.heap.size 0 24 u (Array.replicate (Lib.nDigits u) 0) (w.alloc (.cells Lib.zeros24 289)) hH0 (by rw [Array.size_replicate];exact Lib.lt_pow_nDigits u) hu64 (by rw [Array.size_replicate];omega)
  rw [Array.size_replicate] at hfmt
  have HH0:=Lib.hid hH0
  clear hH0 hal
  go_enter Tryz.func342,Tryz.ntmps342
  go_wp2_with (first
   |(go_at_fn 260;refine (Any.internal_strconv_numDigits (ρ:=Tryz.laysM173_ren) { L with } u hu1 hu64 _ (Lib.tabIs_alloc htab _)).mono ?_;rintro e w' ⟨rfl,rfl⟩))
  go_at_fn 261
  refine hfmt.mono ?_
  rintro e w' ⟨rfl,k,v',dk,rfl,hF⟩
  have hcv:(convert 128 9 (.slice (some ⟨w.heap.size,0,none⟩) (Lib.nDigits u) 24)).run Tryz.prog ((putRow (fun (b:UInt8)=>Value.int .u8 (b.toNat:Int)) (w.alloc (.cells Lib.zeros24 289)) w.heap.size 0 dk).drewN k)=.ok (.string ⟨(Lib.decDigits u).toArray⟩) ((putRow (fun (b:UInt8)=>Value.int .u8 (b.toNat:Int)) (w.alloc (.cells Lib.zeros24 289)) w.heap.size 0 dk).drewN k):=by
   have h:=run_convert_bytes_back (P:=Tryz.prog) ((putRow (fun (b:UInt8)=>Value.int .u8 (b.toNat:Int)) (w.alloc (.cells Lib.zeros24 289)) w.heap.size 0 dk).drewN k) 128 9 5 ⟨w.heap.size,0,none⟩ 24 (Lib.decDigits u) Tryz.underlying128 Tryz.underlying5 Tryz.underlying9 (fun j hj=>by
    rw [Lib.row_is_numeral hF j hj,Lib.add_plain,World.cell?_drewN]
    exact cell?_putRow (fun (b:UInt8)=>Value.int .u8 (b.toNat:Int)) _ w.heap.size 0 _ dk HH0.out (by rw [hF.size,Array.size_replicate]) j (by rw [hF.size];rw [Lib.decDigits_length] at hj;exact hj))
   rw [Lib.decDigits_length] at h
   exact h
  go_wp2
  go_ret
  obtain ⟨os,eo⟩:=Lib.fin_at w (.cells Lib.zeros24 289) dk k 0
  exact ⟨rfl,k,os,eo⟩
set_option maxHeartbeats 6400000 in
set_option maxRecDepth 100000 in
theorem fmtU_out (u : Nat) (hu64 : u < 18446744073709551616) (w : World) (htab : Lib.TabIs Tryz.prog w "internal/strconv.uint64pow10" .u64 Lib.pow10Tab) :
  Calls Tryz.prog 279 #[.int .u64 u,.int .i64 10] w fun e w'=>e=.returned (.string ⟨(Lib.decDigits u).toArray⟩)/\∃k os,w'=grow (w.drewN k) os:=by
 have ein:∀args w,(callFunc 342 args).run Tryz.prog w=.ok (.enter 342 args) w:=enters_of Tryz.func342 (by kernel_rfl) rfl
 go_enter Tryz.func279,Tryz.ntmps279
 go_wp2_with (go_at_fn 342;refine (fmtU_in u hu64 _ htab).mono ?_;rintro e w' ⟨rfl,k,os,rfl⟩)
 go_ret
 exact ⟨rfl,k,os,rfl⟩
theorem zFd (u:Nat) (hu:u<18446744073709551616):Pur cfgI 279 [vUn u,vI 10] (vS (decB u)):=by
 intro w I vs hH ha
 match vs,ha with
 |[v,x],ha=>
  have hv:CRep w I (.lit (.int .u64 (u:Int))) v:=ha.1
  have hx:CRep w I (cI 10) x:=ha.2.1
  cases hv
  cases hx
  refine (fmtU_out u hu w hH.glob.2).mono ?_
  rintro e w' ⟨rfl,k,os,rfl⟩
  have hb:=Lib.below_grow w.heap.size w (Nat.le_refl _) k os
  refine ⟨_,_,[],I,rfl,rfl,?_,?_,?_⟩
  ·show CRep _ _ (cS (decB u)) _
   exact CRep.lit _ rfl
  ·refine ⟨by have:=hH.lo;have:=hb.size;omega,cfgI.hG _ _ (fun b hb'=>hb.block b (by have:=hH.lo;omega)) hH.glob,by simp [blocksOf],fun b hb=>by simp [blocksOf] at hb,fun b hb'=>?_,fun en hen=>by simp at hen,fun en hen=>by simp at hen⟩
   have:=hH.imm b hb';have:=hb.size;omega
  ·exact ⟨hb.os,hb.tape,hb.output,hb.size,fun b hb' _=>hb.block b hb',fun b hb=>hb,fun b hb=>.inl hb,fun b hb=>by simp [blocksOf] at hb⟩
end Go.Br
end
