/-
  The engine,part AM: a call whose new memory stands behind the old,and memory written in another way.
  The engine,part AN: a call of a function value that reads memory of the caller's own and leaves it as it is.
  The engine,part AO: a body in which a label stands and to which nothing jumps.
  The engine,part AP: arrays of two strings,made and compared; a cell of an array that is left alone.
  The engine,part AT: cells of arrays in a variable of the call's own at any index; cuts of own slices as values,copies into them,own memory lent to a function that makes memory.
  The engine,part AW: functions that lay one deferred call (of a closure of their own) on the way.
  The engine,part AX: the walk of a function that lays one deferred call on the way.
  The engine,part AY: aggregates with aggregates in them that differ.
  Conditions: none.
-/
import Derived.Test.YtdldhbfgfkebjaaGreatDoorEngZ
import Derived.Scope
import Derived.ChangeKeysEq
set_option linter.unusedSimpArgs false
set_option linter.unusedVariables false
section
namespace Go.Eng
open Go Go.RowKit
section
variable {X:Cfg} {o:Oper} {e:Operand->V} {μ:List E}
end
end Go.Eng
end
section
namespace Go.Eng
open Go Go.RowKit
end Go.Eng
end
section
namespace Go.Eng
open Go Go.RowKit
section
variable {P:Program} {b:Frame} {a:Act} {k:List Item} {cs:List Frame} {w:World}
end
end Go.Eng
end
section
namespace Go.Eng
open Go Go.RowKit
section
variable {X:Cfg} {o:Oper} {e:Operand->V} {μ:List E}
end
end Go.Eng
end
section
namespace Go.Eng
open Go Go.RowKit Go.Lib
section
variable {X:Cfg} {o:Oper} {e:Operand->V} {μ:List E}
theorem zMq {t et:TypeId} {x y:Operand} {n:Nat} {i:Int} {l:List C} {d:C} (ho:o.op=.index t x y) (ht:vY X.P t=some (n,et,1)) (h1:jQ X.P et=true) (hx:e x=.agg l) (hy:e y=.c (.lit (.int .i64 i))) (h0:0<=i) (hi:i<n) (hd:l[i.toNat]? =some d):Det X o e μ (.c d) μ:=
 kK fun a w I _ hops=>by
  have hxv:=hops x (by rw [ho];simp [Op.operands])
  have hyv:=hops y (by rw [ho];simp [Op.operands])
  rw [hx] at hxv
  rw [hy] at hyv
  obtain ⟨hu,inf,hinf,hs⟩:=arrT_parts ht
  obtain ⟨vs,hv,hcs⟩:=hxv.agg_inv
  obtain ⟨u,hu1,hu2⟩:=hcs.at_ hd
  obtain ⟨g1,g2⟩:=zEh h1 w
  refine ⟨u,?_,hu2⟩
  simp [execOp,ho,hv,hyv.lit_inv,Instr.index,asIntOf,run_underlying hu,h0,hi,g1,g2,part,hu1]
theorem zCd {src dst:TypeId} {x:Operand} {k k':IntKind} {n m:Int} (ho:o.op=.convert src dst x) (hs:(X.P.underlying src).isSome=true) (hd:tO X.P dst=some k) (hx:e x=.c (.lit (.int k' n))) (h:k.wrap n=m):Det X o e μ (.c (.lit (.int k m))) μ:=by
 have:=zFf (X:=X) (μ:=μ) ho hs hd hx
 rwa [h] at this
theorem zMo {t ty:TypeId} {x y:Operand} {k k':IntKind} {a b m:Int} (ho:o.op=.binOp .shr t x y ty) (hx:e x=.c (.lit (.int k a))) (hy:e y=.c (.lit (.int k' b))) (h0:0<=b) (h:a.fdiv (2^(min b.toNat k.bits))=m):Det X o e μ (.c (.lit (.int k m))) μ:=by
 have:=det_shr (X:=X) (μ:=μ) ho hx hy h0
 rwa [h] at this
theorem zMp {t:TypeId} {x:Operand} {m g off:Nat} {us:List Value} (ho:o.op=.load t x) (ht:lI X.P t=some m) (hx:e x=.c (.lit (.pointer (some ⟨g,off,none⟩)))) (hl:us.length=m) (h1:us.all Value.oneCell'=true) (hg:∀w,X.G w->∀j u,us[j]? =some u->w.cell? ⟨g,off+j,none⟩=some u):
  Det X o e μ (.agg (us.map .lit)) μ:=
 kK fun a w I hH hops=>by
  have hxv:=hops x (by rw [ho];simp [Op.operands])
  rw [hx] at hxv
  obtain ⟨g1,g2⟩:=zFk ht w
  have hload:=run_loadCells_list (P:=X.P) w ⟨g,off,none⟩ us (fun j v hj=>by rw [zDd];exact hg w hH.glob j v hj)
  rw [hl] at hload
  refine ⟨.agg us.toArray,?_,us,rfl,CReps.lits us fun v hv=>List.all_eq_true.1 h1 v hv⟩
  simp only [execOp,ho,hxv.lit_inv,Instr.loadAt,Instr.sureAddr,loadVar,Sem.run_bind,Sem.run_pure,Result.andThen_ok,g1,g2,if_true,hload]
/-! ## Structs with structs in them,held against each other -/
def pN (P:Program):List Field->Nat->Option (List FK)
 |[],_=>some []
 |f::r,o=>
  if f.name ≠ "_" ∧ f.offset = o then
   match fkT P f.type with
   |some k=>(match pN P r (o+1) with|some ks=>some (k::ks)|none=>none)
   |none=>match P.underlying f.type,P.info? f.type with
    |some (.struct fs),some i=>if P.stoodInHeld f.type=false then (match sE P fs.toList 0,pN P r (o+i.size) with|some ks,some ks'=>if ks.length=i.size then some (ks++ks') else none|_,_=>none) else none
    |_,_=>none
  else none
def tR (P:Program) (t:TypeId):Option (List FK):=match P.underlying t with
 |some (.struct fs)=>if P.stoodInHeld t=false/\P.eqGuardType P.depth t=false then pN P fs.toList 0 else none
 |_=>none
theorem zQg:∀{ks:List FK} {xs ys:List C},nI ks xs ys=true->xs.length=ks.length/\ys.length=ks.length
 |.int::ks,.lit (.int .i64 _)::xs,.lit (.int .i64 _)::ys,h=>by have:=zQg (ks:=ks) (xs:=xs) (ys:=ys) h;simp [this]
 |.str::ks,.lit (.string _)::xs,.lit (.string _)::ys,h=>by have:=zQg (ks:=ks) (xs:=xs) (ys:=ys) h;simp [this]
 |.bool::ks,.lit (.bool _)::xs,.lit (.bool _)::ys,h=>by have:=zQg (ks:=ks) (xs:=xs) (ys:=ys) h;simp [this]
 |[],[],[],_=>⟨rfl,rfl⟩
theorem zJi:∀{ks ks':List FK} {xs ys:List C},nI (ks++ks') xs ys=true->nI ks (xs.take ks.length) (ys.take ks.length)=true/\nI ks' (xs.drop ks.length) (ys.drop ks.length)=true
 |[],ks',xs,ys,h=>⟨by simp [nI],by simpa using h⟩
 |.int::ks,ks',.lit (.int .i64 _)::xs,.lit (.int .i64 _)::ys,h=>by have:=zJi (ks:=ks) (ks':=ks') (xs:=xs) (ys:=ys) h;simpa [nI] using this
 |.str::ks,ks',.lit (.string _)::xs,.lit (.string _)::ys,h=>by have:=zJi (ks:=ks) (ks':=ks') (xs:=xs) (ys:=ys) h;simpa [nI] using this
 |.bool::ks,ks',.lit (.bool _)::xs,.lit (.bool _)::ys,h=>by have:=zJi (ks:=ks) (ks':=ks') (xs:=xs) (ys:=ys) h;simpa [nI] using this
theorem zOq:∀(n:Nat) {xs ys:List C},xs.length=ys.length->bH xs ys=(bH (xs.take n) (ys.take n)&&bH (xs.drop n) (ys.drop n))
 |0,xs,ys,_=>by simp [bH]
 |n+1,[],[],_=>by simp [bH]
 |n+1,x::xs,y::ys,h=>by
  simp only [bH,List.take_succ_cons,List.drop_succ_cons]
  rw [zOq n (by simpa using h),Bool.and_assoc]
 |n+1,[],_::_,h=>by simp at h
 |n+1,_::_,[],h=>by simp at h
theorem zCz {P:Program} {w:World} {I:Nat->Prop} (d:Nat) {US VS:Array Value}:∀(fs:List Field) (o:Nat) (ks:List FK) (xs ys:List C) (us vs:List Value),pN P fs o=some ks->nI ks xs ys=true->CReps w I xs us->CReps w I ys vs->
  US.toList.drop o=us->VS.toList.drop o=vs->(Op.eqFields (d+2) US VS fs).run P w=.ok (bH xs ys) w
 |[],o,ks,xs,ys,us,vs,hf,hk,_,_,_,_=>by
  simp only [pN,Option.some.injEq] at hf
  subst hf
  match xs,ys,hk with
  |[],[],_=>simp [Op.eqFields,bH]
 |f::r,o,ks,xs,ys,us,vs,hf,hk,hx,hy,hu,hv=>by
  unfold pN at hf
  split at hf
  ·rename_i hn
   split at hf
   ·rename_i k hk1
    split at hf
    ·rename_i ks' hk2
     simp only [Option.some.injEq] at hf
     subst hf
     cases k with
     |int=>
      have ht:∃k,P.underlying f.type=some (.int k):=by
       unfold fkT at hk1;split at hk1<;>first|exact ⟨_,by assumption⟩|cases hk1
      obtain ⟨kk,ht⟩:=ht
      match xs,ys,hk,hx,hy with
      |.lit (.int .i64 a)::xs,.lit (.int .i64 b)::ys,hk,.cons h1 hx,.cons h2 hy=>
       cases h1;cases h2
       obtain ⟨u0,u1⟩:=zCh hu
       obtain ⟨v0,v1⟩:=zCh hv
       have:=eqStep hn.1 hn.2 (by simp [isAgg,run_underlying ht]) (by simpa using u0) (by simpa using v0) (run_equalIn_int w (d+1) f.type .i64 kk a b ht) (zCz d r (o+1) ks' xs ys _ _ hk2 hk hx hy u1 v1)
       simp only [bH,cEq]
       exact this
     |str=>
      have ht:P.underlying f.type=some .string:=by
       unfold fkT at hk1;split at hk1<;>first|assumption|cases hk1
      match xs,ys,hk,hx,hy with
      |.lit (.string a)::xs,.lit (.string b)::ys,hk,.cons h1 hx,.cons h2 hy=>
       cases h1;cases h2
       obtain ⟨u0,u1⟩:=zCh hu
       obtain ⟨v0,v1⟩:=zCh hv
       have:=eqStep hn.1 hn.2 (by simp [isAgg,run_underlying ht]) (by simpa using u0) (by simpa using v0) (run_equalIn_string w (d+1) f.type a b ht) (zCz d r (o+1) ks' xs ys _ _ hk2 hk hx hy u1 v1)
       rw [zRg] at this
       simpa [bH,cEq] using this
     |bool=>
      have ht:P.underlying f.type=some .bool:=by
       unfold fkT at hk1;split at hk1<;>first|assumption|cases hk1
      match xs,ys,hk,hx,hy with
      |.lit (.bool a)::xs,.lit (.bool b)::ys,hk,.cons h1 hx,.cons h2 hy=>
       cases h1;cases h2
       obtain ⟨u0,u1⟩:=zCh hu
       obtain ⟨v0,v1⟩:=zCh hv
       have:=eqStep hn.1 hn.2 (by simp [isAgg,run_underlying ht]) (by simpa using u0) (by simpa using v0) (run_equalIn_bool' w (d+1) f.type a b ht) (zCz d r (o+1) ks' xs ys _ _ hk2 hk hx hy u1 v1)
       simpa [bH,cEq] using this
    ·cases hf
   ·split at hf
    ·rename_i fs2 i hu2 hi2
     split at hf
     ·rename_i hst
      split at hf
      ·rename_i ks1 ks2 e1 e2
       split at hf
       ·rename_i hlen
        simp only [Option.some.injEq] at hf
        subst hf
        obtain ⟨lx,ly⟩:=zQg hk
        obtain ⟨q1,q2⟩:=zJi hk
        rw [zOq ks1.length (by omega)]
        have hagg:(isAgg f.type).run P w=.ok true w:=by simp [isAgg,run_underlying hu2]
        have hsz:(sizeOf f.type).run P w=.ok i.size w:=by simp [sizeOf,typeInfo,hi2]
        have inner:(Op.equalIn (d+2) f.type (.agg (us.take ks1.length).toArray) (.agg (vs.take ks1.length).toArray)).run P w=.ok (bH (xs.take ks1.length) (ys.take ks1.length)) w:=by
         have hfs:P.fieldsOf f.type=fs2:=by simp [Program.fieldsOf,hu2]
         rw [run_equalIn_struct w (d+1) f.type _ _ (by rw [hfs];exact hu2) hst,hfs]
         exact zDv d fs2.toList 0 ks1 _ _ _ _ e1 q1 (hx.take _) (hy.take _) (by simp) (by simp)
        have rest:=zCz (US:=US) (VS:=VS) d r (o+i.size) ks2 (xs.drop ks1.length) (ys.drop ks1.length) (us.drop ks1.length) (vs.drop ks1.length) e2 q2 (hx.drop _) (hy.drop _) (by rw [←hlen,←hu,List.drop_drop]) (by rw [←hlen,←hv,List.drop_drop])
        have px:US.extract o (o+i.size)=(us.take ks1.length).toArray:=by
         refine Array.ext' ?_
         rw [Array.toList_extract,List.extract_eq_take_drop,Nat.add_sub_cancel_left,←hu,hlen]
        have py:VS.extract o (o+i.size)=(vs.take ks1.length).toArray:=by
         refine Array.ext' ?_
         rw [Array.toList_extract,List.extract_eq_take_drop,Nat.add_sub_cancel_left,←hv,hlen]
        have hp:∀A:Array Value,(part f.type A f.offset).run P w=.ok (.agg (A.extract o (o+i.size))) w:=fun A=>by simp [part,hagg,hsz,hn.2]
        generalize bH (xs.take ks1.length) (ys.take ks1.length)=b1 at *
        generalize bH (xs.drop ks1.length) (ys.drop ks1.length)=b2 at *
        cases b1<;>simp [Op.eqFields,hn.1,hp,px,py,inner,rest]
       ·cases hf
      ·cases hf
     ·cases hf
    ·cases hf
  ·cases hf
theorem det_aeql2 {t ty:TypeId} {x y:Operand} {ks:List FK} {xs ys:List C} (ho:o.op=.binOp .eql t x y ty) (ht:tR X.P t=some ks) (hx:e x=.agg xs) (hy:e y=.agg ys) (hk:nI ks xs ys=true):Det X o e μ (.c (.lit (.bool (bH xs ys)))) μ:=
 kK fun a w I _ hops=>by
  have hxv:=hops x (by rw [ho];simp [Op.operands])
  have hyv:=hops y (by rw [ho];simp [Op.operands])
  rw [hx] at hxv
  rw [hy] at hyv
  obtain ⟨us,h0,hu⟩:=hxv.agg_inv
  obtain ⟨vs,h2,hv⟩:=hyv.agg_inv
  unfold tR at ht
  split at ht
  ·rename_i fs hus
   split at ht
   ·rename_i hg
    have hfs:X.P.fieldsOf t=fs:=by simp [Program.fieldsOf,hus]
    have h4:(Op.equalIn 10000 t (.agg us.toArray) (.agg vs.toArray)).run X.P w=.ok (bH xs ys) w:=by
     rw [run_equalIn_struct w 9999 t _ _ (by rw [hfs];exact hus) hg.1,hfs]
     exact zCz 9997 fs.toList 0 ks xs ys _ _ ht hk hu hv (by simp) (by simp)
    refine ⟨.bool (bH xs ys),?_,CRep.lit _ rfl⟩
    simp only [execOp,ho,h0,h2,Sem.run_bind,run_eqGuard_agg w _ _ _ _ _ _ hg.2,run_eql_struct,h4,Result.andThen_ok,Sem.run_pure]
   ·cases ht
  ·cases ht
/-! ## Rows whose cells are written as one likes -/
theorem ope_rows {et:TypeId} {size len:Nat} {rows:List (List C)} (hpos:0<size) (hrl:rows.length=len) (hmax:len<=maxLen) (hrs:∀r,r∈rows->r.length=size)
  (h:∀(a:Act) (w:World) (I:Nat->Prop),(∀x,x∈o.op.operands->VRep w I (e x) (a.eval x))->∃us:List Value,(execOp a.eval o).run X.P w=.ok (.value (.slice (some ⟨w.heap.size,0,none⟩) len len)) (w.alloc (.cells us.toArray et))/\CReps w I rows.flatten us/\us.length=len*size):OpE X o e μ fun r μ'=>∃sv,r=.c (.lit sv)/\μ'=.vec sv et size rows::μ:=by
 intro a w I hH hops K Q k
 obtain ⟨us,hrun,hc,hul⟩:=h a w I hops
 have hlr:len=rows.length:=hrl.symm
 subst hlr
 have hold:∀b,b<w.heap.size->(w.alloc (.cells us.toArray et)).heap[b]? =w.heap[b]? :=fun b hb=>Below.heap_alloc w _ b hb
 have hrep:ERep (w.alloc (.cells us.toArray et)) I (.vec (.slice (some ⟨w.heap.size,0,none⟩) rows.length rows.length) et size rows):=
  zGf (xs:=us) ⟨hul,.inr ⟨w.heap.size,rows.length,us.toArray,rfl,Nat.zero_le _,heap_alloc_new w _,Nat.le_refl _,hmax,by simpa using hul,by simp [←hul]⟩⟩ (hc.mono (fun b hb=>hold b (hH.imm b hb)) fun _ h=>h) hrs
 cases hn:rows.length with
 |zero=>
  exact o4
 |succ n=>
  exact v27
theorem ope_make {t et:TypeId} {x y:Operand} {size bytes:Nat} {zs:List Value} {kx ky:IntKind} {i j:Int} (k:Nat) (ho:o.op=.makeSlice t x y) (ht:fA X.P t=some (et,size,bytes)) (hz0:dS X.P et=some zs)
  (hx:e x=.c (.lit (.int kx i))) (hy:e y=.c (.lit (.int ky j))) (hi:i=(k:Int)) (hj:j=(k:Int)) (hb:k*bytes<=281474976710656) (hk:k<=1073741824):OpE X o e μ fun r μ'=>∃sv,r=.c (.lit sv)/\μ'=.vec sv et size (List.replicate k (zs.map .lit))::μ:=by
 obtain ⟨hu,inf,z,hinf,hz,hs,hby,hzs,hpos⟩:=wN ht
 have hzl:z.cells.toList=zs/\∀v,v∈zs->v.oneCell'=true:=by
  unfold dS at hz0
  rw [hinf] at hz0
  simp only [hz] at hz0
  split at hz0
  ·rename_i h
   cases hz0
   rw [Array.all_eq_true_iff_forall_mem] at h
   exact ⟨rfl,fun v hv=>h v (by simpa using hv)⟩
  ·cases hz0
 have hlen:zs.length=size:=by rw [←hzl.1];simpa using hzs
 refine ope_rows (et:=et) (len:=k) hpos (by simp) (by simp only [maxLen];omega) (fun r hr=>by rw [List.eq_of_mem_replicate hr,List.length_map,hlen]) fun a w I hops=>?_
 have h1:=hops x (by rw [ho];simp [Op.operands])
 have h2:=hops y (by rw [ho];simp [Op.operands])
 rw [hx] at h1
 rw [hy] at h2
 subst hi hj
 have hbb:(inf.bytes:Int)*(k:Int)<=281474976710656:=by
  have h:((inf.bytes*k:Nat):Int)<=281474976710656:=by rw [hby,Nat.mul_comm];omega
  rwa [Int.natCast_mul] at h
 have hr:=run_make (P:=X.P) w t et inf z hu hinf hz kx ky (k:Int) (k:Int) (by omega) (Int.le_refl _) hbb (by omega)
 simp only [Int.toNat_natCast,hs] at hr
 refine ⟨(madeCells z.cells (k*size)).toList,?_,?_,by simp [size_madeCells]⟩
 ·simp [execOp,ho,h1.lit_inv,h2.lit_inv,hr,Result.andThen]
 ·rw [zJy (by omega) hpos,hzl.1]
  exact zJw (CReps.lits zs hzl.2) k
/-! ## Cuts -/
end
/-! ## Own memory lent to a function that makes memory -/
section
variable {X:Cfg} {o:Oper} {e:Operand->V} {μ:List E}
end
end Go.Eng
end
section
namespace Go.Eng
open Go Go.RowKit
def ConD (X:Cfg) (f:FuncId) (args:List V) (μ:List E) (Q:List E->Prop):Prop:=
 ∀(w:World) (I:Nat->Prop) (vs:List Value),Heap X w I μ->V1Reps w I args vs->
  CallsDIn (fen none) 0 X.P f vs.toArray .returning w fun en u' w'=>u'=.returning/\∃v μ' I',en=.returned v/\Q μ'/\Heap X w' I' μ'/\Ext w I μ w' I' μ'
theorem conD_intro {X:Cfg} {f:FuncId} {fn:Func} {c:Code} {n:Nat} {args:List V} {μ:List E} {Q:List E->Prop} (hf:X.P.funcs[f]? =some fn) (hb:fn.body=some c) (hn:fn.ntmps=n) (hl:fn.results= #[]) (hle:Nat.ble args.length n=true)
  (h:∀z:Z,AWP X n z c (fun e σ=>(e=.normal∨e=.ret)/\Q σ.μ) ⟨vV 0 args,μ⟩):ConD X f args μ Q:=by
 intro w I vs hH ha
 refine (callsDIn_of_wp (F:=fen none) (n:=0) hf hb trivial ?_)
 have hlen:∀{args:List V} {vs:List Value},V1Reps w I args vs->vs.length=args.length:=by
  intro args
  induction args with
  |nil=>intro vs h;cases vs with
   |nil=>rfl
   |cons v vs=>exact h.elim
  |cons x xs ih=>intro vs h;cases vs with
   |nil=>exact h.elim
   |cons v vs=>simp [ih h.2]
 have hl1:=hlen ha
 have hl2:=Nat.le_of_ble_eq_true hle
 refine wpIn_mono (h ⟨w,I,μ,[],none,true⟩ _ (ZLe.refl _) _ w ⟨I,hH,fun t=>?_,Ext.refl _ _ _,rfl,?_⟩) ?_
 ·exact r8
 ·simp [hn];omega
 ·rintro e a' w' ⟨z',σ',hz,⟨he,hq⟩,I',hH',hR',hx',hd',_⟩
  have hd:a'.defers=[]:=hd'.trans (hz.same rfl)
  have hr:(results fn a'.tmps).run X.P w'=.ok (.tuple #[]) w':=by
   simp [results,hl]
  have post:bodyPost X.P fn (fun en w'=>∃v μ' I',en=.returned v/\Q μ'/\Heap X w' I' μ'/\Ext w I μ w' I' μ') .ret a' w':=
   ⟨hd,_,hr,_,σ'.μ,I',rfl,hq,hH',hz.ext.trans hx'⟩
  rcases he with rfl|rfl
  ·exact post
  ·exact post
end Go.Eng
end
section
namespace Go.Eng
open Go Go.RowKit
theorem zMa {P:Program} {fn:Func} {tmps:Array Value} {R:Ending->World->Prop} {rest:List Deferred}:∀(Ds:List Nat) (w:World),Ds.Nodup->(∀D,D∈Ds->w.heap[D]? =some (.deferred (some [])))->
  (∀w',w'.heap.size=w.heap.size->w'.os=w.os->w'.tape=w.tape->w'.output=w.output->(∀b,b ∉ Ds->w'.heap[b]? =w.heap[b]?)->LeavesInM (fen none) 0 P fn tmps R rest .returning w')->
  LeavesInM (fen none) 0 P fn tmps R (Ds.map rY++rest) .returning w
 |[],w,_,_,h=>h w rfl rfl rfl rfl fun _ _=>rfl
 |D::Ds,w,hn,hD,h=>by
  have hn':=List.nodup_cons.1 hn
  refine ⟨by simp,.inl ⟨D,_,rfl,run_takeDeferred (hD D (by simp)),?_⟩⟩
  refine zMa Ds _ hn'.2 (fun D' h'=>(World.putObj_heap_other (k:=D') (r:=D) (fun e:D'=D=>hn'.1 (by rw [←e];exact h'))).trans (hD D' (by simp [h']))) fun w' hs ho ht hp hb=>?_
  refine h w' (by rw [hs];simp [World.putObj]) ho ht hp fun b hb'=>?_
  rw [hb b fun h=>hb' (by simp [h])]
  exact World.putObj_heap_other (fun e=>hb' (by simp [e]))
theorem Ext.marks {w w1 w2:World} {I I1:Nat->Prop} {μ μ1:List E} (x:Ext w I μ w1 I1 μ1) {Ds:List Nat} (hD:∀D,D∈Ds->w.heap.size<=D) (hs:w2.heap.size=w1.heap.size) (ho:w2.os=w1.os) (ht:w2.tape=w1.tape) (hp:w2.output=w1.output) (hb:∀b,b ∉ Ds->w2.heap[b]? =w1.heap[b]?):
  Ext w I μ w2 I1 μ1:=
 ⟨ho.trans x.os,ht.trans x.tape,hp.trans x.output,by rw [hs];exact x.size,fun b h1 h2=>(hb b fun h'=>by have:=hD b h';omega).trans (x.block b h1 h2),x.imm,x.imm',x.own'⟩
def cK (X:Cfg) (w:World) (I:Nat->Prop) (μ:List E) (Q:List E->Prop):Ending->World->Prop:=
 fun en w'=>∃v r μ' I',en=.returned v/\(r=.tup []/\Q μ')/\VRep w' I' r v/\Heap X w' I' μ'/\Ext w I μ w' I' μ'
def AWX (X:Cfg) (n:Nat) (z:Z) (fn:Func) (c:Code) (Q:List E->Prop) (σ:S):Prop:=
 ∀z',ZLe z z'->∀a w,St X n z' σ a w->c.wpIn (fen none) 0 X.P (bodyPostM (fen none) 0 X.P fn (cK X z.w z.I z.μ Q)) a w
def XOk (X:Cfg) (z:Z):Prop:=RdOk z/\z.rd=none/\z.ds=[]/\X.N<=z.w.heap.size
theorem con_introD {X:Cfg} {f:FuncId} {fn:Func} {c:Code} {n:Nat} {args:List V} {μ:List E} {Q:List E->Prop} (hf:X.P.funcs[f]? =some fn) (hb:fn.body=some c) (hn:fn.ntmps=n) (hle:Nat.ble args.length n=true)
  (h:∀z:Z,XOk X z->AWX X n z fn c Q ⟨vV 0 args,μ⟩):Con X f args μ fun r μ'=>r=.tup []/\Q μ':=by
 intro w I vs hH ha
 refine (callsIn_wide (n:=0)).1 (callsIn_of_wp_marks (F:=fen none) (n:=0) hf hb trivial ?_)
 have hlen:∀{args:List V} {vs:List Value},V1Reps w I args vs->vs.length=args.length:=by
  intro args
  induction args with
  |nil=>intro vs h;cases vs with
   |nil=>rfl
   |cons v vs=>exact h.elim
  |cons x xs ih=>intro vs h;cases vs with
   |nil=>exact h.elim
   |cons v vs=>simp [ih h.2]
 have hl1:=hlen ha
 have hl2:=Nat.le_of_ble_eq_true hle
 refine h ⟨w,I,μ,[],none,false⟩ ⟨⟨rfl,fun _ h=>by cases h⟩,rfl,rfl,hH.lo⟩ _ (ZLe.refl _) _ w ⟨I,hH,fun t=>?_,Ext.refl _ _ _,rfl,?_⟩
 ·exact r8
 ·simp [hn];omega
theorem xSeq {X:Cfg} {n:Nat} {z:Z} {fn:Func} {x y:Code} {Q:List E->Prop} {σ:S} (hr:XOk X z) (h:AWP X n z x (nF (AWX X n z fn y Q) fun _ _=>False) σ):AWX X n z fn (.seq x y) Q σ:=by
 intro z1 hz1 a w s
 have h1:=h z1 hz1 a w s
 rw [hr.2.1] at h1
 refine wpIn_seq (wpIn_mono h1 ?_)
 rintro e a' w' ⟨z2,σ',hz2,q,s'⟩
 cases e with
 |normal=>exact q z2 (hz1.trans hz2) a' w' s'
 |_=>exact q.elim
theorem xDefer {X:Cfg} {n:Nat} {z:Z} {fn:Func} {id:Nat} {G:FuncId} {t:Tmp} {o1 o2:Oper} {y:Code} {caps:List C} {Q:List E->Prop} {regs:List (Nat×V)} {μ:List E} (h0:XOk X z) (hfl:fn.results= #[])
  (hd:dstOk n o1=true) (h1d:o1.dst=some t) (h1g:o1.guard=none) (h1:Det X o1 (ev regs) μ (.c (.fn (.func G) [] caps)) μ)
  (h2o:o2.op=.defer { callee:=.value (.tmp t),args:= #[],argTypes:= #[] }) (h2d:o2.dst=none) (h2g:o2.guard=none) (hG:bA X.P G=true)
  (k:∀zz:Z,RdOk zz->AWP X n zz y (fY X.P [] fun _ μ1=>ConD X G (caps.map .c) μ1 Q) ⟨(t,.c (.fn (.func G) [] caps))::regs,μ⟩):
  AWX X n z fn (.seq (.region id #[o1,o2] false) y) Q ⟨regs,μ⟩:=by
 intro z1 hz1 a w ⟨I,hH,hR,hx,hds,hs⟩
 refine wpIn_seq ?_
 refine wpIn_region_lit (l:=[o1,o2]) (wpListIn_plain h1g fun K hK=>h1 a w I hH (fun x _=>ev_rep hR x) K _ ?_ (dstOk.nd hd) none)
 rintro v r μ' I' w' ⟨rfl,rfl⟩ hv hH' x
 have s1:=St.put hH hR hx hds hs hd hv hH' x
 refine hK _ _ ?_
 obtain ⟨I1,hH1,hR1,hx1,hds1,hs1⟩:=s1
 generalize ha1:a.put o1.dst v=a1 at hR1 hds1 hs1
 have hR2:∀u,VRep w' I1 (bY ((t,.c (.fn (.func G) [] caps))::regs) u) (a1.tmps.getD u undef):=by rw [h1d] at hR1;exact hR1
 have hv':CRep w' I1 (.fn (.func G) [] caps) (a1.eval (.tmp t)):=by
  have:=hR2 t
  rw [show bY ((t,.c (.fn (.func G) [] caps))::regs) t=.c (.fn (.func G) [] caps) by simp [bY]] at this
  exact this
 generalize hev:a1.eval (.tmp t)=v0 at hv'
 cases hv' with
 |fn _ _ _ us vs g1 g2 hr1 hr2=>
  have hus:us=[]:=List.length_eq_zero_iff.1 g1
  subst hus
  have c2:=CReps.of_at (w:=w') (I:=I1) g2.symm hr2
  refine wpListIn_plain h2g fun K2 hK2=>⟨fun _ _=>trivial,?_⟩
  have hrun:(o2.semAt (fen none).round a1.eval).run X.P w'=.ok (.defer { target:=.fn (.func G) vs.toArray,args:= #[] }) w':=by
   show ((Oper.semAt none a1.eval o2).run X.P w')=_
   rw [Oper.semAt_none]
   simp [execOp,h2o,resolve,Deferred.ofValue,hev]
  rw [hrun,Oper.uponIn_defer]
  refine hK2 _ _ (wpListIn_nil ?_)
  rw [h2d]
  have hy:=k ⟨w',I1,μ',{ target:=.fn (.func G) vs.toArray,args:= #[] }::a1.defers,none,false⟩ ⟨rfl,fun _ h=>by cases h⟩ _ (ZLe.refl _) { a1 with defers:={ target:=.fn (.func G) vs.toArray,args:= #[] }::a1.defers } w' ⟨I1,hH1,hR2,Ext.refl _ _ _,rfl,hs1⟩
  refine wpIn_mono hy ?_
  rintro e a3 w3 ⟨z3,σ3,hz3,q,I3,hH3,hR3,hx3,hds3,hs3⟩
  obtain ⟨_,xz,_,_,Ds,eds,hnd,hDs⟩:=hz3
  obtain ⟨_,xz1,_,_,Ds1,eds1,hnd1,hDs1⟩:=hz1
  have x3:=xz.trans hx3
  have x1:=xz1.trans hx1
  have hD:∀D,D∈Ds->w'.heap.size<=D/\¬I3 D/\D ∉ bB σ3.μ/\w3.heap[D]? =some (.deferred (some [])):=fun D h=>by
   obtain ⟨h1,h2,h3,h4,h5⟩:=hDs D h
   obtain ⟨_,k2,k3,k4⟩:=hx3.stays h2 h3 h4
   exact ⟨h1,k2,k3,k4.trans h5⟩
  have hD1:∀D,D∈Ds1->z.w.heap.size<=D/\D<w3.heap.size/\D<w'.heap.size/\¬I3 D/\D ∉ bB σ3.μ/\w3.heap[D]? =some (.deferred (some [])):=fun D h=>by
   obtain ⟨h1,h2,h3,h4,h5⟩:=hDs1 D h
   obtain ⟨j1,j2,j3,j4⟩:=hx1.stays h2 h3 h4
   obtain ⟨k1,k2,k3,k4⟩:=x3.stays j1 j2 j3
   exact ⟨h1,k1,j1,k2,k3,k4.trans (j4.trans h5)⟩
  have hzs:z.w.heap.size<=w'.heap.size:=x1.size
  have fin:(∃r,tG X.P σ3 [] r/\ConD X G (caps.map .c) σ3.μ Q)->LeavesInM (fen none) 0 X.P fn a3.tmps (cK X z.w z.I z.μ Q) a3.defers .returning w3:=by
   rintro ⟨_,_,hq⟩
   rw [hds3,eds]
   refine zMa Ds w3 hnd (fun D h=>(hD D h).2.2.2) fun w4 hs4 ho4 ht4 hp4 hb4=>?_
   have hI4:∀b,I3 b->w4.heap[b]? =w3.heap[b]? :=fun b h=>hb4 b fun h'=>(hD b h').2.1 h
   have hH4:Heap X w4 I3 σ3.μ:=hH3.except hs4 fun b h=>hb4 b fun h'=>by
    obtain ⟨k1,k2,k3,_⟩:=hD b h'
    have hN:X.N<=w'.heap.size:=hH1.lo
    rcases h with h|h|h
    ·omega
    ·exact k2 h
    ·exact k3 h
   have x4:Ext z.w z.I z.μ w4 I3 σ3.μ:=(x1.trans x3).marks (fun D h=>Nat.le_trans hzs (hD D h).1) hs4 ho4 ht4 hp4 hb4
   refine ⟨by simp,.inr ⟨fun h=>by simp [fen,Fence.wide] at h,.func G,vs.toArray,G,vs.toArray,rfl,by simp [invoke,zEu hG],fun _ _=>trivial,?_⟩⟩
   refine (hq w4 I3 vs hH4 (V1Reps.of_c ((c2.mono (hH1.still x3) x3.imm).mono hI4 fun _ h=>h))).mono ?_
   rintro en u' w5 ⟨rfl,v5,μ5,I5,rfl,hQ5,hH5,x5⟩
   have hD5:∀D,D∈Ds1->z.w.heap.size<=D/\¬I5 D/\D ∉ bB μ5/\w5.heap[D]? =some (.deferred (some [])):=fun D h=>by
    obtain ⟨h1,h2,h6,h3,h4,h5⟩:=hD1 D h
    obtain ⟨j1,j2,j3,j4⟩:=x5.stays (D:=D) (by rw [hs4];exact h2) h3 h4
    exact ⟨h1,j2,j3,j4.trans ((hb4 D fun h'=>by have:=(hD D h').1;omega).trans h5)⟩
   show LeavesInM (fen none) 0 X.P fn a3.tmps _ a1.defers .returning w5
   rw [hds1,eds1,h0.2.2.1,List.append_nil]
   refine zIn Ds1 w5 hnd1 (fun D h=>(hD5 D h).2.2.2) fun w6 hs6 ho6 ht6 hp6 hb6=>⟨.tuple #[],by simp [results,hfl],.tuple #[],.tup [],μ5,I5,rfl,⟨rfl,hQ5⟩,⟨[],rfl,trivial⟩,?_,?_⟩
   ·exact hH5.except hs6 fun b h=>hb6 b fun h'=>by
     obtain ⟨k1,k2,k3,_⟩:=hD5 b h'
     rcases h with h|h|h
     ·have:=h0.2.2.2;omega
     ·exact k2 h
     ·exact k3 h
   ·exact (x4.trans x5).marks (fun D h=>(hD5 D h).1) hs6 ho6 ht6 hp6 hb6
  cases e with
  |normal=>exact fin q
  |ret=>exact fin q
  |_=>exact q.elim
theorem ConD.mono {X:Cfg} {f:FuncId} {args:List V} {μ:List E} {Q Q':List E->Prop} (h:ConD X f args μ Q) (hq:∀μ',Q μ'->Q' μ'):ConD X f args μ Q':=
 fun w I vs hH ha=>(h w I vs hH ha).mono fun _ _ _ ⟨h1,v,μ',I',h2,h3,h4⟩=>⟨h1,v,μ',I',h2,hq _ h3,h4⟩
end Go.Eng
end
section
namespace Go.Eng
open Go Go.RowKit
variable {X:Cfg} {o:Oper} {e:Operand->V} {μ:List E}
end Go.Eng
end
