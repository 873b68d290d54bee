/-
  Every load and store of a nest's code is bounded by the range of a buffer,or checks an index (48.4),in plain Lean.
  Conditions: none.
-/
import Derived.Test.YtdldhbfgfkebjaaGreatDoorPlainG
set_option linter.unusedSimpArgs false
set_option linter.unusedVariables false
namespace Go.Br
open Go Go.Eng Go.L41
def bdI (g:Gn) (x:In):Prop:=x.Op=10∨x.Op=11->(∃s,s∈g.sl/\x.Val.N=s.At/\x.C=s.At+s.Len)∨(x.Op=10/\x.A=255/\x.Val.N=0/\∃b,b∈g.n.Bufs/\x.C∈b.Dims)
def bdL (g:Gn) (l:List In):Prop:=∀x,x∈l->bdI g x
theorem wZ {g:Gn} {a b:List In} (h:bdL g a) (h2:bdL g b):bdL g (a++b):=fun x hx=>by
 rcases List.mem_append.1 hx with hx|hx
 ·exact h x hx
 ·exact h2 x hx
theorem zBy (g:Gn):bdL g []:=fun x hx=>by cases hx
theorem kM {g:Gn} {x:In} {l:List In} (h:bdI g x) (h2:bdL g l):bdL g (x::l):=fun y hy=>by
 rcases List.mem_cons.1 hy with rfl|hy
 ·exact h
 ·exact h2 y hy
theorem bd_o {g:Gn} {x:In} (h:x.Op≠10/\x.Op≠11):bdI g x:=fun c=>by rcases c with c|c;exact absurd c h.1;exact absurd c h.2
theorem bd_frm (g:Gn) (L:List ByteArray) (f:Lf) (r:Int):bdL g (frmC L f r):=by
 unfold frmC
 refine kM (bd_o ⟨(by simp [iN]),(by simp [iN])⟩) fun x hx=>?_
 obtain ⟨m,_,hm⟩:=List.mem_flatMap.1 hx
 unfold monC at hm
 rcases List.mem_cons.1 hm with rfl|hm
 ·exact bd_o ⟨(by simp [iN]),(by simp [iN])⟩
 ·rw [List.mem_singleton.1 hm];exact bd_o ⟨(by simp [iN]),(by simp [iN])⟩
theorem getD_mem {d:List Int} {j:Nat} (h:j<d.length):d.getD j 0∈d:=by
 rw [List.getD_eq_getElem?_getD,List.getElem?_eq_getElem h];exact List.getElem_mem h
theorem bd_lod {g:Gn} {s:ByteArray} (hs:hasBf g.n.Bufs s=true) (r:Int) {j:Nat} (hj:j<(g.dm s).length):bdL g (lodC (g.dm s) r j):=by
 unfold lodC
 split
 ·refine kM (fun _=>.inr ⟨rfl,rfl,rfl,bufD g.n.Bufs s,(bufD_mem hs).1,getD_mem hj⟩) (zBy g)
 ·exact zBy g
theorem zKz {g:Gn} (hg:g.Ok) {s:ByteArray} (hs:hasBf g.n.Bufs s=true) (o r x:Int):bdI g (iA o r x (g.bs_ s) (g.en s)):=fun _=>by
 obtain ⟨i,h1,h2,h3⟩:=zKx hs
 have h4:=hg.slot h1 (by rw [h3];exact h2)
 rw [h3] at h4
 exact .inl ⟨slD g.sl s,qB h4.1,rfl,rfl⟩
theorem bd_mapI {g:Gn} {α:Type} {f:Nat->α->List In} {l:List α} (h:∀(k:Nat) x,l[k]? =some x->bdL g (f k x)):bdL g (mapI f 0 l):=fun y hy=>by
 obtain ⟨k,x,hk,hx⟩:=zIy.1 hy
 rw [Nat.zero_add] at hx
 exact h k x hk y hx
theorem bd_two {g:Gn} {o a b c o' a' b' c':Int} (h:o≠10/\o≠11) (h':o'≠10/\o'≠11):bdL g [iN o a b c,iN o' a' b' c']:=
 kM (bd_o (x:=iN o a b c) h) (kM (bd_o (x:=iN o' a' b' c') h') (zBy g))
theorem bd_gat {g:Gn} (hg:g.Ok) {L:List ByteArray} {x:Ix} (h:RdI g L x) (hf:¬x.From=bs []) (ext:Int):bdL g (gatC g L x ext):=by
 obtain ⟨h1,h2,_⟩:=h.2 hf
 unfold gatC
 refine wZ (kM (bd_o ⟨(by simp [iN]),(by simp [iN])⟩) (bd_mapI fun k y hk=>?_)) (kM (zKz hg h1 _ _ _) (kM (bd_o ⟨(by simp [iN]),(by simp [iN])⟩) (zBy g)))
 unfold atC
 exact wZ (wZ (bd_frm g L y _) (bd_lod h1 _ (by rw [h2];exact zAl hk))) (bd_two ⟨(by decide),(by decide)⟩ ⟨(by decide),(by decide)⟩)
theorem bd_adr {g:Gn} (hg:g.Ok) {L:List ByteArray} {s:ByteArray} {idx:List Ix} (hs:hasBf g.n.Bufs s=true) (hl:(g.dm s).length=idx.length) (h:∀x,x∈idx->RdI g L x):bdL g (adrC g L s idx):=by
 unfold adrC
 refine kM (bd_o ⟨(by simp [iN]),(by simp [iN])⟩) (bd_mapI fun k x hk=>?_)
 unfold axC
 refine wZ ?_ (bd_two ⟨(by decide),(by decide)⟩ ⟨(by decide),(by decide)⟩)
 split
 ·exact wZ (bd_frm g L _ _) (bd_lod hs _ (by rw [hl];exact zAl hk))
 ·rename_i hf
  exact bd_gat hg (h x (qB hk)) hf _
theorem bd_n {g:Gn} {o a b c:Int} (h:o≠10/\o≠11):bdI g (iN o a b c):=bd_o h
theorem bd_k {g:Gn} {o k a b c:Int} {t:Ty} (h:o≠10/\o≠11):bdI g (iO o k a b c t):=bd_o h
theorem bd_ex {g:Gn} (hg:g.Ok) {L:List ByteArray} (e:Ex):Rdy g L e->(isCond e=false->∀p k b,bdL g (valC g L e p k b))/\(isCond e=true->∀p k b,bdL g (tstC g L e p k b)):=by
 induction e using Ex.ind with
 |_ e ih=>
  intro h
  have hop:=node_op (zAu h.part)
  refine ⟨fun hc p k b=>?_,fun hc p k b=>?_⟩
  ·have h13:¬13<=e.Op:=fun c=>by rw [isC_op.2 ⟨c,hop.2⟩] at hc;cases hc
   by_cases c1:e.Op=1
   ·rw [val_1 c1];exact kM (bd_o ⟨(by simp),(by simp)⟩) (zBy g)
   by_cases c2:e.Op=2
   ·rw [val_2 c2];exact wZ (bd_frm g L _ _) (kM (bd_n ⟨(by decide),(by decide)⟩) (zBy g))
   by_cases c3:e.Op=3
   ·obtain ⟨q1,q2,q3⟩:=h.read c3
    rw [val_3 c3];exact wZ (bd_adr hg q1 q2 q3) (kM (zKz hg q1 _ _ _) (zBy g))
   by_cases c8:e.Op=8
   ·obtain ⟨a,ha,hr,hca⟩:=h.args1 (.inl c8)
    rw [val_8 c8 ha];exact wZ ((ih a (by rw [ha];simp) hr).1 (by rw [hca,c8];rfl) _ _ _) (kM (bd_k ⟨(by decide),(by decide)⟩) (zBy g))
   by_cases c12:e.Op=12
   ·obtain ⟨a,ha,hr,hca⟩:=h.args1 (.inr (.inl c12))
    rw [val_12 c12 ha];exact wZ ((ih a (by rw [ha];simp) hr).1 (by rw [hca,c12];rfl) _ _ _) (kM (bd_k ⟨(by decide),(by decide)⟩) (zBy g))
   by_cases c11:e.Op=11
   ·obtain ⟨a,c,d,ha,⟨r1,k1⟩,⟨r2,k2⟩,⟨r3,k3⟩⟩:=h.args3 c11
    rw [val_11 c11 ha]
    unfold ifC
    have i1:=(ih a (by rw [ha];simp) r1).2 k1
    have i2:=(ih c (by rw [ha];simp) r2).1 k2
    have i3:=(ih d (by rw [ha];simp) r3).1 k3
    exact wZ (wZ (wZ (wZ (i1 _ _ _) (bd_two ⟨(by decide),(by decide)⟩ ⟨(by decide),(by decide)⟩)) (i2 _ _ _)) (kM (bd_n ⟨(by decide),(by decide)⟩) (zBy g))) (i3 _ _ _)
   obtain ⟨a,c,ha,⟨r1,k1⟩,⟨r2,k2⟩⟩:=h.args2 (by omega) (by omega) c11
   have k0:decide (e.Op=16∨e.Op=17)=false:=decide_eq_false (by omega)
   rw [val_o c1 c2 c3 c8 c12 c11 ha]
   exact wZ (wZ ((ih a (by rw [ha];simp) r1).1 (by rw [k1,k0]) _ _ _) ((ih c (by rw [ha];simp) r2).1 (by rw [k2,k0]) _ _ _)) (kM (bd_k ⟨(by decide),(by decide)⟩) (zBy g))
  ·have h13:=isC_op.1 hc
   by_cases c18:e.Op=18
   ·obtain ⟨a,ha,hr,hca⟩:=h.args1 (.inr (.inr c18))
    rw [tst_18 c18 ha];exact wZ ((ih a (by rw [ha];simp) hr).2 (by rw [hca,c18];rfl) _ _ _) (kM (bd_n ⟨(by decide),(by decide)⟩) (bd_two ⟨(by decide),(by decide)⟩ ⟨(by decide),(by decide)⟩))
   obtain ⟨a,c,ha,⟨r1,k1⟩,⟨r2,k2⟩⟩:=h.args2 (by omega) (by omega) (by omega)
   by_cases c16:e.Op=16∨e.Op=17
   ·have k0:decide (e.Op=16∨e.Op=17)=true:=decide_eq_true c16
    rw [tst_a c16 ha]
    exact wZ (wZ ((ih a (by rw [ha];simp) r1).2 (by rw [k1,k0]) _ _ _) ((ih c (by rw [ha];simp) r2).2 (by rw [k2,k0]) _ _ _)) (kM (bd_n (by split<;>exact ⟨(by decide),(by decide)⟩)) (zBy g))
   ·have k0:decide (e.Op=16∨e.Op=17)=false:=decide_eq_false c16
    rw [tst_o c18 c16 ha]
    exact wZ (wZ ((ih a (by rw [ha];simp) r1).1 (by rw [k1,k0]) _ _ _) ((ih c (by rw [ha];simp) r2).1 (by rw [k2,k0]) _ _ _)) (kM (bd_n ⟨(by decide),(by decide)⟩) (kM (bd_k ⟨(by decide),(by decide)⟩) (kM (bd_n ⟨(by decide),(by decide)⟩) (zBy g))))
theorem bd_seq {g:Gn} {pos:Int}:∀{l:List (Int->List In)} {a:List In},bdL g a->(∀f,f∈l->∀p,bdL g (f p))->bdL g (l.foldl (fun a f=>a++f (pos+a.length)) a)
 |[],a,h,_=>h
 |f::r,a,h,h2=>bd_seq (l:=r) (wZ h (h2 f (by simp) _)) fun q hq=>h2 q (by simp [hq])
theorem bd_rpt (g:Gn) (a x m:Int):bdL g (rptC a x m):=kM (bd_n ⟨(by decide),(by decide)⟩) (kM (bd_n ⟨(by decide),(by decide)⟩) (bd_two ⟨(by decide),(by decide)⟩ ⟨(by decide),(by decide)⟩))
theorem bd_unr {g:Gn} {c:Int->List In} (h:∀p,bdL g (c p)) (d p:Int):∀k,bdL g (unrC c d p k)
 |0=>zBy g
 |k+1=>by rw [unrC];exact wZ (bd_unr h d p k) (kM (bd_n ⟨(by decide),(by decide)⟩) (h _))
theorem bd_sto {g:Gn} (hg:g.Ok) {L:List ByteArray} {s:St} (h1:Rdy g L s.E) (h2:isCond s.E=false) (h3:Rdy g L (rdE s)) (p:Int):bdL g (stoC g L s p):=by
 obtain ⟨q1,q2,q3⟩:=h3.read rfl
 have e1:(rdE s).Name=s.Name:=rfl
 have e2:(rdE s).Idx=s.Idx:=rfl
 rw [e1] at q1 q2
 rw [e2] at q2 q3
 unfold stoC
 refine wZ (wZ ((bd_ex hg s.E h1).1 h2 _ _ _) (bd_adr hg q1 q2 q3)) ?_
 split
 ·exact kM (zKz hg q1 _ _ _) (kM (bd_k ⟨(by decide),(by decide)⟩) (kM (zKz hg q1 _ _ _) (zBy g)))
 ·exact kM (zKz hg q1 _ _ _) (zBy g)
theorem bd_st {g:Gn} (hg:g.Ok) (s:St):∀L:List ByteArray,RdS g s L->∀p,bdL g (stC g s L p):=by
 induction s using St.ind with
 |_ s ih=>
  intro L h p
  rw [RdS_eq] at h
  obtain ⟨h1,h4,h2,h0⟩:=h
  have hb:∀L':List ByteArray,RdSs g s.Body L'->∀q,bdL g (stsC g s.Body L' q):=fun L' hL q=>bd_seq (zBy g) fun f hf r=>by
   obtain ⟨a,ha,rfl⟩:=List.mem_map.1 hf
   exact ih a ha L' (zJx hL ha) r
  rw [stC_eq]
  split
  ·rename_i c
   split
   ·exact bd_unr (fun q=>hb _ (h1 c).2 q) _ _ _
   ·unfold forC;exact wZ (kM (bd_n ⟨(by decide),(by decide)⟩) (hb _ (h1 c).2 _)) (bd_rpt g _ _ _)
  ·rename_i c
   split
   ·rename_i c4
    obtain ⟨r1,r2,r3⟩:=h4 c4
    unfold iffC
    exact wZ (wZ ((bd_ex hg s.E r1).2 r2 _ _ _) (bd_two ⟨(by decide),(by decide)⟩ ⟨(by decide),(by decide)⟩)) (hb _ r3 _)
   ·rename_i c4
    obtain ⟨r1,r2,r3⟩:=h2 (by omega)
    exact bd_sto hg r1 r2 r3 p
theorem bd_clr {g:Gn} (hg:g.Ok) {s:ByteArray} (hs:hasBf g.n.Bufs s=true) (p:Int):bdL g (clrC g s p):=by
 unfold clrC
 exact kM (bd_o ⟨(by simp),(by simp)⟩) (kM (bd_n ⟨(by decide),(by decide)⟩) (kM (zKz hg hs _ _ _) (bd_rpt g _ _ _)))
theorem bd_top {g:Gn} (hg:g.Ok) (hr:RdSs g g.n.Body []) (lv:List Lifetime):bdL g (topC g lv):=by
 unfold topC
 refine wZ (bd_seq (zBy g) fun f hf p=>?_) (kM (bd_n ⟨(by decide),(by decide)⟩) (zBy g))
 obtain ⟨i,s,hs,hf⟩:=zIy.1 hf
 unfold topF at hf
 rcases List.mem_append.1 hf with hf|hf
 ·obtain ⟨k,b,hb,hf⟩:=zIy.1 hf
  unfold clrF at hf
  split at hf
  ·rw [List.mem_singleton.1 hf];exact bd_clr hg (hasBf_at hb rfl) p
  ·cases hf
 ·rw [List.mem_singleton.1 hf];exact bd_st hg s [] (zJx hr (qB hs)) p
end Go.Br
