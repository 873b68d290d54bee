/-
  Small programs and few names; the bounds of a program with tangents; the chapter's example.
  Conditions: none.
-/
import Derived.Test.YtkijgodlhljgdaaGreatDoorPlain2
set_option linter.unusedSimpArgs false
set_option linter.unusedVariables false
namespace Go.Br
open Go Go.Eng Go.L41
def dWt (d:Df):Nat:=d.Dims.length+d.Red.length+weighE d.Body 1500
def smD:List Df->Nat->Nat
 |[],n=>n
 |d::r,n=>if n<=1500 then smD r (n+dWt d) else n
def smP:List Pm->Nat->Nat
 |[],n=>n
 |x::r,n=>if n<=1500 then smP r (n+x.Dims.length) else n
def lensP (p:Pg):Bool:=((((!decide (40<p.Params.length)&& !decide (40<p.Defs.length))&& !decide (40<p.Outs.length))&& !decide (80<p.Sizes.length))&& !decide (80<p.Where.length))
def smlP (p:Pg):Bool:=lensP p&&decide (smP p.Params (smD p.Defs 0)<=1500)
theorem smD_ge:∀(l:List Df) (n:Nat),n<=smD l n
 |[],n=>Nat.le_refl _
 |d::r,n=>by
  rw [smD]
  split
  ·have:=smD_ge r (n+dWt d);omega
  ·exact Nat.le_refl _
theorem smP_ge:∀(l:List Pm) (n:Nat),n<=smP l n
 |[],n=>Nat.le_refl _
 |d::r,n=>by
  rw [smP]
  split
  ·have:=smP_ge r (n+d.Dims.length);omega
  ·exact Nat.le_refl _
theorem smD_all:∀(l:List Df) (n:Nat),smD l n<=1500->∀d,d∈l->dWt d<=1500
 |x::r,n,h,d,hd=>by
  rw [smD] at h
  by_cases c:n<=1500
  ·rw [if_pos c] at h
   rcases List.mem_cons.1 hd with rfl|hd
   ·have:=smD_ge r (n+dWt d);omega
   ·exact smD_all r _ h d hd
  ·rw [if_neg c] at h;exact absurd h c
theorem smP_all:∀(l:List Pm) (n:Nat),smP l n<=1500->∀d,d∈l->d.Dims.length<=1500
 |x::r,n,h,d,hd=>by
  rw [smP] at h
  by_cases c:n<=1500
  ·rw [if_pos c] at h
   rcases List.mem_cons.1 hd with rfl|hd
   ·have:=smP_ge r (n+d.Dims.length);omega
   ·exact smP_all r _ h d hd
  ·rw [if_neg c] at h;exact absurd h c
theorem smD_next {l:List Df} {k n N:Nat} {d:Df} (h:l[k]? =some d) (hp:N=smD (l.drop k) n) (c:n<=1500):N=smD (l.drop (k+1)) (n+dWt d):=by
 rw [hp,qM h,smD,if_pos c]
theorem smD_end {l:List Df} {k n N:Nat} (hp:N=smD (l.drop k) n) (c:¬(k<l.length/\n<=1500)):N=n:=by
 rw [hp]
 by_cases h:k<l.length
 ·obtain ⟨x,hx⟩:=qQ l k h
  rw [qM hx,smD,if_neg (fun d=>c ⟨h,d⟩)]
 ·rw [kB h,smD]
theorem smP_next {l:List Pm} {k n N:Nat} {d:Pm} (h:l[k]? =some d) (hp:N=smP (l.drop k) n) (c:n<=1500):N=smP (l.drop (k+1)) (n+d.Dims.length):=by
 rw [hp,qM h,smP,if_pos c]
theorem smP_end {l:List Pm} {k n N:Nat} (hp:N=smP (l.drop k) n) (c:¬(k<l.length/\n<=1500)):N=n:=by
 rw [hp]
 by_cases h:k<l.length
 ·obtain ⟨x,hx⟩:=qQ l k h
  rw [qM hx,smP,if_neg (fun d=>c ⟨h,d⟩)]
 ·rw [kB h,smP]
structure Pg.Frm (p:Pg):Prop where
 whs:∀c,c∈p.Where->c.Lin.L.length<=5864062014805
 ps:∀x,x∈p.Params->∀l,l∈x.Dims->l.L.length<=5864062014805
 ds:∀d,d∈p.Defs->(∀a,a∈d.Dims->a.Size.L.length<=5864062014805)/\∀a,a∈d.Red->a.Size.L.length<=5864062014805
structure Pg.Sm (p:Pg):Prop where
 sizes:p.Sizes.length<=80
 wh:p.Where.length<=80
 params:p.Params.length<=40
 defs:p.Defs.length<=40
 outs:p.Outs.length<=40
 frm:p.Frm
 ps:∀x,x∈p.Params->x.Dims.length<=1500
 ds:∀d,d∈p.Defs->d.Dims.length<=1500/\d.Red.length<=1500/\d.Body.wt<=1500
theorem sml_is {p:Pg} (h:smlP p=true) (hf:p.Frm):p.Sm:=by
 unfold smlP lensP at h
 simp only [Bool.and_eq_true,Bool.not_eq_true',decide_eq_false_iff_not,decide_eq_true_eq] at h
 obtain ⟨⟨⟨⟨⟨h1,h2⟩,h3⟩,h4⟩,h5⟩,h6⟩:=h
 refine ⟨by omega,by omega,by omega,by omega,by omega,hf,smP_all _ _ h6,fun d hd=>?_⟩
 have h7:=smD_all p.Defs 0 (Nat.le_trans (smP_ge _ _) h6) d hd
 unfold dWt at h7
 have:=weighE_wt d.Body 1500 (by omega)
 exact ⟨by omega,by omega,by omega⟩
theorem Pg.Sm.ok {p:Pg} (h:p.Sm):p.Ok:=
 ⟨Nat.le_trans h.sizes (by decide),Nat.le_trans h.wh (by decide),Nat.le_trans h.params (by decide),Nat.le_trans h.defs (by decide),Nat.le_trans h.outs (by decide),h.frm.whs,
  fun x hx=>⟨Nat.le_trans (h.ps x hx) (by decide),h.frm.ps x hx⟩,
  fun d hd=>⟨Nat.le_trans (h.ds d hd).1 (by decide),Nat.le_trans (h.ds d hd).2.1 (by decide),(h.frm.ds d hd).1,(h.frm.ds d hd).2,Nat.le_trans (h.ds d hd).2.2 (by decide)⟩⟩
/-! ## What the loop over the definitions makes is small -/
def smDf (d:Df):Prop:=d.Dims.length<=1500/\d.Red.length<=1500/\(∀a,a∈d.Dims->a.Size.L.length<=5864062014805)/\(∀a,a∈d.Red->a.Size.L.length<=5864062014805)/\d.Body.wt<=9000000
theorem sq_bd {w:Nat} (h:w<=1500):4*(w*w)<=9000000:=by
 have:=Nat.mul_le_mul h h;omega
theorem derF_sm {n:En} {d:Df} {A:List ByteArray} (h:d.Dims.length<=1500/\d.Red.length<=1500/\(∀a,a∈d.Dims->a.Size.L.length<=5864062014805)/\(∀a,a∈d.Red->a.Size.L.length<=5864062014805)/\d.Body.wt<=1500):smDf (derF n d A).1:=by
 have hz:smDf nDf:=⟨by show 0<=_;omega,by show 0<=_;omega,(fun a ha=>by cases ha),(fun a ha=>by cases ha),by decide+kernel⟩
 unfold derF
 repeat' split
 all_goals first|exact hz|exact ⟨h.1,h.2.1,h.2.2.1,h.2.2.2.1,Nat.le_trans (expr_wt n A d.Body) (sq_bd h.2.2.2.2)⟩
theorem Pg.Sm.df {p:Pg} (h:p.Sm) {d:Df} (hd:d∈p.Defs):d.Dims.length<=1500/\d.Red.length<=1500/\(∀a,a∈d.Dims->a.Size.L.length<=5864062014805)/\(∀a,a∈d.Red->a.Size.L.length<=5864062014805)/\d.Body.wt<=1500:=
 ⟨(h.ds d hd).1,(h.ds d hd).2.1,(h.frm.ds d hd).1,(h.frm.ds d hd).2,(h.ds d hd).2.2⟩
theorem defG_sm {n:En}:∀(l O:List Df) (A:List ByteArray),(∀d,d∈l->d.Dims.length<=1500/\d.Red.length<=1500/\(∀a,a∈d.Dims->a.Size.L.length<=5864062014805)/\(∀a,a∈d.Red->a.Size.L.length<=5864062014805)/\d.Body.wt<=1500)->(∀d,d∈O->smDf d)->
  (∀d,d∈(defG n O A l).1->smDf d)/\(defG n O A l).1.length<=O.length+2*l.length/\(defG n O A l).2.1.length<=A.length+l.length
 |[],O,A,_,hO=>by rw [defG];exact ⟨hO,by simp,by simp⟩
 |x::r,O,A,hl,hO=>by
  have hx:=hl x (by simp)
  have hxs:smDf x:=⟨hx.1,hx.2.1,hx.2.2.1,hx.2.2.2.1,by omega⟩
  rw [defG]
  split
  ·split
   ·obtain ⟨h1,h2,h3⟩:=defG_sm (n:=n) r (O++[x,(derF n x A).1]) (A++[x.Name]) (fun d hd=>hl d (by simp [hd])) (fun d hd=>by
     simp only [List.mem_append,List.mem_cons,List.not_mem_nil,or_false] at hd
     rcases hd with hd|rfl|rfl
     ·exact hO d hd
     ·exact hxs
     ·exact derF_sm hx)
    refine ⟨h1,?_,?_⟩
    ·simp only [List.length_append,List.length_cons,List.length_nil] at h2⊢;omega
    ·simp only [List.length_append,List.length_cons,List.length_nil] at h3⊢;omega
   ·obtain ⟨h1,h2,h3⟩:=defG_sm (n:=n) r (O++[x]) A (fun d hd=>hl d (by simp [hd])) (fun d hd=>by
     simp only [List.mem_append,List.mem_cons,List.not_mem_nil,or_false] at hd
     rcases hd with hd|rfl
     ·exact hO d hd
     ·exact hxs)
    refine ⟨h1,?_,?_⟩
    ·simp only [List.length_append,List.length_cons,List.length_nil] at h2⊢;omega
    ·simp only [List.length_cons] at h3⊢;omega
  ·exact ⟨(fun d hd=>by cases hd),by simp,by simp⟩
theorem pmOf_sm {p:Pg} (h:p.Sm) (s:ByteArray):(pmOf p s).Dims.length<=1500/\∀l,l∈(pmOf p s).Dims->l.L.length<=5864062014805:=by
 unfold pmOf
 cases c:fndP s p.Params with
 |none=>exact ⟨by show 0<=_;omega,(fun l hl=>by cases hl)⟩
 |some x=>exact ⟨h.ps x (fndP_mem c).1,h.frm.ps x (fndP_mem c).1⟩
theorem outG_ok {p:Pg} (h:p.Sm) {O:List Df} {A l:List ByteArray} {M:List Pm} (hO:∀d,d∈O->smDf d) (hOl:O.length<=1000) (hl:M.length<=1000) (hM:∀x,x∈M->x.Dims.length<=1500/\∀l,l∈x.Dims->l.L.length<=5864062014805):(outG p O A M).Ok:=by
 have ho:=h.outs
 have hp:=h.params
 refine ⟨Nat.le_trans h.sizes (by decide),Nat.le_trans h.wh (by decide),?_,Nat.le_trans hOl (by decide),?_,h.frm.whs,fun x hx=>?_,fun d hd=>?_⟩
 ·show (p.Params++M).length<=_
  rw [List.length_append];omega
 ·show (p.Outs++_).length<=_
  rw [List.length_append,List.length_map]
  have:=List.length_filter_le (hasB A) p.Outs
  omega
 ·have hx':x∈p.Params++M:=hx
  rcases List.mem_append.1 hx' with hx|hx
  ·exact ⟨Nat.le_trans (h.ps x hx) (by decide),h.frm.ps x hx⟩
  ·exact ⟨Nat.le_trans (hM x hx).1 (by decide),(hM x hx).2⟩
 ·obtain ⟨h1,h2,h3,h4,h5⟩:=hO d hd
  exact ⟨by omega,by omega,h3,h4,by omega⟩
theorem morP_sm {p:Pg} (h:p.Sm) (l:List ByteArray):∀x,x∈morP p l->x.Dims.length<=1500/\∀l,l∈x.Dims->l.L.length<=5864062014805:=fun x hx=>by
 unfold morP at hx
 obtain ⟨s,hs,rfl⟩:=List.mem_map.1 hx
 exact pmOf_sm h s
theorem progF_sm {p:Pg} {l:List ByteArray} (h:p.Sm) (hl:l.length<=1000):(progF p l).1.Ok:=by
 have hz:nPg.Ok:=⟨by decide,by decide,by decide,by decide,by decide,(fun c hc=>by cases hc),(fun c hc=>by cases hc),(fun c hc=>by cases hc)⟩
 unfold progF
 split
 ·split
  ·split
   ·split
    ·obtain ⟨h1,h2,h3⟩:=defG_sm (n:=p.en) p.Defs [] l (fun d hd=>h.df hd) (fun d hd=>by cases hd)
     have:=h.defs
     exact outG_ok (l:=l) h h1 (by simp only [List.length_nil] at h2;omega) (by unfold morP;rw [List.length_map];omega) (morP_sm h l)
    ·exact hz
   ·exact hz
  ·exact hz
 ·exact hz
/-! ## Few names -/
def fewN (l:List ByteArray):Bool:= !decide (40<l.length)&&l.all fun s=>decide (s.size<=100)
theorem few_is {l:List ByteArray} (h:fewN l=true):l.length<=40/\∀s,s∈l->s.size<=100:=by
 unfold fewN at h
 simp only [Bool.and_eq_true,Bool.not_eq_true',decide_eq_false_iff_not,List.all_eq_true,decide_eq_true_eq] at h
 exact ⟨by omega,h.2⟩
/-! ## The example -/
def vrN (c:UInt8):Lf:=⟨0,[⟨bs [c],1⟩]⟩
def sqA:Ex:=.mk 3 (bs [97]) ⟨0,0⟩ ⟨0,0,0,0,0⟩ ⟨0,[]⟩ [⟨vrN 105,bs [],[]⟩] []
def sqB:Ex:=opE 6 [sqA,sqA]
def sqP:Pg:=⟨[bs [110]],[],[⟨bs [97],frT,[vrN 110]⟩],[⟨bs [115],frT,[],[⟨bs [105],vrN 110⟩],1,sqB⟩],[bs [115]]⟩
end Go.Br
