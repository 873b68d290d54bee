/-
  Walks: what functions of the program compute. Printed by wip/gen/mk2.py.
  Conditions: none.
-/
import Derived.Test.YtkidnhldibjiaaaGreatDoorKA
import Derived.Test.YtkidnhldibjiaaaGreatDoorPlain3
set_option linter.unusedSimpArgs false
set_option linter.unusedVariables false
set_option maxRecDepth 10000
namespace Go.W
open Go Go.Eng Go.Proofs Go.L41 Go.Br
attribute [local irreducible] AWP RWP TD finQ
theorem agg47:aggT Tryz.prog 47=some 14:=by kernel_rfl
theorem agg79:aggT Tryz.prog 79=some 16:=by kernel_rfl
theorem el32:elemT Tryz.prog 32=some (47,14,168):=by kernel_rfl
theorem el76:elemT Tryz.prog 76=some (79,16,200):=by kernel_rfl
theorem fd47_0:fieldT Tryz.prog 47 0=some (0,44):=by kernel_rfl
theorem fd47_1:fieldT Tryz.prog 47 1=some (13,3):=by kernel_rfl
theorem zPi:fieldT Tryz.prog 79 0=some (0,47):=by kernel_rfl
theorem fd79_2:fieldT Tryz.prog 79 2=some (15,61):=by kernel_rfl
theorem ok20:callOk Tryz.prog 20=true:=by kernel_rfl
theorem ok33:callOk Tryz.prog 33=true:=by kernel_rfl
theorem ok81:callOk Tryz.prog 81=true:=by kernel_rfl
theorem ok92:callOk Tryz.prog 92=true:=by kernel_rfl
theorem ok152:callOk Tryz.prog 152=true:=by kernel_rfl
theorem pl47:placesT Tryz.prog 47=some [(0,13),(13,1)]:=by kernel_rfl
theorem pl79:placesT Tryz.prog 79=some [(0,14),(14,1),(15,1)]:=by kernel_rfl
theorem zr47:zeroT Tryz.prog 47=some [(Value.int IntKind.i64 0),(Value.string (ByteArray.mk #[])),(Value.int IntKind.i64 0),(Value.int IntKind.i64 0),(Value.int IntKind.i64 0),(Value.int IntKind.i64 0),(Value.int IntKind.i64 0),(Value.int IntKind.i64 0),(Value.int IntKind.i64 0),(Value.int IntKind.i64 0),(Value.slice none 0 0),(Value.slice none 0 0),(Value.slice none 0 0),(Value.int IntKind.i64 0)]:=by kernel_rfl
theorem zr79:zeroT Tryz.prog 79=some [(Value.int IntKind.i64 0),(Value.string (ByteArray.mk #[])),(Value.int IntKind.i64 0),(Value.int IntKind.i64 0),(Value.int IntKind.i64 0),(Value.int IntKind.i64 0),(Value.int IntKind.i64 0),(Value.int IntKind.i64 0),(Value.int IntKind.i64 0),(Value.int IntKind.i64 0),(Value.slice none 0 0),(Value.slice none 0 0),(Value.slice none 0 0),(Value.int IntKind.i64 0),(Value.int IntKind.i64 0),(Value.slice none 0 0)]:=by kernel_rfl
theorem r23_add_step (k:Nat) (d:Df) (h1:d.Dims.length<=1000000) (h2:d.Red.length<=1000000) (h3:∀a,a∈d.Dims->a.Size.L.length<=5864062014805) (h4:∀a,a∈d.Red->a.Size.L.length<=5864062014805) (x:Ex) (ih:∀a,a∈x.Args->a.wt<=2000000->a.ops->∀(sv:Value) (L:List Cl),clN L+(occE d a).length<=1000000->(∀c,c∈L->c.Bd)->Con cfg 81 [.c (.lit sv),vI k,vDf d,vE a] [E.vec sv 79 16 (L.map Cl.rcells)] fun r μ'=>∃sv',r=.c (.lit sv')/\μ'=[E.vec sv' 79 16 ((addX d k L (occE d a)).map Cl.rcells)]) (hx:x.wt<=2000000) (ho:x.ops) (sv:Value) (L:List Cl) (hL:clN L+(occE d x).length<=1000000) (hLw:∀c,c∈L->c.Bd):
    Con cfg 81 [.c (.lit sv),vI k,vDf d,vE x] [E.vec sv 79 16 (L.map Cl.rcells)] fun r μ'=>∃sv',r=.c (.lit sv')/\μ'=[E.vec sv' 79 16 ((addX d k L (occE d x)).map Cl.rcells)]:=by
 refine zR Tryz.func81 O Tryz.ntmps81 Tryz.results81 O ?_
 intro z hz
 have hal:=axsN_len d x
 have hLl:=clN_len (fun c hc=>(hLw c hc).1)
 have hxl:=(x.parts hx).2.2
 refine G O<|zS O O (qG O O) ?_
 rintro _ _ ⟨b1,rfl,rfl⟩
 refine zS O O (qG O O) ?_
 rintro _ _ ⟨b2,rfl,rfl⟩
 refine zX O (yA 16 O O)<|W<|zG<|zG<|zU _ (yC 1 O 6 _ PLe.ptr)<|zU _ (yC 0 O 7 _ PLe.ptr)<|zO O<|zL wM zY O<|zL qZ zY O<|qK O ok152 (r23_counted d x hx h1 h2) ⟨U,O,U,O,T⟩<|W<|zE O (fun c1=>?_) (fun c1=>?_)
 ·have he:eligT d x=true:=(elig_eq (ops_top ho)).symm.trans c1
  refine G O<|zL wM zY O<|zL qZ zY O<|qK O ok153 (OwnR.pur (r23_axes d x hx h1 h2)) ⟨U,O,U,O,T⟩<|Y O<|W<|G O<|Y O<|W<|zG<|zN<|zU ⟨[(10,.c _),(0,.c _),(1,.c _),(6,.c _),(7,.c _),(9,.c _)],[_]⟩ (Weak.mk [true] ⟨U,U,U,U,U,U,T⟩ O)<|qA 1 0 O O (Nat) (fun j=>[(10,vI j)]) (fun j=>[]) (fun j=>j<=L.length/\(L.take j).any (hitC x (axsN d x))=false) (fun j=>L.length-j) ⟨0,⟨by omega,O⟩,Weak.mk [true] ⟨U,U,U,U,U,U,T⟩ O⟩ ?_
  rintro j ⟨hj,hq⟩
  refine zG<|zG<|qY 24 mixed (by kernel_rfl) O O<|zM O O (zQ O O)<|zM O O (zQ O O)<|zM O O (zFc 0 O el76 O O)<|zM O O (zDy O O O)<|zM O O (zQ O O)<|qC [] O O O O gv1 T (fun g4_4=>zQ O O) O<|qC [] O O O O gv1 T (fun g4_4=>zQ O O) O<|qC [(23,_),(24,_)] O O O O gv1 ⟨O,O,O,O,T⟩ (fun g4_4=>qR 0 O el76 O O O (by omega) (by rw [List.length_map];exact (by simp only [Lz,cond_true,cond_false,Bool.and_eq_true,Bool.or_eq_true,Bool.not_eq_true',Bool.not_eq_false',Bool.or_eq_false_iff,Bool.and_eq_false_iff,decide_eq_true_eq,decide_eq_false_iff_not,Bool.not_eq_true,Bool.not_eq_false,List.length_map] at g4_4;omega))) O<|qC [(25,_)] O O O O gv1 ⟨O,O,T⟩ (fun g4_4=>yK O zPi O) O<|qC [(26,_)] O O O O gv1 ⟨O,O,T⟩ (fun g4_4=>yK O fd47_0 O) O<|qC [(27,_)] O O O O gv1 ⟨O,O,T⟩ (fun g4_4=>zT O qZ O (kN 0 O (getm (clG (by simp only [Lz,cond_true,cond_false,Bool.and_eq_true,Bool.or_eq_true,Bool.not_eq_true',Bool.not_eq_false',Bool.or_eq_false_iff,Bool.and_eq_false_iff,decide_eq_true_eq,decide_eq_false_iff_not,Bool.not_eq_true,Bool.not_eq_false,List.length_map] at g4_4;omega)))) O) O<|qC [] O O O O gv1 T (fun g4_4=>zT O qZ O zY O) O<|qC [(28,_),(29,_)] O O O O gv1 ⟨O,O,O,O,T⟩ (fun g4_4=>qH O ok12 (zGn (L.getD j zCl).e x (by have:=(hLw (L.getD j zCl) (clG_mem (by simp only [Lz,cond_true,cond_false,Bool.and_eq_true,Bool.or_eq_true,Bool.not_eq_true',Bool.not_eq_false',Bool.or_eq_false_iff,Bool.and_eq_false_iff,decide_eq_true_eq,decide_eq_false_iff_not,Bool.not_eq_true,Bool.not_eq_false,List.length_map] at g4_4;omega))).2.1;omega)) ⟨U,O,U,O,T⟩) O<|qC [(30,_)] O O O O gv1 ⟨O,O,T⟩ (fun g4_4=>zQ O O) O<|qC [] O O O O q T (fun g4_13=>zQ O O) O<|qC [] O O O O q T (fun g4_13=>zQ O O) O<|qC [(32,_),(33,_)] O O O O q ⟨O,O,O,O,T⟩ (fun g4_13=>qR 0 O el76 O O O (by omega) (by rw [List.length_map];exact (by simp only [Lz,cond_true,cond_false,Bool.and_eq_true,Bool.or_eq_true,Bool.not_eq_true',Bool.not_eq_false',Bool.or_eq_false_iff,Bool.and_eq_false_iff,decide_eq_true_eq,decide_eq_false_iff_not,Bool.not_eq_true,Bool.not_eq_false,List.length_map] at g4_13;omega))) O<|qC [(34,_)] O O O O q ⟨O,O,T⟩ (fun g4_13=>yK O fd79_2 O) O<|qC [(35,_)] O O O O q ⟨O,O,T⟩ (fun g4_13=>zK O kQ O (kN 0 O (getm (clG (by simp only [Lz,cond_true,cond_false,Bool.and_eq_true,Bool.or_eq_true,Bool.not_eq_true',Bool.not_eq_false',Bool.or_eq_false_iff,Bool.and_eq_false_iff,decide_eq_true_eq,decide_eq_false_iff_not,Bool.not_eq_true,Bool.not_eq_false,List.length_map] at g4_13;omega)))) O) O<|qC [] O O O O q T (fun g4_13=>zQ O O) O<|qC [(36,_),(37,_)] O O O O q ⟨O,O,O,O,T⟩ (fun g4_13=>qH O ok100 (base_Axes (L.getD j zCl).axes (axsN d x) (by have:=(hLw (L.getD j zCl) (clG_mem (by simp only [Lz,cond_true,cond_false,Bool.and_eq_true,Bool.or_eq_true,Bool.not_eq_true',Bool.not_eq_false',Bool.or_eq_false_iff,Bool.and_eq_false_iff,decide_eq_true_eq,decide_eq_false_iff_not,Bool.not_eq_true,Bool.not_eq_false,List.length_map] at g4_13;omega))).2.2.1;omega) (fun a ha=>by have:=(hLw (L.getD j zCl) (clG_mem (by simp only [Lz,cond_true,cond_false,Bool.and_eq_true,Bool.or_eq_true,Bool.not_eq_true',Bool.not_eq_false',Bool.or_eq_false_iff,Bool.and_eq_false_iff,decide_eq_true_eq,decide_eq_false_iff_not,Bool.not_eq_true,Bool.not_eq_false,List.length_map] at g4_13;omega))).2.2.2 a ha;omega)) ⟨U,O,U,O,T⟩) O<|qC [(31,_)] O O O O gv1 ⟨O,O,T⟩ (fun g4_4=>wF O O O (fun h=>kE (by assumption) h) O) O<|qC [(39,_)] O O O O gv1 ⟨O,O,T⟩ (fun g4_4=>wB O O) O<|zM O O (wF O O O (fun h=>h) O)<|yT<|W<|zE O (fun c2=>?_) (fun c2=>?_)
  ·obtain ⟨hjl,hmiss⟩:=srch_on c2
   refine zI<|zN<|zO O<|Y O<|qB O ⟨by omega,by omega⟩<|Y O<|W ?_
   refine ⟨j+1,⟨by omega,zHd (clG hjl) hq hmiss⟩,(by omega),Weak.mk [true] ⟨U,U,U,U,U,U,T⟩ O⟩
  ·have hstop:=srch_off c2
   refine qE<|zG<|G O<|Y O<|Y O<|zX O (zFc 0 O el76 O O)<|yG O<|W<|zE O (fun c3=>?_) (fun c3=>?_)
   ·try simp only [sx] at c3
    have hjl:j=L.length:=by omega
    have hno:=hq
    rw [hjl,List.take_length] at hno
    have hN0:(putC L k x (axsN d x))=addX d k L (visP d x 0):=by rw [zDz,headX,if_pos he];rfl
    refine zO O<|Y O<|zL qZ zY O<|yW O zr47 pl47<|Y O<|Y O<|yW O zr79 pl79<|qX O el76 zr79<|zS O O (qO 0 O el76 O O O (by simp only [List.length_map,List.length_append,List.length_cons,List.length_nil,List.length_take,List.length_drop];omega) (by simp only [List.length_map,List.length_append,List.length_cons,List.length_nil,List.length_take,List.length_drop];omega)) ?_
    rintro _ _ ⟨sv3,rfl,rfl⟩
    refine Y O<|W<|zO O<|Y O<|Y O<|zX O (qR 0 O el76 O O O (by omega) (by simp;omega))<|zX O (yK O zPi O)<|zX O (yK O fd47_1 O)<|zH one3 (kN 0 O (get_lst2 hjl)) O<|qB O ⟨by omega,by omega⟩<|zX O (qR 0 O el76 O O O (by omega) (by simp;omega))<|zX O (yK O zPi O)<|zX O (yK O fd47_1 O)<|zCd O O (kU O sz3 O O O (zLq 0 O (get_lst2 hjl) O))<|qV _ (Weak.vecEq 0 O (rows':=(putC L k x (axsN d x)).map Cl.rcells) (by exact (set_lst2 hjl).trans (zOf (f:=Cl.rcells) hno).symm))<|W<|zG<|G O<|Y O<|W<|zN<|zU ⟨[(11,.c _),(0,.c _),(1,.c _),(6,.c _),(7,.c _)],[_]⟩ (Weak.mk [true] ⟨U,U,U,U,U,T⟩ O)<|qA 2 1 O O (Nat×Value) (fun ⟨i,sw⟩=>[(11,vI i),(0,.c (.lit sw))]) (fun ⟨i,sw⟩=>[E.vec sw 79 16 ((addX d k L (visP d x i)).map Cl.rcells)]) (fun ⟨i,sw⟩=>i<=x.Args.length) (fun ⟨i,sw⟩=>x.Args.length-i) ⟨⟨0,_⟩,(by omega),Weak.mk [true] ⟨U,U,U,U,U,T⟩ (by exact yX (congrArg (fun l=>l.map Cl.rcells) hN0))⟩ ?_
    rintro ⟨i,sw⟩ hi
    show AWP _ _ _ _ _ ⟨[(11,vI i),(0,.c (.lit sw))]++_,[E.vec sw 79 16 ((addX d k L (visP d x i)).map Cl.rcells)]++_⟩
    refine zG<|G O<|Y O<|qN O kG<|zH wS zY O<|zX O (wG O el42 O)<|qW O<|W<|zE O (fun c4=>?_) (fun c4=>?_)
    ·try simp only [sx] at c4
     obtain ⟨y,hy⟩:=qP x.Args i (by omega)
     refine zI<|zG<|zN<|G O<|qN O yY<|zH one3 zY O<|yR O<|Y O<|rL0 O (fun g12_3=>zQ O O) O<|rL1 77 O (fun g12_3=>yL O O O) O<|r_or O (fun h=>(lzf h))<|W<|zE O (fun c5=>?_) (fun c5=>?_)
     ·try simp only [sx] at c5
      have hvl:=zKd (d:=d) hy c5
      refine qY 8 mixed (by kernel_rfl) O O<|zM O O (zQ O O)<|zM O O (zQ O O)<|zM O O (zT O wM O zY O)<|zM O O (qQ O kG O)<|zM O O (zK O wS O zY O)<|zM O O (zQ O O)<|zM O O (qJ O el42 O O (by omega) (zBr hy))<|zM O O (zT O qZ O zY O)<|yT<|zS O O (zBi 0 O O ok81 (ih y (zW hy) (by have:=Ex.arg_wt (zW hy);omega) (ops_arg ho (zW hy)) sw (addX d k L (visP d x i)) (by have:=zKd (d:=d) hy c5;rw [zIl];omega) (addX_bd h1 h2 h3 h4 hLw (fun z hz=>vis_wt hx hz))) ⟨U,O,U,O,U,O,U,O,T⟩) ?_
      rintro _ _ ⟨sv4,rfl,rfl⟩
      refine Y O<|W<|zO O<|Y O<|qB O ⟨by omega,by omega⟩<|Y O<|W ?_
      refine ⟨⟨i+1,sv4⟩,(by omega),(by show x.Args.length-(i+1)<x.Args.length-i;omega),Weak.mk [true] ⟨U,U,U,U,U,T⟩ (by exact yX (by rw [zEt hy c5,zNf]))⟩
     ·try simp only [sx] at c5
      refine zI<|zO O<|Y O<|qB O ⟨by omega,by omega⟩<|Y O<|W ?_
      refine ⟨⟨i+1,sw⟩,(by omega),(by show x.Args.length-(i+1)<x.Args.length-i;omega),Weak.mk [true] ⟨U,U,U,U,U,T⟩ (by exact yX (by rw [zNl hy c5]))⟩
    ·try simp only [sx] at c4
     refine qE<|G O<|Y O<|Y O<|W<|zJ<|zP O ?_
     rw [zIp (d:=d) (e:=x) (k:=i) (by omega)]
     exact ⟨_,O,O⟩
   ·try simp only [sx] at c3
    have hjl:j<L.length:=by omega
    have hcj:=clG hjl
    have hhit:=hstop hjl
    have hcn:=clN_mem (zW hcj)
    have hN0:(putC L k x (axsN d x))=addX d k L (visP d x 0):=by rw [zDz,headX,if_pos he];rfl
    refine zI<|zO O<|Y O<|Y O<|zX O (qR 0 O el76 O O O (by omega) (by simp;omega))<|zX O (yK O zPi O)<|zX O (yK O fd47_1 O)<|zH one3 (kN 0 O (getm hcj)) O<|qB O ⟨by omega,by omega⟩<|zX O (qR 0 O el76 O O O (by omega) (by simp;omega))<|zX O (yK O zPi O)<|zX O (yK O fd47_1 O)<|zCd O O (kU O sz3 O O O (zLq 0 O (getm hcj) O))<|qV _ (Weak.vecEq 0 O (rows':=(putC L k x (axsN d x)).map Cl.rcells) (by exact (put_at_map (f:=Cl.rcells) (k:=k) hcj hhit hq).symm))<|W<|zG<|G O<|Y O<|W<|zN<|zU ⟨[(11,.c _),(0,.c _),(1,.c _),(6,.c _),(7,.c _)],[_]⟩ (Weak.mk [true] ⟨U,U,U,U,U,T⟩ O)<|qA 2 1 O O (Nat×Value) (fun ⟨i,sw⟩=>[(11,vI i),(0,.c (.lit sw))]) (fun ⟨i,sw⟩=>[E.vec sw 79 16 ((addX d k L (visP d x i)).map Cl.rcells)]) (fun ⟨i,sw⟩=>i<=x.Args.length) (fun ⟨i,sw⟩=>x.Args.length-i) ⟨⟨0,_⟩,(by omega),Weak.mk [true] ⟨U,U,U,U,U,T⟩ (by exact yX (congrArg (fun l=>l.map Cl.rcells) hN0))⟩ ?_
    rintro ⟨i,sw⟩ hi
    show AWP _ _ _ _ _ ⟨[(11,vI i),(0,.c (.lit sw))]++_,[E.vec sw 79 16 ((addX d k L (visP d x i)).map Cl.rcells)]++_⟩
    refine zG<|G O<|Y O<|qN O kG<|zH wS zY O<|zX O (wG O el42 O)<|qW O<|W<|zE O (fun c4=>?_) (fun c4=>?_)
    ·try simp only [sx] at c4
     obtain ⟨y,hy⟩:=qP x.Args i (by omega)
     refine zI<|zG<|zN<|G O<|qN O yY<|zH one3 zY O<|yR O<|Y O<|rL0 O (fun g12_3=>zQ O O) O<|rL1 77 O (fun g12_3=>yL O O O) O<|r_or O (fun h=>(lzf h))<|W<|zE O (fun c5=>?_) (fun c5=>?_)
     ·try simp only [sx] at c5
      have hvl:=zKd (d:=d) hy c5
      refine qY 8 mixed (by kernel_rfl) O O<|zM O O (zQ O O)<|zM O O (zQ O O)<|zM O O (zT O wM O zY O)<|zM O O (qQ O kG O)<|zM O O (zK O wS O zY O)<|zM O O (zQ O O)<|zM O O (qJ O el42 O O (by omega) (zBr hy))<|zM O O (zT O qZ O zY O)<|yT<|zS O O (zBi 0 O O ok81 (ih y (zW hy) (by have:=Ex.arg_wt (zW hy);omega) (ops_arg ho (zW hy)) sw (addX d k L (visP d x i)) (by have:=zKd (d:=d) hy c5;rw [zIl];omega) (addX_bd h1 h2 h3 h4 hLw (fun z hz=>vis_wt hx hz))) ⟨U,O,U,O,U,O,U,O,T⟩) ?_
      rintro _ _ ⟨sv5,rfl,rfl⟩
      refine Y O<|W<|zO O<|Y O<|qB O ⟨by omega,by omega⟩<|Y O<|W ?_
      refine ⟨⟨i+1,sv5⟩,(by omega),(by show x.Args.length-(i+1)<x.Args.length-i;omega),Weak.mk [true] ⟨U,U,U,U,U,T⟩ (by exact yX (by rw [zEt hy c5,zNf]))⟩
     ·try simp only [sx] at c5
      refine zI<|zO O<|Y O<|qB O ⟨by omega,by omega⟩<|Y O<|W ?_
      refine ⟨⟨i+1,sw⟩,(by omega),(by show x.Args.length-(i+1)<x.Args.length-i;omega),Weak.mk [true] ⟨U,U,U,U,U,T⟩ (by exact yX (by rw [zNl hy c5]))⟩
    ·try simp only [sx] at c4
     refine qE<|G O<|Y O<|Y O<|W<|zJ<|zP O ?_
     rw [zIp (d:=d) (e:=x) (k:=i) (by omega)]
     exact ⟨_,O,O⟩
 ·have he:¬eligT d x=true:=by rw [←elig_eq (ops_top ho),c1];simp
  have hN0:addX d k L (visP d x 0)=L:=by rw [zDz,headX,if_neg he];rfl
  have hN0:=hN0.symm
  refine zI<|zG<|G O<|Y O<|W<|zN<|zU ⟨[(11,.c _),(0,.c _),(1,.c _),(6,.c _),(7,.c _)],[_]⟩ (Weak.mk [true] ⟨U,U,U,U,U,T⟩ O)<|qA 2 1 O O (Nat×Value) (fun ⟨i,sw⟩=>[(11,vI i),(0,.c (.lit sw))]) (fun ⟨i,sw⟩=>[E.vec sw 79 16 ((addX d k L (visP d x i)).map Cl.rcells)]) (fun ⟨i,sw⟩=>i<=x.Args.length) (fun ⟨i,sw⟩=>x.Args.length-i) ⟨⟨0,_⟩,(by omega),Weak.mk [true] ⟨U,U,U,U,U,T⟩ (by exact yX (congrArg (fun l=>l.map Cl.rcells) hN0))⟩ ?_
  rintro ⟨i,sw⟩ hi
  show AWP _ _ _ _ _ ⟨[(11,vI i),(0,.c (.lit sw))]++_,[E.vec sw 79 16 ((addX d k L (visP d x i)).map Cl.rcells)]++_⟩
  refine zG<|G O<|Y O<|qN O kG<|zH wS zY O<|zX O (wG O el42 O)<|qW O<|W<|zE O (fun c4=>?_) (fun c4=>?_)
  ·try simp only [sx] at c4
   obtain ⟨y,hy⟩:=qP x.Args i (by omega)
   refine zI<|zG<|zN<|G O<|qN O yY<|zH one3 zY O<|yR O<|Y O<|rL0 O (fun g12_3=>zQ O O) O<|rL1 77 O (fun g12_3=>yL O O O) O<|r_or O (fun h=>(lzf h))<|W<|zE O (fun c5=>?_) (fun c5=>?_)
   ·try simp only [sx] at c5
    have hvl:=zKd (d:=d) hy c5
    refine qY 8 mixed (by kernel_rfl) O O<|zM O O (zQ O O)<|zM O O (zQ O O)<|zM O O (zT O wM O zY O)<|zM O O (qQ O kG O)<|zM O O (zK O wS O zY O)<|zM O O (zQ O O)<|zM O O (qJ O el42 O O (by omega) (zBr hy))<|zM O O (zT O qZ O zY O)<|yT<|zS O O (zBi 0 O O ok81 (ih y (zW hy) (by have:=Ex.arg_wt (zW hy);omega) (ops_arg ho (zW hy)) sw (addX d k L (visP d x i)) (by have:=zKd (d:=d) hy c5;rw [zIl];omega) (addX_bd h1 h2 h3 h4 hLw (fun z hz=>vis_wt hx hz))) ⟨U,O,U,O,U,O,U,O,T⟩) ?_
    rintro _ _ ⟨sv6,rfl,rfl⟩
    refine Y O<|W<|zO O<|Y O<|qB O ⟨by omega,by omega⟩<|Y O<|W ?_
    refine ⟨⟨i+1,sv6⟩,(by omega),(by show x.Args.length-(i+1)<x.Args.length-i;omega),Weak.mk [true] ⟨U,U,U,U,U,T⟩ (by exact yX (by rw [zEt hy c5,zNf]))⟩
   ·try simp only [sx] at c5
    refine zI<|zO O<|Y O<|qB O ⟨by omega,by omega⟩<|Y O<|W ?_
    refine ⟨⟨i+1,sw⟩,(by omega),(by show x.Args.length-(i+1)<x.Args.length-i;omega),Weak.mk [true] ⟨U,U,U,U,U,T⟩ (by exact yX (by rw [zNl hy c5]))⟩
  ·try simp only [sx] at c4
   refine qE<|G O<|Y O<|Y O<|W<|zJ<|zP O ?_
   rw [zIp (d:=d) (e:=x) (k:=i) (by omega)]
   exact ⟨_,O,O⟩
theorem r23_add (k:Nat) (d:Df) (h1:d.Dims.length<=1000000) (h2:d.Red.length<=1000000) (h3:∀a,a∈d.Dims->a.Size.L.length<=5864062014805) (h4:∀a,a∈d.Red->a.Size.L.length<=5864062014805) (x:Ex):x.wt<=2000000->x.ops->∀(sv:Value) (L:List Cl),clN L+(occE d x).length<=1000000->(∀c,c∈L->c.Bd)->Con cfg 81 [.c (.lit sv),vI k,vDf d,vE x] [E.vec sv 79 16 (L.map Cl.rcells)] fun r μ'=>∃sv',r=.c (.lit sv')/\μ'=[E.vec sv' 79 16 ((addX d k L (occE d x)).map Cl.rcells)]:=by
  induction x using Ex.ind with
  |_ x ih=>exact fun hx ho sv L hL hLw=>r23_add_step k d h1 h2 h3 h4 x ih hx ho sv L hL hLw
theorem r23_classes (p:Pg) (j:Nat) (hX:p.Xt j) (hj:j<=64) (hO:∀d,d∈p.Defs->d.Body.ops):
    OwnR cfg 33 [vPg p] 79 16 ((repC p.Defs).map Cl.rcells):=by
 refine zR Tryz.func33 O Tryz.ntmps33 Tryz.results33 O ?_
 intro z hz
 have hdl:=hX.defs
 refine G O<|zS O O (qG O O) ?_
 rintro _ _ ⟨b1,rfl,rfl⟩
 refine zX O (yA 16 O O)<|W<|G O<|Y O<|qV _ (yH 79 16)<|Y O<|qV _ (yH 79 16)<|W<|zG<|G O<|Y O<|W<|zN<|zU ⟨[(5,.c _),(3,.c _),(1,.c _),(4,.c _)],[_,_,_]⟩ (Weak.mk [true,true,true] ⟨U,U,U,U,T⟩ O)<|qA 2 2 O O (Nat×Value×List Cl) (fun ⟨k,sv,L⟩=>[(5,vI k),(3,.c (.lit sv))]) (fun ⟨k,sv,L⟩=>[E.vec (.slice none 0 0) 79 16 ([]),E.vec sv 79 16 (L.map Cl.rcells)]) (fun ⟨k,sv,L⟩=>k<=p.Defs.length/\(clsP p.Defs=clsG (p.Defs.drop k) k L)/\(clN L<=1500*k)/\(∀c,c∈L->c.Ok p.Defs)) (fun ⟨k,sv,L⟩=>p.Defs.length-k) ⟨⟨0,(.slice none 0 0),[]⟩,⟨by omega,O,Nat.le_refl 0,fun c hc=>by cases hc⟩,Weak.mk [true,true,true] ⟨U,U,U,U,T⟩ O⟩ ?_
 rintro ⟨k,sv,L⟩ ⟨hk,hp,hL,hLo⟩
 show AWP _ _ _ _ _ ⟨[(5,vI k),(3,.c (.lit sv))]++_,[E.vec (.slice none 0 0) 79 16 ([]),E.vec sv 79 16 (L.map Cl.rcells)]++_⟩
 refine zG<|G O<|Y O<|zD O yZ<|zH wL (J 2 O) O<|zV O el25<|qW O<|W<|zE O (fun c1=>?_) (fun c1=>?_)
 ·try simp only [sx] at c1
  obtain ⟨d,hd⟩:=qP p.Defs k (by omega)
  refine zI<|zG<|zN<|qY 13 mixed (by kernel_rfl) O O<|zM O O (zQ O O)<|zM O O (zQ O O)<|zM O O (zF O yZ O)<|zM O O (zK O wL O (J 2 O) O)<|zM O O (zQ O O)<|zM O O (qJ O el25 O O (by omega) (getm hd))<|zM O O (zT O wM O zY O)<|zM O O (zF O yZ O)<|zM O O (zK O wL O (J 2 O) O)<|zM O O (zQ O O)<|zM O O (qJ O el25 O O (by omega) (getm hd))<|zM O O (qQ O zBx O)<|zM O O (zT O qZ O zY O)<|yT<|zS O O (zBi 1 O O ok81 (r23_add k d (cl_df hX hj hd).1 (cl_df hX hj hd).2.1 (hX.ds d (zW hd)).fd (hX.ds d (zW hd)).fr d.Body (cl_df hX hj hd).2.2 (hO d (zW hd)) sv L (by have:=occ_len d d.Body;have:=(hX.ds d (zW hd)).sz;have:=xt_len hX hj hd;omega) (fun c hc=>cl_bd hX hj (hLo c hc))) ⟨U,O,U,O,U,O,U,O,T⟩) ?_
  rintro _ _ ⟨sv4,rfl,rfl⟩
  refine Y O<|W<|zO O<|Y O<|qB O ⟨by omega,by omega⟩<|Y O<|W ?_
  refine ⟨⟨k+1,sv4,addX d k L (occE d d.Body)⟩,⟨by omega,clsG_next hd hp,cl_next hX hd hL,cl_okn hd hLo⟩,(by show p.Defs.length-(k+1)<p.Defs.length-k;omega),Weak.mk [true,true,true] ⟨U,U,U,U,T⟩ O⟩
 ·try simp only [sx] at c1
  have hR:=clsG_end hp (by omega)
  have hR:clsP p.Defs=L:=hR
  have hcl:=cls_len hX hj
  rw [←hR]
  refine qE<|zG<|G O<|Y O<|W<|zN<|zU ⟨[(6,.c _),(4,.c _),(3,.c _)],[_,_]⟩ (Weak.mk [true,true,false] ⟨U,U,U,T⟩ O)<|qA 2 1 O O (Nat×Value) (fun ⟨i,sw⟩=>[(6,vI i),(4,.c (.lit sw))]) (fun ⟨i,sw⟩=>[E.vec sw 79 16 ((repF ((clsP p.Defs).take i)).map Cl.rcells)]) (fun ⟨i,sw⟩=>i<=(clsP p.Defs).length) (fun ⟨i,sw⟩=>(clsP p.Defs).length-i) ⟨⟨0,(.slice none 0 0)⟩,(by omega),Weak.mk [true,true] ⟨U,U,U,T⟩ O⟩ ?_
  rintro ⟨i,sw⟩ hi
  show AWP _ _ _ _ _ ⟨[(6,vI i),(4,.c (.lit sw))]++_,[E.vec sw 79 16 ((repF ((clsP p.Defs).take i)).map Cl.rcells)]++_⟩
  refine zG<|G O<|Y O<|Y O<|zX O (zFc 1 O el76 O O)<|qW O<|W<|zE O (fun c2=>?_) (fun c2=>?_)
  ·try simp only [sx] at c2
   obtain ⟨c,hc⟩:=qP (clsP p.Defs) i (by omega)
   have hfl:=repF_len ((clsP p.Defs).take i)
   rw [List.length_take] at hfl
   refine zI<|zG<|zN<|G O<|Y O<|Y O<|zX O (qR 1 O el76 O O O (by omega) (by simp;omega))<|zX O (yK O zPi O)<|zX O (yK O fd47_1 O)<|zH one3 (kN 1 O (getm hc)) O<|zX O (yF O O O)<|W<|zE O (fun c3=>?_) (fun c3=>?_)
   ·try simp only [sx] at c3
    refine zO O<|Y O<|Y O<|Y O<|zX O (qR 1 O el76 O O O (by omega) (by simp;omega))<|zL agg79 (kN 1 O (getm hc)) O<|qX O el76 zr79<|zS O O (qO 0 O el76 O O O (by simp only [List.length_map,List.length_append,List.length_cons,List.length_nil,List.length_take,List.length_drop];omega) (by simp only [List.length_map,List.length_append,List.length_cons,List.length_nil,List.length_take,List.length_drop];omega)) ?_
    rintro _ _ ⟨sv5,rfl,rfl⟩
    refine Y O<|W<|zO O<|Y O<|qB O ⟨by omega,by omega⟩<|Y O<|W ?_
    refine ⟨⟨i+1,sv5⟩,(by omega),(by show (clsP p.Defs).length-(i+1)<(clsP p.Defs).length-i;omega),Weak.mk [true,true] ⟨U,U,U,T⟩ (by exact yX (by rw [repF_yes hc (by omega),List.map_append];rfl))⟩
   ·try simp only [sx] at c3
    refine zI<|zO O<|Y O<|qB O ⟨by omega,by omega⟩<|Y O<|W ?_
    refine ⟨⟨i+1,sw⟩,(by omega),(by show (clsP p.Defs).length-(i+1)<(clsP p.Defs).length-i;omega),Weak.mk [true,true] ⟨U,U,U,T⟩ (by exact yX (by rw [repF_no hc (by omega)]))⟩
  ·try simp only [sx] at c2
   rw [qS (l:=clsP p.Defs) (k:=i) (by omega),repF_all]
   refine qE<|G O<|Y O<|Y O<|W<|zU _ (Weak.mem [true,false] O)<|zJ<|zP O ?_
   exact ⟨_,O,O⟩
theorem r23_Candidates (p:Pg) (j:Nat) (hX:p.Xt j) (hj:j<=64) (hO:(validM p).2=0->∀d,d∈p.Defs->d.Body.ops):
    OwnR cfg 11 [vPg p] 47 14 ((cndP p).map Cl.dcells):=by
 refine zR Tryz.func11 O Tryz.ntmps11 Tryz.results11 O ?_
 intro z hz
 have hP:=hX.ok hj
 have hrl:=rep_len hX hj
 refine G O<|zS O O (qG O O) ?_
 rintro _ _ ⟨b1,rfl,rfl⟩
 refine zX O (yA 14 O O)<|W<|zG<|G O<|zL wC (J 0 O) O<|qK O ok20 (ref17_Validate p hP) ⟨U,O,T⟩<|zX O (yE O O)<|zX O (yP O O O)<|zX O (yP O O O)<|Y O<|Y O<|W<|G O<|Y O<|yR O<|W<|zE O (fun c1=>?_) (fun c1=>?_)
 ·try simp only [sx] at c1
  rw [←zMo] at c1
  refine G O<|Y O<|qV _ (yH 47 14)<|W<|zU _ (Weak.mem [true,false] O)<|zJ<|zP O ?_
  exact ⟨_,O,by rw [cndP_no c1];rfl⟩
 ·try simp only [sx] at c1
  rw [←zMo] at c1
  refine zI<|G O<|zL wC (J 0 O) O<|qK O ok33 (OwnR.pur (r23_classes p j hX hj (hO c1))) ⟨U,O,T⟩<|Y O<|W<|G O<|Y O<|qV _ (yH 47 14)<|W<|zG<|G O<|Y O<|W<|zN<|zU ⟨[(7,.c _),(6,.c _),(5,.c _)],[_]⟩ (Weak.mk [true,false] ⟨U,U,U,T⟩ O)<|qA 2 1 O O (Nat×Value) (fun ⟨k,sv⟩=>[(7,vI k),(6,.c (.lit sv))]) (fun ⟨k,sv⟩=>[E.vec sv 47 14 (((repC p.Defs).take k).map Cl.dcells)]) (fun ⟨k,sv⟩=>k<=(repC p.Defs).length) (fun ⟨k,sv⟩=>(repC p.Defs).length-k) ⟨⟨0,(.slice none 0 0)⟩,(by omega),Weak.mk [true] ⟨U,U,U,T⟩ O⟩ ?_
  rintro ⟨k,sv⟩ hk
  show AWP _ _ _ _ _ ⟨[(7,vI k),(6,.c (.lit sv))]++_,[E.vec sv 47 14 (((repC p.Defs).take k).map Cl.dcells)]++_⟩
  refine zG<|G O<|Y O<|Y O<|zV O el76<|qW O<|W<|zE O (fun c2=>?_) (fun c2=>?_)
  ·try simp only [sx] at c2
   obtain ⟨c,hc⟩:=qP (repC p.Defs) k (by omega)
   refine zI<|zG<|zN<|zO O<|Y O<|Y O<|Y O<|zZ O el76 (by omega) (getm hc)<|qN O zPi<|zL agg47 zY O<|qX O el32 zr47<|zS O O (qO 0 O el32 O O O (by simp only [List.length_map,List.length_append,List.length_cons,List.length_nil,List.length_take,List.length_drop];omega) (by simp only [List.length_map,List.length_append,List.length_cons,List.length_nil,List.length_take,List.length_drop];omega)) ?_
   rintro _ _ ⟨sv4,rfl,rfl⟩
   refine Y O<|W<|zO O<|Y O<|qB O ⟨by omega,by omega⟩<|Y O<|W ?_
   refine ⟨⟨k+1,sv4⟩,(by omega),(by show (repC p.Defs).length-(k+1)<(repC p.Defs).length-k;omega),Weak.mk [true] ⟨U,U,U,T⟩ (by exact yX (by rw [qM hc,List.map_append];rfl))⟩
  ·try simp only [sx] at c2
   rw [qS (l:=repC p.Defs) (k:=k) (by omega)]
   refine qE<|G O<|Y O<|Y O<|W<|zJ<|zP O ?_
   exact ⟨_,O,by rw [cndP_ok c1,repF_all];rfl⟩
theorem zMj (d:Df) (c:Cl) (y:Ex) (D:List Df) (hc:c.Ok D) (hcb:c.Bd) (h1:d.Dims.length<=1000000) (h2:d.Red.length<=1000000) (h3:∀a,a∈d.Dims->a.Size.L.length<=5864062014805) (h4:∀a,a∈d.Red->a.Size.L.length<=5864062014805) (e:Ex) (ih:∀a,a∈e.Args->a.wt<=2000000->Pur cfg 92 [vDf d,vE a,vCl c,vE y] (vE (replX d c y a))) (he:e.wt<=2000000):
    Pur cfg 92 [vDf d,vE e,vCl c,vE y] (vE (replX d c y e)):=by
 refine zR Tryz.func92 O Tryz.ntmps92 Tryz.results92 O ?_
 intro z hz
 have hal:=axsN_len d e
 have hel:=(e.parts he).2.2
 obtain ⟨_,hb1,hb2,hb3⟩:=hcb
 refine G O<|zS O O (qG O O) ?_
 rintro _ _ ⟨b1,rfl,rfl⟩
 refine zS O O (qG O O) ?_
 rintro _ _ ⟨b2,rfl,rfl⟩
 refine zS O O (qG O O) ?_
 rintro _ _ ⟨b3,rfl,rfl⟩
 refine zS O O (qG O O) ?_
 rintro _ _ ⟨b4,rfl,rfl⟩
 refine zS O O (qD [none,none,none,none,none,none,none,none,none,none,some 2,some 4,some 13] O zr44 O) ?_
 rintro _ _ ⟨b5,rfl,rfl⟩
 refine W<|zG<|zG<|qY 17 mixed (by kernel_rfl) O O<|zM O O (zT O wM O (J 4 O) O)<|zM O O (zT O qZ O (J 3 O) O)<|zM O O (qH O ok144 (zMb d e he h1 h2) ⟨U,O,U,O,T⟩)<|zM O O (zQ O O)<|qC [] O O O O gv1 T (fun g1_3=>zT O qZ O (J 3 O) O) O<|qC [] O O O O gv1 T (fun g1_3=>zF O fd74_0 O) O<|qC [(17,_)] O O O O gv1 ⟨O,O,T⟩ (fun g1_3=>zT O qZ O (J 2 O) O) O<|qC [(16,_),(18,_)] O O O O gv1 ⟨O,O,O,O,T⟩ (fun g1_3=>qH O ok76 (zPr e c.e (by omega) (by omega)) ⟨U,O,U,O,T⟩) O<|zM O O (wF O O O (fun h=>h) O)<|zM O O (zQ O O)<|qC [] O O O O gv1 T (fun g1_9=>zT O wM O (J 4 O) O) O<|qC [] O O O O gv1 T (fun g1_9=>zT O qZ O (J 3 O) O) O<|qC [(22,_),(23,_)] O O O O gv1 ⟨O,O,O,O,T⟩ (fun g1_9=>qH O ok73 (OwnR.pur (zLh d e he h1 h2)) ⟨U,O,U,O,T⟩) O<|qC [] O O O O gv1 T (fun g1_9=>zF O fd74_1 O) O<|qC [(25,_)] O O O O gv1 ⟨O,O,T⟩ (fun g1_9=>zK O kQ O (J 2 O) O) O<|qC [(24,_),(26,_)] O O O O gv1 ⟨O,O,O,O,T⟩ (fun g1_9=>qH O ok77 (zMa (axsN d e) c.axes (by omega) (by omega) (fun a ha=>by rcases axsN_mem ha with h|h;exact h3 a h;exact h4 a h)) ⟨U,O,U,O,T⟩) O<|zM O O (wF O O O (fun h=>h) O)<|yT<|W<|zE O (fun c1=>?_) (fun c1=>?_)
 ·have c1:e=c.e/\axsN d e=c.axes:=by simp only [Lz,cond_true,cond_false,Bool.and_eq_true,Bool.or_eq_true,Bool.not_eq_true',Bool.not_eq_false',Bool.or_eq_false_iff,Bool.and_eq_false_iff,decide_eq_true_eq,decide_eq_false_iff_not,Bool.not_eq_true,Bool.not_eq_false] at c1;exact ⟨c1.1.2,c1.2⟩
  refine G O<|zL qZ (J 1 O) O<|N 0 sz44 O<|W<|zJ<|fin1 (qF qZ O (J 0 O) O) ?_
  exact congrArg vE ((zMv d c y e).trans (if_pos c1)).symm
 ·have c1:¬(e=c.e/\axsN d e=c.axes):=fun h=>by rw [hit_elig hc h,decide_eq_true h.1,decide_eq_true h.2] at c1;cases c1
  refine zI<|G O<|Y O<|qV _ (yH 44 13)<|W<|zG<|G O<|zD O kG<|zH wS (J 4 O) O<|zX O (wG O el42 O)<|Y O<|W<|zN<|zU ⟨[(33,.c _),(9,.c _),(4,.c _),(5,.c _),(6,.c _),(7,.c _),(8,.c _),(31,.c _),(32,.c _)],[_,_,_,_,_,_]⟩ (Weak.mk [true,true,true,true,true,true] ⟨U,U,U,U,U,U,U,U,U,T⟩ O)<|qA 2 1 O O (Nat×Value×List Ex) (fun ⟨k,sv,pre⟩=>[(33,vI k),(9,.c (.lit sv))]) (fun ⟨k,sv,pre⟩=>[E.vec sv 44 13 (pre.map Ex.cells)]) (fun ⟨k,sv,pre⟩=>k<=e.Args.length/\(replQ d c y e.Op 0 e.Args=pre++replQ d c y e.Op k (e.Args.drop k))/\(pre.length=k)) (fun ⟨k,sv,pre⟩=>e.Args.length-k) ⟨⟨0,(.slice none 0 0),[]⟩,⟨by omega,O,O⟩,Weak.mk [true,true,true,true,true,true] ⟨U,U,U,U,U,U,U,U,U,T⟩ O⟩ ?_
  rintro ⟨k,sv,pre⟩ ⟨hk,hp,hpl⟩
  show AWP _ _ _ _ _ ⟨[(33,vI k),(9,.c (.lit sv))]++_,[E.vec sv 44 13 (pre.map Ex.cells)]++_⟩
  refine G O<|qW O<|W<|zG<|zE O (fun c2=>?_) (fun c2=>?_)
  ·try simp only [sx] at c2
   obtain ⟨x,hx⟩:=qP e.Args k (by omega)
   refine zI<|zG<|zN<|G O<|Y O<|zZ O el42 (by omega) (zBr hx)<|zL qZ zY O<|zS O O (qD [none,none,none,none,none,none,none,none,none,none,some 2,some 4,some 13] O zr44 O) ?_
   rintro _ _ ⟨b7,rfl,rfl⟩
   refine Y O<|N 0 sz44 O<|W<|zG<|G O<|zD O yY<|zH one3 (J 5 O) O<|yR O<|Y O<|rL0 O (fun g7_3=>zQ O O) O<|rL1 42 O (fun g7_3=>yL O O O) O<|r_or O (fun h=>(lzf h))<|W<|zE O (fun c3=>?_) (fun c3=>?_)
   ·try simp only [sx] at c3
    have hA:replA d c y e.Op k x=replX d c y x:=if_pos (by omega)
    refine zO O<|zL wM (J 6 O) O<|zL qZ (J 0 O) O<|zL agg74 (J 4 O) O<|zL qZ (J 3 O) O<|qK O ok92 (ih x (zW hx) (by have:=Ex.arg_wt (zW hx);omega)) ⟨U,O,U,O,U,O,U,O,T⟩<|N 0 sz44 O<|W<|zO O<|Y O<|zL qZ (J 0 O) O<|qX O el42 zr44<|zS O O (qO 1 O el42 O O O (by simp only [List.length_map,List.length_append,List.length_cons,List.length_nil,List.length_take,List.length_drop];omega) (by simp only [List.length_map,List.length_append,List.length_cons,List.length_nil,List.length_take,List.length_drop];omega)) ?_
    rintro _ _ ⟨sv8,rfl,rfl⟩
    refine Y O<|W<|zO O<|qB O ⟨by omega,by omega⟩<|Y O<|W ?_
    refine ⟨⟨k+1,sv8,pre++[replA d c y e.Op k x]⟩,⟨by omega,replQ_next hx pre _ hp,by simp;omega⟩,(by show e.Args.length-(k+1)<e.Args.length-k;omega),Weak.mk [false,true,true,true,true,true,true] ⟨U,U,U,U,U,U,U,U,U,T⟩ (by exact yX (by rw [hA,List.map_append];simp only [List.map_cons,List.map_nil,Ex.cells_eq (replX d c y x)];(try rfl)))⟩
   ·try simp only [sx] at c3
    have hA:replA d c y e.Op k x=x:=if_neg (by omega)
    refine zI<|zO O<|Y O<|zL qZ (J 0 O) O<|qX O el42 zr44<|zS O O (qO 1 O el42 O O O (by simp only [List.length_map,List.length_append,List.length_cons,List.length_nil,List.length_take,List.length_drop];omega) (by simp only [List.length_map,List.length_append,List.length_cons,List.length_nil,List.length_take,List.length_drop];omega)) ?_
    rintro _ _ ⟨sv9,rfl,rfl⟩
    refine Y O<|W<|zO O<|qB O ⟨by omega,by omega⟩<|Y O<|W ?_
    refine ⟨⟨k+1,sv9,pre++[replA d c y e.Op k x]⟩,⟨by omega,replQ_next hx pre _ hp,by simp;omega⟩,(by show e.Args.length-(k+1)<e.Args.length-k;omega),Weak.mk [false,true,true,true,true,true,true] ⟨U,U,U,U,U,U,U,U,U,T⟩ (by exact yX (by rw [hA,List.map_append];simp only [List.map_cons,List.map_nil,Ex.cells_eq x];(try rfl)))⟩
  ·try simp only [sx] at c2
   have hQ:=replQ_end pre _ hp (by omega)
   refine zU _ (yJ 0 O (regs':=[(9,_)]) (μ':=[_,_,_,_,_]) ⟨FLe.sl,T⟩ ⟨EFle.refl _,EFle.refl _,EFle.refl _,EFle.refl _,EFle.refl _,T⟩)<|qE<|G O<|Y O<|zD O kG<|N 3 sz42 O<|W<|G O<|zL qZ (J 3 O) O<|N 0 sz44 O<|W<|zJ<|fin1 (qF qZ O (J 0 O) O) ?_
   exact congrArg vE (show setArgs e pre=replX d c y e from by rw [zMv,if_neg c1,hQ])
theorem cse_replace (d:Df) (c:Cl) (y:Ex) (D:List Df) (hc:c.Ok D) (hcb:c.Bd) (h1:d.Dims.length<=1000000) (h2:d.Red.length<=1000000) (h3:∀a,a∈d.Dims->a.Size.L.length<=5864062014805) (h4:∀a,a∈d.Red->a.Size.L.length<=5864062014805) (e:Ex) (he:e.wt<=2000000):Pur cfg 92 [vDf d,vE e,vCl c,vE y] (vE (replX d c y e)):=by
  induction e using Ex.ind with
  |_ e ih=>exact zMj d c y D hc hcb h1 h2 h3 h4 e ih he
end Go.W
