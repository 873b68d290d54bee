/-
  What functions compute.
  Conditions: none.
-/
import Derived.Test.YtdldhbfgfkebjaaGreatDoorHA
import Derived.Test.YtdldhbfgfkebjaaGreatDoorPlainG
set_option linter.unusedSimpArgs false
set_option linter.unusedVariables false
set_option maxRecDepth 10000
namespace Go.W
open Go Go.Eng Go.Proofs Go.L41 Go.Br
attribute [local irreducible] AWP RWP TD fY
theorem zAd {α:Type} {enc:α->List C} {l:List α} {k:Nat} {x:α} {i:Int} (h:l[k]? =some x) (hi:i=k):(l.map enc)[i.toNat]? =some (enc x):=by
  subst hi;rw [Int.toNat_natCast,List.getElem?_map,h];rfl
theorem get_set {α:Type} {enc:α->List C} {l:List α} {k m:Nat} {x y:α} {i:Int} {j:Int} (h:l[k]? =some x) (hi:i=k) (hj:j=m) (hne:m≠k):((l.map enc).set j.toNat (enc y))[i.toNat]? =some (enc x):=by
  subst hi hj;rw [Int.toNat_natCast,Int.toNat_natCast,List.getElem?_set_ne hne,List.getElem?_map,h];rfl
theorem zPs {α:Type} {enc:α->List C} {l l':List α} {k m:Nat} {x y:α} {i j:Int} (h:(l.set k x).set m y=l') (hi:i=k) (hj:j=m):((l.map enc).set i.toNat (enc x)).set j.toNat (enc y)=l'.map enc:=by
  subst hi hj;rw [Int.toNat_natCast,Int.toNat_natCast,←h,List.map_set,List.map_set]
theorem zSn {E h:Int} (h0:0<=E) (h1:h=E/2):E.fdiv (2^(min (Int.toNat 1) IntKind.u64.bits))=h:=by
  rw [show (2:Int)^(min (Int.toNat 1) IntKind.u64.bits)=2 from rfl,Int.fdiv_eq_ediv_of_nonneg _ (by omega),h1]
theorem ins_one {α:Type} {key:α->Int} {tie:α->Nat} (X:List α):Srt key tie (X.take 1):=by
  cases X with
  |nil=>exact List.Pairwise.nil
  |cons x r=>exact List.pairwise_singleton _ _
theorem sep20 {α:Type} {key:α->Int} {tie:α->Nat} {X:List α} (hT:X.Pairwise fun a b=>tie a<tie b):∀x,x∈srt key tie (X.take 20)->∀y,y∈srt key tie (X.drop 20)->tie x<tie y:=fun x hx y hy=>by
  have h1:(X.take 20++X.drop 20).Pairwise fun a b=>tie a<tie b:=by rw [List.take_append_drop];exact hT
  rw [List.pairwise_append] at h1
  exact h1.2.2 x (zDy.1 hx) y (zDy.1 hy)
theorem and_t {a b:Bool} (h:(a&&b)=true):a=true/\b=true:=by simpa using h
abbrev lH (k:Nat):List C:=[cI k]
abbrev mI (x:Sl×Nat):List C:=x.1.cells
theorem agg48:lI Tryz.prog 48=some 3:=by kernel_rfl
theorem el33:fA Tryz.prog 33=some (48,3,32):=by kernel_rfl
theorem ik3:tO Tryz.prog 3=some .i64:=by kernel_rfl
theorem ok105:bA Tryz.prog 105=true:=by kernel_rfl
theorem ok148:bA Tryz.prog 148=true:=by kernel_rfl
theorem ok177:bA Tryz.prog 177=true:=by kernel_rfl
theorem ok178:bA Tryz.prog 178=true:=by kernel_rfl
theorem ok179:bA Tryz.prog 179=true:=by kernel_rfl
theorem ok198:bA Tryz.prog 198=true:=by kernel_rfl
theorem ok199:bA Tryz.prog 199=true:=by kernel_rfl
theorem ok227:bA Tryz.prog 227=true:=by kernel_rfl
theorem ok228:bA Tryz.prog 228=true:=by kernel_rfl
theorem ok229:bA Tryz.prog 229=true:=by kernel_rfl
theorem ok255:bA Tryz.prog 255=true:=by kernel_rfl
theorem ok285:bA Tryz.prog 285=true:=by kernel_rfl
theorem sz48:(Tryz.prog.info? 48).map (·.size)=some 3:=by kernel_rfl
theorem us237:(Tryz.prog.underlying 237).isSome=true:=by kernel_rfl
class EncC (α:Type) where
  enc:α->List C
  ty:Nat
  sz:Nat
instance encCN:EncC Nat:=⟨lH,3,1⟩
instance encCP:EncC (Sl×Nat):=⟨mI,48,3⟩
abbrev eC {α:Type} [EncC α]:α->List C:=EncC.enc
abbrev sH {α:Type} [EncC α] (sv:Value) (l:List α):E:=E.vec sv (EncC.ty α) (EncC.sz α) (l.map eC)
theorem tw_swap {p:Prop} (h:p:=by
 refine zU twA O twB twC O ?_
 intro z hz
 refine R O<|G O<|zA<|zP<|zT ⟨[(10,.c _),(0,.c _),(1,.c _),(2,.c _),(3,.c _)],[_]⟩ (Weak.mk [true] ⟨zB,zB,zB,zB,zB,T⟩ O)<|qG 1 1 O O (Nat) (fun i=>[(10,vI i)]) (fun i=>[sH sv ((sw A X M Y B i))]) (fun i=>i<=n) (fun i=>n-i) ⟨0,(by omega),Weak.mk [true] ⟨zB,zB,zB,zB,zB,T⟩ (by exact kC (by rw [sw_0];rfl))⟩ ?_
 rintro i hi
 refine zI<|R O<|G O<|G O<|yB O<|zA<|zC O (fun c1=>?_) (fun c1=>?_)
 ·try simp only [sx] at c1
  obtain ⟨x,hx⟩:=qU X i (by omega)
  obtain ⟨y,hy⟩:=qU Y i (by omega)
  refine zJ<|zI<|zP<|yS 22 0 [⟨0,.q []⟩,⟨1,.q []⟩,⟨2,.q []⟩,⟨3,.q []⟩,⟨4,.q []⟩,⟨5,.q []⟩,⟨6,.q []⟩,⟨7,.q []⟩,⟨8,.q []⟩,⟨9,.q []⟩,⟨10,.q []⟩,⟨11,.q []⟩,⟨12,.q [0]⟩,⟨13,.q [0]⟩,⟨14,.q []⟩,⟨15,.q []⟩,⟨16,.q []⟩,⟨17,.q []⟩,⟨18,.q [0]⟩,⟨19,.q [0]⟩,⟨20,.q [0]⟩,⟨21,.e 0 []⟩] mixed (by kernel_rfl) (by kernel_rfl) O O O<|v O<|v O<|v O<|v O<|v O<|v O<|v O<|v O<|v O<|v O<|v O<|v O<|v O<|v O<|v O<|v O<|v O<|v O<|v O<|v O<|v O<|v O<|zAg<|zY O (by decide) O O (zN O O)<|zY O (by decide) O O (zN O O)<|zY O (by decide) O O (zN O O)<|zY O (by decide) O O (kZ O O O ⟨by omega,by omega⟩)<|zY O (by decide) O O (zN O O)<|zY O (by decide) O O (zN O O)<|zY O (by decide) O O (zN O O)<|zY O (by decide) O O (kZ O O O ⟨by omega,by omega⟩)<|zY O (by decide) O O (zN O O)<|zY O (by decide) O O (zN O O)<|zY O (by decide) O O (zN O O)<|zY O (by decide) O O (kZ O O O ⟨by omega,by omega⟩)<|zY O (by decide) O O (qP 0 O twD O O O (by omega) (by rw [List.length_map,sw_len _ _ _ _ _ _ (by omega)];omega))<|zY O (by decide) O O (twE O twF O (kI 0 O (zAd (sw_y hx hy) (by omega))) O)<|zY O (by decide) O O (zN O O)<|zY O (by decide) O O (zN O O)<|zY O (by decide) O O (zN O O)<|zY O (by decide) O O (kZ O O O ⟨by omega,by omega⟩)<|zY O (by decide) O O (qP 0 O twD O O O (by omega) (by rw [List.length_map,sw_len _ _ _ _ _ _ (by omega)];omega))<|zY O (by decide) O O (twE O twF O (kI 0 O (zAd (sw_x hx hy) (by omega))) O)<|zY O (by decide) O O (qP 0 O twD O O O (by omega) (by rw [List.length_map,sw_len _ _ _ _ _ _ (by omega)];omega))<|zEs O O (by decide) O O (kX O twG O O O (zHs 0 O (zAd (sw_x hx hy) (by omega)) O)) ?_
  rintro _ _ ⟨rfl,rfl⟩
  refine ⟨_,O,?_⟩
  refine zAe O<|zW O (qP 0 O twD O O O (by omega) (by rw [List.length_set,List.length_map,sw_len _ _ _ _ _ _ (by omega)];omega))<|zCs O O (kX O twG O O O (zHs 0 O (get_set (sw_y hx hy) (by omega) (m:=A.length+i) (by omega) (by omega)) O))<|zA<|zM O<|G O<|qB O ⟨by omega,by omega⟩<|G O<|zA ?_
  refine ⟨i+1,(by omega),(by omega),Weak.mk [true] ⟨zB,zB,zB,zB,zB,T⟩ (by exact kC (zPs (sw_next hx hy) (by omega) (by omega)))⟩
 ·try simp only [sx] at c1
  refine qH ?_
  repeat (first|refine qV ?_|refine qT ?_)
  refine yF<|U ?_
  have hin:i=n:=by omega
  subst hin
  exact ⟨O,by rw [sw_n _ _ _ _ _ hX hY];rfl⟩):p:=h
theorem sti_swap (sv:Value) (c:C) (A X M Y B:List Nat) (n:Nat) (hX:X.length=n) (hY:Y.length=n) (hL:A.length+X.length+M.length+Y.length+B.length<=1000000):
    Con cfg 229 [.c (.lit sv),vI A.length,vI ((A.length:Int)+n+M.length),vI n,.c c] [E.vec sv 3 1 ((A++X++M++Y++B).map lH)] fun r μ'=>r=.tup []/\μ'=[E.vec sv 3 1 ((A++Y++M++X++B).map lH)]:=by
 have twA:=Tryz.func229
 have twB:=Tryz.ntmps229
 have twC:=Tryz.results229
 have twD:=el67
 have twE:= @zF
 have twF:=one3
 have twG:=sz3
 exact tw_swap
theorem tw_rot {p:Prop} (h:p:=by
 refine zU twA O twB twC O ?_
 intro z hz
 refine R O<|G O<|G O<|yY O ⟨by omega,by omega⟩<|G O<|zA<|R O<|G O<|G O<|yY O ⟨by omega,by omega⟩<|G O<|zA<|zI<|zP<|zT ⟨[(10,.c _),(11,.c _),(0,.c _),(2,.c _),(4,.c _)],[_]⟩ (Weak.mk [true] ⟨zB,zB,zB,zB,zB,T⟩ O) ?_
 refine qG 2 1 O O (List _×List _×List _×List _) (fun ⟨DL,X1,Y1,DR⟩=>[(10,vI X1.length),(11,vI Y1.length)]) (fun ⟨DL,X1,Y1,DR⟩=>[sH sv (A++DL++X1++Y1++DR++B)]) (fun ⟨DL,X1,Y1,DR⟩=>1<=X1.length/\1<=Y1.length/\DL++Y1++X1++DR=Y++X/\DL.length+X1.length=X.length/\Y1.length+DR.length=Y.length) (fun ⟨DL,X1,Y1,DR⟩=>X1.length+Y1.length) ⟨([],X,Y,[]),⟨hX,hY,(by simp),(by simp),(by simp)⟩,Weak.mk [true] ⟨VLe.of_eq (congrArg vI (by omega)),VLe.of_eq (congrArg vI (by omega)),zB,zB,zB,T⟩ (by exact kC (congrArg (List.map eC) (by simp)))⟩ ?_
 rintro ⟨DL,X1,Y1,DR⟩ ⟨h1,h2,h3,h4,h5⟩
 refine zI<|R O<|G O<|G O<|kU O<|zA<|zC O (fun c1=>?_) (fun c1=>?_)
 ·try simp only [sx] at c1
  have hne:X1.length≠Y1.length:=by omega
  refine zJ<|zP<|R O<|G O<|G O<|zW O (yG O O O)<|zA<|zC O (fun c2=>?_) (fun c2=>?_)
  ·try simp only [sx] at c2
   have hgt:Y1.length<X1.length:=by omega
   refine zT _ (Weak.vecEq 0 O (rows':=((A++DL)++X1.take Y1.length++X1.drop Y1.length++Y1++(DR++B)).map eC) (by exact congrArg (List.map eC) (by simp)))<|R O<|G O<|G O<|G O<|yY O ⟨by omega,by omega⟩<|G O<|G O<|G O ?_
   refine zV O O (yE [0] O twD (twE sv c (A++DL) (X1.take Y1.length) (X1.drop Y1.length) Y1 (DR++B) Y1.length (by rw [List.length_take];omega) O (by simp only [List.length_map,List.length_append,List.length_take,List.length_drop];omega)) ⟨zB,O,VLe.of_eq (congrArg vI (by rw [List.length_append];omega)),O,VLe.of_eq (congrArg vI (by rw [List.length_append,List.length_drop];omega)),O,zB,O,zB,O,T⟩ O) ?_
   rintro _ _ ⟨_,⟨rfl,rfl⟩,rfl⟩
   refine zA<|zM O<|G O<|G O<|yY O ⟨by omega,by omega⟩<|G O<|zA ?_
   refine ⟨(DL++Y1,X1.drop Y1.length,X1.take Y1.length,DR),⟨(by rw [List.length_drop];omega),(by rw [List.length_take];omega),(by rw [←h3];simp),(by rw [List.length_append,List.length_drop];omega),(by rw [List.length_take];omega)⟩,(by simp only [List.length_drop,List.length_take];omega),Weak.mk [true] ⟨VLe.of_eq (congrArg vI (by first|rw [List.length_drop];omega)),VLe.of_eq (congrArg vI (by rw [List.length_take];omega)),zB,zB,zB,T⟩ (by exact kC (congrArg (List.map eC) (by simp)))⟩
  ·try simp only [sx] at c2
   have hlt:X1.length<Y1.length:=by omega
   refine zT _ (Weak.vecEq 0 O (rows':=((A++DL)++X1++Y1.take (Y1.length-X1.length)++Y1.drop (Y1.length-X1.length)++(DR++B)).map eC) (by exact congrArg (List.map eC) (by simp)))<|R O<|G O<|G O<|G O<|yY O ⟨by omega,by omega⟩<|G O<|G O<|qB O ⟨by omega,by omega⟩<|G O<|yY O ⟨by omega,by omega⟩<|G O<|G O ?_
   refine zV O O (yE [0] O twD (twE sv c (A++DL) X1 (Y1.take (Y1.length-X1.length)) (Y1.drop (Y1.length-X1.length)) (DR++B) X1.length O (by rw [List.length_drop];omega) (by simp only [List.length_map,List.length_append,List.length_take,List.length_drop];omega)) ⟨zB,O,VLe.of_eq (congrArg vI (by rw [List.length_append];omega)),O,VLe.of_eq (congrArg vI (by rw [List.length_append,List.length_take];omega)),O,zB,O,zB,O,T⟩ O) ?_
   rintro _ _ ⟨_,⟨rfl,rfl⟩,rfl⟩
   refine zA<|zM O<|G O<|G O<|yY O ⟨by omega,by omega⟩<|G O<|zA ?_
   refine ⟨(DL,Y1.drop (Y1.length-X1.length),Y1.take (Y1.length-X1.length),X1++DR),⟨(by rw [List.length_drop];omega),(by rw [List.length_take];omega),(by rw [←h3];simp),(by rw [List.length_drop];omega),(by rw [List.length_take,List.length_append];omega)⟩,(by simp only [List.length_drop,List.length_take];omega),Weak.mk [true] ⟨VLe.of_eq (congrArg vI (by first|rw [List.length_drop];omega)),VLe.of_eq (congrArg vI (by rw [List.length_take];omega)),zB,zB,zB,T⟩ (by exact kC (congrArg (List.map eC) (by simp)))⟩
 ·try simp only [sx] at c1
  have hee:X1.length=Y1.length:=by omega
  refine zT _ (Weak.vecEq 0 O (rows':=(A++DL++X1++[]++Y1++(DR++B)).map eC) (by exact congrArg (List.map eC) (by simp)))<|qH<|zM O<|G O<|G O<|G O<|yY O ⟨by omega,by omega⟩<|G O<|G O<|G O ?_
  refine zV O O (yE [0] O twD (twE sv c (A++DL) X1 [] Y1 (DR++B) X1.length O hee.symm (by simp only [List.length_map,List.length_append,List.length_nil];omega)) ⟨zB,O,VLe.of_eq (congrArg vI (by rw [List.length_append];omega)),O,VLe.of_eq (congrArg vI (by rw [List.length_append,List.length_nil];omega)),O,zB,O,zB,O,T⟩ O) ?_
  rintro _ _ ⟨_,⟨rfl,rfl⟩,rfl⟩
  refine zA ?_
  repeat (first|refine qV ?_|refine qT ?_)
  refine yF<|U ?_
  have e2:A++DL++Y1++[]++X1++(DR++B)=A++(DL++Y1++X1++DR)++B:=by simp
  have e:A++DL++Y1++[]++X1++(DR++B)=A++Y++X++B:=by rw [e2,h3];simp
  rw [←e]
  exact ⟨O,O⟩):p:=h
theorem sti_rot (sv:Value) (c:C) (A X Y B:List Nat) (hX:1<=X.length) (hY:1<=Y.length) (hL:A.length+X.length+Y.length+B.length<=1000000):
    Con cfg 199 [.c (.lit sv),vI A.length,vI ((A.length:Int)+X.length),vI ((A.length:Int)+X.length+Y.length),.c c] [E.vec sv 3 1 ((A++X++Y++B).map lH)] fun r μ'=>r=.tup []/\μ'=[E.vec sv 3 1 ((A++Y++X++B).map lH)]:=by
 have twA:=Tryz.func199
 have twB:=Tryz.ntmps199
 have twC:=Tryz.results199
 have twD:=ok229
 have twE:= @sti_swap
 exact tw_rot
theorem tw_ins {p:Prop} (h:p:=by
 refine zU twA O twB twC O ?_
 intro z hz
 refine R O<|G O<|qB O ⟨by omega,by omega⟩<|G O<|zA<|zP<|zT ⟨[(8,.c _),(0,.c _),(1,.c _),(2,.c _),(3,.c _)],[_]⟩ (Weak.mk [true] ⟨zB,zB,zB,zB,zB,T⟩ O)<|qG 1 1 O O (Nat) (fun k=>[(8,vI ((A.length:Int)+k))]) (fun k=>[sH sv (A++srt key tie (X.take k)++X.drop k++B)]) (fun k=>1<=k/\(k<=X.length∨k=1)) (fun k=>X.length-k) ⟨1,⟨by omega,.inr O⟩,Weak.mk [true] ⟨zB,zB,zB,zB,zB,T⟩ (by exact kC (congrArg (List.map eC) (by rw [srt_self (ins_one X),List.append_assoc A (X.take 1),List.take_append_drop])))⟩ ?_
 rintro k ⟨hk1,hk⟩
 refine zI<|R O<|G O<|G O<|yB O<|zA<|zC O (fun c1=>?_) (fun c1=>?_)
 ·try simp only [sx] at c1
  obtain ⟨x,hx⟩:=qU X k (by omega)
  have hS:Srt key tie (srt key tie (X.take k)):=zHw (inc_ne (List.Pairwise.sublist (List.take_sublist _ _) hT))
  have hSl:(srt key tie (X.take k)).length=k:=by rw [yT,List.length_take];omega
  have htie:∀y,y∈srt key tie (X.take k)->tie y<tie x:=fun y hy=>by have h1:(X.take (k+1)).Pairwise fun a b=>tie a<tie b:=List.Pairwise.sublist (List.take_sublist _ _) hT;rw [yC hx,List.pairwise_append] at h1;exact h1.2.2 y (zDy.1 hy) x (by simp)
  have hPx:=hP x (qA hx)
  have hPS:∀y,y∈srt key tie (X.take k)->P y:=fun y hy=>hP y (List.mem_of_mem_take (zDy.1 hy))
  have hXd:=qY hx
  have hXl:X.length=k+1+(X.drop (k+1)).length:=by rw [List.length_drop];omega
  generalize hSd:srt key tie (X.take k)=S at hS hSl htie hPS
  refine zJ<|zI<|zP<|R O<|G O<|G O<|zA<|zP<|zT ⟨[(9,.c _),(0,.c _),(1,.c _),(2,.c _),(3,.c _),(8,.c _)],[_]⟩ (Weak.mk [true] ⟨zB,zB,zB,zB,zB,zB,T⟩ O)<|qG 1 1 O O (Nat) (fun j=>[(9,vI ((A.length:Int)+j))]) (fun j=>[sH sv (mv A x S j (X.drop (k+1)++B))]) (fun j=>j<=S.length/\∀y,y∈S.drop j->ltS key tie x y) (fun j=>j) ⟨k,⟨by omega,fun y hy=>by rw [List.drop_eq_nil_of_le (by omega)] at hy;cases hy⟩,Weak.mk [true] ⟨zB,zB,zB,zB,zB,zB,T⟩ (by exact kC (congrArg (List.map eC) (by rw [mv_end hSl,hXd];simp)))⟩ ?_
  rintro j ⟨hj,hq⟩
  refine zI<|zI<|qW 17 mixed (by kernel_rfl) O O<|zL O O (zN O O)<|zL O O (zN O O)<|zL O O (yG O O O)<|zL O O (zN O O)<|qJ [] O O O O J T (fun g4_3=>zN O O) O<|qJ [] O O O O J T (fun g4_3=>zN O O) O<|qJ [] O O O O J T (fun g4_3=>zN O O) O<|qJ [(23,_),(24,_)] O O O O J ⟨O,O,O,O,T⟩ (fun g4_3=>qP 0 O twD O O O (by omega) (by rw [List.length_map,zFa];omega)) O<|qJ [(25,_)] O O O O J ⟨O,O,T⟩ (fun g4_3=>twE O twF O (kI 0 O (zAd (mv_x A x S _ hj) (by omega))) O) O<|qJ [] O O O O J T (fun g4_3=>zN O O) O<|qJ [] O O O O J T (fun g4_3=>zN O O) O<|qJ [(28,_)] O O O O J ⟨O,O,T⟩ (fun g4_3=>kA O O O ⟨by omega,by omega⟩) O<|qJ [(27,_),(29,_)] O O O O J ⟨O,O,O,O,T⟩ (fun g4_3=>qP 0 O twD O O O (by simp only [Lz,cond_true,cond_false,Bool.and_eq_true,Bool.or_eq_true,Bool.not_eq_true',Bool.not_eq_false',Bool.or_eq_false_iff,Bool.and_eq_false_iff,decide_eq_true_eq,decide_eq_false_iff_not,Bool.not_eq_true,Bool.not_eq_false] at g4_3;omega) (by rw [List.length_map,zFa];omega)) O<|qJ [(30,_)] O O O O J ⟨O,O,T⟩ (fun g4_3=>twE O twF O (kI 0 O (zAd (mv_yd d (by simp only [Lz,cond_true,cond_false,Bool.and_eq_true,Bool.or_eq_true,Bool.not_eq_true',Bool.not_eq_false',Bool.or_eq_false_iff,Bool.and_eq_false_iff,decide_eq_true_eq,decide_eq_false_iff_not,Bool.not_eq_true,Bool.not_eq_false] at g4_3;omega) hj) (by simp only [Lz,cond_true,cond_false,Bool.and_eq_true,Bool.or_eq_true,Bool.not_eq_true',Bool.not_eq_false',Bool.or_eq_false_iff,Bool.and_eq_false_iff,decide_eq_true_eq,decide_eq_false_iff_not,Bool.not_eq_true,Bool.not_eq_false] at g4_3;omega))) O) O<|qJ [(22,_),(26,_),(31,_)] O O O O J ⟨O,O,O,O,O,O,T⟩ (fun g4_3=>kW O O (hc x (S.getD (j-1) d) hPx (hPS _ (getD_memS d (by simp only [Lz,cond_true,cond_false,Bool.and_eq_true,Bool.or_eq_true,Bool.not_eq_true',Bool.not_eq_false',Bool.or_eq_false_iff,Bool.and_eq_false_iff,decide_eq_true_eq,decide_eq_false_iff_not,Bool.not_eq_true,Bool.not_eq_false] at g4_3;omega)))) ⟨zB,O,zB,O,T⟩) O<|qJ [(32,_)] O O O O J ⟨O,O,T⟩ (fun g4_3=>kM O O O) O<|zL O O (wU O O O (fun h=>h) O)<|yJ<|zA<|zC O (fun c2=>?_) (fun c2=>?_)
  ·obtain ⟨q1,q2⟩:=and_t c2
   have hj0:0<j:=by have:=of_decide_eq_true q1;omega
   have hlt:key x<key (S.getD (j-1) d):=by have:=of_decide_eq_true q2;omega
   obtain ⟨m,rfl⟩:∃m,j=m+1:=⟨j-1,by omega⟩
   rw [Nat.add_sub_cancel] at hlt
   have hy:=getD_at (S:=S) (j:=m) d (by omega)
   refine zJ<|zI<|zP<|yS 16 0 [⟨0,.q []⟩,⟨1,.q []⟩,⟨2,.q []⟩,⟨3,.q []⟩,⟨4,.q []⟩,⟨5,.q []⟩,⟨6,.q []⟩,⟨7,.q []⟩,⟨8,.q [0]⟩,⟨9,.q [0]⟩,⟨10,.q []⟩,⟨11,.q []⟩,⟨12,.q [0]⟩,⟨13,.q [0]⟩,⟨14,.q [0]⟩,⟨15,.e 0 []⟩] mixed (by kernel_rfl) (by kernel_rfl) O O O<|v O<|v O<|v O<|v O<|v O<|v O<|v O<|v O<|v O<|v O<|v O<|v O<|v O<|v O<|v O<|v O<|zAg<|zY O (by decide) O O (zN O O)<|zY O (by decide) O O (zN O O)<|zY O (by decide) O O (zN O O)<|zY O (by decide) O O (zN O O)<|zY O (by decide) O O (kA O O O ⟨by omega,by omega⟩)<|zY O (by decide) O O (zN O O)<|zY O (by decide) O O (zN O O)<|zY O (by decide) O O (kA O O O ⟨by omega,by omega⟩)<|zY O (by decide) O O (qP 0 O twD O O O (by omega) (by rw [List.length_map,zFa];omega))<|zY O (by decide) O O (twE O twF O (kI 0 O (zAd (mv_y' hy) (by omega))) O)<|zY O (by decide) O O (zN O O)<|zY O (by decide) O O (zN O O)<|zY O (by decide) O O (qP 0 O twD O O O (by omega) (by rw [List.length_map,zFa];omega))<|zY O (by decide) O O (twE O twF O (kI 0 O (zAd (mv_x A x S _ hj) (by omega))) O)<|zY O (by decide) O O (qP 0 O twD O O O (by omega) (by rw [List.length_map,zFa];omega))<|zEs O O (by decide) O O (kX O twG O O O (zHs 0 O (zAd (mv_x A x S _ hj) (by omega)) O)) ?_
   rintro _ _ ⟨rfl,rfl⟩
   refine ⟨_,O,?_⟩
   refine zAe O<|zW O (qP 0 O twD O O O (by omega) (by rw [List.length_set,List.length_map,zFa];omega))<|zCs O O (kX O twG O O O (zHs 0 O (get_set (mv_y' hy) (by omega) (m:=A.length+(m+1)) (by omega) (by omega)) O))<|zA<|zM O<|G O<|yY O ⟨by omega,by omega⟩<|G O<|zA ?_
   refine ⟨m,⟨by omega,zTe hS hy (ltS_to (htie _ (qA hy)) hlt)⟩,(by omega),Weak.mk [true] ⟨VLe.of_eq (congrArg vI (by omega)),zB,zB,zB,zB,zB,T⟩ (by exact kC (zPs (mv_dn hy) (by omega) (by omega)))⟩
  ·have hst:0<j->¬key x<key (S.getD (j-1) d):=fun h0 h1=>by have:=c2;simp only [Bool.and_eq_false_iff,decide_eq_false_iff_not] at this;omega
   have hfr:=front_lt d hS htie hj hst
   have hins:=ins_is hS hq hfr
   have hnx:srt key tie (X.take (k+1))=S.take j++x::S.drop j:=by rw [yC hx,←srt_front (inc_ne (by rw [←yC hx];exact List.Pairwise.sublist (List.take_sublist _ _) hT)),hSd];exact hins
   refine qH<|zM O<|G O<|qB O ⟨by omega,by omega⟩<|G O<|zA ?_
   refine ⟨k+1,⟨by omega,by omega⟩,(by omega),Weak.mk [true] ⟨VLe.of_eq (congrArg vI (by omega)),zB,zB,zB,zB,T⟩ (by exact kC (congrArg (List.map eC) (by rw [hnx];unfold mv;simp)))⟩
 ·try simp only [sx] at c1
  refine qH ?_
  repeat (first|refine qV ?_|refine qT ?_)
  refine yF<|U ?_
  refine ⟨O,?_⟩
  have t1:X.take k=X:=List.take_of_length_le (by omega)
  have t2:X.drop k=[]:=List.drop_eq_nil_of_le (by omega)
  have e9:A++srt key tie X++[]++B=A++srt key tie X++B:=by simp
  rw [t1,t2,e9]
  rfl):p:=h
theorem sti_ins (sv:Value) (c:C) (key:Nat->Int) (tie:Nat->Nat) (P:Nat->Prop) (d:Nat) (hc:∀x y,P x->P y->FnPur cfg c [vI (x:Int),vI (y:Int)] (vI (key x-key y))) (A X B:List Nat) (hT:X.Pairwise fun a b=>tie a<tie b) (hP:∀x,x∈X->P x) (hL:A.length+X.length+B.length<=1000000):
    Con cfg 178 [.c (.lit sv),vI A.length,vI ((A.length:Int)+X.length),.c c] [E.vec sv 3 1 ((A++X++B).map lH)] fun r μ'=>r=.tup []/\μ'=[E.vec sv 3 1 ((A++srt key tie X++B).map lH)]:=by
 have twA:=Tryz.func178
 have twB:=Tryz.ntmps178
 have twC:=Tryz.results178
 have twD:=el67
 have twE:= @zF
 have twF:=one3
 have twG:=sz3
 exact tw_ins
theorem zRa {p:Prop} (h:p:=by
 refine zU twA O twB twC O ?_
 intro z hz
 have hn:=sym_ne sX sY hT
 refine zI<|R O<|G O<|G O<|yY O ⟨by omega,by omega⟩<|qZ O<|zA<|zC O (fun c1=>?_) (fun c1=>?_)
 ·try simp only [sx] at c1
  obtain ⟨x,hXx⟩:=one_of (X:=X) (by omega)
  have hx0:X[0]? =some x:=by rw [hXx];rfl
  have hxm:=qA hx0
  refine R O<|G O<|G O<|zA<|R O<|G O<|G O<|zA<|zI<|zP<|zT ⟨[(10,.c _),(11,.c _),(0,.c _),(1,.c _),(4,.c _)],[_]⟩ (Weak.mk [true] ⟨zB,zB,zB,zB,zB,T⟩ O) ?_
  refine qG 2 0 O O (Nat×Nat) (fun ⟨p,q⟩=>[(10,vI ((A.length:Int)+X.length+p)),(11,vI ((A.length:Int)+X.length+q))]) (fun ⟨p,q⟩=>[]) (fun ⟨p,q⟩=>p<=q/\q<=Y.length/\(∀y,y∈Y.take p->ltS key tie y x)/\(∀y,y∈Y.drop q->ltS key tie x y)) (fun ⟨p,q⟩=>q-p) ⟨(0,Y.length),⟨by omega,by omega,fun y hy=>(by simp at hy),fun y hy=>(by rw [List.drop_length] at hy;cases hy)⟩,Weak.mk [true] ⟨VLe.of_eq (congrArg vI (by omega)),zB,zB,zB,zB,T⟩ O⟩ ?_
  rintro ⟨p,q⟩ ⟨h1,h2,h3,h4⟩
  refine zI<|R O<|G O<|G O<|yB O<|zA<|zC O (fun c2=>?_) (fun c2=>?_)
  ·try simp only [sx] at c2
   obtain ⟨u,hu⟩:∃u,u=(p+q)/2:=⟨_,rfl⟩
   obtain ⟨y,hy⟩:=qU Y u (by omega)
   have hty:=hT x hxm y (qA hy)
   refine zJ<|zP<|R O<|G O<|G O<|qB O ⟨by omega,by omega⟩<|zW O (zCd O us3 ik237 O (zCq ⟨by omega,by omega⟩))<|zW O (zMo O O O (by decide) (zSn (h:=(A.length:Int)+X.length+u) (by omega) (by omega)))<|zW O (zCd O us237 ik3 O (zDi ⟨by omega,by omega⟩))<|G O<|zA<|zI<|qW 11 mixed (by kernel_rfl) O O<|zL O O (zN O O)<|zL O O (zN O O)<|zL O O (zN O O)<|zL O O (qP 0 O twD O O O (by omega) (by simp only [List.length_map,List.length_append];omega))<|zL O O (twE O twF O (kI 0 O (zAd (get_Y hy) (by omega))) O)<|zL O O (zN O O)<|zL O O (zN O O)<|zL O O (qP 0 O twD O O O (by omega) (by simp only [List.length_map,List.length_append];omega))<|zL O O (twE O twF O (kI 0 O (zAd (get_X (u:=0) hx0) (by omega))) O)<|zL O O (kW O O (hc y x (hPY y (qA hy)) (hPX x hxm)) ⟨zB,O,zB,O,T⟩)<|zL O O (kM O O O)<|yJ<|zA<|zC O (fun c3=>?_) (fun c3=>?_)
   ·try simp only [sx] at c3
    have hlt:=ltS_to (key:=key) hty (by omega)
    refine zM O<|G O<|qB O ⟨by omega,by omega⟩<|G O<|zA ?_
    refine ⟨(u+1,q),⟨by omega,by omega,zRc sY hy hlt,h4⟩,(by dsimp only;omega),Weak.mk [true] ⟨VLe.of_eq (congrArg vI (by omega)),zB,zB,zB,zB,T⟩ O⟩
   ·try simp only [sx] at c3
    have hlt:=ltS_of (key:=key) hty (by omega)
    refine zM O<|G O<|G O<|zA ?_
    refine ⟨(p,u),⟨by omega,by omega,h3,zTe sY hy hlt⟩,(by dsimp only;omega),Weak.mk [true] ⟨VLe.of_eq (congrArg vI (by omega)),zB,zB,zB,zB,T⟩ O⟩
  ·try simp only [sx] at c2
   have hpq:p=q:=by omega
   subst hpq
   refine qH<|zI<|R O<|G O<|G O<|zA<|zP<|zT ⟨[(13,.c _),(0,.c _),(10,.c _)],[_]⟩ (Weak.mk [true] ⟨zB,zB,zB,T⟩ O) ?_
   refine qG 1 1 O O (Nat) (fun t=>[(13,vI ((A.length:Int)+t))]) (fun t=>[sH sv (mv A x Y t B)]) (fun t=>t<=p) (fun t=>p-t) ⟨0,(by omega),Weak.mk [true] ⟨VLe.of_eq (congrArg vI (by omega)),zB,zB,T⟩ (by exact kC (congrArg (List.map eC) (by rw [hXx];simp [mv])))⟩ ?_
   rintro t ht
   refine zI<|R O<|G O<|G O<|yY O ⟨by omega,by omega⟩<|yB O<|zA<|zC O (fun c4=>?_) (fun c4=>?_)
   ·try simp only [sx] at c4
    obtain ⟨y,hy⟩:=qU Y t (by omega)
    refine zJ<|zI<|zP<|yS 16 0 [⟨0,.q []⟩,⟨1,.q []⟩,⟨2,.q []⟩,⟨3,.q []⟩,⟨4,.q []⟩,⟨5,.q []⟩,⟨6,.q []⟩,⟨7,.q []⟩,⟨8,.q [0]⟩,⟨9,.q [0]⟩,⟨10,.q []⟩,⟨11,.q []⟩,⟨12,.q [0]⟩,⟨13,.q [0]⟩,⟨14,.q [0]⟩,⟨15,.e 0 []⟩] mixed (by kernel_rfl) (by kernel_rfl) O O O<|v O<|v O<|v O<|v O<|v O<|v O<|v O<|v O<|v O<|v O<|v O<|v O<|v O<|v O<|v O<|v O<|zAg<|zY O (by decide) O O (zN O O)<|zY O (by decide) O O (zN O O)<|zY O (by decide) O O (zN O O)<|zY O (by decide) O O (zN O O)<|zY O (by decide) O O (kZ O O O ⟨by omega,by omega⟩)<|zY O (by decide) O O (zN O O)<|zY O (by decide) O O (zN O O)<|zY O (by decide) O O (kZ O O O ⟨by omega,by omega⟩)<|zY O (by decide) O O (qP 0 O twD O O O (by omega) (by rw [List.length_map,zFa];omega))<|zY O (by decide) O O (twE O twF O (kI 0 O (zAd (mv_y hy) (by omega))) O)<|zY O (by decide) O O (zN O O)<|zY O (by decide) O O (zN O O)<|zY O (by decide) O O (qP 0 O twD O O O (by omega) (by rw [List.length_map,zFa];omega))<|zY O (by decide) O O (twE O twF O (kI 0 O (zAd (mv_x A x Y _ (by omega)) (by omega))) O)<|zY O (by decide) O O (qP 0 O twD O O O (by omega) (by rw [List.length_map,zFa];omega))<|zEs O O (by decide) O O (kX O twG O O O (zHs 0 O (zAd (mv_x A x Y _ (by omega)) (by omega)) O)) ?_
    rintro _ _ ⟨rfl,rfl⟩
    refine ⟨_,O,?_⟩
    refine zAe O<|zW O (qP 0 O twD O O O (by omega) (by rw [List.length_set,List.length_map,zFa];omega))<|zCs O O (kX O twG O O O (zHs 0 O (get_set (mv_y hy) (by omega) (m:=A.length+t) (by omega) (by omega)) O))<|zA<|zM O<|G O<|qB O ⟨by omega,by omega⟩<|G O<|zA ?_
    refine ⟨t+1,(by omega),(by omega),Weak.mk [true] ⟨VLe.of_eq (congrArg vI (by omega)),zB,zB,T⟩ (by exact kC (zPs (mv_up hy) (by omega) (by omega)))⟩
   ·try simp only [sx] at c4
    have htp:t=p:=by omega
    subst htp
    refine qH<|zK<|U ?_
    have h7:=ins_is' sY h4 h3
    rw [show srt key tie (X++Y)=Y.take t++x::Y.drop t by rw [hXx];exact h7]
    exact ⟨O,O⟩
 ·try simp only [sx] at c1
  refine zJ<|zI<|R O<|G O<|G O<|yY O ⟨by omega,by omega⟩<|qZ O<|zA<|zC O (fun c5=>?_) (fun c5=>?_)
  ·try simp only [sx] at c5
   obtain ⟨y,hYy⟩:=one_of (X:=Y) (by omega)
   have hy0:Y[0]? =some y:=by rw [hYy];rfl
   have hym:=qA hy0
   refine R O<|G O<|G O<|zA<|R O<|G O<|G O<|zA<|zI<|zP<|zT ⟨[(14,.c _),(15,.c _),(0,.c _),(2,.c _),(4,.c _)],[_]⟩ (Weak.mk [true] ⟨zB,zB,zB,zB,zB,T⟩ O) ?_
   refine qG 2 0 O O (Nat×Nat) (fun ⟨p,q⟩=>[(14,vI ((A.length:Int)+p)),(15,vI ((A.length:Int)+q))]) (fun ⟨p,q⟩=>[]) (fun ⟨p,q⟩=>p<=q/\q<=X.length/\(∀x,x∈X.take p->ltS key tie x y)/\(∀x,x∈X.drop q->ltS key tie y x)) (fun ⟨p,q⟩=>q-p) ⟨(0,X.length),⟨by omega,by omega,fun y hy=>(by simp at hy),fun y hy=>(by rw [List.drop_length] at hy;cases hy)⟩,Weak.mk [true] ⟨VLe.of_eq (congrArg vI (by omega)),zB,zB,zB,zB,T⟩ O⟩ ?_
   rintro ⟨p,q⟩ ⟨h1,h2,h3,h4⟩
   refine zI<|R O<|G O<|G O<|yB O<|zA<|zC O (fun c6=>?_) (fun c6=>?_)
   ·try simp only [sx] at c6
    obtain ⟨u,hu⟩:∃u,u=(p+q)/2:=⟨_,rfl⟩
    obtain ⟨x,hx⟩:=qU X u (by omega)
    have htx:=hT x (qA hx) y hym
    refine zJ<|zP<|R O<|G O<|G O<|qB O ⟨by omega,by omega⟩<|zW O (zCd O us3 ik237 O (zCq ⟨by omega,by omega⟩))<|zW O (zMo O O O (by decide) (zSn (h:=(A.length:Int)+u) (by omega) (by omega)))<|zW O (zCd O us237 ik3 O (zDi ⟨by omega,by omega⟩))<|G O<|zA<|zI<|qW 12 mixed (by kernel_rfl) O O<|zL O O (zN O O)<|zL O O (zN O O)<|zL O O (zN O O)<|zL O O (qP 0 O twD O O O (by omega) (by simp only [List.length_map,List.length_append];omega))<|zL O O (twE O twF O (kI 0 O (zAd (get_Y (u:=0) hy0) (by omega))) O)<|zL O O (zN O O)<|zL O O (zN O O)<|zL O O (qP 0 O twD O O O (by omega) (by simp only [List.length_map,List.length_append];omega))<|zL O O (twE O twF O (kI 0 O (zAd (get_X hx) (by omega))) O)<|zL O O (kW O O (hc y x (hPY y hym) (hPX x (qA hx))) ⟨zB,O,zB,O,T⟩)<|zL O O (kM O O O)<|zL O O (wA O O)<|yJ<|zA<|zC O (fun c7=>?_) (fun c7=>?_)
    ·have hlt:=ltS_of (key:=key) htx (by have:=c7;simp at this;omega)
     refine zM O<|G O<|qB O ⟨by omega,by omega⟩<|G O<|zA ?_
     refine ⟨(u+1,q),⟨by omega,by omega,zRc sX hx hlt,h4⟩,(by dsimp only;omega),Weak.mk [true] ⟨VLe.of_eq (congrArg vI (by omega)),zB,zB,zB,zB,T⟩ O⟩
    ·have hlt:=ltS_to (key:=key) htx (by have:=c7;simp at this;omega)
     refine zM O<|G O<|G O<|zA ?_
     refine ⟨(p,u),⟨by omega,by omega,h3,zTe sX hx hlt⟩,(by dsimp only;omega),Weak.mk [true] ⟨VLe.of_eq (congrArg vI (by omega)),zB,zB,zB,zB,T⟩ O⟩
   ·try simp only [sx] at c6
    have hpq:p=q:=by omega
    subst hpq
    refine qH<|zI<|R O<|G O<|G O<|zA<|zP<|zT ⟨[(17,.c _),(0,.c _),(14,.c _)],[_]⟩ (Weak.mk [true] ⟨zB,zB,zB,T⟩ O)<|qG 1 1 O O (Nat) (fun t=>[(17,vI ((A.length:Int)+t))]) (fun t=>[sH sv (mv A y X t B)]) (fun t=>t<=X.length/\p<=t) (fun t=>t) ⟨X.length,⟨by omega,by omega⟩,Weak.mk [true] ⟨zB,zB,zB,T⟩ (by exact kC (congrArg (List.map eC) (by rw [mv_end rfl,hYy];simp)))⟩ ?_
    rintro t ⟨ht,ht2⟩
    refine zI<|R O<|G O<|G O<|zW O (yG O O O)<|zA<|zC O (fun c8=>?_) (fun c8=>?_)
    ·try simp only [sx] at c8
     obtain ⟨s,rfl⟩:∃s,t=s+1:=⟨t-1,by omega⟩
     obtain ⟨x,hx⟩:=qU X s (by omega)
     refine zJ<|zI<|zP<|yS 16 0 [⟨0,.q []⟩,⟨1,.q []⟩,⟨2,.q []⟩,⟨3,.q []⟩,⟨4,.q []⟩,⟨5,.q []⟩,⟨6,.q []⟩,⟨7,.q []⟩,⟨8,.q [0]⟩,⟨9,.q [0]⟩,⟨10,.q []⟩,⟨11,.q []⟩,⟨12,.q [0]⟩,⟨13,.q [0]⟩,⟨14,.q [0]⟩,⟨15,.e 0 []⟩] mixed (by kernel_rfl) (by kernel_rfl) O O O<|v O<|v O<|v O<|v O<|v O<|v O<|v O<|v O<|v O<|v O<|v O<|v O<|v O<|v O<|v O<|v O<|zAg<|zY O (by decide) O O (zN O O)<|zY O (by decide) O O (zN O O)<|zY O (by decide) O O (zN O O)<|zY O (by decide) O O (zN O O)<|zY O (by decide) O O (kA O O O ⟨by omega,by omega⟩)<|zY O (by decide) O O (zN O O)<|zY O (by decide) O O (zN O O)<|zY O (by decide) O O (kA O O O ⟨by omega,by omega⟩)<|zY O (by decide) O O (qP 0 O twD O O O (by omega) (by rw [List.length_map,zFa];omega))<|zY O (by decide) O O (twE O twF O (kI 0 O (zAd (mv_y' hx) (by omega))) O)<|zY O (by decide) O O (zN O O)<|zY O (by decide) O O (zN O O)<|zY O (by decide) O O (qP 0 O twD O O O (by omega) (by rw [List.length_map,zFa];omega))<|zY O (by decide) O O (twE O twF O (kI 0 O (zAd (mv_x A y X _ (by omega)) (by omega))) O)<|zY O (by decide) O O (qP 0 O twD O O O (by omega) (by rw [List.length_map,zFa];omega))<|zEs O O (by decide) O O (kX O twG O O O (zHs 0 O (zAd (mv_x A y X _ (by omega)) (by omega)) O)) ?_
     rintro _ _ ⟨rfl,rfl⟩
     refine ⟨_,O,?_⟩
     refine zAe O<|zW O (qP 0 O twD O O O (by omega) (by rw [List.length_set,List.length_map,zFa];omega))<|zCs O O (kX O twG O O O (zHs 0 O (get_set (mv_y' hx) (by omega) (m:=A.length+(s+1)) (by omega) (by omega)) O))<|zA<|zM O<|G O<|yY O ⟨by omega,by omega⟩<|G O<|zA ?_
     refine ⟨s,⟨by omega,by omega⟩,(by omega),Weak.mk [true] ⟨VLe.of_eq (congrArg vI (by omega)),zB,zB,T⟩ (by exact kC (zPs (mv_dn hx) (by omega) (by omega)))⟩
    ·try simp only [sx] at c8
     have htp:t=p:=by omega
     subst htp
     refine qH<|zK<|U ?_
     have h7:=ins_is sX h4 h3
     rw [show srt key tie (X++Y)=X.take t++y::X.drop t by rw [hYy];exact h7]
     exact ⟨O,O⟩
  ·try simp only [sx] at c5
   obtain ⟨w,hw⟩:∃w,w=(X.length+Y.length)/2:=⟨_,rfl⟩
   refine zJ<|R O<|G O<|G O<|qB O ⟨by omega,by omega⟩<|zW O (zCd O us3 ik237 O (zCq ⟨by omega,by omega⟩))<|zW O (zMo O O O (by decide) (zSn (h:=(A.length:Int)+w) (by omega) (by omega)))<|zW O (zCd O us237 ik3 O (zDi ⟨by omega,by omega⟩))<|G O<|zA<|R O<|G O<|G O<|qB O ⟨by omega,by omega⟩<|G O<|zA<|R O<|G O<|G O<|zA<|zI<|R O<|G O<|G O<|zW O (yG O O O)<|zA<|zC O (fun c9=>?_) (fun c9=>?_)
   ·try simp only [sx] at c9
    refine R O<|G O<|G O<|yY O ⟨by omega,by omega⟩<|G O<|zA<|zM O<|G O<|G O<|zA<|R O<|G O<|yY O ⟨by omega,by omega⟩<|G O<|zA<|zI<|zP<|zT ⟨[(20,.c _),(21,.c _),(0,.c _),(1,.c _),(2,.c _),(3,.c _),(4,.c _),(18,.c _),(19,.c _),(22,.c _)],[_]⟩ (Weak.mk [true] ⟨zB,zB,zB,zB,zB,zB,zB,zB,zB,zB,T⟩ O) ?_
    refine qG 2 0 O O (Nat×Nat) (fun ⟨p,q⟩=>[(20,vI ((A.length:Int)+p)),(21,vI ((A.length:Int)+q))]) (fun ⟨p,q⟩=>[]) (fun ⟨p,q⟩=>p<=q/\q<=X.length/\q<=w/\w-p<=Y.length/\(∀a,a∈X.take p->∀b,b∈Y.drop (w-p)->ltS key tie a b)/\(∀a,a∈X.drop q->∀b,b∈Y.take (w-q)->ltS key tie b a)) (fun ⟨p,q⟩=>q-p) ⟨(w-Y.length,w),⟨by omega,by omega,by omega,by omega,fun a ha b hb=>(by rw [List.drop_eq_nil_of_le (by omega)] at hb;cases hb),fun a ha b hb=>(by rw [Nat.sub_self] at hb;simp at hb)⟩,Weak.mk [true] ⟨VLe.of_eq (congrArg vI (by omega)),VLe.of_eq (congrArg vI (by omega)),zB,zB,zB,zB,zB,zB,zB,zB,T⟩ O⟩ ?_
    rintro ⟨p,q⟩ ⟨h1,h2,h3,h4,h5,h6⟩
    refine zI<|R O<|G O<|G O<|yB O<|zA<|zC O (fun c10=>?_) (fun c10=>?_)
    ·exact v8
    ·try simp only [sx] at c10
     have hpq:p=q:=by omega
     subst hpq
     have lX:=List.length_take (i:=p) (l:=X)
     have lY:=List.length_take (i:=w-p) (l:=Y)
     have dX:=List.length_drop (i:=p) (l:=X)
     have dY:=List.length_drop (i:=w-p) (l:=Y)
     have sX1:=sX.sub (List.take_sublist p X)
     have sX2:=sX.sub (List.drop_sublist p X)
     have sY1:=sY.sub (List.take_sublist (w-p) Y)
     have sY2:=sY.sub (List.drop_sublist (w-p) Y)
     refine qH<|R O<|G O<|G O<|yY O ⟨by omega,by omega⟩<|G O<|zA<|zI<|R O<|G O<|G O<|yB O<|G O<|rL0 O (fun g39_3=>zN O O) O<|rL0 O (fun g39_3=>zN O O) O<|rLz [(182,_),(183,_)] O J ⟨O,O,O,O,T⟩ (fun g39_3=>kM O O O) O<|yK O (fun h=>h)<|zA<|zC O (fun c12=>?_) (fun c12=>?_)
     ·exact w8
     ·have c12:X.length<=p∨w-p=0:=by have:=c12;simp at this;omega
      refine zT _ (Weak.vecEq 0 O (rows':=(A++X.take p++Y.take (w-p)++X.drop p++(Y.drop (w-p)++B)).map eC) (by exact congrArg (List.map eC) (sym_no c12)))<|zJ<|zI<|R O<|G O<|G O<|yB O<|G O<|rL0 O (fun g41_3=>zN O O) O<|rL0 O (fun g41_3=>zN O O) O<|rLz [(196,_),(197,_)] O J ⟨O,O,O,O,T⟩ (fun g41_3=>kM O O O) O<|yK O (fun h=>h)<|zA<|zC O (fun c13=>?_) (fun c13=>?_)
      ·exact q7
      ·exact l8
   ·try simp only [sx] at c9
    refine R O<|G O<|G O<|zA<|zM O<|G O<|G O<|zA<|R O<|G O<|yY O ⟨by omega,by omega⟩<|G O<|zA<|zI<|zP<|zT ⟨[(20,.c _),(21,.c _),(0,.c _),(1,.c _),(2,.c _),(3,.c _),(4,.c _),(18,.c _),(19,.c _),(22,.c _)],[_]⟩ (Weak.mk [true] ⟨zB,zB,zB,zB,zB,zB,zB,zB,zB,zB,T⟩ O) ?_
    refine qG 2 0 O O (Nat×Nat) (fun ⟨p,q⟩=>[(20,vI ((A.length:Int)+p)),(21,vI ((A.length:Int)+q))]) (fun ⟨p,q⟩=>[]) (fun ⟨p,q⟩=>p<=q/\q<=X.length/\q<=w/\w-p<=Y.length/\(∀a,a∈X.take p->∀b,b∈Y.drop (w-p)->ltS key tie a b)/\(∀a,a∈X.drop q->∀b,b∈Y.take (w-q)->ltS key tie b a)) (fun ⟨p,q⟩=>q-p) ⟨(0,X.length),⟨by omega,by omega,by omega,by omega,fun a ha b hb=>(by simp at ha),fun a ha b hb=>(by rw [List.drop_length] at ha;cases ha)⟩,Weak.mk [true] ⟨VLe.of_eq (congrArg vI (by omega)),VLe.of_eq (congrArg vI (by omega)),zB,zB,zB,zB,zB,zB,zB,zB,T⟩ O⟩ ?_
    rintro ⟨p,q⟩ ⟨h1,h2,h3,h4,h5,h6⟩
    refine zI<|R O<|G O<|G O<|yB O<|zA<|zC O (fun c10=>?_) (fun c10=>?_)
    ·exact v8
    ·try simp only [sx] at c10
     have hpq:p=q:=by omega
     subst hpq
     have lX:=List.length_take (i:=p) (l:=X)
     have lY:=List.length_take (i:=w-p) (l:=Y)
     have dX:=List.length_drop (i:=p) (l:=X)
     have dY:=List.length_drop (i:=w-p) (l:=Y)
     have sX1:=sX.sub (List.take_sublist p X)
     have sX2:=sX.sub (List.drop_sublist p X)
     have sY1:=sY.sub (List.take_sublist (w-p) Y)
     have sY2:=sY.sub (List.drop_sublist (w-p) Y)
     refine qH<|R O<|G O<|G O<|yY O ⟨by omega,by omega⟩<|G O<|zA<|zI<|R O<|G O<|G O<|yB O<|G O<|rL0 O (fun g39_3=>zN O O) O<|rL0 O (fun g39_3=>zN O O) O<|rLz [(182,_),(183,_)] O J ⟨O,O,O,O,T⟩ (fun g39_3=>kM O O O) O<|yK O (fun h=>h)<|zA<|zC O (fun c12=>?_) (fun c12=>?_)
     ·exact w8
     ·have c12:X.length<=p∨w-p=0:=by have:=c12;simp at this;omega
      refine zT _ (Weak.vecEq 0 O (rows':=(A++X.take p++Y.take (w-p)++X.drop p++(Y.drop (w-p)++B)).map eC) (by exact congrArg (List.map eC) (sym_no c12)))<|zJ<|zI<|R O<|G O<|G O<|yB O<|G O<|rL0 O (fun g41_3=>zN O O) O<|rL0 O (fun g41_3=>zN O O) O<|rLz [(196,_),(197,_)] O J ⟨O,O,O,O,T⟩ (fun g41_3=>kM O O O) O<|yK O (fun h=>h)<|zA<|zC O (fun c13=>?_) (fun c13=>?_)
      ·exact q7
      ·have c13:p=0∨w-p=0:=by have:=c13;simp at this;omega
       refine zT _ (Weak.vecEq 0 O (rows':=(A++srt key tie (X.take p++Y.take (w-p))++X.drop p++Y.drop (w-p)++B).map eC) (by exact congrArg (List.map eC) (by rw [←zCf sX1 sY1 (by omega)];simp)))<|zJ<|R O<|G O<|G O<|yB O<|G O<|rL0 O (fun g43_3=>zN O O) O<|rL0 O (fun g43_3=>zN O O) O<|rLz [(210,_),(211,_)] O J ⟨O,O,O,O,T⟩ (fun g43_3=>kM O O O) O<|yK O (fun h=>h)<|zA<|zC O (fun c14=>?_) (fun c14=>?_)
       ·exact q8
       ·have c14:X.length<=p∨Y.length<=w-p:=by have:=c14;simp at this;omega
        refine zT _ (Weak.vecEq 0 O (rows':=((A++srt key tie (X.take p++Y.take (w-p)))++srt key tie (X.drop p++Y.drop (w-p))++B).map eC) (by exact congrArg (List.map eC) (by rw [←zCf sX2 sY2 (by omega)];simp)))<|zJ ?_
        repeat (first|refine qV ?_|refine qT ?_)
        refine yF<|U ?_
        have h7:=zAo sX sY hn h5 h6
        have h8:A++srt key tie (X.take p++Y.take (w-p))++srt key tie (X.drop p++Y.drop (w-p))++B=A++srt key tie (X++Y)++B:=by rw [←h7];simp
        rw [←h8]
        exact ⟨O,O⟩):p:=h
set_option maxHeartbeats 4000000 in
theorem sti_sym_step (sv:Value) (c:C) (key:Nat->Int) (tie:Nat->Nat) (P:Nat->Prop) (d:Nat) (hc:∀x y,P x->P y->FnPur cfg c [vI (x:Int),vI (y:Int)] (vI (key x-key y))) (A X Y B:List Nat) (ih:∀(A' X' Y' B':List Nat),X'.length+Y'.length<X.length+Y.length->1<=X'.length->1<=Y'.length->Srt key tie X'->Srt key tie Y'->(∀x,x∈X'->∀y,y∈Y'->tie x<tie y)->(∀x,x∈X'->P x)->(∀y,y∈Y'->P y)->A'.length+X'.length+Y'.length+B'.length<=1000000->Con cfg 179 [.c (.lit sv),vI A'.length,vI ((A'.length:Int)+X'.length),vI ((A'.length:Int)+X'.length+Y'.length),.c c] [E.vec sv 3 1 ((A'++X'++Y'++B').map lH)] fun r μ'=>r=.tup []/\μ'=[E.vec sv 3 1 ((A'++srt key tie (X'++Y')++B').map lH)]) (hX:1<=X.length) (hY:1<=Y.length) (sX:Srt key tie X) (sY:Srt key tie Y) (hT:∀x,x∈X->∀y,y∈Y->tie x<tie y) (hPX:∀x,x∈X->P x) (hPY:∀y,y∈Y->P y) (hL:A.length+X.length+Y.length+B.length<=1000000):
    Con cfg 179 [.c (.lit sv),vI A.length,vI ((A.length:Int)+X.length),vI ((A.length:Int)+X.length+Y.length),.c c] [E.vec sv 3 1 ((A++X++Y++B).map lH)] fun r μ'=>r=.tup []/\μ'=[E.vec sv 3 1 ((A++srt key tie (X++Y)++B).map lH)]:=by
 have twA:=Tryz.func179
 have twB:=Tryz.ntmps179
 have twC:=Tryz.results179
 have twD:=el67
 have twE:= @zF
 have twF:=one3
 have twG:=sz3
 have twH:=ok199
 have twI:= @sti_rot
 have twJ:=ok179
 exact zRa
theorem sti_sym (sv:Value) (c:C) (key:Nat->Int) (tie:Nat->Nat) (P:Nat->Prop) (d:Nat) (hc:∀x y,P x->P y->FnPur cfg c [vI (x:Int),vI (y:Int)] (vI (key x-key y))):∀(n:Nat) (A X Y B:List Nat),X.length+Y.length<=n->1<=X.length->1<=Y.length->Srt key tie X->Srt key tie Y->(∀x,x∈X->∀y,y∈Y->tie x<tie y)->(∀x,x∈X->P x)->(∀y,y∈Y->P y)->A.length+X.length+Y.length+B.length<=1000000->Con cfg 179 [.c (.lit sv),vI A.length,vI ((A.length:Int)+X.length),vI ((A.length:Int)+X.length+Y.length),.c c] [E.vec sv 3 1 ((A++X++Y++B).map lH)] fun r μ'=>r=.tup []/\μ'=[E.vec sv 3 1 ((A++srt key tie (X++Y)++B).map lH)]
  |0,A,X,Y,B,h,hX,_,_,_,_,_,_,_=>by omega
  |n+1,A,X,Y,B,h,hX,hY,sX,sY,hT,hPX,hPY,hL=>sti_sym_step sv c key tie P d hc A X Y B (fun A' X' Y' B' hl g1 g2 g3 g4 g5 g6 g7 g8=>sti_sym sv c key tie P d hc n A' X' Y' B' (by omega) g1 g2 g3 g4 g5 g6 g7 g8) hX hY sX sY hT hPX hPY hL
theorem tw_stable {p:Prop} (h:p:=by
 refine zU twA O twB twC O ?_
 intro z hz
 have hne:neP key tie X:=inc_ne hT
 have q1:Srt key tie (srt key tie (X.take 20)):=zHw (inc_ne (List.Pairwise.sublist (List.take_sublist _ _) hT))
 have q2:Srt key tie (srt key tie (X.drop 20)):=zHw (inc_ne (List.Pairwise.sublist (List.drop_sublist _ _) hT))
 have t1:=List.length_take (i:=20) (l:=X)
 have t2:=List.length_drop (i:=20) (l:=X)
 have q3:∀x,x∈srt key tie (X.take 20)->∀y,y∈srt key tie (X.drop 20)->tie x<tie y:=sep20 hT
 refine R O<|G O<|zA<|R O<|G O<|G O<|G O<|zA<|zI<|zP<|zT ⟨[(7,.c _),(8,.c _),(0,.c _),(1,.c _),(2,.c _),(6,.c _)],[_]⟩ (Weak.mk [true] ⟨zB,zB,zB,zB,zB,zB,T⟩ O)<|qG 2 1 O O (Nat) (fun j=>[(7,vI (20*(j:Int))),(8,vI (20*(j:Int)+20))]) (fun j=>[sH sv (hdB key tie X j++X.drop (20*j))]) (fun j=>20*j<=X.length) (fun j=>X.length-20*j) ⟨0,(by omega),Weak.mk [true] ⟨zB,zB,zB,zB,zB,zB,T⟩ O⟩ ?_
 rintro j hj
 refine zI<|R O<|G O<|G O<|zW O (kQ O O O)<|zA<|zC O (fun c1=>?_) (fun c1=>?_)
 ·try simp only [sx] at c1
  have hj1:20*j+20<=X.length:=by omega
  have hl1:=hdB_len (key:=key) (tie:=tie) X j (by omega)
  have hl2:((X.drop (20*j)).take 20).length=20:=by rw [List.length_take,List.length_drop];omega
  refine zT _ (Weak.vecEq 0 O (rows':=(hdB key tie X j++((X.drop (20*j)).take 20)++(X.drop (20*j)).drop 20).map eC) (by exact congrArg (List.map eC) (by rw [List.append_assoc,List.take_append_drop])))<|zJ<|zP<|R O<|G O<|G O<|G O<|G O ?_
  refine zV O O (yE [0] O twD (twE sv c key tie P d hc (hdB key tie X j) ((X.drop (20*j)).take 20) ((X.drop (20*j)).drop 20) (List.Pairwise.sublist ((List.take_sublist _ _).trans (List.drop_sublist _ _)) hT) (fun x hx=>hP x (List.mem_of_mem_drop (List.mem_of_mem_take hx))) (by rw [List.length_drop,List.length_drop];omega)) ⟨zB,O,VLe.of_eq (congrArg vI (by omega)),O,VLe.of_eq (congrArg vI (by omega)),O,zB,O,T⟩ O) ?_
  rintro _ _ ⟨_,⟨rfl,rfl⟩,rfl⟩
  refine zA<|R O<|G O<|G O<|zA<|zM O<|G O<|G O<|qB O ⟨by omega,by omega⟩<|G O<|zA ?_
  refine ⟨j+1,(by omega),(by omega),Weak.mk [true] ⟨VLe.of_eq (congrArg vI (by omega)),VLe.of_eq (congrArg vI (by omega)),zB,zB,zB,zB,T⟩ (by exact kC (congrArg (List.map eC) (by rw [hdB,List.drop_drop,Nat.mul_succ])))⟩
 ·try simp only [sx] at c1
  have hl1:=hdB_len (key:=key) (tie:=tie) X j (by omega)
  have hl2:(X.drop (20*j)).length=X.length-20*j:=List.length_drop
  refine zT _ (Weak.vecEq 0 O (rows':=(hdB key tie X j++X.drop (20*j)++[]).map eC) (by exact congrArg (List.map eC) (by simp)))<|qH<|R O<|G O<|G O<|G O<|G O ?_
  refine zV O O (yE [0] O twD (twE sv c key tie P d hc (hdB key tie X j) (X.drop (20*j)) [] (List.Pairwise.sublist (List.drop_sublist _ _) hT) (fun x hx=>hP x (List.mem_of_mem_drop hx)) (by rw [List.length_nil];omega)) ⟨zB,O,VLe.of_eq (congrArg vI (by omega)),O,VLe.of_eq (congrArg vI (by omega)),O,zB,O,T⟩ O) ?_
  rintro _ _ ⟨_,⟨rfl,rfl⟩,rfl⟩
  refine zA<|zP<|zT ⟨[(6,.c _),(0,.c _),(1,.c _),(2,.c _)],[_]⟩ (Weak.mk [true] ⟨zB,zB,zB,zB,T⟩ O)<|qG 1 1 O O (Nat) (fun s=>[(6,vI (20*(s:Int)+20))]) (fun s=>[sH sv (mbB key tie X s)]) (fun s=>s<=1) (fun s=>1-s) ⟨0,(by omega),Weak.mk [true] ⟨zB,zB,zB,zB,T⟩ (by exact kC (congrArg (List.map eC) (by rw [List.append_nil];exact hdB_end (by omega) (by omega) hn)))⟩ ?_
  rintro s hs
  refine zI<|R O<|G O<|G O<|yB O<|zA<|zC O (fun c2=>?_) (fun c2=>?_)
  ·try simp only [sx] at c2
   have hs0:s=0:=by omega
   subst hs0
   refine zJ<|zP<|R O<|G O<|zW O (zBs O O O ⟨by omega,by omega⟩)<|G O<|G O<|zA<|zI<|zP<|zT ⟨[(7,.c _),(8,.c _),(0,.c _),(1,.c _),(2,.c _),(6,.c _)],[_]⟩ (Weak.mk [true] ⟨zB,zB,zB,zB,zB,zB,T⟩ O)<|qG 2 1 O O (Nat) (fun r=>[(7,vI (40*(r:Int))),(8,vI (40*(r:Int)+40))]) (fun r=>[sH sv (mbB key tie X r)]) (fun r=>r<=1/\(r=1->X.length=40)) (fun r=>1-r) ⟨0,⟨by omega,fun h=>by cases h⟩,Weak.mk [true] ⟨zB,zB,zB,zB,zB,zB,T⟩ O⟩ ?_
   rintro r ⟨hr,hr2⟩
   refine zI<|R O<|G O<|G O<|zW O (kQ O O O)<|zA<|zC O (fun c3=>?_) (fun c3=>?_)
   ·try simp only [sx] at c3
    have hr0:r=0:=by omega
    subst hr0
    refine zT _ (Weak.vecEq 0 O (rows':=([]++srt key tie (X.take 20)++srt key tie (X.drop 20)++[]).map eC) (by exact congrArg (List.map eC) (by simp [mbB])))<|zJ<|zP<|R O<|G O<|G O<|G O<|G O<|qB O ⟨by omega,by omega⟩<|G O<|G O ?_
    refine zV O O (yE [0] O twF (twG sv c key tie P d hc 1000000 [] (srt key tie (X.take 20)) (srt key tie (X.drop 20)) [] (by rw [yT,yT];omega) (by rw [yT];omega) (by rw [yT];omega) q1 q2 q3 (fun x hx=>hP x (List.mem_of_mem_take (zDy.1 hx))) (fun x hx=>hP x (List.mem_of_mem_drop (zDy.1 hx))) (by rw [yT,yT];simp;omega)) ⟨zB,O,zB,O,VLe.of_eq (congrArg vI (by rw [yT,List.length_nil];omega)),O,VLe.of_eq (congrArg vI (by rw [yT,yT,List.length_nil];omega)),O,zB,O,T⟩ O) ?_
    rintro _ _ ⟨_,⟨rfl,rfl⟩,rfl⟩
    refine qX _ (Weak.vecEq 0 O (rows':=(srt key tie X).map eC) (by exact congrArg (List.map eC) (by rw [mbB_done hne];simp)))<|zA<|R O<|G O<|G O<|zA<|zM O<|G O<|G O<|zW O (zBs O O O ⟨by omega,by omega⟩)<|qB O ⟨by omega,by omega⟩<|G O<|zA ?_
    refine ⟨1,⟨by omega,fun _=>by omega⟩,(by omega),Weak.mk [true] ⟨VLe.of_eq (O),VLe.of_eq (O),zB,zB,zB,zB,T⟩ (by exact kC (congrArg (List.map eC) (by simp [mbB])))⟩
   ·try simp only [sx] at c3
    refine qH<|zI<|R O<|G O<|G O<|qB O ⟨by omega,by omega⟩<|G O<|zA<|R O<|G O<|G O<|yB O<|zA<|zC O (fun c4=>?_) (fun c4=>?_)
    ·try simp only [sx] at c4
     have hr0:r=0:=by omega
     subst hr0
     refine zT _ (Weak.vecEq 0 O (rows':=([]++srt key tie (X.take 20)++srt key tie (X.drop 20)++[]).map eC) (by exact congrArg (List.map eC) (by simp [mbB])))<|zM O<|G O<|G O<|G O<|G O<|G O ?_
     refine zV O O (yE [0] O twF (twG sv c key tie P d hc 1000000 [] (srt key tie (X.take 20)) (srt key tie (X.drop 20)) [] (by rw [yT,yT];omega) (by rw [yT];omega) (by rw [yT];omega) q1 q2 q3 (fun x hx=>hP x (List.mem_of_mem_take (zDy.1 hx))) (fun x hx=>hP x (List.mem_of_mem_drop (zDy.1 hx))) (by rw [yT,yT];simp;omega)) ⟨zB,O,zB,O,VLe.of_eq (congrArg vI (by rw [yT,List.length_nil];omega)),O,VLe.of_eq (congrArg vI (by rw [yT,yT,List.length_nil];omega)),O,zB,O,T⟩ O) ?_
     rintro _ _ ⟨_,⟨rfl,rfl⟩,rfl⟩
     refine qX _ (Weak.vecEq 0 O (rows':=(srt key tie X).map eC) (by exact congrArg (List.map eC) (by rw [mbB_done hne];simp)))<|zA<|zM O<|G O<|zW O (zBs O O O ⟨by omega,by omega⟩)<|G O<|zA ?_
     refine ⟨1,(by omega),(by omega),Weak.mk [true] ⟨VLe.of_eq (O),zB,zB,zB,T⟩ (by exact kC (congrArg (List.map eC) (by simp [mbB])))⟩
    ·try simp only [sx] at c4
     have hr1:r=1:=by omega
     subst hr1
     refine zJ<|zM O<|G O<|zW O (zBs O O O ⟨by omega,by omega⟩)<|G O<|zA ?_
     refine ⟨1,(by omega),(by omega),Weak.mk [true] ⟨VLe.of_eq (O),zB,zB,zB,T⟩ (by exact kC (congrArg (List.map eC) (by simp [mbB])))⟩
  ·try simp only [sx] at c2
   refine qH ?_
   repeat (first|refine qV ?_|refine qT ?_)
   refine yF<|U ?_
   have e9:mbB key tie X s=srt key tie X:=by
     by_cases h0:s=0
     · subst h0;exact mbB_small (by omega)
     · unfold mbB;rw [if_neg h0]
   rw [e9]
   exact ⟨O,O⟩):p:=h
theorem sti_stable (sv:Value) (c:C) (key:Nat->Int) (tie:Nat->Nat) (P:Nat->Prop) (d:Nat) (hc:∀x y,P x->P y->FnPur cfg c [vI (x:Int),vI (y:Int)] (vI (key x-key y))) (X:List Nat) (hT:X.Pairwise fun a b=>tie a<tie b) (hP:∀x,x∈X->P x) (hn:X.length<=40):
    Con cfg 148 [.c (.lit sv),vI X.length,.c c] [E.vec sv 3 1 ((X).map lH)] fun r μ'=>r=.tup []/\μ'=[E.vec sv 3 1 ((srt key tie X).map lH)]:=by
 have twA:=Tryz.func148
 have twB:=Tryz.ntmps148
 have twC:=Tryz.results148
 have twD:=ok178
 have twE:= @sti_ins
 have twF:=ok179
 have twG:= @sti_sym
 exact tw_stable
theorem sti_ssf (sv:Value) (c:C) (key:Nat->Int) (tie:Nat->Nat) (P:Nat->Prop) (d:Nat) (hc:∀x y,P x->P y->FnPur cfg c [vI (x:Int),vI (y:Int)] (vI (key x-key y))) (X:List Nat) (hT:X.Pairwise fun a b=>tie a<tie b) (hP:∀x,x∈X->P x) (hn:X.length<=40):
    Con cfg 105 [.c (.lit sv),.c c] [E.vec sv 3 1 ((X).map lH)] fun r μ'=>r=.tup []/\μ'=[E.vec sv 3 1 ((srt key tie X).map lH)]:=by
 refine zU Tryz.func105 O Tryz.ntmps105 Tryz.results105 O ?_
 intro z hz
 refine zM O<|G O<|G O<|zW O (yL 0 O el67 O O)<|G O ?_
 refine zV O O (yE [0] O ok148 (sti_stable sv c key tie P d hc X hT hP hn) ⟨zB,O,VLe.of_eq (congrArg vI (by rw [List.length_map])),O,zB,O,T⟩ O) ?_
 rintro _ _ ⟨_,⟨rfl,rfl⟩,rfl⟩
 refine zA ?_
 repeat (first|refine qV ?_|refine qT ?_)
 refine yF<|U ?_
 exact ⟨O,O⟩
theorem sti_sorted (c:C) (key:Nat->Int) (tie:Nat->Nat) (P:Nat->Prop) (d:Nat) (hc:∀x y,P x->P y->FnPur cfg c [vI (x:Int),vI (y:Int)] (vI (key x-key y))) (X:List Nat) (hT:X.Pairwise fun a b=>tie a<tie b) (hP:∀x,x∈X->P x) (hn:X.length<=40):
    OwnR cfg 55 [.c (.sl 1 (X.map lH)),.c c] 3 1 ((srt key tie X).map lH):=by
 refine zU Tryz.func55 O Tryz.ntmps55 Tryz.results55 O ?_
 intro z hz
 refine R O<|G O<|zA<|R O<|G O<|qX _ (wV 3 1)<|zV O O (yQ 0 O el67 O O O (by simp only [List.length_nil,List.length_map];omega) (by simp only [List.length_nil,List.length_map];omega)) ?_
 rintro _ _ ⟨sv1,rfl,rfl⟩
 refine G O<|zA<|R O<|G O<|G O<|zV O O (yE [0] O ok105 (sti_ssf _ c key tie P d hc X hT hP hn) ⟨zB,O,zB,O,T⟩ O) ?_
 rintro _ _ ⟨_,⟨rfl,rfl⟩,rfl⟩
 refine zA<|R O<|G O<|G O<|zA<|zK<|zR O ?_
 exact ⟨_,O,O⟩
theorem sts_swap (sv:Value) (c:C) (A X M Y B:List (Sl×Nat)) (n:Nat) (hX:X.length=n) (hY:Y.length=n) (hL:A.length+X.length+M.length+Y.length+B.length<=1000000):
    Con cfg 285 [.c (.lit sv),vI A.length,vI ((A.length:Int)+n+M.length),vI n,.c c] [E.vec sv 48 3 ((A++X++M++Y++B).map mI)] fun r μ'=>r=.tup []/\μ'=[E.vec sv 48 3 ((A++Y++M++X++B).map mI)]:=by
 have twA:=Tryz.func285
 have twB:=Tryz.ntmps285
 have twC:=Tryz.results285
 have twD:=el33
 have twE:= @qC
 have twF:=agg48
 have twG:=sz48
 exact tw_swap
theorem sts_rot (sv:Value) (c:C) (A X Y B:List (Sl×Nat)) (hX:1<=X.length) (hY:1<=Y.length) (hL:A.length+X.length+Y.length+B.length<=1000000):
    Con cfg 255 [.c (.lit sv),vI A.length,vI ((A.length:Int)+X.length),vI ((A.length:Int)+X.length+Y.length),.c c] [E.vec sv 48 3 ((A++X++Y++B).map mI)] fun r μ'=>r=.tup []/\μ'=[E.vec sv 48 3 ((A++Y++X++B).map mI)]:=by
 have twA:=Tryz.func255
 have twB:=Tryz.ntmps255
 have twC:=Tryz.results255
 have twD:=ok285
 have twE:= @sts_swap
 exact tw_rot
theorem sts_ins (sv:Value) (c:C) (key:(Sl×Nat)->Int) (tie:(Sl×Nat)->Nat) (P:(Sl×Nat)->Prop) (d:(Sl×Nat)) (hc:∀x y,P x->P y->FnPur cfg c [vSl x.1,vSl y.1] (vI (key x-key y))) (A X B:List (Sl×Nat)) (hT:X.Pairwise fun a b=>tie a<tie b) (hP:∀x,x∈X->P x) (hL:A.length+X.length+B.length<=1000000):
    Con cfg 227 [.c (.lit sv),vI A.length,vI ((A.length:Int)+X.length),.c c] [E.vec sv 48 3 ((A++X++B).map mI)] fun r μ'=>r=.tup []/\μ'=[E.vec sv 48 3 ((A++srt key tie X++B).map mI)]:=by
 have twA:=Tryz.func227
 have twB:=Tryz.ntmps227
 have twC:=Tryz.results227
 have twD:=el33
 have twE:= @qC
 have twF:=agg48
 have twG:=sz48
 exact tw_ins
set_option maxHeartbeats 4000000 in
theorem sts_sym_step (sv:Value) (c:C) (key:(Sl×Nat)->Int) (tie:(Sl×Nat)->Nat) (P:(Sl×Nat)->Prop) (d:(Sl×Nat)) (hc:∀x y,P x->P y->FnPur cfg c [vSl x.1,vSl y.1] (vI (key x-key y))) (A X Y B:List (Sl×Nat)) (ih:∀(A' X' Y' B':List (Sl×Nat)),X'.length+Y'.length<X.length+Y.length->1<=X'.length->1<=Y'.length->Srt key tie X'->Srt key tie Y'->(∀x,x∈X'->∀y,y∈Y'->tie x<tie y)->(∀x,x∈X'->P x)->(∀y,y∈Y'->P y)->A'.length+X'.length+Y'.length+B'.length<=1000000->Con cfg 228 [.c (.lit sv),vI A'.length,vI ((A'.length:Int)+X'.length),vI ((A'.length:Int)+X'.length+Y'.length),.c c] [E.vec sv 48 3 ((A'++X'++Y'++B').map mI)] fun r μ'=>r=.tup []/\μ'=[E.vec sv 48 3 ((A'++srt key tie (X'++Y')++B').map mI)]) (hX:1<=X.length) (hY:1<=Y.length) (sX:Srt key tie X) (sY:Srt key tie Y) (hT:∀x,x∈X->∀y,y∈Y->tie x<tie y) (hPX:∀x,x∈X->P x) (hPY:∀y,y∈Y->P y) (hL:A.length+X.length+Y.length+B.length<=1000000):
    Con cfg 228 [.c (.lit sv),vI A.length,vI ((A.length:Int)+X.length),vI ((A.length:Int)+X.length+Y.length),.c c] [E.vec sv 48 3 ((A++X++Y++B).map mI)] fun r μ'=>r=.tup []/\μ'=[E.vec sv 48 3 ((A++srt key tie (X++Y)++B).map mI)]:=by
 have twA:=Tryz.func228
 have twB:=Tryz.ntmps228
 have twC:=Tryz.results228
 have twD:=el33
 have twE:= @qC
 have twF:=agg48
 have twG:=sz48
 have twH:=ok255
 have twI:= @sts_rot
 have twJ:=ok228
 exact zRa
theorem sts_sym (sv:Value) (c:C) (key:(Sl×Nat)->Int) (tie:(Sl×Nat)->Nat) (P:(Sl×Nat)->Prop) (d:(Sl×Nat)) (hc:∀x y,P x->P y->FnPur cfg c [vSl x.1,vSl y.1] (vI (key x-key y))):∀(n:Nat) (A X Y B:List (Sl×Nat)),X.length+Y.length<=n->1<=X.length->1<=Y.length->Srt key tie X->Srt key tie Y->(∀x,x∈X->∀y,y∈Y->tie x<tie y)->(∀x,x∈X->P x)->(∀y,y∈Y->P y)->A.length+X.length+Y.length+B.length<=1000000->Con cfg 228 [.c (.lit sv),vI A.length,vI ((A.length:Int)+X.length),vI ((A.length:Int)+X.length+Y.length),.c c] [E.vec sv 48 3 ((A++X++Y++B).map mI)] fun r μ'=>r=.tup []/\μ'=[E.vec sv 48 3 ((A++srt key tie (X++Y)++B).map mI)]
  |0,A,X,Y,B,h,hX,_,_,_,_,_,_,_=>by omega
  |n+1,A,X,Y,B,h,hX,hY,sX,sY,hT,hPX,hPY,hL=>sts_sym_step sv c key tie P d hc A X Y B (fun A' X' Y' B' hl g1 g2 g3 g4 g5 g6 g7 g8=>sts_sym sv c key tie P d hc n A' X' Y' B' (by omega) g1 g2 g3 g4 g5 g6 g7 g8) hX hY sX sY hT hPX hPY hL
theorem sts_stable (sv:Value) (c:C) (key:(Sl×Nat)->Int) (tie:(Sl×Nat)->Nat) (P:(Sl×Nat)->Prop) (d:(Sl×Nat)) (hc:∀x y,P x->P y->FnPur cfg c [vSl x.1,vSl y.1] (vI (key x-key y))) (X:List (Sl×Nat)) (hT:X.Pairwise fun a b=>tie a<tie b) (hP:∀x,x∈X->P x) (hn:X.length<=40):
    Con cfg 198 [.c (.lit sv),vI X.length,.c c] [E.vec sv 48 3 ((X).map mI)] fun r μ'=>r=.tup []/\μ'=[E.vec sv 48 3 ((srt key tie X).map mI)]:=by
 have twA:=Tryz.func198
 have twB:=Tryz.ntmps198
 have twC:=Tryz.results198
 have twD:=ok227
 have twE:= @sts_ins
 have twF:=ok228
 have twG:= @sts_sym
 exact tw_stable
theorem sts_ssf (sv:Value) (c:C) (key:(Sl×Nat)->Int) (tie:(Sl×Nat)->Nat) (P:(Sl×Nat)->Prop) (d:(Sl×Nat)) (hc:∀x y,P x->P y->FnPur cfg c [vSl x.1,vSl y.1] (vI (key x-key y))) (X:List (Sl×Nat)) (hT:X.Pairwise fun a b=>tie a<tie b) (hP:∀x,x∈X->P x) (hn:X.length<=40):
    Con cfg 177 [.c (.lit sv),.c c] [E.vec sv 48 3 ((X).map mI)] fun r μ'=>r=.tup []/\μ'=[E.vec sv 48 3 ((srt key tie X).map mI)]:=by
 refine zU Tryz.func177 O Tryz.ntmps177 Tryz.results177 O ?_
 intro z hz
 refine zM O<|G O<|G O<|zW O (yL 0 O el33 O O)<|G O ?_
 refine zV O O (yE [0] O ok198 (sts_stable sv c key tie P d hc X hT hP hn) ⟨zB,O,VLe.of_eq (congrArg vI (by rw [List.length_map])),O,zB,O,T⟩ O) ?_
 rintro _ _ ⟨_,⟨rfl,rfl⟩,rfl⟩
 refine zA ?_
 repeat (first|refine qV ?_|refine qT ?_)
 refine yF<|U ?_
 exact ⟨O,O⟩
theorem sts_sorted (c:C) (key:(Sl×Nat)->Int) (tie:(Sl×Nat)->Nat) (P:(Sl×Nat)->Prop) (d:(Sl×Nat)) (hc:∀x y,P x->P y->FnPur cfg c [vSl x.1,vSl y.1] (vI (key x-key y))) (X:List (Sl×Nat)) (hT:X.Pairwise fun a b=>tie a<tie b) (hP:∀x,x∈X->P x) (hn:X.length<=40):
    OwnR cfg 146 [.c (.sl 3 (X.map mI)),.c c] 48 3 ((srt key tie X).map mI):=by
 refine zU Tryz.func146 O Tryz.ntmps146 Tryz.results146 O ?_
 intro z hz
 refine R O<|G O<|zA<|R O<|G O<|qX _ (wV 48 3)<|zV O O (yQ 0 O el33 O O O (by simp only [List.length_nil,List.length_map];omega) (by simp only [List.length_nil,List.length_map];omega)) ?_
 rintro _ _ ⟨sv1,rfl,rfl⟩
 refine G O<|zA<|R O<|G O<|G O<|zV O O (yE [0] O ok177 (sts_ssf _ c key tie P d hc X hT hP hn) ⟨zB,O,zB,O,T⟩ O) ?_
 rintro _ _ ⟨_,⟨rfl,rfl⟩,rfl⟩
 refine zA<|R O<|G O<|G O<|zA<|zK<|zR O ?_
 exact ⟨_,O,O⟩
end Go.W
