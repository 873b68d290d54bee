/-
  Walks: what functions of the program compute. Printed by wip/gen/mk2.py.
  Conditions: none.
-/
import Derived.Test.YtdldhbfgfkebjaaGreatDoorHB
import Derived.Test.YtdldhbfgfkebjaaGreatDoorPlainG
set_option linter.unusedSimpArgs false
set_option linter.unusedVariables false
set_option maxRecDepth 10000
namespace Go.W
open Go Go.Eng Go.Proofs Go.L41 Go.Br
attribute [local irreducible] AWP RWP TD finQ
theorem zLl:fieldT Tryz.prog 48 1=some (1,3):=by kernel_rfl
theorem fd48_2:fieldT Tryz.prog 48 2=some (2,3):=by kernel_rfl
theorem ok43:callOk Tryz.prog 43=true:=by kernel_rfl
theorem ok44:callOk Tryz.prog 44=true:=by kernel_rfl
theorem ok54:callOk Tryz.prog 54=true:=by kernel_rfl
theorem ok55:callOk Tryz.prog 55=true:=by kernel_rfl
theorem ok104:callOk Tryz.prog 104=true:=by kernel_rfl
theorem ok146:callOk Tryz.prog 146=true:=by kernel_rfl
theorem one62:oneT Tryz.prog 62=true:=by kernel_rfl
theorem pl48:placesT Tryz.prog 48=some [(0,1),(1,1),(2,1)]:=by kernel_rfl
theorem zr48:zeroT Tryz.prog 48=some [(Value.string (ByteArray.mk #[])),(Value.int IntKind.i64 0),(Value.int IntKind.i64 0)]:=by kernel_rfl
theorem ar_fit_1 (a b:Sl) (ha:0<=a.At/\a.At<=600000) (hb:0<=b.At/\b.At<=600000):
    Pur cfg 147 [vSl a,vSl b] (vI (a.At-b.At)):=by
 refine zW Tryz.func147 O Tryz.ntmps147 Tryz.results147 O ?_
 intro z hz
 refine R O<|zU O O (qT O O) ?_
 rintro _ _ ⟨b1,rfl,rfl⟩
 refine zU O O (qT O O) ?_
 rintro _ _ ⟨b2,rfl,rfl⟩
 refine G O<|zA<|R O<|zN O zLl<|zL one3 (A 1 O) O<|zN O zLl<|zL one3 (A 0 O) O<|yF O ⟨by omega,by omega⟩<|G O<|zA<|zM<|zX O ?_
 rfl
theorem ar_sorted (b:List Sl) (hn:b.length<=40) (hb:slB b):Pur cfg 146 [vSls b,.c (.fn (.func 147) [] [])] (vSls (srtA b)):=by
  have h:=OwnR.pur (sts_sorted (.fn (.func 147) [] []) keyA Prod.snd (fun x=>0<=x.1.At/\x.1.At<=600000) (zSl,0) (fun x y hx hy=>FnPur.of_pur (first:=[]) (cap:=[]) (by kernel_rfl) (ar_fit_1 x.1 y.1 hx hy)) b.zipIdx (zip_inc b) (fun x hx=>by have:=hb x.1 (zip_mem hx);omega) (by rw [List.length_zipIdx];exact hn))
  rw [show b.zipIdx.map encP=b.map Sl.cells from zip_enc b,show (srt keyA Prod.snd b.zipIdx).map encP=(srtA b).map Sl.cells from srt_enc b] at h
  exact h
theorem ar_fit (l:List Lifetime) (S:List Sl) (k:Nat) (hl:l.length<=40) (hS:S.length=l.length) (hk:k<l.length) (hb:slB S) (hz0:szOk l):
    Pur cfg 104 [vLs l,vSls S,vI k] (vI (ffit l S k)):=by
 refine zW Tryz.func104 O Tryz.ntmps104 Tryz.results104 O ?_
 intro z hz
 have hlk:=lfA_at hk
 have hzk:=hz0 k hk
 have hsl:=srtA_len (bsy l S k)
 have hbl:=bsy_len2 l S k
 refine R O<|G O<|zA<|R O<|G O<|qS _ (zAm 48 3)<|zA<|zF<|R O<|G O<|qH O el33<|G O<|zA<|zQ<|zS ⟨[(15,.c _),(7,.c _),(0,.c _),(2,.c _),(13,.c _),(14,.c _)],[_]⟩ (Weak.mk [true] ⟨zB,zB,zB,zB,zB,zB,T⟩ O)<|qJ 2 1 O O (Nat×Value) (fun ⟨i,sv⟩=>[(15,vI i),(7,.c (.lit sv))]) (fun ⟨i,sv⟩=>[E.vec sv 48 3 ((mapI (bsyF l k) 0 (S.take i)).map Sl.cells)]) (fun ⟨i,sv⟩=>i<=S.length) (fun ⟨i,sv⟩=>S.length-i) ⟨⟨0,(.slice none 0 0)⟩,(by omega),Weak.mk [true] ⟨zB,zB,zB,zB,zB,zB,T⟩ O⟩ ?_
 rintro ⟨i,sv⟩ hi
 show AWP _ _ _ _ _ ⟨[(15,vI i),(7,.c (.lit sv))]++_,[E.vec sv 48 3 ((mapI (bsyF l k) 0 (S.take i)).map Sl.cells)]++_⟩
 refine R O<|yE O<|zA<|zF<|zC O (fun c1=>?_) (fun c1=>?_)
 ·try simp only [sx] at c1
  obtain ⟨s,hs⟩:=qX S i (by omega)
  have hli:=lfA_at (l:=l) (i:=i) (by omega)
  refine zH<|zF<|zQ<|R O<|G O<|qI O el33 (by omega) (getm (by assumption))<|zP zDc Y O<|zU O O (yX O zr48) ?_
  rintro _ _ ⟨b2,rfl,rfl⟩
  refine G O<|D 0 sz48 O<|qS _ (qK 0 O 9 _ PLe.ptr)<|zA<|zF<|qU 19 mixed (by kernel_rfl) O O<|zE O O (qA O fd48_2 O)<|zE O O (zD O one3 O Y O)<|zE O O (kA O O O)<|zE O O (zG O O)<|qM [] O O O O gv1 T (fun g5_3=>zG O O) O<|qM [] O O O O gv1 T (fun g5_3=>zG O O) O<|qM [(24,_),(25,_)] O O O O gv1 ⟨O,O,O,O,T⟩ (fun g5_3=>zEq O O O) O<|zE O O (zCc O O O (fun h=>h) O)<|zE O O (zG O O)<|qM [] O O O O gv1 T (fun g5_8=>zG O O) O<|qM [] O O O O gv1 T (fun g5_8=>zG O O) O<|qM [(29,_),(30,_)] O O O O gv1 ⟨O,O,O,O,T⟩ (fun g5_8=>yA O el62 O O (by omega) (getm hli)) O<|qM [(31,_)] O O O O gv1 ⟨O,O,T⟩ (fun g5_8=>qG O agg82 O Y O) O<|qM [] O O O O gv1 T (fun g5_8=>zG O O) O<|qM [] O O O O gv1 T (fun g5_8=>zG O O) O<|qM [(33,_),(34,_)] O O O O gv1 ⟨O,O,O,O,T⟩ (fun g5_8=>yA O el62 O O (by omega) (getm hlk)) O<|qM [(35,_)] O O O O gv1 ⟨O,O,T⟩ (fun g5_8=>qG O agg82 O Y O) O<|qM [(32,_),(36,_)] O O O O gv1 ⟨O,O,O,O,T⟩ (fun g5_8=>qY O ok44 (zLs _ _) ⟨zB,O,zB,O,T⟩) O<|zE O O (zCc O O O (fun h=>h) O)<|yM<|zA<|zC O (fun c2=>?_) (fun c2=>?_)
  ·try simp only [sx] at c2
   refine zI O<|G O<|zP zDc Y O<|v O (kF O el33 zr48 O O O O)<|zU O O (kL 0 O el33 O O O (by have:=zMi (bsyF_len l k) (S.take i) 0;rw [List.length_take] at this;simp only [List.length_map,List.length_cons,List.length_nil];omega) (by have:=zMi (bsyF_len l k) (S.take i) 0;rw [List.length_take] at this;simp only [List.length_map,List.length_cons,List.length_nil];omega)) ?_
   rintro _ _ ⟨sv3,rfl,rfl⟩
   refine G O<|zA<|zI O<|qD O ⟨by omega,by omega⟩<|G O<|zA ?_
   refine ⟨⟨i+1,sv3⟩,(by omega),(by show S.length-(i+1)<S.length-i;omega),Weak.mk [true] ⟨zB,zB,zB,zB,zB,zB,T⟩ (by exact yL (by rw [zBh _ hs];unfold bsyF;rw [if_pos c2,List.map_append];rfl))⟩
  ·try simp only [sx] at c2
   refine zH<|zI O<|qD O ⟨by omega,by omega⟩<|G O<|zA ?_
   refine ⟨⟨i+1,sv⟩,(by omega),(by show S.length-(i+1)<S.length-i;omega),Weak.mk [true] ⟨zB,zB,zB,zB,zB,zB,T⟩ (by exact yL (by rw [zBh _ hs];unfold bsyF;rw [if_neg (fun k9=>by rcases c2 with (q|q)|q;omega;exact k9.1.2 q;exact absurd (k9.2.symm.trans q) (by simp)),List.append_nil]))⟩
 ·try simp only [sx] at c1
  rw [yI (l:=S) (k:=i) (by omega)]
  refine qL<|R O<|G O<|zA<|zF<|zF<|zS _ (zAb 0 O (regs':=[(7,_)]) (μ':=[]) ⟨FLe.sl,T⟩ T)<|zI O<|G O<|qW O ok146 (ar_sorted (bsy l S k) (by have:=bsy_len2 l S k;omega) (bsy_sub hb)) ⟨zB,O,zB,O,T⟩<|qH O el33<|G O<|zA<|zQ<|zS ⟨[(47,.c _),(10,.c _),(0,.c _),(2,.c _),(45,.c _),(46,.c _)],[]⟩ (Weak.mk [] ⟨zB,zB,zB,zB,zB,zB,T⟩ O)<|qJ 2 0 O O (Nat×Int) (fun ⟨j,a⟩=>[(47,vI j),(10,vI a)]) (fun ⟨j,a⟩=>[]) (fun ⟨j,a⟩=>j<=(srtA (bsy l S k)).length/\(0<=a)/\(a<=700000)/\(ffit l S k=scanF (lfA l k).Size a ((srtA (bsy l S k)).drop j))) (fun ⟨j,a⟩=>(srtA (bsy l S k)).length-j) ⟨⟨0,0⟩,⟨by omega,by omega,by omega,O⟩,Weak.mk [] ⟨zB,VLe.of_eq (O),zB,zB,zB,zB,T⟩ O⟩ ?_
  rintro ⟨j,a⟩ ⟨hj,hq1,hq2,hq3⟩
  show AWP _ _ _ _ _ ⟨[(47,vI j),(10,vI a)]++_,[]++_⟩
  refine R O<|yE O<|zA<|zF<|zC O (fun c3=>?_) (fun c3=>?_)
  ·try simp only [sx] at c3
   obtain ⟨s,hs⟩:=qX (srtA (bsy l S k)) j (by omega)
   have hsb:=bsy_sub (l:=l) (k:=k) hb s (srtA_mem.1 (qB hs))
   refine zH<|zF<|zQ<|R O<|qI O el33 (by omega) (getm (by assumption))<|zP zDc Y O<|zU O O (yX O zr48) ?_
   rintro _ _ ⟨b4,rfl,rfl⟩
   refine D 0 sz48 O<|qS _ (qK 0 O 12 _ PLe.ptr)<|zA<|zF<|zF<|qU 10 mixed (by kernel_rfl) O O<|zE O O (zG O O)<|zE O O (zG O O)<|zE O O (zG O O)<|zE O O (yA O el62 O O (by omega) (getm hlk))<|zE O O (qA O zOc O)<|zE O O (zD O one3 O Y O)<|zE O O (kB O O O ⟨by omega,by omega⟩)<|zE O O (qA O zLl O)<|zE O O (zD O one3 O Y O)<|zE O O (wI O O O)<|yM<|zA<|zC O (fun c4=>?_) (fun c4=>?_)
   ·try simp only [sx] at c4
    have hst:=scan_stop hs c4
    refine qL<|R O<|G O<|G O<|zA<|zM<|zX O ?_
    rw [hq3,hst]
   ·try simp only [sx] at c4
    have hst:=scan_next hs (show ¬a+(lfA l k).Size<=s.At by omega)
    refine zH<|zI O<|G O<|zZ O zLl<|zL one3 Y O<|zZ O fd48_2<|zL one3 Y O<|qD O ⟨by omega,by omega⟩<|v O (zOr O O O)<|G O<|zA<|zI O<|qD O ⟨by omega,by omega⟩<|G O<|zA ?_
    refine ⟨⟨j+1,max a (s.At+s.Len)⟩,⟨by omega,by omega,by omega,hq3.trans hst⟩,(by show (srtA (bsy l S k)).length-(j+1)<(srtA (bsy l S k)).length-j;omega),Weak.mk [] ⟨zB,zB,zB,zB,zB,zB,T⟩ O⟩
  ·try simp only [sx] at c3
   refine qL<|R O<|G O<|G O<|zA<|zM<|zX O ?_
   rw [hq3,wM (by omega)];rfl
theorem ar_place (l:List Lifetime) (hl:l.length<=40) (hz0:szOk l):
    Pur cfg 54 [vLs l,.c (.sl 1 ((ordP l).map encN))] (.tup [vSls (planT l).1,vI (planT l).2]):=by
 refine zW Tryz.func54 O Tryz.ntmps54 Tryz.results54 O ?_
 intro z hz
 refine R O<|G O<|G O<|zA<|R O<|G O<|qH O el62<|zU O O (ope_make l.length O el33 zr48 O O (by simp) (by simp) (by omega) (by omega)) ?_
 rintro _ _ ⟨sv1,rfl,rfl⟩
 refine G O<|zA<|R O<|G O<|zA<|zF<|R O<|G O<|qH O el67<|G O<|zA<|zQ<|zS ⟨[(16,.c _),(7,.c _),(0,.c _),(6,.c _),(14,.c _),(15,.c _)],[_]⟩ (Weak.mk [true] ⟨zB,zB,zB,zB,zB,zB,T⟩ O)<|qJ 2 1 O O (Nat) (fun t=>[(16,vI t),(7,vI (plF l ((ordP l).take t)).2)]) (fun t=>[E.vec sv1 48 3 ((slos l (plF l ((ordP l).take t)).1).map Sl.cells)]) (fun t=>t<=(ordP l).length) (fun t=>(ordP l).length-t) ⟨0,(by omega),Weak.mk [true] ⟨zB,VLe.of_eq (O),zB,zB,zB,zB,T⟩ (by exact yL (by rw [show (plF l ((ordP l).take 0)).1=List.replicate l.length (-1) from rfl,slos_init,List.map_replicate];rfl))⟩ ?_
 rintro t ht
 refine R O<|yE O<|zA<|zF<|zC O (fun c1=>?_) (fun c1=>?_)
 ·try simp only [sx] at c1
  obtain ⟨x,hx⟩:=qX (ordP l) t (by omega)
  have hxl:=ord_lt hx
  have hlx:=lfA_at hxl
  have J:=plJ hz0 t (by have:=zHw l;omega)
  have hzx:=hz0 x hxl
  have hpl:=J.pl.len
  have hff:=ffit_le (k:=x) J.pl (by omega)
  have hf0:=ffit_pos l (slos l (plF l ((ordP l).take t)).1) x
  have hJs:=J.sz
  have hol:=zHw l
  have hsx:slo (lfA l x) (ffit l (slos l (plF l ((ordP l).take t)).1) x)=⟨(lfA l x).Name,ffit l (slos l (plF l ((ordP l).take t)).1) x,(lfA l x).Size⟩:=by unfold slo;rw [if_neg (by omega)]
  refine zH<|zF<|zQ<|R O<|qI O el67 (by omega) (getm (by assumption))<|zL one3 Y O<|G O<|zA<|R O<|G O<|G O<|G O<|v O (zBx 0 O ok104 O (ar_fit l (slos l (plF l ((ordP l).take t)).1) x hl (zCp hpl) hxl (J.pl.sl hz0 (by omega)) hz0) O ⟨.inr ⟨zB,O⟩,.inl ⟨O,O⟩,.inr ⟨zB,O⟩,T⟩)<|G O<|zA<|zF<|qU 15 mixed (by kernel_rfl) O O<|zE O O (zG O O)<|zE O O (zG O O)<|zE O O (zG O O)<|zE O O (zG O O)<|zE O O (yA O el62 O O (by omega) (getm hlx))<|zE O O (qA O fd82_0 O)<|zE O O (zD O one9 O Y O)<|zE O O (zG O O)<|zE O O (zG O O)<|zE O O (zG O O)<|zE O O (yA O el62 O O (by omega) (getm hlx))<|zE O O (qA O zOc O)<|zE O O (zD O one3 O Y O)<|zE O O (yB O zr48 pl48 O)<|zE O O (qC 0 O el33 O O O (by omega) (by rw [List.length_map,zCp hpl];omega))<|yM<|zAd O O (yY O sz48 O O O (zBr 0 O (yU (zGp hpl (atA_at (by omega))) O) O))<|zA<|zI O<|G O<|G O<|G O<|G O<|qI O el62 (by omega) (getm hlx)<|zZ O zOc<|zL one3 Y O<|qD O ⟨by omega,by omega⟩<|v O (zOr O O O)<|G O<|zA<|zI O<|qD O ⟨by omega,by omega⟩<|G O<|zA ?_
  refine ⟨t+1,(by omega),(by omega),Weak.mk [true] ⟨zB,VLe.of_eq (congrArg vI (by rw [zGq hx];rfl)),zB,zB,zB,zB,T⟩ (by exact yL (by rw [zGq hx];unfold plS;rw [slos_set hpl,List.map_set,hsx];rfl))⟩
 ·try simp only [sx] at c1
  have ht0:(ordP l).take t=ordP l:=yI (by omega)
  rw [ht0]
  refine qL<|zF<|zS _ (zAb 0 O (regs':=[(6,_)]) (μ':=[]) ⟨FLe.sl,T⟩ T)<|zI O<|G O<|G O<|G O<|G O<|zA<|zM<|fin2 (L O) (L O) ?_
  rfl
theorem ar_Plan_1 (l:List Lifetime) (x y:Nat) (hz0:szOk l) (hx:x<l.length) (hy:y<l.length):
    Pur cfg 56 [vI x,vI y,.c (.iptr [.sl 4 (l.map Lifetime.cells)])] (vI (keyO l x-keyO l y)):=by
 refine zW Tryz.func56 O Tryz.ntmps56 Tryz.results56 O ?_
 intro z hz
 have hlx:=lfA_at hx
 have hly:=lfA_at hy
 have hzx:=hz0 x hx
 have hzy:=hz0 y hy
 refine R O<|G O<|zA<|zF<|qU 12 mixed (by kernel_rfl) O O<|zE O O (zD O one62 O Y O)<|zE O O (zG O O)<|zE O O (yA O el62 O O (by omega) (getm hly))<|zE O O (qA O zOc O)<|zE O O (zD O one3 O Y O)<|zE O O (zD O one62 O Y O)<|zE O O (zG O O)<|zE O O (yA O el62 O O (by omega) (getm hlx))<|zE O O (qA O zOc O)<|zE O O (zD O one3 O Y O)<|zE O O (yH O O O ⟨by omega,by omega⟩)<|zE O O (kG O O)<|yM<|zA<|zM<|zX O ?_
 exact congrArg vI (by unfold keyO;omega)
theorem ar_sortedI (l:List Lifetime) (hn:l.length<=40) (hz0:szOk l):Pur cfg 55 [.c (.sl 1 ((List.range l.length).map encN)),.c (.fn (.func 56) [] [.iptr [.sl 4 (l.map Lifetime.cells)]])] (.c (.sl 1 ((ordP l).map encN))):=
  OwnR.pur (sti_sorted (.fn (.func 56) [] [.iptr [.sl 4 (l.map Lifetime.cells)]]) (keyO l) id (fun x=>x<l.length) 0 (fun x y hx hy=>FnPur.of_pur (first:=[]) (cap:=[.iptr [.sl 4 (l.map Lifetime.cells)]]) (by kernel_rfl) (ar_Plan_1 l x y hz0 hx hy)) (List.range l.length) (range_inc _) (fun x hx=>List.mem_range.1 hx) (by rw [List.length_range];exact hn))
theorem ar_Plan (l:List Lifetime) (hl:l.length<=40) (hv:validateL l=0):
    Pur cfg 26 [vLs l] (.tup [vSls (planT l).1,vI (planT l).2,vI 0]):=by
 refine zW Tryz.func26 O Tryz.ntmps26 Tryz.results26 O ?_
 intro z hz
 have hz0:=szOk_of hv
 have hJ:=(plJ hz0 l.length (Nat.le_refl _)).sz
 have ht0:(ordP l).take l.length=ordP l:=yI (by rw [zHw];omega)
 rw [ht0] at hJ
 refine R O<|zU O O (qT O O) ?_
 rintro _ _ ⟨b1,rfl,rfl⟩
 refine qS _ (qK 0 O 1 _ PLe.ptr)<|G O<|G O<|G O<|zA<|zF<|R O<|zL one62 Y O<|qW O ok43 (zKi l (by omega)) ⟨zB,O,T⟩<|G O<|zA<|R O<|G O<|wL O<|zA<|zC O (fun c1=>?_) (fun c1=>?_)
 ·try simp only [sx] at c1
  exact absurd hv c1
 ·try simp only [sx] at c1
  refine zH<|R O<|G O<|qS _ (zAm 3 1)<|zA<|zF<|R O<|zL one62 Y O<|qH O el62<|G O<|zA<|zQ<|zS ⟨[(17,.c _),(6,.c _),(1,.c _),(16,.c _)],[_]⟩ (Weak.mk [true] ⟨zB,zB,zB,zB,T⟩ O)<|qJ 2 1 O O (Nat×Value) (fun ⟨i,sv⟩=>[(17,vI i),(6,.c (.lit sv))]) (fun ⟨i,sv⟩=>[E.vec sv 3 1 ((List.range i).map encN)]) (fun ⟨i,sv⟩=>i<=l.length) (fun ⟨i,sv⟩=>l.length-i) ⟨⟨0,(.slice none 0 0)⟩,(by omega),Weak.mk [true] ⟨zB,zB,zB,zB,T⟩ O⟩ ?_
  rintro ⟨i,sv⟩ hi
  show AWP _ _ _ _ _ ⟨[(17,vI i),(6,.c (.lit sv))]++_,[E.vec sv 3 1 ((List.range i).map encN)]++_⟩
  refine R O<|yE O<|zA<|zF<|zC O (fun c2=>?_) (fun c2=>?_)
  ·try simp only [sx] at c2
   obtain ⟨x,hx⟩:=qX l i (by omega)
   refine zH<|zF<|zQ<|R O<|G O<|G O<|zA<|zI O<|G O<|G O<|v O (kF O el67 zr3 O O O O)<|zU O O (kL 0 O el67 O O O (by simp only [List.length_map,List.length_range,List.length_cons,List.length_nil];omega) (by simp only [List.length_map,List.length_range,List.length_cons,List.length_nil];omega)) ?_
   rintro _ _ ⟨sv3,rfl,rfl⟩
   refine G O<|zA<|zI O<|qD O ⟨by omega,by omega⟩<|G O<|zA ?_
   refine ⟨⟨i+1,sv3⟩,(by omega),(by show l.length-(i+1)<l.length-i;omega),Weak.mk [true] ⟨zB,zB,zB,zB,T⟩ (by exact yL (by rw [List.range_succ,List.map_append];rfl))⟩
  ·try simp only [sx] at c2
   have hil:i=l.length:=by omega
   subst hil
   refine qL<|zF<|zS _ (zAb 0 O (regs':=[(6,_)]) (μ':=[]) ⟨FLe.sl,T⟩ T)<|qU 10 mixed (by kernel_rfl) O O<|zE O O (zD O one62 O Y O)<|zE O O (zG O O)<|zE O O (zDk O O O O O)<|zE O O (qY O ok55 (ar_sortedI l hl hz0) ⟨zB,O,zB,O,T⟩)<|zE O O (qY O ok54 (ar_place l hl hz0) ⟨zB,O,zB,O,T⟩)<|zE O O (yW O O)<|zE O O (kO O O O)<|zE O O (kO O O O)<|zE O O (kG O O)<|zE O O (kG O O)<|yM<|zA<|zF<|R O<|G O<|v O (kA O O O)<|zA<|zC O (fun c3=>?_) (fun c3=>?_)
   ·try simp only [sx] at c3
    have:(planT l).2<=4096*l.length:=hJ.2
    exact absurd c3 (by omega)
   ·try simp only [sx] at c3
    refine zH<|R O<|G O<|G O<|G O<|G O<|G O<|zA<|zM<|fin3 (L O) (L O) (L O) ?_
    rfl
end Go.W
