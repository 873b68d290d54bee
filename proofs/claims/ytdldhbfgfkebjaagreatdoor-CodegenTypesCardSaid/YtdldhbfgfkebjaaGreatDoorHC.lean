/-
  Walks: what functions of the program compute. Printed by wip/gen/mk2.py.
  Conditions: none.
-/
import Derived.Test.YtdldhbfgfkebjaaGreatDoorHB
import Derived.Test.YtdldhbfgfkebjaaGreatDoorPlainG
set_option linter.unusedSimpArgs false
set_option linter.unusedVariables false
set_option maxRecDepth 10000
namespace Go.W
open Go Go.Eng Go.Proofs Go.L41 Go.Br
attribute [local irreducible] AWP RWP TD finQ
theorem fd48_1:fieldT Tryz.prog 48 1=some (1,3):=by kernel_rfl
theorem fd48_2:fieldT Tryz.prog 48 2=some (2,3):=by kernel_rfl
theorem ok43:callOk Tryz.prog 43=true:=by kernel_rfl
theorem ok44:callOk Tryz.prog 44=true:=by kernel_rfl
theorem ok54:callOk Tryz.prog 54=true:=by kernel_rfl
theorem ok55:callOk Tryz.prog 55=true:=by kernel_rfl
theorem ok104:callOk Tryz.prog 104=true:=by kernel_rfl
theorem ok146:callOk Tryz.prog 146=true:=by kernel_rfl
theorem one62:oneT Tryz.prog 62=true:=by kernel_rfl
theorem pl48:placesT Tryz.prog 48=some [(0,1),(1,1),(2,1)]:=by kernel_rfl
theorem zr48:zeroT Tryz.prog 48=some [(Value.string (ByteArray.mk #[])),(Value.int IntKind.i64 0),(Value.int IntKind.i64 0)]:=by kernel_rfl
theorem ar_fit_1 (a b:Sl) (ha:0<=a.At/\a.At<=600000) (hb:0<=b.At/\b.At<=600000):
    Pur cfg 147 [vSl a,vSl b] (vI (a.At-b.At)):=by
 refine zV Tryz.func147 O Tryz.ntmps147 Tryz.results147 O ?_
 intro z hz
 refine R O<|zU O O (qT O O) ?_
 rintro _ _ ⟨b1,rfl,rfl⟩
 refine zU O O (qT O O) ?_
 rintro _ _ ⟨b2,rfl,rfl⟩
 refine G O<|zA<|R O<|zN O fd48_1<|zL one3 (Y 1 O) O<|zN O fd48_1<|zL one3 (Y 0 O) O<|yF O ⟨by omega,by omega⟩<|G O<|zA<|zM<|zW O ?_
 rfl
theorem ar_sorted (b:List Sl) (hn:b.length<=40) (hb:slB b):Pur cfg 146 [vSls b,.c (.fn (.func 147) [] [])] (vSls (srtA b)):=by
  have h:=OwnR.pur (sts_sorted (.fn (.func 147) [] []) keyA Prod.snd (fun x=>0<=x.1.At/\x.1.At<=600000) (zSl,0) (fun x y hx hy=>FnPur.of_pur (first:=[]) (cap:=[]) (by kernel_rfl) (ar_fit_1 x.1 y.1 hx hy)) b.zipIdx (zip_inc b) (fun x hx=>by have:=hb x.1 (zip_mem hx);omega) (by rw [List.length_zipIdx];exact hn))
  rw [show b.zipIdx.map encP=b.map Sl.cells from zip_enc b,show (srt keyA Prod.snd b.zipIdx).map encP=(srtA b).map Sl.cells from srt_enc b] at h
  exact h
theorem ar_fit (l:List Lifetime) (S:List Sl) (k:Nat) (hl:l.length<=40) (hS:S.length=l.length) (hk:k<l.length) (hb:slB S) (hz0:szOk l):
    Pur cfg 104 [vLs l,vSls S,vI k] (vI (ffit l S k)):=by
 refine zV Tryz.func104 O Tryz.ntmps104 Tryz.results104 O ?_
 intro z hz
 have hlk:=lfA_at hk
 have hzk:=hz0 k hk
 have hsl:=srtA_len (bsy l S k)
 have hbl:=bsy_len2 l S k
 refine R O<|G O<|zA<|R O<|G O<|qQ _ (zAc 48 3)<|zA<|zF<|R O<|G O<|qJ O el33<|G O<|zA<|zQ<|zR ⟨[(15,.c _),(7,.c _),(0,.c _),(2,.c _),(13,.c _),(14,.c _)],[_]⟩ (Weak.mk [true] ⟨zB,zB,zB,zB,zB,zB,T⟩ O)<|qH 2 1 O O (Nat×Value) (fun ⟨i,sv⟩=>[(15,vI i),(7,.c (.lit sv))]) (fun ⟨i,sv⟩=>[E.vec sv 48 3 ((mapI (bsyF l k) 0 (S.take i)).map Sl.cells)]) (fun ⟨i,sv⟩=>i<=S.length) (fun ⟨i,sv⟩=>S.length-i) ⟨⟨0,(.slice none 0 0)⟩,(by omega),Weak.mk [true] ⟨zB,zB,zB,zB,zB,zB,T⟩ O⟩ ?_
 rintro ⟨i,sv⟩ hi
 show AWP _ _ _ _ _ ⟨[(15,vI i),(7,.c (.lit sv))]++_,[E.vec sv 48 3 ((mapI (bsyF l k) 0 (S.take i)).map Sl.cells)]++_⟩
 refine R O<|yC O<|zA<|zF<|zC O (fun c1=>?_) (fun c1=>?_)
 ·try simp only [sx] at c1
  obtain ⟨s,hs⟩:=qW S i (by omega)
  have hli:=lfA_at (l:=l) (i:=i) (by omega)
  refine zH<|zF<|zQ<|R O<|G O<|qI O el33 (by omega) (getm (by assumption))<|zO zDc N O<|zU O O (kA O zr48) ?_
  rintro _ _ ⟨b2,rfl,rfl⟩
  refine G O<|A 0 sz48 O<|qQ _ (qK 0 O 9 _ PLe.ptr)<|zA<|zF<|qU 19 mixed (by kernel_rfl) O O<|zE O O (qE O fd48_2 O)<|zE O O (zD O one3 O N O)<|zE O O (kB O O O)<|zE O O (zG O O)<|qS [] O O O O gv1 T (fun g5_3=>zG O O) O<|qS [] O O O O gv1 T (fun g5_3=>zG O O) O<|qS [(24,_),(25,_)] O O O O gv1 ⟨O,O,O,O,T⟩ (fun g5_3=>zGo O O O) O<|zE O O (zCl O O O (fun h=>h) O)<|zE O O (zG O O)<|qS [] O O O O gv1 T (fun g5_8=>zG O O) O<|qS [] O O O O gv1 T (fun g5_8=>zG O O) O<|qS [(29,_),(30,_)] O O O O gv1 ⟨O,O,O,O,T⟩ (fun g5_8=>yB O el62 O O (by omega) (getm hli)) O<|qS [(31,_)] O O O O gv1 ⟨O,O,T⟩ (fun g5_8=>qD O agg82 O N O) O<|qS [] O O O O gv1 T (fun g5_8=>zG O O) O<|qS [] O O O O gv1 T (fun g5_8=>zG O O) O<|qS [(33,_),(34,_)] O O O O gv1 ⟨O,O,O,O,T⟩ (fun g5_8=>yB O el62 O O (by omega) (getm hlk)) O<|qS [(35,_)] O O O O gv1 ⟨O,O,T⟩ (fun g5_8=>qD O agg82 O N O) O<|qS [(32,_),(36,_)] O O O O gv1 ⟨O,O,O,O,T⟩ (fun g5_8=>qY O ok44 (zLr _ _) ⟨zB,O,zB,O,T⟩) O<|zE O O (zCl O O O (fun h=>h) O)<|yN<|zA<|zC O (fun c2=>?_) (fun c2=>?_)
  ·try simp only [sx] at c2
   refine zI O<|G O<|zO zDc N O<|v O (kD O el33 zr48 O O O O)<|zU O O (kL 0 O el33 O O O (by have:=zMh (bsyF_len l k) (S.take i) 0;rw [List.length_take] at this;simp only [List.length_map,List.length_cons,List.length_nil];omega) (by have:=zMh (bsyF_len l k) (S.take i) 0;rw [List.length_take] at this;simp only [List.length_map,List.length_cons,List.length_nil];omega)) ?_
   rintro _ _ ⟨sv3,rfl,rfl⟩
   refine G O<|zA<|zI O<|qC O ⟨by omega,by omega⟩<|G O<|zA ?_
   refine ⟨⟨i+1,sv3⟩,(by omega),(by show S.length-(i+1)<S.length-i;omega),Weak.mk [true] ⟨zB,zB,zB,zB,zB,zB,T⟩ (by exact yE (by rw [zBg _ hs];unfold bsyF;rw [if_pos c2,List.map_append];rfl))⟩
  ·try simp only [sx] at c2
   refine zH<|zI O<|qC O ⟨by omega,by omega⟩<|G O<|zA ?_
   refine ⟨⟨i+1,sv⟩,(by omega),(by show S.length-(i+1)<S.length-i;omega),Weak.mk [true] ⟨zB,zB,zB,zB,zB,zB,T⟩ (by exact yE (by rw [zBg _ hs];unfold bsyF;rw [if_neg (fun k9=>by rcases c2 with (q|q)|q;omega;exact k9.1.2 q;exact absurd (k9.2.symm.trans q) (by simp)),List.append_nil]))⟩
 ·try simp only [sx] at c1
  rw [yG (l:=S) (k:=i) (by omega)]
  refine qL<|R O<|G O<|zA<|zF<|zF<|zR _ (wL 0 O (regs':=[(7,_)]) (μ':=[]) ⟨FLe.sl,T⟩ T)<|zI O<|G O<|qX O ok146 (ar_sorted (bsy l S k) (by have:=bsy_len2 l S k;omega) (bsy_sub hb)) ⟨zB,O,zB,O,T⟩<|qJ O el33<|G O<|zA<|zQ<|zR ⟨[(47,.c _),(10,.c _),(0,.c _),(2,.c _),(45,.c _),(46,.c _)],[]⟩ (Weak.mk [] ⟨zB,zB,zB,zB,zB,zB,T⟩ O)<|qH 2 0 O O (Nat×Int) (fun ⟨j,a⟩=>[(47,vI j),(10,vI a)]) (fun ⟨j,a⟩=>[]) (fun ⟨j,a⟩=>j<=(srtA (bsy l S k)).length/\(0<=a)/\(a<=700000)/\(ffit l S k=scanF (lfA l k).Size a ((srtA (bsy l S k)).drop j))) (fun ⟨j,a⟩=>(srtA (bsy l S k)).length-j) ⟨⟨0,0⟩,⟨by omega,by omega,by omega,O⟩,Weak.mk [] ⟨zB,VLe.of_eq (O),zB,zB,zB,zB,T⟩ O⟩ ?_
  rintro ⟨j,a⟩ ⟨hj,hq1,hq2,hq3⟩
  show AWP _ _ _ _ _ ⟨[(47,vI j),(10,vI a)]++_,[]++_⟩
  refine R O<|yC O<|zA<|zF<|zC O (fun c3=>?_) (fun c3=>?_)
  ·try simp only [sx] at c3
   obtain ⟨s,hs⟩:=qW (srtA (bsy l S k)) j (by omega)
   have hsb:=bsy_sub (l:=l) (k:=k) hb s (srtA_mem.1 (qA hs))
   refine zH<|zF<|zQ<|R O<|qI O el33 (by omega) (getm (by assumption))<|zO zDc N O<|zU O O (kA O zr48) ?_
   rintro _ _ ⟨b4,rfl,rfl⟩
   refine A 0 sz48 O<|qQ _ (qK 0 O 12 _ PLe.ptr)<|zA<|zF<|zF<|qU 10 mixed (by kernel_rfl) O O<|zE O O (zG O O)<|zE O O (zG O O)<|zE O O (zG O O)<|zE O O (yB O el62 O O (by omega) (getm hlk))<|zE O O (qE O zOe O)<|zE O O (zD O one3 O N O)<|zE O O (kE O O O ⟨by omega,by omega⟩)<|zE O O (qE O fd48_1 O)<|zE O O (zD O one3 O N O)<|zE O O (wH O O O)<|yN<|zA<|zC O (fun c4=>?_) (fun c4=>?_)
   ·try simp only [sx] at c4
    have hst:=scan_stop hs c4
    refine qL<|R O<|G O<|G O<|zA<|zM<|zW O ?_
    rw [hq3,hst]
   ·try simp only [sx] at c4
    have hst:=scan_next hs (show ¬a+(lfA l k).Size<=s.At by omega)
    refine zH<|zI O<|G O<|zZ O fd48_1<|zL one3 N O<|zZ O fd48_2<|zL one3 N O<|qC O ⟨by omega,by omega⟩<|v O (zOt O O O)<|G O<|zA<|zI O<|qC O ⟨by omega,by omega⟩<|G O<|zA ?_
    refine ⟨⟨j+1,max a (s.At+s.Len)⟩,⟨by omega,by omega,by omega,hq3.trans hst⟩,(by show (srtA (bsy l S k)).length-(j+1)<(srtA (bsy l S k)).length-j;omega),Weak.mk [] ⟨zB,zB,zB,zB,zB,zB,T⟩ O⟩
  ·try simp only [sx] at c3
   refine qL<|R O<|G O<|G O<|zA<|zM<|zW O ?_
   rw [hq3,wJ (by omega)];rfl
theorem ar_place (l:List Lifetime) (hl:l.length<=40) (hz0:szOk l):
    Pur cfg 54 [vLs l,.c (.sl 1 ((ordP l).map encN))] (.tup [vSls (planT l).1,vI (planT l).2]):=by
 refine zV Tryz.func54 O Tryz.ntmps54 Tryz.results54 O ?_
 intro z hz
 refine R O<|G O<|G O<|zA<|R O<|G O<|qJ O el62<|zU O O (ope_make l.length O el33 zr48 O O (by simp) (by simp) (by omega) (by omega)) ?_
 rintro _ _ ⟨sv1,rfl,rfl⟩
 refine G O<|zA<|R O<|G O<|zA<|zF<|R O<|G O<|qJ O el67<|G O<|zA<|zQ<|zR ⟨[(16,.c _),(7,.c _),(0,.c _),(6,.c _),(14,.c _),(15,.c _)],[_]⟩ (Weak.mk [true] ⟨zB,zB,zB,zB,zB,zB,T⟩ O)<|qH 2 1 O O (Nat) (fun t=>[(16,vI t),(7,vI (plF l ((ordP l).take t)).2)]) (fun t=>[E.vec sv1 48 3 ((slos l (plF l ((ordP l).take t)).1).map Sl.cells)]) (fun t=>t<=(ordP l).length) (fun t=>(ordP l).length-t) ⟨0,(by omega),Weak.mk [true] ⟨zB,VLe.of_eq (O),zB,zB,zB,zB,T⟩ (by exact yE (by rw [show (plF l ((ordP l).take 0)).1=List.replicate l.length (-1) from rfl,slos_init,List.map_replicate];rfl))⟩ ?_
 rintro t ht
 refine R O<|yC O<|zA<|zF<|zC O (fun c1=>?_) (fun c1=>?_)
 ·try simp only [sx] at c1
  obtain ⟨x,hx⟩:=qW (ordP l) t (by omega)
  have hxl:=ord_lt hx
  have hlx:=lfA_at hxl
  have J:=plJ hz0 t (by have:=zKh l;omega)
  have hzx:=hz0 x hxl
  have hpl:=J.pl.len
  have hff:=ffit_le (k:=x) J.pl (by omega)
  have hf0:=ffit_pos l (slos l (plF l ((ordP l).take t)).1) x
  have hJs:=J.sz
  have hol:=zKh l
  have hsx:slo (lfA l x) (ffit l (slos l (plF l ((ordP l).take t)).1) x)=⟨(lfA l x).Name,ffit l (slos l (plF l ((ordP l).take t)).1) x,(lfA l x).Size⟩:=by unfold slo;rw [if_neg (by omega)]
  refine zH<|zF<|zQ<|R O<|qI O el67 (by omega) (getm (by assumption))<|zL one3 N O<|G O<|zA<|R O<|G O<|G O<|G O<|v O (zBy 0 O ok104 O (ar_fit l (slos l (plF l ((ordP l).take t)).1) x hl (zDe hpl) hxl (J.pl.sl hz0 (by omega)) hz0) O ⟨.inr ⟨zB,O⟩,.inl ⟨O,O⟩,.inr ⟨zB,O⟩,T⟩)<|G O<|zA<|zF<|qU 15 mixed (by kernel_rfl) O O<|zE O O (zG O O)<|zE O O (zG O O)<|zE O O (zG O O)<|zE O O (zG O O)<|zE O O (yB O el62 O O (by omega) (getm hlx))<|zE O O (qE O fd82_0 O)<|zE O O (zD O one9 O N O)<|zE O O (zG O O)<|zE O O (zG O O)<|zE O O (zG O O)<|zE O O (yB O el62 O O (by omega) (getm hlx))<|zE O O (qE O zOe O)<|zE O O (zD O one3 O N O)<|zE O O (zAh O zr48 pl48 O)<|zE O O (qB 0 O el33 O O O (by omega) (by rw [List.length_map,zDe hpl];omega))<|yN<|zAd O O (yX O sz48 O O O (zBs 0 O (yU (zGv hpl (atA_at (by omega))) O) O))<|zA<|zI O<|G O<|G O<|G O<|G O<|qI O el62 (by omega) (getm hlx)<|zZ O zOe<|zL one3 N O<|qC O ⟨by omega,by omega⟩<|v O (zOt O O O)<|G O<|zA<|zI O<|qC O ⟨by omega,by omega⟩<|G O<|zA ?_
  refine ⟨t+1,(by omega),(by omega),Weak.mk [true] ⟨zB,VLe.of_eq (congrArg vI (by rw [zGw hx];rfl)),zB,zB,zB,zB,T⟩ (by exact yE (by rw [zGw hx];unfold plS;rw [slos_set hpl,List.map_set,hsx];rfl))⟩
 ·try simp only [sx] at c1
  have ht0:(ordP l).take t=ordP l:=yG (by omega)
  rw [ht0]
  refine qL<|zF<|zR _ (wL 0 O (regs':=[(6,_)]) (μ':=[]) ⟨FLe.sl,T⟩ T)<|zI O<|G O<|G O<|G O<|G O<|zA<|zM<|fin2 (L O) (L O) ?_
  rfl
theorem ar_Plan_1 (l:List Lifetime) (x y:Nat) (hz0:szOk l) (hx:x<l.length) (hy:y<l.length):
    Pur cfg 56 [vI x,vI y,.c (.iptr [.sl 4 (l.map Lifetime.cells)])] (vI (keyO l x-keyO l y)):=by
 refine zV Tryz.func56 O Tryz.ntmps56 Tryz.results56 O ?_
 intro z hz
 have hlx:=lfA_at hx
 have hly:=lfA_at hy
 have hzx:=hz0 x hx
 have hzy:=hz0 y hy
 refine R O<|G O<|zA<|zF<|qU 12 mixed (by kernel_rfl) O O<|zE O O (zD O one62 O N O)<|zE O O (zG O O)<|zE O O (yB O el62 O O (by omega) (getm hly))<|zE O O (qE O zOe O)<|zE O O (zD O one3 O N O)<|zE O O (zD O one62 O N O)<|zE O O (zG O O)<|zE O O (yB O el62 O O (by omega) (getm hlx))<|zE O O (qE O zOe O)<|zE O O (zD O one3 O N O)<|zE O O (yJ O O O ⟨by omega,by omega⟩)<|zE O O (kI O O)<|yN<|zA<|zM<|zW O ?_
 exact congrArg vI (by unfold keyO;omega)
theorem ar_sortedI (l:List Lifetime) (hn:l.length<=40) (hz0:szOk l):Pur cfg 55 [.c (.sl 1 ((List.range l.length).map encN)),.c (.fn (.func 56) [] [.iptr [.sl 4 (l.map Lifetime.cells)]])] (.c (.sl 1 ((ordP l).map encN))):=
  OwnR.pur (sti_sorted (.fn (.func 56) [] [.iptr [.sl 4 (l.map Lifetime.cells)]]) (keyO l) id (fun x=>x<l.length) 0 (fun x y hx hy=>FnPur.of_pur (first:=[]) (cap:=[.iptr [.sl 4 (l.map Lifetime.cells)]]) (by kernel_rfl) (ar_Plan_1 l x y hz0 hx hy)) (List.range l.length) (range_inc _) (fun x hx=>List.mem_range.1 hx) (by rw [List.length_range];exact hn))
theorem ar_Plan (l:List Lifetime) (hl:l.length<=40) (hv:validateL l=0):
    Pur cfg 26 [vLs l] (.tup [vSls (planT l).1,vI (planT l).2,vI 0]):=by
 refine zV Tryz.func26 O Tryz.ntmps26 Tryz.results26 O ?_
 intro z hz
 have hz0:=szOk_of hv
 have hJ:=(plJ hz0 l.length (Nat.le_refl _)).sz
 have ht0:(ordP l).take l.length=ordP l:=yG (by rw [zKh];omega)
 rw [ht0] at hJ
 refine R O<|zU O O (qT O O) ?_
 rintro _ _ ⟨b1,rfl,rfl⟩
 refine qQ _ (qK 0 O 1 _ PLe.ptr)<|G O<|G O<|G O<|zA<|zF<|R O<|zL one62 N O<|qX O ok43 (zKl l (by omega)) ⟨zB,O,T⟩<|G O<|zA<|R O<|G O<|wO O<|zA<|zC O (fun c1=>?_) (fun c1=>?_)
 ·try simp only [sx] at c1
  exact absurd hv c1
 ·try simp only [sx] at c1
  refine zH<|R O<|G O<|qQ _ (zAc 3 1)<|zA<|zF<|R O<|zL one62 N O<|qJ O el62<|G O<|zA<|zQ<|zR ⟨[(17,.c _),(6,.c _),(1,.c _),(16,.c _)],[_]⟩ (Weak.mk [true] ⟨zB,zB,zB,zB,T⟩ O)<|qH 2 1 O O (Nat×Value) (fun ⟨i,sv⟩=>[(17,vI i),(6,.c (.lit sv))]) (fun ⟨i,sv⟩=>[E.vec sv 3 1 ((List.range i).map encN)]) (fun ⟨i,sv⟩=>i<=l.length) (fun ⟨i,sv⟩=>l.length-i) ⟨⟨0,(.slice none 0 0)⟩,(by omega),Weak.mk [true] ⟨zB,zB,zB,zB,T⟩ O⟩ ?_
  rintro ⟨i,sv⟩ hi
  show AWP _ _ _ _ _ ⟨[(17,vI i),(6,.c (.lit sv))]++_,[E.vec sv 3 1 ((List.range i).map encN)]++_⟩
  refine R O<|yC O<|zA<|zF<|zC O (fun c2=>?_) (fun c2=>?_)
  ·try simp only [sx] at c2
   obtain ⟨x,hx⟩:=qW l i (by omega)
   refine zH<|zF<|zQ<|R O<|G O<|G O<|zA<|zI O<|G O<|G O<|v O (kD O el67 zr3 O O O O)<|zU O O (kL 0 O el67 O O O (by simp only [List.length_map,List.length_range,List.length_cons,List.length_nil];omega) (by simp only [List.length_map,List.length_range,List.length_cons,List.length_nil];omega)) ?_
   rintro _ _ ⟨sv3,rfl,rfl⟩
   refine G O<|zA<|zI O<|qC O ⟨by omega,by omega⟩<|G O<|zA ?_
   refine ⟨⟨i+1,sv3⟩,(by omega),(by show l.length-(i+1)<l.length-i;omega),Weak.mk [true] ⟨zB,zB,zB,zB,T⟩ (by exact yE (by rw [List.range_succ,List.map_append];rfl))⟩
  ·try simp only [sx] at c2
   have hil:i=l.length:=by omega
   subst hil
   refine qL<|zF<|zR _ (wL 0 O (regs':=[(6,_)]) (μ':=[]) ⟨FLe.sl,T⟩ T)<|qU 10 mixed (by kernel_rfl) O O<|zE O O (zD O one62 O N O)<|zE O O (zG O O)<|zE O O (zDq O O O O O)<|zE O O (qY O ok55 (ar_sortedI l hl hz0) ⟨zB,O,zB,O,T⟩)<|zE O O (qY O ok54 (ar_place l hl hz0) ⟨zB,O,zB,O,T⟩)<|zE O O (yZ O O)<|zE O O (kR O O O)<|zE O O (kR O O O)<|zE O O (kI O O)<|zE O O (kI O O)<|yN<|zA<|zF<|R O<|G O<|v O (kB O O O)<|zA<|zC O (fun c3=>?_) (fun c3=>?_)
   ·try simp only [sx] at c3
    have:(planT l).2<=4096*l.length:=hJ.2
    exact absurd c3 (by omega)
   ·try simp only [sx] at c3
    refine zH<|R O<|G O<|G O<|G O<|G O<|G O<|zA<|zM<|fin3 (L O) (L O) (L O) ?_
    rfl
end Go.W
