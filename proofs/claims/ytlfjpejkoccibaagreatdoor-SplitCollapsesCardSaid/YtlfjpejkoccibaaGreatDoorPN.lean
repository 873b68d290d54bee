/-
  What functions compute.
  Conditions: none.
-/
import Derived.Test.YtlfjpejkoccibaaGreatDoorPJ
import Derived.Test.YtlfjpejkoccibaaGreatDoorPlain3
set_option linter.unusedSimpArgs false
set_option linter.unusedVariables false
set_option maxRecDepth 10000
namespace Go.W
open Go Go.Eng Go.Proofs Go.L41 Go.Br
attribute [local irreducible] AWP RWP TD fH
/-! The reference's Collapse. -/
theorem fmX_take (i:List Ix) (k:Nat):(fmX (i.take k)).length<=i.length+dH i:=by
  have h:=fmX_len i
  have e:fmX i=fmX (i.take k)++fmX (i.drop k):=by unfold fmX;rw [←List.flatMap_append,List.take_append_drop]
  rw [e,List.length_append] at h;omega
theorem fmL_app (a b:List Ex):fmL (a++b)=fmL a++fmL b:=by unfold fmL;rw [zFb,List.flatMap_append]
theorem fmL_take (l:List Ex) (k:Nat):(fmL (l.take k)).length<=(fmL l).length:=by
  have e:fmL l=fmL (l.take k)++fmL (l.drop k):=by rw [←fmL_app,List.take_append_drop]
  rw [e,List.length_append];omega
theorem lnL_take (l:List St) (k:Nat):(lnL (l.take k)).length<=(lnL l).length:=by
  have e:lnL l=lnL (l.take k)++lnL (l.drop k):=by rw [←lnL_app,List.take_append_drop]
  rw [e,List.length_append];omega
theorem lnL_P {P:Lf->Prop} (hz:P ⟨0,[]⟩) {l:List St} (h:bH P l):∀x,x∈lnL l->P x:=by
  classical
  intro x hx
  have h1:=lnL_all (fun l=>decide (P l)) (decide_eq_true hz) l
  rw [evL_of (zEr (fun l k=>decide_eq_true k) h)] at h1
  exact of_decide_eq_true (List.all_eq_true.1 h1 x hx)
theorem inn_buf {n:Ns} {outer:ByteArray} {s inn:St} (hv:(dO n).2=0) (hf:(dX n.Body outer).isSome=true) (hs1:(atT n.Body (fV n outer)).1=s) (hin:s.Body[0]? =some inn) (ho:inn.Op=1):dM n.Bufs outer=false/\dM n.Bufs inn.Name=false/\inn.Many<=65536:=by
  obtain ⟨q1,q2,q3,q4,q5,q6,q7,q8,q9,q10⟩:=zLq hv hf
  have hall:=zFa (zPh (zNf hv) q1)
  rw [hs1] at hall
  obtain ⟨Ui,sci,h⟩:=(zFa (zFd hall.2 inn (zZ hin))).1
  obtain ⟨i1,i2,i3,i4,_⟩:=zLm h ho
  exact ⟨q4,i2,i4⟩
theorem inn_wt (s:St):bC (s.Body.getD 0 zSt).Body<=bC s.Body:=by
  cases e:s.Body with
  |nil=>decide+kernel
  |cons a r=>
    have h1:=St.body_wt a
    show bC a.Body<=bC (a::r)
    rw [bC];omega
theorem colT_ok {n:Ns} {outer nm:ByteArray} (hn:n.Ok) (h:bC n.Body<=1000):(nR n outer nm).1.Ok:=by
  unfold nR
  split
  · split
    · refine finT_ok hn ?_
      have h0:=colS_wt (s:=(fM n outer).2.1) rfl outer nm
      have h1:=sbT0_wt (s:=outer) (l:=((fM n outer).2.1.Body.getD 0 zSt).Body)
      have h4:=locT_wt n outer
      have h5:=inn_wt (fM n outer).2.1
      have h2:=sbT_wt (s:=((fM n outer).2.1.Body.getD 0 zSt).Name) (u:=fL nm) (l:=gQ (sbT outer ⟨0,[]⟩ ((fM n outer).2.1.Body.getD 0 zSt).Body)) (by have:=(zEz nm).2;omega)
      omega
    · exact zNs_ok
  · exact zNs_ok
theorem lin_eq {a b:ByteArray} {many:Int} {l:List St} (hr:bH Lf.rng l) (h1:1<=many):(lnL l).all (rL a b many)=evL (pS a b many) l:=by
  rw [←lnL_all (pS a b many) (by rw [←linR_is zrng h1];exact linR_zero a b many)]
  have key:∀L:List Lf,(∀x,x∈L->x.rng)->L.all (rL a b many)=L.all (pS a b many):=by
    intro L
    induction L with
    |nil=>intro _;rfl
    |cons x r ih=>intro h;rw [List.all_cons,List.all_cons,linR_is (h x (by simp)) h1,ih fun y hy=>h y (by simp [hy])]
  exact key _ (lnL_P zrng hr)
theorem ok27:bA Tryz.prog 27=true:=by kernel_rfl
theorem ok72:bA Tryz.prog 72=true:=by kernel_rfl
theorem ok124:bA Tryz.prog 124=true:=by kernel_rfl
theorem zRn (e:Ex) (ih:∀a,a∈e.Args->a.wt<=1000000->OwnR cfg 124 [vE a] 41 2 ((fmE a).map Lf.cells)) (he:e.wt<=1000000):
    OwnR cfg 124 [vE e] 41 2 ((fmE e).map Lf.cells):=by
 refine zT Tryz.func124 O Tryz.ntmps124 Tryz.results124 O ?_
 intro z hz
 obtain ⟨hL,hI,hA⟩:=e.parts he
 have hwt:=Ex.wt_eq e
 have hfl:=fmE_len e
 rw [fmE_eq,List.length_append] at hfl
 have hfo:=forms_len e
 refine F O<|zV O O (qN O O) ?_
 rintro _ _ ⟨b1,rfl,rfl⟩
 refine qX 2 O<|H<|F O<|zG O zDe<|zP yX (R 0 O) O<|zV O O (zCe O el70 v O O O O) ?_
 rintro _ _ ⟨sv2,rfl,rfl⟩
 refine A O<|H<|zK<|F O<|A O<|H<|zR<|zY ⟨[(4,.c _),(3,.c _),(1,.c _)],[_,_]⟩ (Weak.mk [true,true] ⟨G,G,G,T⟩ O)<|qK 2 1 O O (Nat×Value) (fun ⟨k,sv⟩=>[(4,vI k),(3,.c (.lit sv))]) (fun ⟨k,sv⟩=>[E.vec sv 41 2 ((e.Lin::fmX (e.Idx.take k)).map Lf.cells)]) (fun ⟨k,sv⟩=>k<=e.Idx.length) (fun ⟨k,sv⟩=>e.Idx.length-k) ⟨⟨0,_⟩,(by omega),Weak.mk [true,true] ⟨G,G,G,T⟩ (by exact zCv (by simp [fmX];rfl))⟩ ?_
 rintro ⟨k,sv⟩ hk
 show AWP _ _ _ _ _ ⟨[(4,vI k),(3,.c (.lit sv))]++_,[E.vec sv 41 2 ((e.Lin::fmX (e.Idx.take k)).map Lf.cells)]++_⟩
 refine zK<|F O<|A O<|zG O kX<|zJ wO (R 1 O) O<|qC O d<|yD O<|H<|zD O (fun c1=>?_) (fun c1=>?_)
 ·try simp only [I] at c1
  obtain ⟨x,hx⟩:=qY e.Idx k (by omega)
  have hxw:=zAq (zZ hx)
  rw [Ix.wt] at hxw
  have hft:=fmX_take e.Idx k
  refine zM<|zK<|zR<|F O<|A O<|zG O kX<|zJ wO (R 1 O) O<|A O<|qD O d (by omega) (Q (by assumption))<|qO O zEp<|zP yX qA O<|yV O el70 v<|zV O O (qV 0 O el70 O O O (by simp only [List.length_map,List.length_append,List.length_cons,List.length_nil,List.length_take,List.length_drop];omega) (by simp only [List.length_map,List.length_append,List.length_cons,List.length_nil,List.length_take,List.length_drop];omega)) ?_
  rintro _ _ ⟨sv3,rfl,rfl⟩
  refine A O<|H<|zQ O<|A O<|zG O kX<|zJ wO (R 1 O) O<|A O<|qD O d (by omega) (Q (by assumption))<|qO O zAr<|zJ zDw qA O<|zV O O (qV 0 O el70 O O O (by simp only [List.length_map,List.length_append,List.length_cons,List.length_nil,List.length_take,List.length_drop];omega) (by simp only [List.length_map,List.length_append,List.length_cons,List.length_nil,List.length_take,List.length_drop];omega)) ?_
  rintro _ _ ⟨sv4,rfl,rfl⟩
  refine A O<|H<|zQ O<|A O<|qJ O ⟨by omega,by omega⟩<|A O<|H ?_
  refine ⟨⟨k+1,sv4⟩,(by omega),(by show e.Idx.length-(k+1)<e.Idx.length-k;omega),Weak.mk [true,true] ⟨G,G,G,T⟩ (by exact zCv (by rw [fmX_next hx];simp only [List.map_cons,List.map_append,List.map_nil,List.cons_append,List.nil_append,List.append_assoc];rfl))⟩
 ·try simp only [I] at c1
  rw [yU (l:=e.Idx) (k:=k) (by omega)]
  refine qQ<|zK<|F O<|A O<|H<|zR<|zY ⟨[(5,.c _),(3,.c _),(1,.c _)],[_,_]⟩ (Weak.mk [true,true] ⟨G,G,G,T⟩ O)<|qK 2 1 O O (Nat×Value) (fun ⟨j,sv⟩=>[(5,vI j),(3,.c (.lit sv))]) (fun ⟨j,sv⟩=>[E.vec sv 41 2 ((bQ e++fmL (e.Args.take j)).map Lf.cells)]) (fun ⟨j,sv⟩=>j<=e.Args.length) (fun ⟨j,sv⟩=>e.Args.length-j) ⟨⟨0,_⟩,(by omega),Weak.mk [true,true] ⟨G,G,G,T⟩ (by exact zCv (by rw [List.take_zero,show fmL []=[] from rfl,List.append_nil];rfl))⟩ ?_
  rintro ⟨j,sv⟩ hj
  show AWP _ _ _ _ _ ⟨[(5,vI j),(3,.c (.lit sv))]++_,[E.vec sv 41 2 ((bQ e++fmL (e.Args.take j)).map Lf.cells)]++_⟩
  refine zK<|F O<|A O<|zG O wL<|zJ zBa (R 1 O) O<|qC O g<|yD O<|H<|zD O (fun c2=>?_) (fun c2=>?_)
  ·try simp only [I] at c2
   obtain ⟨y,hy⟩:=qY e.Args j (by omega)
   have hn1:=fmL_take e.Args (j+1)
   rw [fmL_next hy,List.length_append] at hn1
   refine zM<|zK<|zR<|zQ O<|A O<|zG O wL<|zJ zBa (R 1 O) O<|A O<|qD O g (by omega) (zEn hy)<|zP kA qA O<|qI O ok124 (OwnR.pur (ih y (zZ hy) (by have:=Ex.arg_wt (zZ hy);omega))) ⟨G,O,T⟩<|zV O O (qV 0 O el70 O O O (by simp only [List.length_map,List.length_append,List.length_cons,List.length_nil,List.length_take,List.length_drop];omega) (by simp only [List.length_map,List.length_append,List.length_cons,List.length_nil,List.length_take,List.length_drop];omega)) ?_
   rintro _ _ ⟨sv5,rfl,rfl⟩
   refine A O<|H<|zQ O<|A O<|qJ O ⟨by omega,by omega⟩<|A O<|H ?_
   refine ⟨⟨j+1,sv5⟩,(by omega),(by show e.Args.length-(j+1)<e.Args.length-j;omega),Weak.mk [true,true] ⟨G,G,G,T⟩ (by exact zCv (by rw [fmL_next hy];simp only [List.map_cons,List.map_append,List.map_nil,List.cons_append,List.nil_append,List.append_assoc]))⟩
  ·try simp only [I] at c2
   refine qQ<|F O<|A O<|A O<|H<|zY _ (Weak.mem [true,false] O)<|o<|X O ?_
   exact ⟨_,O,by rw [yU (by omega),←fmE_eq];rfl⟩
theorem zUl (e:Ex) (he:e.wt<=1000000):OwnR cfg 124 [vE e] 41 2 ((fmE e).map Lf.cells):=by
  induction e using Ex.ind with
  |_ e ih=>exact zRn e ih he
theorem zJu (l:List St) (ih:∀s,s∈l->OwnR cfg 72 [bM s.Body] 41 2 ((lnL s.Body).map Lf.cells)) (hl:bC l<=1000000):
    OwnR cfg 72 [bM l] 41 2 ((lnL l).map Lf.cells):=by
 refine zT Tryz.func72 O Tryz.ntmps72 Tryz.results72 O ?_
 intro z hz
 have hll:=kO l
 have hfl:=lnL_len l
 refine F O<|qX 2 O<|H<|F O<|A O<|yI _ (kR 41 2)<|H<|zK<|F O<|A O<|H<|zR<|zY ⟨[(4,.c _),(3,.c _),(0,.c _)],[_]⟩ (Weak.mk [true] ⟨G,G,G,T⟩ O)<|qK 2 1 O O (Nat×Value) (fun ⟨k,sv⟩=>[(4,vI k),(3,.c (.lit sv))]) (fun ⟨k,sv⟩=>[E.vec sv 41 2 ((lnL (l.take k)).map Lf.cells)]) (fun ⟨k,sv⟩=>k<=l.length) (fun ⟨k,sv⟩=>l.length-k) ⟨⟨0,(.slice none 0 0)⟩,(by omega),Weak.mk [true] ⟨G,G,G,T⟩ (by exact zCv (by rw [List.take_zero,lnL];rfl))⟩ ?_
 rintro ⟨k,sv⟩ hk
 show AWP _ _ _ _ _ ⟨[(4,vI k),(3,.c (.lit sv))]++_,[E.vec sv 41 2 ((lnL (l.take k)).map Lf.cells)]++_⟩
 refine zK<|F O<|A O<|A O<|qC O D<|yD O<|H<|zD O (fun c1=>?_) (fun c1=>?_)
 ·try simp only [I] at c1
  obtain ⟨s,hs⟩:=qY l k (by omega)
  have hsw:=yC (zZ hs)
  have hse:=St.wt_eq s
  have hn1:=lnL_take l (k+1)
  rw [lnL_next hs,lnS_eq] at hn1
  simp only [List.length_append] at hn1
  refine zM<|zK<|zR<|F O<|A O<|A O<|A O<|qD O D (by omega) (wD hs)<|qO O zDo<|zJ wO qA O<|qT [none,none,none,none,none,none,none,none,none,none,some 2,none,some 13] O zr44 pl44<|qI O ok124 (OwnR.pur (zUl (rdZ s.Idx) (by rw [rdZ_wt];omega))) ⟨G,O,T⟩<|zV O O (qV 0 O el70 O O O (by simp only [List.length_map,List.length_append,List.length_cons,List.length_nil,List.length_take,List.length_drop];omega) (by simp only [List.length_map,List.length_append,List.length_cons,List.length_nil,List.length_take,List.length_drop];omega)) ?_
  rintro _ _ ⟨sv2,rfl,rfl⟩
  refine A O<|H<|F O<|A O<|A O<|A O<|qD O D (by omega) (wD hs)<|qO O zAz<|zP kA qA O<|qI O ok124 (OwnR.pur (zUl s.E (by omega))) ⟨G,O,T⟩<|zV O O (qV 0 O el70 O O O (by simp only [List.length_map,List.length_append,List.length_cons,List.length_nil,List.length_take,List.length_drop];omega) (by simp only [List.length_map,List.length_append,List.length_cons,List.length_nil,List.length_take,List.length_drop];omega)) ?_
  rintro _ _ ⟨sv3,rfl,rfl⟩
  refine A O<|H<|zQ O<|A O<|A O<|A O<|qD O D (by omega) (wD hs)<|qO O kK<|zJ kP qA O<|qI O ok72 (OwnR.pur (ih s (zZ hs))) ⟨G,O,T⟩<|zV O O (qV 0 O el70 O O O (by simp only [List.length_map,List.length_append,List.length_cons,List.length_nil,List.length_take,List.length_drop];omega) (by simp only [List.length_map,List.length_append,List.length_cons,List.length_nil,List.length_take,List.length_drop];omega)) ?_
  rintro _ _ ⟨sv4,rfl,rfl⟩
  refine A O<|H<|zQ O<|A O<|qJ O ⟨by omega,by omega⟩<|A O<|H ?_
  refine ⟨⟨k+1,sv4⟩,(by omega),(by show l.length-(k+1)<l.length-k;omega),Weak.mk [true] ⟨G,G,G,T⟩ (by exact zCv (by rw [lnL_next hs,lnS_eq];simp only [List.map_cons,List.map_append,List.map_nil,List.cons_append,List.nil_append,List.append_assoc]))⟩
 ·try simp only [I] at c1
  refine qQ<|F O<|A O<|A O<|H<|o<|X O ?_
  exact ⟨_,O,by rw [yU (by omega)];rfl⟩
theorem zUk (s:St) (hl:bC s.Body<=1000000):OwnR cfg 72 [bM s.Body] 41 2 ((lnL s.Body).map Lf.cells):=by
  induction s using St.ind with
  |_ s ih=>exact zJu s.Body (fun a ha=>ih a ha (by have:=yC ha;have:=St.body_wt a;omega)) hl
theorem ref36_lins (l:List St) (hl:bC l<=1000000):OwnR cfg 72 [bM l] 41 2 ((lnL l).map Lf.cells):=
  zJu l (fun s hs=>zUk s (by have:=yC hs;have:=St.body_wt s;omega)) hl
theorem ref36_Collapse (n:Ns) (outer nm:ByteArray) (hn:n.Ok) (hl:bC n.Body<=1000) (hr:bH Lf.rng n.Body):
    Pur cfg 27 [vNs n,vS outer,vS nm] (.tup [vNs (nR n outer nm).1,vI (nR n outer nm).2]):=by
 refine zT Tryz.func27 O Tryz.ntmps27 Tryz.results27 O ?_
 intro z hz
 obtain ⟨s,hs1⟩:∃s,(atT n.Body (fV n outer)).1=s:=⟨_,rfl⟩
 have hlw:=atT_wt (l:=n.Body) (way:=fV n outer)
 have hsb:=St.body_wt (atT n.Body (fV n outer)).1
 have hlr:bH Lf.rng (atT n.Body (fV n outer)).1.Body:=(St.allF_eq (atT_all hr)).2.2
 rw [hs1] at hlw hsb hlr
 have hwl:=zLd n outer
 have hwN:=zCr n.Body
 obtain ⟨s2,hs2⟩:∃x,(if (dX n.Body outer).isSome=true then s else zSt)=x:=⟨_,rfl⟩
 have hs2w:bC s2.Body<=10000:=by rw [←hs2];split;omega;decide+kernel
 have hs2l:=kO s2.Body
 obtain ⟨hvr,hvl⟩:=zEz nm
 obtain ⟨inn,hi0⟩:∃x,s2.Body.getD 0 zSt=x:=⟨_,rfl⟩
 refine F O<|zV O O (qN O O) ?_
 rintro _ _ ⟨b1,rfl,rfl⟩
 refine zV O O (qE [some 8,some 20] O W O) ?_
 rintro _ _ ⟨b2,rfl,rfl⟩
 refine A O<|H<|zK<|F O<|zP yY (R 1 O) O<|qI O ok58 (ref30_Validate n hn (by omega)) ⟨G,O,T⟩<|qP O<|qU O<|qU O<|A O<|A O<|H<|F O<|A O<|yM O<|H<|zD O (fun c1=>?_) (fun c1=>?_)
 ·try simp only [I] at c1
  refine F O<|qT [some 8,some 20] O W pl25<|A O<|Y 0 i O<|A O<|H<|o<|w (y yY O (R 0 O) O) (J O) ?_
  rw [colT_0 (by rw [locE_1 c1];exact c1),locE_1 c1];rfl
 ·try simp only [I] at c1
  refine zM<|F O<|zP yY (R 1 O) O<|A O<|qI O ok59 (show Pur cfg 59 [vNs n,vS outer] (.tup [vIs (if (dX n.Body outer).isSome=true then fV n outer else []),vSt s2,vB (dX n.Body outer).isSome]) by rw [←hs2,←hs1];exact ref36_find n outer (by omega)) ⟨G,O,G,O,T⟩<|qP O<|qU O<|yJ O<|qU O<|zV O O (qE [none,none,none,none,none,some 4,none,none,none,none,none,none,none,none,none,none,some 2,some 4,some 13,some 20] O j O) ?_
  rintro _ _ ⟨b3,rfl,rfl⟩
  refine A O<|Y 0 sz46 O<|A O<|H<|zK<|F O<|A O<|kQ O<|A O<|rL0 O (fun g5_2=>zE O kK O) O<|B 42 O (fun g5_2=>zF O kP O (R 0 O) O) O<|B 43 O (fun g5_2=>yB O D O) O<|B 44 O (fun g5_2=>kN O O O) O<|r_or O (fun h=>(lzf h))<|A O<|rL0 O (fun g5_8=>zE O kK O) O<|B 48 O (fun g5_8=>zF O kP O (R 0 O) O) O<|B 49 O (fun g5_8=>qF O D O O (by simp only [Lz,cond_true,cond_false,Bool.and_eq_true,Bool.or_eq_true,Bool.not_eq_true',Bool.not_eq_false',Bool.or_eq_false_iff,Bool.and_eq_false_iff,decide_eq_true_eq,decide_eq_false_iff_not,Bool.not_eq_true,Bool.not_eq_false] at g5_8;omega) (wD (get_0 (by simp only [Lz,cond_true,cond_false,Bool.and_eq_true,Bool.or_eq_true,Bool.not_eq_true',Bool.not_eq_false',Bool.or_eq_false_iff,Bool.and_eq_false_iff,decide_eq_true_eq,decide_eq_false_iff_not,Bool.not_eq_true,Bool.not_eq_false] at g5_8;omega)))) O<|B 50 O (fun g5_8=>qL O zAp O) O<|B 51 O (fun g5_8=>zF O one3 O qA O) O<|B 52 O (fun g5_8=>kN O O O) O<|r_or O (fun h=>(lzf h))<|H<|zD O (fun c2=>?_) (fun c2=>?_)
  ·rw [hi0] at c2
   have hp19:nR n outer nm=(zNs,19):=by
     by_cases hf:(dX n.Body outer).isSome=true
     · have hs3:s=s2:=by rw [←hs2,if_pos hf]
       have hl0:gO n outer=0:=locE_3 c1 hf
       have hs0:(fM n outer).2.1=s:=by rw [zOk hl0];exact hs1
       refine zIv hs0 hl0 (colE_1 (inn:=inn) (by rw [hs3];exact hi0) ?_) (by decide)
       rw [hs3]
       rintro ⟨h1,h2⟩
       simp [hf,h1,h2] at c2
     · rw [colT_0 (by rw [locE_2 c1 (by simpa using hf)];decide),locE_2 c1 (by simpa using hf)]
   refine F O<|qT [some 8,some 20] O W pl25<|Y 1 i O<|A O<|H<|o<|w (y yY O (R 1 O) O) (J O) ?_
   rw [hp19];rfl
  ·rw [hi0] at c2
   have c2:(dX n.Body outer).isSome=true/\s2.Body.length=1/\inn.Op=1:=by
     by_cases hf:(dX n.Body outer).isSome=true
     · by_cases hl1:s2.Body.length=1
       · simp [hf,hl1] at c2;exact ⟨hf,hl1,c2⟩
       · exfalso;apply hl1;simp [hf] at c2;omega
     · exfalso;simp [hf] at c2
   obtain ⟨c20,c21,c22⟩:=c2
   rw [if_pos c20] at hs2
   subst hs2
   have hl0:gO n outer=0:=locE_3 c1 c20
   have hs0:(fM n outer).2.1=s:=by rw [zOk hl0];exact hs1
   have c2:s.Body.length=1/\inn.Op=1:=⟨c21,c22⟩
   rw [if_pos c20]
   obtain ⟨q1,q2,q3,q4,q5,q6,q7,q8,q9,q10⟩:=zLq c1 c20
   rw [hs1] at q2 q3 q6 q7 q8 q9 q10
   have hM1:1<=inn.Many:=by have:=many_ok hl0 (by rw [hs0,hi0];exact c2);rw [hs0,hi0] at this;exact this
   have hin:s.Body[0]? =some inn:=by rw [←hi0];exact get_0 (by omega)
   have hiw:=yC (zZ hin)
   have hib:=St.body_wt inn
   have hir:=(St.allF_eq (kY hlr inn (zZ hin))).2.2
   have hb1:=sbT0_wt (s:=outer) (l:=inn.Body)
   have hb2:=sbT_wt (s:=inn.Name) (u:=fL nm) (l:=gQ (sbT outer ⟨0,[]⟩ inn.Body)) (by omega)
   have hll:=lnL_len inn.Body
   have hBi:=inn_buf c1 c20 hs1 hin c22
   refine zM<|F O<|zG O kK<|zJ kP (R 0 O) O<|qD O D (by omega) (wD hin)<|zP zAv qA O<|zV O O (qE [none,none,none,none,none,some 4,none,none,none,none,none,none,none,none,none,none,some 2,some 4,some 13,some 20] O j O) ?_
   rintro _ _ ⟨b4,rfl,rfl⟩
   refine Y 0 sz46 O<|H<|zK<|F O<|A O<|qI O ok60 (zEq _) ⟨G,O,T⟩<|kQ O<|H<|zD O (fun c3=>?_) (fun c3=>?_)
   ·try simp only [I] at c3
    have c3:bD nm=false:=by simpa using c3
    refine F O<|qT [some 8,some 20] O W pl25<|Y 2 i O<|A O<|H<|o<|w (y yY O (R 2 O) O) (J O) ?_
    rw [zIv hs0 hl0 (colE_2 hi0 c2 c3) (by decide)];rfl
   ·try simp only [I] at c3
    have c3:bD nm=true:=by simpa using c3
    refine zM<|zK<|F O<|zP yY (R 3 O) O<|A O<|A O<|zG O zAj<|zJ one9 (R 0 O) O<|yV O zGn zr9<|qI O ok61 (show Pur cfg 61 [vNs n,vS nm,vSs [outer,inn.Name]] (vB ((!decide (nm=outer)&& !decide (nm=inn.Name))&&lG n nm)) by rw [←takR_two hBi.1 hBi.2.1];exact ref36_taken n nm [outer,inn.Name] hn (by omega) (by simp)) ⟨G,O,G,O,G,O,T⟩<|H<|zD O (fun c4=>?_) (fun c4=>?_)
    ·have c4:((!decide (nm=outer)&& !decide (nm=inn.Name))&&lG n nm)=true:=c4
     refine F O<|qT [some 8,some 20] O W pl25<|Y 2 i O<|A O<|H<|o<|w (y yY O (R 2 O) O) (J O) ?_
     rw [zIv hs0 hl0 (colE_3 hi0 c2 c3 c4) (by decide)];rfl
    ·have c4:((!decide (nm=outer)&& !decide (nm=inn.Name))&&lG n nm)=false:=c4
     refine zM<|zK<|zK<|qZ 6 mixed (by kernel_rfl) O O<|M O O (zE O zAc O)<|M O O (zF O one3 O (R 1 O) O)<|M O O (zE O zAc O)<|M O O (zF O one3 O (R 0 O) O)<|M O O (zKr O O O (by omega))<|M O O (yG O O O)<|kE<|H<|zD O (fun c5=>?_) (fun c5=>?_)
     ·try simp only [I] at c5
      refine F O<|qT [some 8,some 20] O W pl25<|Y 2 i O<|A O<|H<|o<|w (y yY O (R 2 O) O) (J O) ?_
      rw [zIv hs0 hl0 (colE_4 hi0 c2 c3 c4 c5) (by decide)];rfl
     ·try simp only [I] at c5
      have c5:¬w64 (Int.tdiv 65536 inn.Many)<s.Many:=by show ¬(IntKind.i64.wrap (Int.tdiv 65536 inn.Many)<s.Many);omega
      obtain ⟨f1,f2,f3⟩:=col_fin hr c1 c20 hs1 hi0 c2 c3 c4 c5
      refine zM<|F O<|zG O kK<|zJ kP (R 0 O) O<|qI O ok72 (OwnR.pur (ref36_lins inn.Body (by omega))) ⟨G,O,T⟩<|A O<|H<|zK<|F O<|A O<|H<|zR<|zY ⟨[(15,.c _),(1,.c _),(2,.c _),(3,.c _),(6,.c _),(10,.c _),(11,.c _),(13,.c _),(14,.c _)],[_,_,_,_]⟩ (Weak.mk [true,true,true,true] ⟨G,G,G,G,G,G,G,G,G,T⟩ O)<|qK 1 0 O O (Nat) (fun k=>[(15,vI k)]) (fun k=>[]) (fun k=>k<=(lnL inn.Body).length/\(((lnL inn.Body).take k).all (rL outer inn.Name inn.Many)=true)) (fun k=>(lnL inn.Body).length-k) ⟨0,⟨by omega,O⟩,Weak.mk [true,true,true,true] ⟨G,G,G,G,G,G,G,G,G,T⟩ O⟩ ?_
      rintro k ⟨hk,hp⟩
      refine zK<|F O<|A O<|A O<|qC O el70<|yD O<|H<|zD O (fun c6=>?_) (fun c6=>?_)
      ·try simp only [I] at c6
       obtain ⟨x,hx⟩:=qY (lnL inn.Body) k (by omega)
       have hxr:=lnL_P zrng hir x (zZ hx)
       have hxl:=lnL_P (P:=fun l=>l.L.length<=1000000) (by show 0<=_;omega) (zJi (by omega)) x (zZ hx)
       refine zM<|zK<|zR<|zK<|qZ 15 mixed (by kernel_rfl) O O<|M O O (zN O O)<|M O O (zN O O)<|M O O (qF O el70 O O (by omega) (Q (by assumption)))<|M O O (qB O yX O qA O)<|M O O (zE O zAj O)<|M O O (zF O one9 O (R 0 O) O)<|M O O (qM O ok74 (zUt x inn.Name (by omega)) ⟨G,O,G,O,T⟩)<|M O O (zE O zAc O)<|M O O (zF O one3 O (R 0 O) O)<|M O O (qM O ok73 (base_Times (bF x.L inn.Name) inn.Many (zKu (p:=none) hxr.2 _) (by have:=hBi.2.2;unfold r64;omega)) ⟨G,O,G,O,T⟩)<|M O O (kI O O)<|M O O (wG O O O)<|M O O (wG O O O)<|M O O (yA O O)<|M O O (yA O O)<|kE<|H<|F O<|A O<|kQ O<|A O<|rL0 O (fun g19_2=>zN O O) O<|rL0 O (fun g19_2=>zN O O) O<|rL0 O (fun g19_2=>zN O O) O<|rLz [(105,_),(106,_)] O gv1 ⟨O,O,O,O,T⟩ (fun g19_2=>qF O el70 O O (by omega) (Q (by assumption))) O<|B 107 O (fun g19_2=>qB O yX O qA O) O<|rL0 O (fun g19_2=>zN O O) O<|rLz [(108,_),(109,_)] O gv1 ⟨O,O,O,O,T⟩ (fun g19_2=>qM O ok74 (zUt x outer (by omega)) ⟨G,O,G,O,T⟩) O<|rLz [(104,_),(110,_)] O gv1 ⟨O,O,O,O,T⟩ (fun g19_2=>kN O O O) O<|r_or O (fun h=>(lzf h))<|H<|zD O (fun c7=>?_) (fun c7=>?_)
       ·have c7:rL outer inn.Name inn.Many x=false:=by
          unfold rL
          cases q:(dI (bF x.L inn.Name) inn.Many).2 with
          |false=>rfl
          |true=>simpa [q] using c7
        have hno:=zKy hx c7
        rw [lin_eq hir hM1] at hno
        refine F O<|qT [some 8,some 20] O W pl25<|Y 2 i O<|A O<|H<|o<|w (y yY O (R 2 O) O) (J O) ?_
        rw [zIv hs0 hl0 (colE_5 hi0 c2 c3 c4 c5 hno) (by decide)];rfl
       ·have c7:rL outer inn.Name inn.Many x=true:=by unfold rL;simpa using c7
        refine zM<|zQ O<|A O<|qJ O ⟨by omega,by omega⟩<|A O<|H ?_
        refine ⟨k+1,⟨by omega,by rw [yL hx,List.all_append,hp,List.all_cons,c7];rfl⟩,(by omega),Weak.mk [true,true,true,true] ⟨G,G,G,G,G,G,G,G,G,T⟩ O⟩
      ·try simp only [I] at c6
       rw [yU (l:=lnL inn.Body) (k:=k) (by omega)] at hp
       rw [lin_eq hir hM1] at hp
       refine qQ<|F O<|zG O kK<|zJ kP (R 0 O) O<|A O<|qT [none,some 2] O v pl41<|qI O ok63 (zIr inn.Body outer ⟨0,[]⟩ (by show 0<=_;omega) zIo (by omega) hir) ⟨G,O,G,O,G,O,T⟩<|qP O<|qU O<|qU O<|A O<|A O<|H<|zK<|qZ 10 mixed (by kernel_rfl) O O<|M O O (zN O O)<|M O O (zE O zAj O)<|M O O (zF O one9 O (R 0 O) O)<|M O O (zN O O)<|M O O (qM O ok75 (show Pur cfg 75 [vS nm] (bZ (fL nm)) from zEu nm) ⟨G,O,T⟩)<|M O O (qM O ok63 (zIr (gQ (sbT outer ⟨0,[]⟩ inn.Body)) inn.Name (fL nm) (by omega) hvr (by omega) (sbT_rng outer ⟨0,[]⟩ hir)) ⟨G,O,G,O,G,O,T⟩)<|M O O (kI O O)<|M O O (wG O O O)<|M O O (wG O O O)<|M O O (yA O O)<|kE<|H<|F O<|A O<|zG O zAc<|zJ one3 (R 1 O) O<|zG O zAc<|zJ one3 (R 0 O) O<|zU O (zMw O O O)<|zG O zHg<|zJ one3 (R 1 O) O<|A O<|qT [none,none,none,none,none,some 4,none,none,none,none,none,none,none,none,none,none,some 2,some 4,some 13,none] O j pl46<|zV O O (qE [none,none,none,none,none,some 4,none,none,none,none,none,none,none,none,none,none,some 2,some 4,some 13,some 20] O j O) ?_
       rintro _ _ ⟨b5,rfl,rfl⟩
       refine Y 0 sz46 O<|H<|F O<|zP yY (R 4 O) O<|A O<|zP zAv (R 0 O) O<|yV O D j ?_
       refine qI O ok13 (ref30_Replace n (fV n outer) [pV s outer nm] (by omega) (by show 1<=_;omega) (by omega)) ⟨G,O,G,O,VLe.of_eq ((colS_x hi0 outer nm).symm),O,T⟩<|qP O<|yJ O<|qU O<|zV O O (qE [some 8,some 20] O W O) ?_
       rintro _ _ ⟨b6,rfl,rfl⟩
       refine Y 0 i O<|A O<|H<|F O<|zP yY (R 0 O) O<|Y 4 i O<|A O<|H<|o<|w (y yY O (R 4 O) O) (J O) ?_
       rw [colT_2 hs0 hl0 ((colE_6 hi0 c2 c3 c4 c5 hp).trans ((if_pos f1).trans f2)),f3];rfl
theorem law_SplitCollapses (n:Ns) (outer nm:ByteArray) (hf:n.Fit) (hr:bH Lf.rng n.Body):
    Pur cfg 7 [vNs n,vS outer,vS nm] (vB true):=by
 refine zT Tryz.func7 O Tryz.ntmps7 Tryz.results7 O ?_
 intro z hz
 refine F O<|zV O O (qN O O) ?_
 rintro _ _ ⟨b1,rfl,rfl⟩
 refine A O<|H<|zK<|F O<|zP yY (R 0 O) O<|qI O ok18 (law36_Small n 600 600 hf (by omega) O) ⟨G,O,G,O,T⟩<|kQ O<|H<|zD O (fun c1=>?_) (fun c1=>?_)
 ·refine F O<|qI O ok19 zMf T<|A O<|H<|o<|X O ?_
  rfl
 ·try simp only [I] at c1
  have c1:smS n 600=true:=by simpa using c1
  obtain ⟨k1,k3⟩:=smS_yes c1
  have hok:=hf.ok (m:=600) (by omega) (by omega) k3
  have hw:=weighB_wt k3
  refine zM<|F O<|zP yY (R 0 O) O<|A O<|A O<|qI O ok26 (zMa n outer nm hok (by omega) hr many_ok) ⟨G,O,G,O,G,O,T⟩<|qP O<|yJ O<|qU O<|zV O O (qE [some 8,some 20] O W O) ?_
  rintro _ _ ⟨b2,rfl,rfl⟩
  refine Y 0 i O<|A O<|H<|F O<|zP yY (R 1 O) O<|A O<|A O<|qI O ok27 (ref36_Collapse n outer nm hok (by omega) hr) ⟨G,O,G,O,G,O,T⟩<|qP O<|yJ O<|qU O<|zV O O (qE [some 8,some 20] O W O) ?_
  rintro _ _ ⟨b3,rfl,rfl⟩
  refine Y 0 i O<|A O<|H<|F O<|zP yY (R 1 O) O<|zP yY (R 0 O) O<|qI O ok14 (base_Nest (nR n outer nm).1 (nR n outer nm).1 (colT_ok hok (by omega))) ⟨G,O,G,O,T⟩<|A O<|rL0 O (fun g5_3=>zN O O) O<|rL0 O (fun g5_3=>zN O O) O<|rLz [(33,_),(34,_)] O gv1 ⟨O,O,O,O,T⟩ (fun g5_3=>yH O O O) O<|yQ O (fun h=>h)<|A O<|rL0 O (fun g5_8=>qM O ok19 zMf T) O<|yQ O (fun h=>h)<|A O<|H<|o<|X O ?_
  exact congrArg vB (by simp)
end Go.W
